import PyProof.Rows.All
import Wide.All
import OpenK.AllK
import Wide.FinOn
import PySem.Challenge.RW_sumlays_k40_whole_around_pictures
import HandS.Base
import HandS.Call
import HandS.Ends
import HandS.Words
import KE.DataMinMax
import KE.SortData
import KE.DataCmp
import HandS.TupMul
import HandS.TupLe
import HandS.List
import HandS.TupAny
import HandS.Text
import HandS.Style
import HandS.StrMore
import HandS.IsInst
import HandS.Comp
import HandS.Exc
import HandS.ExcOwn
import HandS.WordsExc
import HandS.Flow
import HandS.Walk
import HandS.NoneIn
import HandS.Iter
import HandS.HeadHook1
import HandS.ExcBuiltin
import KE.GoesEnum
import HandS.Zip
import HandS.SortKw
import HandS.TupSets
import HandS.Defaults
import HandS.Head0
import HandS.Head1
import HandS.Head2
import HandS.HeadEnd
import HandS.HeadHook2
import HandS.HeadHook4
set_option Elab.async false
set_option linter.all false
set_option maxRecDepth 100000
set_option maxHeartbeats 0
namespace Ly
open PySem PySem.Spec L2
open PyProof.Rows hiding St

/-- a value as a tree; obj: a thing that changes, by its number in the store -/
inductive T where
  | non | bl (b : Bool) | int (i : Int) | str (x : List Nat) | tup (xs : List T) | lst (xs : List T) | obj (i : Nat) | scr (ns : List Int)

def tx (x : List Nat) : Str := ⟨x.toArray⟩
theorem tx_len (x : List Nat) : (tx x).length = x.length := by simp [tx, Str.length]
theorem tx_inj {x y : List Nat} (h : tx x = tx y) : x = y := by
  have := congrArg Str.cps h
  simpa [tx] using this
theorem tx_list (z : Str) : tx z.cps.toList = z := by cases z; simp [tx]
theorem tx_cps (x : List Nat) : (tx x).cps.toList = x := by simp [tx]

mutual
/-- v is the tree t, over the heap F of what does not change -/
def Rep (K : PySem.W.Frag) (F : Hp) (μ : List Addr) : T → V → Prop
  | .non, v => v = .non
  | .bl b, v => v = .bl b
  | .int i, v => v = .int i
  | .str x, v => v = .str (tx x) ∧ x.length ≤ sizeLine ∧ ∀ c ∈ x, c < 1114112
  | .tup ts, v => ∃ a vs, v = .ref a ∧ SqT K F a vs ∧ ts.length ≤ sizeLine ∧ Reps K F μ ts vs
  | .lst ts, v => ∃ a vs, v = .ref a ∧ F a = some (.lst vs) ∧ ts.length ≤ sizeLine ∧ Reps K F μ ts vs
  | .scr ns, v => ∃ a, v = .ref a ∧ SqL K F a (ns.map V.int) ∧ ns.length ≤ sizeLine
  | .obj i, v => ∃ a, v = .ref a ∧ μ[i]? = some a
def Reps (K : PySem.W.Frag) (F : Hp) (μ : List Addr) : List T → List V → Prop
  | [], vs => vs = []
  | t :: ts, vs => ∃ v r, vs = v :: r ∧ Rep K F μ t v ∧ Reps K F μ ts r
end

theorem Same.seqT {K : PySem.W.Frag} {H H' : Hp} {a : Addr} {xs : List V} (e : Same H H') (h : SqT K H a xs) : SqT K H' a xs := by
  rcases h with (h | ⟨o, h⟩) | h
  · exact .inl (.inl (e _ _ h))
  · exact .inl (.inr ⟨o, e _ _ h⟩)
  · exact .inr h

mutual
theorem Rep.mono {K : PySem.W.Frag} {F F' : Hp} {μ r : List Addr} (s : Same F F') : ∀ (t : T) {v : V}, Rep K F μ t v → Rep K F' (μ ++ r) t v
  | .non, _, h => h
  | .bl _, _, h => h
  | .int _, _, h => h
  | .str _, _, h => h
  | .tup ts, v, h => by
    simp only [Rep] at h ⊢
    obtain ⟨a, vs, e, q, z, rs⟩ := h
    exact ⟨a, vs, e, Same.seqT s q, z, Reps.mono s ts rs⟩
  | .lst ts, v, h => by
    simp only [Rep] at h ⊢
    obtain ⟨a, vs, e, q, z, rs⟩ := h
    exact ⟨a, vs, e, s _ _ q, z, Reps.mono s ts rs⟩
  | .scr ns, v, h => by
    simp only [Rep] at h ⊢
    obtain ⟨a, e, q, z⟩ := h
    exact ⟨a, e, s.seq q, z⟩
  | .obj i, v, h => by
    simp only [Rep] at h ⊢
    obtain ⟨a, e, q⟩ := h
    have hi : i < μ.length := (List.getElem?_eq_some_iff.mp q).1
    exact ⟨a, e, by rw [List.getElem?_append_left hi]; exact q⟩
theorem Reps.mono {K : PySem.W.Frag} {F F' : Hp} {μ r : List Addr} (s : Same F F') : ∀ (ts : List T) {vs : List V}, Reps K F μ ts vs → Reps K F' (μ ++ r) ts vs
  | [], _, h => h
  | t :: ts, vs, h => by
    simp only [Reps] at h ⊢
    obtain ⟨v, rs, e, h1, h2⟩ := h
    exact ⟨v, rs, e, Rep.mono s t h1, Reps.mono s ts h2⟩
end

section
variable {K : PySem.W.Frag} {F : Hp} {μ : List Addr}
theorem Reps.length : ∀ {ts : List T} {vs : List V}, Reps K F μ ts vs → vs.length = ts.length
  | [], _, h => by simp only [Reps] at h; subst h; rfl
  | t :: ts, _, h => by
    simp only [Reps] at h
    obtain ⟨v, r, rfl, _, h2⟩ := h
    simp [Reps.length h2]
theorem Reps.get : ∀ {ts : List T} {vs : List V} {i : Nat} {t : T}, Reps K F μ ts vs → ts[i]? = some t → ∃ v, vs[i]? = some v ∧ Rep K F μ t v
  | [], _, _, _, h, e => by simp at e
  | a :: ts, _, i, t, h, e => by
    simp only [Reps] at h
    obtain ⟨v, r, rfl, h1, h2⟩ := h
    cases i with
    | zero => simp at e; subst e; exact ⟨v, rfl, h1⟩
    | succ i => simpa using Reps.get h2 (by simpa using e)
theorem Reps.nil : Reps K F μ [] [] := by simp [Reps]
theorem Reps.cons {t : T} {ts : List T} {v : V} {vs : List V} (h : Rep K F μ t v) (hs : Reps K F μ ts vs) : Reps K F μ (t :: ts) (v :: vs) := by
  simp only [Reps]; exact ⟨v, vs, rfl, h, hs⟩
theorem Reps.append : ∀ {ts us : List T} {vs ws : List V}, Reps K F μ ts vs → Reps K F μ us ws → Reps K F μ (ts ++ us) (vs ++ ws)
  | [], _, _, _, h, k => by simp only [Reps] at h; subst h; exact k
  | t :: ts, _, _, _, h, k => by
    simp only [Reps] at h
    obtain ⟨v, r, rfl, h1, h2⟩ := h
    exact Reps.cons h1 (Reps.append h2 k)
theorem Reps.take : ∀ {ts : List T} {vs : List V} (n : Nat), Reps K F μ ts vs → Reps K F μ (ts.take n) (vs.take n)
  | _, _, 0, _ => by simp [Reps]
  | [], _, n + 1, h => by simp only [Reps] at h; subst h; simp [Reps]
  | t :: ts, _, n + 1, h => by
    simp only [Reps] at h
    obtain ⟨v, r, rfl, h1, h2⟩ := h
    exact Reps.cons h1 (Reps.take n h2)
theorem Reps.drop : ∀ {ts : List T} {vs : List V} (n : Nat), Reps K F μ ts vs → Reps K F μ (ts.drop n) (vs.drop n)
  | _, _, 0, h => h
  | [], _, n + 1, h => by simp only [Reps] at h; subst h; simp [Reps]
  | t :: ts, _, n + 1, h => by
    simp only [Reps] at h
    obtain ⟨v, r, rfl, h1, h2⟩ := h
    simpa using Reps.drop n h2
theorem Reps.nil_iff {ts : List T} {vs : List V} (h : Reps K F μ ts vs) : vs.isEmpty = ts.isEmpty := by
  have := h.length
  cases ts <;> cases vs <;> simp_all
theorem Reps.set {t : T} {v : V} (q : Rep K F μ t v) : ∀ {ts : List T} {vs : List V} (i : Nat), Reps K F μ ts vs → Reps K F μ (ts.set i t) (vs.set i v)
  | [], _, _, h => by simp only [Reps] at h; subst h; simp [Reps]
  | _ :: ts, _, 0, h => by
    simp only [Reps] at h
    obtain ⟨_, r, rfl, _, h2⟩ := h
    exact Reps.cons q h2
  | _ :: ts, _, i + 1, h => by
    simp only [Reps] at h
    obtain ⟨_, r, rfl, h1, h2⟩ := h
    exact Reps.cons h1 (Reps.set q i h2)
theorem Reps.eraseIdx : ∀ {ts : List T} {vs : List V} (i : Nat), Reps K F μ ts vs → Reps K F μ (ts.eraseIdx i) (vs.eraseIdx i)
  | [], _, _, h => by simp only [Reps] at h; subst h; simp [Reps]
  | _ :: ts, _, 0, h => by
    simp only [Reps] at h
    obtain ⟨_, r, rfl, _, h2⟩ := h
    exact h2
  | _ :: ts, _, i + 1, h => by
    simp only [Reps] at h
    obtain ⟨_, r, rfl, h1, h2⟩ := h
    exact Reps.cons h1 (Reps.eraseIdx i h2)
theorem Reps.reverse : ∀ {ts : List T} {vs : List V}, Reps K F μ ts vs → Reps K F μ ts.reverse vs.reverse
  | [], _, h => by simp only [Reps] at h; subst h; simp [Reps]
  | _ :: ts, _, h => by
    simp only [Reps] at h
    obtain ⟨_, r, rfl, h1, h2⟩ := h
    rw [List.reverse_cons, List.reverse_cons]
    exact Reps.append (Reps.reverse h2) (Reps.cons h1 Reps.nil)
theorem Reps.ints : ∀ {ns : List Int} {vs : List V}, Reps K F μ (ns.map T.int) vs → vs = ns.map V.int
  | [], _, h => by simpa [Reps] using h
  | n :: ns, _, h => by
    simp only [List.map_cons, Reps] at h
    obtain ⟨v, r, rfl, h1, h2⟩ := h
    simp only [Rep] at h1
    rw [h1, Reps.ints h2, List.map_cons]
theorem Reps.of_ints : ∀ (ns : List Int), Reps K F μ (ns.map T.int) (ns.map V.int)
  | [] => by simp [Reps]
  | n :: ns => Reps.cons (by simp [Rep]) (Reps.of_ints ns)
theorem Reps.bls : ∀ {ns : List Bool} {vs : List V}, Reps K F μ (ns.map T.bl) vs → vs = ns.map V.bl
  | [], _, h => by simpa [Reps] using h
  | n :: ns, _, h => by
    simp only [List.map_cons, Reps] at h
    obtain ⟨v, r, rfl, h1, h2⟩ := h
    simp only [Rep] at h1
    rw [h1, Reps.bls h2, List.map_cons]
theorem Reps.strs : ∀ {ns : List (List Nat)} {vs : List V}, Reps K F μ (ns.map T.str) vs → vs = (ns.map tx).map V.str ∧ ∀ x ∈ ns, x.length ≤ sizeLine ∧ ∀ c ∈ x, c < 1114112
  | [], _, h => by refine ⟨by simpa [Reps] using h, by simp⟩
  | n :: ns, _, h => by
    simp only [List.map_cons, Reps] at h
    obtain ⟨v, r, rfl, h1, h2⟩ := h
    simp only [Rep] at h1
    obtain ⟨h3, h4⟩ := Reps.strs h2
    rw [h1.1, h3]
    refine ⟨by simp, fun x hx => ?_⟩
    rcases List.mem_cons.mp hx with rfl | hx
    · exact h1.2
    · exact h4 x hx
end

/-! ### the store -/
/-- what stands at a number of the store -/
inductive Cell where
  | lst (l : List T)
  /-- an instance of the class number c, its fields -/
  | ins (c : Nat) (fs : List (Str × T))
  | dK (kvs : List (Key × T)) | dT (kvs : List (List Key × T))
def Store : Type := List Cell
def Store.len (S : Store) : Nat := List.length S
def Store.at (S : Store) (i : Nat) : Option Cell := (show List Cell from S)[i]?
def Store.put (S : Store) (i : Nat) (c : Cell) : Store := List.set S i c
def Store.add (S : Store) (c : Cell) : Store := List.append S [c]

/-- one slot of a def: not set, a value, a list of its own that it may still change -/
inductive Sl where
  | un | val (t : T) | own (l : List T)
abbrev Lenv := List Sl

/-- from one moment to a later one -/
structure Ext (F H : Hp) (μ : List Addr) (F' H' : Hp) (μ' : List Addr) : Prop where
  ff : Same F F'
  hh : ∀ b u, H b = some u → b ∉ μ → H' b = some u
  hs : ∀ b u, H b = some u → ∃ u', H' b = some u'
  nf : ∀ b u, H b = some u → F b = none → F' b = none
  mm : ∃ r, μ' = μ ++ r
  nw : ∀ a ∈ μ', a ∉ μ → H a = none
theorem Ext.refl {F H : Hp} {μ : List Addr} : Ext F H μ F H μ :=
  ⟨Same.refl _, fun _ _ h _ => h, fun _ u h => ⟨u, h⟩, fun _ _ _ h => h, ⟨[], by simp⟩, fun a h n => absurd h n⟩
theorem Ext.trans {F H F1 H1 F2 H2 : Hp} {μ μ1 μ2 : List Addr} (a : Ext F H μ F1 H1 μ1) (b : Ext F1 H1 μ1 F2 H2 μ2) : Ext F H μ F2 H2 μ2 where
  ff := a.ff.trans b.ff
  hh := fun c u e n => by
    refine b.hh c u (a.hh c u e n) fun hm => ?_
    have := a.nw c hm n
    rw [e] at this; cases this
  hs := fun c u e => by
    obtain ⟨u1, e1⟩ := a.hs c u e
    exact b.hs c u1 e1
  nf := fun c u e n => by
    obtain ⟨u1, e1⟩ := a.hs c u e
    exact b.nf c u1 e1 (a.nf c u e n)
  mm := by
    obtain ⟨r, e⟩ := a.mm
    obtain ⟨r', e'⟩ := b.mm
    exact ⟨r ++ r', by rw [e', e, List.append_assoc]⟩
  nw := fun c hm n => by
    by_cases h1 : c ∈ μ1
    · exact a.nw c h1 n
    · have := b.nw c hm h1
      cases e : H c with
      | none => rfl
      | some u =>
        obtain ⟨u1, e1⟩ := a.hs c u e
        rw [e1] at this; cases this

section
variable {K : PySem.W.Frag}
theorem Ext.rep {F H F' H' : Hp} {μ μ' : List Addr} (x : Ext F H μ F' H' μ') {t : T} {v : V} (h : Rep K F μ t v) : Rep K F' μ' t v := by
  obtain ⟨r, e⟩ := x.mm
  rw [e]
  exact Rep.mono x.ff t h
theorem Ext.reps {F H F' H' : Hp} {μ μ' : List Addr} (x : Ext F H μ F' H' μ') {t : List T} {v : List V} (h : Reps K F μ t v) : Reps K F' μ' t v := by
  obtain ⟨r, e⟩ := x.mm
  rw [e]
  exact Reps.mono x.ff t h

/-- the class's addresses -/
structure Glo where
  K : PySem.W.Frag
  cls : Nat → Addr
  exc : Nat → Addr

/-- what a cell is in the heap -/
def CellR (G : Glo) (F H : Hp) (μ : List Addr) (a : Addr) : Cell → Prop
  | .lst l => ∃ vs, H a = some (.lst vs) ∧ l.length ≤ sizeLine ∧ Reps G.K F μ l vs
  | .ins c fs => ∃ dx vs, H a = some (.ins (G.cls c) dx vs) ∧ H dx = some (.own a) ∧ vs.map (·.1) = fs.map (·.1) ∧ Reps G.K F μ (fs.map (·.2)) (vs.map (·.2)) ∧ F dx = none ∧ dx ∉ μ
  | .dK kvs => ∃ vs, H a = some (.dK vs) ∧ vs.map (·.1) = kvs.map (·.1) ∧ kvs.length ≤ sizeLine ∧ Reps G.K F μ (kvs.map (·.2)) (vs.map (·.2))
  | .dT kvs => ∃ vs, H a = some (.dT vs) ∧ vs.map (·.1) = kvs.map (·.1) ∧ kvs.length ≤ sizeLine ∧ Reps G.K F μ (kvs.map (·.2)) (vs.map (·.2))

/-- the heap as it stands -/
structure Ok (G : Glo) (F H : Hp) (μ : List Addr) (S : Store) : Prop where
  fh : Same F H
  len : S.len = μ.length
  nd : μ.Nodup
  mf : ∀ a ∈ μ, F a = none
  cell : ∀ (i : Nat) c a, S.at i = some c → μ[i]? = some a → CellR G F H μ a c

/-- the slots; H₀ the heap at the def's entry -/
structure EnvR (G : Glo) (H₀ F H : Hp) (μ : List Addr) (ρ : Lenv) (σ : St) : Prop where
  len : ρ.length = σ.length
  val : ∀ (i : Nat) t, ρ[i]? = some (Sl.val t) → ∃ v, σ[i]? = some (some v) ∧ Rep G.K F μ t v
  own : ∀ (i : Nat) l, ρ[i]? = some (Sl.own l) → ∃ a vs, σ[i]? = some (some (.ref a)) ∧ H a = some (.lst vs) ∧ H₀ a = none ∧ F a = none ∧ a ∉ μ ∧ l.length ≤ sizeLine ∧ Reps G.K F μ l vs
  ne : ∀ (i j : Nat) l l', ρ[i]? = some (Sl.own l) → ρ[j]? = some (Sl.own l') → σ[i]? = σ[j]? → i = j

theorem EnvR.ext {G : Glo} {H₀ F H F' H' : Hp} {μ μ' : List Addr} {ρ : Lenv} {σ : St} (e : EnvR G H₀ F H μ ρ σ) (x : Ext F H μ F' H' μ') : EnvR G H₀ F' H' μ' ρ σ where
  len := e.len
  val := fun i t h => by
    obtain ⟨v, h1, h2⟩ := e.val i t h
    exact ⟨v, h1, x.rep h2⟩
  own := fun i l h => by
    obtain ⟨a, vs, h1, h2, h3, h4, h5, h6, h7⟩ := e.own i l h
    refine ⟨a, vs, h1, x.hh a _ h2 h5, h3, x.nf a _ h2 h4, fun hm => ?_, h6, x.reps h7⟩
    have := x.nw a hm h5
    rw [h2] at this; cases this
  ne := e.ne
end

/-! ### what new objects do -/
section
variable {G : Glo} {F H : Hp} {μ : List Addr} {S : Store} {p : Addr} {o : HO}
/-- a thing is laid that will not change -/
theorem Ext.new (s : Same F H) (hp : H p = none) : Ext F H μ (upd F p o) (upd H p o) μ where
  ff := fun b u h => by rw [upd_ne (ne_of_none (s b u h) hp)]; exact h
  hh := fun b u h _ => by rw [upd_ne (ne_of_none h hp)]; exact h
  hs := fun b u h => ⟨u, by rw [upd_ne (ne_of_none h hp)]; exact h⟩
  nf := fun b u h n => by rw [upd_ne (ne_of_none h hp)]; exact n
  mm := ⟨[], by simp⟩
  nw := fun a h n => absurd h n
/-- a thing is laid that may still change: F stays -/
theorem Ext.newH (hp : H p = none) : Ext F H μ F (upd H p o) μ where
  ff := Same.refl _
  hh := fun b u h _ => by rw [upd_ne (ne_of_none h hp)]; exact h
  hs := fun b u h => ⟨u, by rw [upd_ne (ne_of_none h hp)]; exact h⟩
  nf := fun b u h n => n
  mm := ⟨[], by simp⟩
  nw := fun a h n => absurd h n
theorem CellR.stay {F' H' : Hp} {r : List Addr} {a : Addr} {c : Cell} (h : CellR G F H μ a c) (f : Same F F') (k : ∀ b u, H b = some u → (b = a ∨ u = .own a) → H' b = some u) (fd : ∀ b u, H b = some u → F b = none → F' b = none) (nd : ∀ b u, H b = some u → b ∉ r) : CellR G F' H' (μ ++ r) a c := by
  cases c with
  | lst l =>
    obtain ⟨vs, h1, h2, h3⟩ := h
    exact ⟨vs, k _ _ h1 (.inl rfl), h2, Reps.mono f _ h3⟩
  | ins c fs =>
    obtain ⟨dx, vs, h1, h0, h2, h3, h4, h5⟩ := h
    exact ⟨dx, vs, k _ _ h1 (.inl rfl), k _ _ h0 (.inr rfl), h2, Reps.mono f _ h3, fd _ _ h0 h4, by simp [h5, nd _ _ h0]⟩
  | dK kvs =>
    obtain ⟨vs, h1, h2, h3, h4⟩ := h
    exact ⟨vs, k _ _ h1 (.inl rfl), h2, h3, Reps.mono f _ h4⟩
  | dT kvs =>
    obtain ⟨vs, h1, h2, h3, h4⟩ := h
    exact ⟨vs, k _ _ h1 (.inl rfl), h2, h3, Reps.mono f _ h4⟩
theorem CellR.there {a : Addr} {c : Cell} (h : CellR G F H μ a c) : ∃ u, H a = some u := by
  cases c with
  | lst l => obtain ⟨vs, h1, _⟩ := h; exact ⟨_, h1⟩
  | ins c fs => obtain ⟨dx, vs, h1, _⟩ := h; exact ⟨_, h1⟩
  | dK kvs => obtain ⟨vs, h1, _⟩ := h; exact ⟨_, h1⟩
  | dT kvs => obtain ⟨vs, h1, _⟩ := h; exact ⟨_, h1⟩
theorem Ok.there (k : Ok G F H μ S) {a : Addr} (h : a ∈ μ) : ∃ u, H a = some u := by
  obtain ⟨i, hi, e⟩ := List.getElem_of_mem h
  have e' : μ[i]? = some a := List.getElem?_eq_some_iff.mpr ⟨hi, e⟩
  have hl : i < S.len := by rw [k.len]; exact hi
  have : ∃ c, S.at i = some c := ⟨List.get S ⟨i, hl⟩, List.getElem?_eq_getElem hl⟩
  obtain ⟨c, hc⟩ := this
  exact (k.cell i c a hc e').there
theorem Ok.notin (k : Ok G F H μ S) (hp : H p = none) : p ∉ μ := fun h => by
  obtain ⟨u, e⟩ := k.there h
  rw [hp] at e; cases e
/-- a new frozen thing -/
theorem Ok.new (k : Ok G F H μ S) (hp : H p = none) : Ok G (upd F p o) (upd H p o) μ S where
  fh := fun b u e => by
    by_cases h : b = p
    · subst h; rw [upd_same] at e ⊢; exact e
    · rw [upd_ne h] at e ⊢; exact k.fh b u e
  len := k.len
  nd := k.nd
  mf := fun a h => by rw [upd_ne (fun e => k.notin hp (by rw [← e]; exact h))]; exact k.mf a h
  cell := fun i c a h1 h2 => by
    have := (k.cell i c a h1 h2).stay (F' := upd F p o) (H' := upd H p o) (r := []) (Ext.new (μ := μ) k.fh hp).ff (fun b u e _ => (by rw [upd_ne (ne_of_none e hp)]; exact e)) (Ext.new (μ := μ) k.fh hp).nf (fun _ _ _ => by simp)
    simpa using this
/-- a new thing that F does not know -/
theorem Ok.newH (k : Ok G F H μ S) (hp : H p = none) : Ok G F (upd H p o) μ S where
  fh := fun b u e => by rw [upd_ne (ne_of_none (k.fh b u e) hp)]; exact k.fh b u e
  len := k.len
  nd := k.nd
  mf := k.mf
  cell := fun i c a h1 h2 => by
    have := (k.cell i c a h1 h2).stay (F' := F) (H' := upd H p o) (r := []) (Same.refl _) (fun b u e _ => (by rw [upd_ne (ne_of_none e hp)]; exact e)) (fun _ _ _ n => n) (fun _ _ _ => by simp)
    simpa using this
end
end Ly
namespace Ly
open PySem PySem.Spec L2
open PyProof.Rows hiding St

/-! ### results -/
inductive Out (α : Type) where
  | stk | ok (a : α) (S : Store) | exc (c : Nat) (S : Store)
def Out.bind {α β : Type} (o : Out α) (f : α → Store → Out β) : Out β := match o with
  | .stk => .stk
  | .ok a S => f a S
  | .exc c S => .exc c S
def Out.of {α : Type} (o : Option α) (S : Store) : Out α := match o with
  | none => .stk
  | some a => .ok a S
def Out.noX {α : Type} : Out α → Out α
  | .ok a S => .ok a S
  | _ => .stk
def Out.opt {α β : Type} (o : Option α) (f : α → Out β) : Out β := match o with
  | none => .stk
  | some a => f a
abbrev Call := Nat → List T → Store → Out T

/-! ### values -/
inductive BOp where | add | sub | mul | fdv | mod
inductive COp where | eq | ne | lt | le | gt | ge | inn | nin | is | isn
inductive Bi where | len | max | min | sum | all | any | tup | lst | isT | isS | isI | isL | isB
inductive Mt where | join | strip | rstrip | lstrip | split
/-- further operations -/
inductive Op where | mxd (k : Int) | mnd (k : Int) | srt | lenS | toI
inductive SK where | val | rng | enm | zip | rev

def reps {α : Type} (l : List α) (k : Int) : List α := (List.replicate k.toNat l).flatten

def T.add : T → T → Option T
  | .int i, .int j => some (.int (i + j))
  | .str x, .str y => if x.length + y.length ≤ sizeLine then some (.str (x ++ y)) else none
  | .tup x, .tup y => if x.length + y.length ≤ sizeLine then some (.tup (x ++ y)) else none
  | .lst x, .lst y => if x.length + y.length ≤ sizeLine then some (.lst (x ++ y)) else none
  | _, _ => none
def T.sub : T → T → Option T
  | .int i, .int j => some (.int (i - j))
  | _, _ => none
def mulOk (i j : Int) : Bool := (-(2 ^ 64) < i && i < 2 ^ 64) || (-(2 ^ 64) < j && j < 2 ^ 64)
def T.mul : T → T → Option T
  | .int i, .int j => if mulOk i j then some (.int (i * j)) else none
  | .str x, .int k => if x.length * k.toNat ≤ sizeLine ∧ k < 2 ^ 62 ∧ -(2 ^ 62) < k then some (.str (reps x k)) else none
  | .tup x, .int k => if x ≠ [] ∧ x.length ≤ 1000 ∧ k ≤ 1000 ∧ -1000 ≤ k then some (.tup (reps x k)) else none
  | .lst x, .int k => if x.length * k.toNat ≤ sizeLine ∧ k < 2 ^ 62 ∧ -(2 ^ 62) < k then some (.lst (reps x k)) else none
  | _, _ => none
def T.fdv : T → T → Option T
  | .int i, .int j => if 0 < j ∧ j < 1073741824 then some (.int (i / j)) else none
  | _, _ => none
def T.mod : T → T → Option T
  | .int i, .int j => if 0 < j then some (.int (i % j)) else none
  | _, _ => none
def binF : BOp → T → T → Option T
  | .add => T.add | .sub => T.sub | .mul => T.mul | .fdv => T.fdv | .mod => T.mod

mutual
/-- == -/
def T.eqv : T → T → Bool
  | .non, .non => true
  | .bl a, .bl b => a == b
  | .bl a, .int j => (if a then 1 else 0) == j
  | .int i, .bl b => i == (if b then 1 else 0)
  | .int i, .int j => i == j
  | .str x, .str y => x == y
  | .lst xs, .lst ys => T.eqvs xs ys
  | .tup xs, .tup ys => T.eqvs xs ys
  | _, _ => false
def T.eqvs : List T → List T → Bool
  | [], [] => true
  | x :: xs, y :: ys => T.eqv x y && T.eqvs xs ys
  | _, _ => false
end
mutual
/-- how deep; 1000 of what has no == -/
def T.dep : T → Nat
  | .lst xs => T.deps xs + 1
  | .tup xs => T.deps xs + 1
  | .obj _ => 1000
  | .scr _ => 1000
  | _ => 0
def T.deps : List T → Nat
  | [] => 0
  | x :: xs => Nat.max (T.dep x) (T.deps xs)
end
mutual
def T.toD : T → PyData
  | .non => .none
  | .bl b => .bool b
  | .int i => .int i
  | .str x => .str (tx x)
  | .tup l => .tuple (T.toDs l)
  | .lst l => .list (T.toDs l)
  | .obj _ => .none
  | .scr _ => .none
def T.toDs : List T → List PyData
  | [] => []
  | t :: l => t.toD :: T.toDs l
end
/-- the two can be compared by < -/
def alikeT (a b : T) : Bool := PySem.W.alike a.toD b.toD && decide (a.dep < 64) && decide (b.dep < 64)
def ltT (a b : T) : Bool := PySem.W.dataLt a.toD b.toD
def T.isNon : T → Bool
  | .non => true
  | _ => false
def strLt (x y : List Nat) : Bool := decide (x < y)
def T.lt : T → T → Option Bool
  | .int i, .int j => some (decide (i < j))
  | .str x, .str y => some (strLt x y)
  | .tup x, .tup y => if alikeT (.tup x) (.tup y) then some (ltT (.tup x) (.tup y)) else none
  | _, _ => none
def T.le : T → T → Option Bool
  | .int i, .int j => some (decide (i ≤ j))
  | .str x, .str y => some (!strLt y x)
  | _, _ => none
/-- x in y: a sign in a text, a thing in a tuple or list -/
def T.inn : T → T → Option Bool
  | .str [c], .str y => some (y.contains c)
  | x, .tup ys => if x.dep < 64 ∧ T.deps ys < 64 then some (ys.any fun y => T.eqv y x) else none
  | x, .lst ys => if x.dep < 64 ∧ T.deps ys < 64 then some (ys.any fun y => T.eqv y x) else none
  | _, _ => none
def cmpF : COp → T → T → Option T
  | .eq, a, b => if a.dep < 64 ∧ b.dep < 64 then some (.bl (T.eqv a b)) else none
  | .ne, a, b => if a.dep < 64 ∧ b.dep < 64 then some (.bl (!T.eqv a b)) else none
  | .lt, a, b => (T.lt a b).map T.bl
  | .le, a, b => (T.le a b).map T.bl
  | .gt, a, b => (T.lt b a).map T.bl
  | .ge, a, b => (T.le b a).map T.bl
  | .inn, a, b => (T.inn a b).map T.bl
  | .nin, a, b => (T.inn a b).map fun k => T.bl (!k)
  | .is, a, .non => some (.bl a.isNon)
  | .isn, a, .non => some (.bl (!a.isNon))
  | .is, .bl a, .bl b => some (.bl (a == b))
  | .isn, .bl a, .bl b => some (.bl (a != b))
  | _, _, _ => none
def T.tru : T → Option Bool
  | .non => some false
  | .bl b => some b
  | .int i => some (i != 0)
  | .str x => some (!x.isEmpty)
  | .tup xs => some (!xs.isEmpty)
  | .lst xs => some (!xs.isEmpty)
  | .obj _ => none
  | .scr _ => none
def T.isBl : T → Option Bool
  | .bl b => some b
  | _ => none
def T.items : T → Option (List T)
  | .tup l => some l
  | .lst l => some l
  | .str x => some (x.map fun c => T.str [c])
  | _ => none
/-- items of a list or tuple -/
def T.seq : T → Option (List T)
  | .tup l => some l
  | .lst l => some l
  | _ => none
def T.toInt : T → Option Int
  | .int i => some i
  | _ => none
def T.toStr : T → Option (List Nat)
  | .str x => some x
  | _ => none
def T.toBl : T → Option Bool
  | .bl b => some b
  | _ => none
def rngL (a b c : Int) : List T := (List.range ((b - a + (c - 1)) / c).toNat).map fun (k : Nat) => T.int (a + k * c)
def rngSz (a b c : Int) : Int := if c > 0 then (if a < b then (b - a - 1) / c + 1 else 0) else (if a > b then (a - b - 1) / (-c) + 1 else 0)
def itemsF : SK → List T → Option (List T)
  | .val, [t] => t.items
  | .rng, [.int n] => if -1000000 ≤ n ∧ n ≤ 1000000 then some ((List.range n.toNat).map fun (k : Nat) => T.int k) else none
  | .rng, [.int a, .int b] => if b - a ≤ 1000000 ∧ -1000000 ≤ a ∧ a ≤ 1000000 ∧ -1000000 ≤ b ∧ b ≤ 1000000 then some ((List.range (b - a).toNat).map fun (k : Nat) => T.int (a + k)) else none
  | .rng, [.int a, .int b, .int c] => if c ≠ 0 ∧ -1000000 ≤ a ∧ a ≤ 1000000 ∧ -1000000 ≤ b ∧ b ≤ 1000000 ∧ -1000000 ≤ c ∧ c ≤ 1000000 then some ((List.range (rngSz a b c).toNat).map fun (k : Nat) => T.int (a + k * c)) else none
  | .enm, [t] => t.items.map fun l => l.zipIdx.map fun p => T.tup [.int (p.2 : Nat), p.1]
  | .zip, [a, b] => match a.items, b.items with
    | some x, some y => some ((x.zip y).map fun p => T.tup [p.1, p.2])
    | _, _ => none
  | _, _ => none

/-- the place of index i among n -/
def ixOf (n : Nat) (i : Int) : Option Nat := if 0 ≤ i then (if i < n then some i.toNat else none) else if -(n : Int) ≤ i then some (i + n).toNat else none
def T.sub? : T → T → Option T
  | .scr l, .int i => (ixOf l.length i).bind fun k => l[k]?.map T.int
  | .tup l, .int i => (ixOf l.length i).bind fun k => l[k]?
  | .lst l, .int i => (ixOf l.length i).bind fun k => l[k]?
  | .str x, .int i => (ixOf x.length i).bind fun k => x[k]?.map fun c => T.str [c]
  | _, _ => none
/-- an end of a slice, within 0 .. n -/
def clip (n : Nat) (d : Nat) : Option Int → Nat
  | none => d
  | some i => if i < 0 then (i + n).toNat else min i.toNat n
def cutL {α : Type} (l : List α) (lo hi : Option Int) : List α := (l.drop (clip l.length 0 lo)).take (clip l.length l.length hi - clip l.length 0 lo)
def T.slc : T → Option Int → Option Int → Option T
  | .tup l, lo, hi => some (.tup (cutL l lo hi))
  | .lst l, lo, hi => some (.lst (cutL l lo hi))
  | .str l, lo, hi => some (.str (cutL l lo hi))
  | _, _, _ => none

def allInt : List T → Option (List Int)
  | [] => some []
  | .int i :: l => (allInt l).map (i :: ·)
  | _ :: _ => none
def allBl : List T → Option (List Bool)
  | [] => some []
  | .bl i :: l => (allBl l).map (i :: ·)
  | _ :: _ => none
def allStr : List T → Option (List (List Nat))
  | [] => some []
  | .str i :: l => (allStr l).map (i :: ·)
  | _ :: _ => none
def maxI : List Int → Int
  | [] => 0
  | [a] => a
  | a :: l => max a (maxI l)
def minI : List Int → Int
  | [] => 0
  | [a] => a
  | a :: l => min a (minI l)
/-- couples of a number and a tuple of numbers -/
def kyT : T → Option (Int × List Int)
  | .tup [.int a, .tup w] => (allInt w).map fun ns => (a, ns)
  | _ => none
def allKy : List T → Option (List (Int × List Int))
  | [] => some []
  | t :: l => (kyT t).bind fun k => (allKy l).map (k :: ·)
def tK (k : Int × List Int) : T := .tup [.int k.1, .tup (k.2.map fun i => T.int i)]
def ltK (x y : Int × List Int) : Bool := decide (x.1 < y.1 ∨ (x.1 = y.1 ∧ x.2 < y.2))
def minK (x : Int × List Int) (r : List (Int × List Int)) : Int × List Int := r.foldl (fun a y => if ltK y a then y else a) x
def minKF (l : List T) : Option T := match allKy l with
  | some (x :: r) => some (tK (minK x r))
  | _ => none
/-- all can be compared with one another -/
def alikeL (l : List T) : Bool := (l.all fun x => l.all fun y => alikeT x y) && l.all fun x => !x.isNon
def minG : List T → Option T
  | [] => none
  | x :: r => if alikeL (x :: r) then some (r.foldl (fun a y => if ltT y a then y else a) x) else none
def maxG : List T → Option T
  | [] => none
  | x :: r => if alikeL (x :: r) then some (r.foldl (fun a y => if ltT a y then y else a) x) else none
def minA (l : List T) : Option T := match minKF l with
  | some t => some t
  | none => minG l
def biF : Bi → List T → Option T
  | .len, [.str x] => some (.int x.length)
  | .len, [.tup x] => some (.int x.length)
  | .len, [.lst x] => some (.int x.length)
  | .len, [.scr x] => some (.int x.length)
  | .max, [.int i, .int j] => some (.int (max i j))
  | .min, [.int i, .int j] => some (.int (min i j))
  | .max, [.lst l] => match allInt l with
    | some (i :: r) => some (.int (maxI (i :: r)))
    | _ => maxG l
  | .min, [.lst l] => match allInt l with
    | some (i :: r) => some (.int (minI (i :: r)))
    | _ => minA l
  | .sum, [.lst l] => (allInt l).map fun n => T.int n.sum
  | .all, [.lst l] => (allBl l).map fun n => T.bl (n.all id)
  | .any, [.lst l] => (allBl l).map fun n => T.bl (n.any id)
  | .tup, [.lst l] => some (.tup l)
  | .tup, [.tup l] => some (.tup l)
  | .lst, [.lst l] => some (.lst l)
  | .lst, [.tup l] => some (.lst l)
  | .isT, [t] => match t with | .obj _ => none | .scr _ => none | .tup _ => some (.bl true) | _ => some (.bl false)
  | .isB, [t] => match t with | .obj _ => none | .scr _ => none | .bl _ => some (.bl true) | _ => some (.bl false)
  | .isL, [t] => match t with | .obj _ => none | .scr _ => none | .lst _ => some (.bl true) | _ => some (.bl false)
  | .isS, [t] => match t with | .obj _ => none | .scr _ => none | .str _ => some (.bl true) | _ => some (.bl false)
  | .isI, [t] => match t with | .obj _ => none | .scr _ => none | .int _ => some (.bl true) | .bl _ => some (.bl true) | _ => some (.bl false)
  | _, _ => none
def revF : T → Option T
  | .tup l => some (.tup l.reverse)
  | .lst l => some (.lst l.reverse)
  | _ => none
/-- isinstance(x, (int, str)) -/
def isISf : T → Option T
  | .obj _ => none
  | .scr _ => none
  | .int _ => some (.bl true)
  | .bl _ => some (.bl true)
  | .str _ => some (.bl true)
  | _ => some (.bl false)
def joinL (s : List Nat) : List (List Nat) → List Nat
  | [] => []
  | [x] => x
  | x :: r => x ++ s ++ joinL s r
/-- without these signs ahead; .. behind -/
def cutA (y x : List Nat) : List Nat := x.dropWhile fun c => y.contains c
def cutB (y x : List Nat) : List Nat := (x.reverse.dropWhile fun c => y.contains c).reverse
def splitL (c : Nat) : List Nat → List (List Nat)
  | [] => [[]]
  | a :: l => if a = c then [] :: splitL c l else (match splitL c l with
    | [] => [[a]]
    | p :: ps => (a :: p) :: ps)
def mtF : Mt → T → List T → Option T
  | .join, .str s, [.lst l] => match allStr l with
    | some xs => if (xs.map (·.length)).sum + xs.length * s.length ≤ sizeLine then some (.str (joinL s xs)) else none
    | _ => none
  | .lstrip, .str s, [.str y] => some (.str (cutA y s))
  | .rstrip, .str s, [.str y] => some (.str (cutB y s))
  | .strip, .str s, [.str y] => some (.str (cutB y (cutA y s)))
  | .split, .str s, [.str [c]] => if s.length + 2 ≤ sizeLine then some (.lst ((splitL c s).map T.str)) else none
  | _, _, _ => none

def sortableL (l : List T) : Bool := (l.all fun x => match x with | .tup (_ :: _) => true | _ => false) || l.all fun x => match x with | .tup _ => false | .non => false | _ => true
/-- how many unlike ones -/
def unlike (ns : List Int) : Nat := (PyProof.Rows.firstMet (fun i => ns.getD i 0) ns.length).length
def maxD0 (k : Int) : List Int → Int
  | [] => k
  | a :: r => maxI (a :: r)
def minD0 (k : Int) : List Int → Int
  | [] => k
  | a :: r => minI (a :: r)
def opF : Op → List T → Store → Option (T × Store)
  | .mxd k, [.lst l], S => (allInt l).map fun ns => (.int (maxD0 k ns), S)
  | .mnd k, [.lst l], S => (allInt l).map fun ns => (.int (minD0 k ns), S)
  | .srt, [.lst l], S => if alikeL l && sortableL l then some (.lst (l.mergeSort fun a b => PySem.W.dataLe false T.toD a b), S) else none
  | .lenS, [.lst l], S => (allInt l).bind fun ns => if ns.length + 1 < PySem.scanBound then some (.int (unlike ns), S) else none
  | .toI, [.bl b], S => some (.int (if b then 1 else 0), S)
  | _, _, _ => none

/-! ### targets -/
mutual
inductive Tg where | nm (i : Nat) | tp (ts : Tgs)
inductive Tgs where | nil | cons (t : Tg) (ts : Tgs)
end
mutual
def Tg.put : Tg → T → Lenv → Option Lenv
  | .nm i, t, ρ => some (ρ.set i (.val t))
  | .tp ts, t, ρ => match t.seq with
    | some l => Tgs.put ts l ρ
    | none => none
def Tgs.put : Tgs → List T → Lenv → Option Lenv
  | .nil, [], ρ => some ρ
  | .cons g gs, t :: l, ρ => (Tg.put g t ρ).bind fun ρ' => Tgs.put gs l ρ'
  | _, _, _ => none
end
mutual
def Tg.slots : Tg → List Nat
  | .nm i => [i]
  | .tp ts => Tgs.slots ts
def Tgs.slots : Tgs → List Nat
  | .nil => []
  | .cons g gs => g.slots ++ gs.slots
end
def wipeR (ρ : Lenv) : List Nat → Lenv
  | [] => ρ
  | v :: vs => (wipeR ρ vs).set v .un

/-! ### the text -/
mutual
inductive Ex where
  | lit (t : T) | glb (x : Str) (t : T) | var (i : Nat) | bor (i : Nat)
  | bin (o : BOp) (a b : Ex) | neg (i : Int) | cmp (o : COp) (a b : Ex) | chn (o o' : COp) (a b c : Ex)
  | and (a b : Ex) | or (a b : Ex) | one (a : Ex) | not (a : Ex) | ife (c a b : Ex)
  | tup (es : Exs) | lst (es : Exs)
  | sub (a i : Ex) | slc (a lo hi : Ex) | nop
  | call (f : Nat) (es : Exs) | bi (b : Bi) (es : Exs) | mth (m : Mt) (a : Ex) (es : Exs)
  | isIS (a : Ex)
  /-- e[::-1] -/
  | rev (a : Ex)
  | op (o : Op) (es : Exs)
  | lc (elt : Ex) (tg : Tg) (k : SK) (src : Exs) (cond : Exs)
inductive Exs where | nil | cons (e : Ex) (es : Exs)
end

/-- a list that is borrowed for a look -/
def bor (ρ : Lenv) (a : Ex) (S : Store) (r : Out T) : Out T := match a with
  | .bor i => match ρ[i]? with
    | some (.own l) => .ok (.lst l) S
    | _ => .stk
  | _ => r
def compL (f : T → Store → Out (Option T)) : List T → Store → Out (List T)
  | [], S => .ok [] S
  | x :: l, S => (f x S).bind fun o S1 => (compL f l S1).bind fun r S2 => .ok (match o with | some y => y :: r | none => r) S2
def opO (S : Store) : Option (T × Store) → Out T
  | some p => .ok p.1 p.2
  | none => .stk
def Exs.toL : Exs → List Ex
  | .nil => []
  | .cons e es => e :: es.toL
def isNop : Ex → Bool
  | .nop => true
  | _ => false
def optI (e : Ex) (t : T) : Option (Option Int) := match e with
  | .nop => some none
  | _ => match t with
    | .int i => some (some i)
    | _ => none
def allTru : List T → Option Bool
  | [] => some true
  | t :: l => match t.tru with
    | none => none
    | some b => (allTru l).map (b && ·)
/-- go on by a truth -/
def ifBl (r : T) (t f : Out T) : Out T := match r with
  | .bl true => t
  | .bl false => f
  | _ => .stk
mutual
def ev (c : Call) : Ex → Lenv → Store → Out T
  | .lit t, _, S => .ok t S
  | .glb _ t, _, S => .ok t S
  | .var i, ρ, S => match ρ[i]? with
    | some (.val t) => .ok t S
    | _ => .stk
  | .bor _, _, _ => .stk
  | .neg i, _, S => .ok (.int (-i)) S
  | .nop, _, S => .ok .non S
  | .bin o a b, ρ, S => (bor ρ a S (ev c a ρ S)).bind fun x S1 => (bor ρ b S1 (ev c b ρ S1)).bind fun y S2 => .of (binF o x y) S2
  | .cmp o a b, ρ, S => (bor ρ a S (ev c a ρ S)).bind fun x S1 => (bor ρ b S1 (ev c b ρ S1)).bind fun y S2 => .of (cmpF o x y) S2
  | .chn o o' a b d, ρ, S => (ev c a ρ S).bind fun x S1 => (ev c b ρ S1).bind fun y S2 => (Out.of (cmpF o x y) S2).bind fun r S3 =>
    ifBl r ((ev c d ρ S3).bind fun z S4 => .of (cmpF o' y z) S4) (.ok (.bl false) S3)
  | .and a b, ρ, S => (ev c a ρ S).bind fun x S1 => ifBl x (ev c b ρ S1) (.ok (.bl false) S1)
  | .or a b, ρ, S => (ev c a ρ S).bind fun x S1 => ifBl x (.ok (.bl true) S1) (ev c b ρ S1)
  | .one a, ρ, S => ev c a ρ S
  | .not a, ρ, S => (bor ρ a S (ev c a ρ S)).bind fun x S1 => .of (x.tru.map fun k => T.bl (!k)) S1
  | .ife d a b, ρ, S => (ev c d ρ S).bind fun x S1 => match x.tru with
    | some true => ev c a ρ S1
    | some false => ev c b ρ S1
    | none => .stk
  | .tup es, ρ, S => (evs c es ρ S).bind fun l S1 => if l.length ≤ 1000 then .ok (.tup l) S1 else .stk
  | .lst es, ρ, S => (evs c es ρ S).bind fun l S1 => if l.length ≤ 1000 then .ok (.lst l) S1 else .stk
  | .sub a i, ρ, S => (bor ρ a S (ev c a ρ S)).bind fun x S1 => (ev c i ρ S1).bind fun y S2 => .of (T.sub? x y) S2
  | .slc a lo hi, ρ, S => (bor ρ a S (ev c a ρ S)).bind fun x S1 => (ev c lo ρ S1).bind fun l S2 => Out.opt (optI lo l) fun l =>
    (ev c hi ρ S2).bind fun h S3 => Out.opt (optI hi h) fun h => .of (T.slc x l h) S3
  | .call f es, ρ, S => (evs c es ρ S).bind fun l S1 => c f l S1
  | .bi b es, ρ, S => (evb c es ρ S).bind fun l S1 => .of (biF b l) S1
  | .mth m a es, ρ, S => (ev c a ρ S).bind fun x S1 => match x with
    | .str s => (evb c es ρ S1).bind fun l S2 => .of (mtF m (.str s) l) S2
    | _ => .stk
  | .isIS a, ρ, S => (bor ρ a S (ev c a ρ S)).bind fun x S1 => .of (isISf x) S1
  | .rev a, ρ, S => (bor ρ a S (ev c a ρ S)).bind fun x S1 => .of (revF x) S1
  | .op o es, ρ, S => (evb c es ρ S).bind fun l S1 => opO S1 (opF o l S1)
  | .lc elt tg k src cond, ρ, S => (evb c src ρ S).bind fun ts S1 => Out.opt (itemsF k ts) fun l => (compL (fun x S => Out.opt (tg.put x (wipeR ρ tg.slots)) fun ρ' =>
        ((evs c cond ρ' S).bind fun bs S1 => Out.opt (allTru bs) fun b =>
          if b then (ev c elt ρ' S1).bind fun y S2 => .ok (some y) S2 else .ok none S1).noX) l S1).bind fun r S2 => .ok (.lst r) S2
def evs (c : Call) : Exs → Lenv → Store → Out (List T)
  | .nil, _, S => .ok [] S
  | .cons e es, ρ, S => (ev c e ρ S).bind fun x S1 => (evs c es ρ S1).bind fun l S2 => .ok (x :: l) S2
def evb (c : Call) : Exs → Lenv → Store → Out (List T)
  | .nil, _, S => .ok [] S
  | .cons e es, ρ, S => (bor ρ e S (ev c e ρ S)).bind fun x S1 => (evb c es ρ S1).bind fun l S2 => .ok (x :: l) S2
end

/-! ### statements -/
inductive OutS where
  | stk | nx (ρ : Lenv) (S : Store) | rt (t : T) (S : Store) | bk (ρ : Lenv) (S : Store) | ct (ρ : Lenv) (S : Store) | ex (c : Nat) (ρ : Lenv) (S : Store)
def Out.st {α : Type} (o : Out α) (ρ : Lenv) (f : α → Store → OutS) : OutS := match o with
  | .stk => .stk
  | .ok a S => f a S
  | .exc c S => .ex c ρ S
def OutS.nxt (o : OutS) (f : Lenv → Store → OutS) : OutS := match o with
  | .nx ρ S => f ρ S
  | o => o
mutual
inductive Sm where
  | ret (e : Ex) | retN | expr (e : Ex)
  /-- x = e; x = [..] where the comprehension is stored straight -/
  | asg (i : Nat) (e : Ex) | asgC (i : Nat) (e : Ex)
  /-- x = a new list, which x may change -/
  | own (i : Nat) (e : Ex) | ownC (i : Nat) (e : Ex)
  /-- x's list will not be changed any more -/
  | rel (i : Nat)
  | app (i : Nat) (e : Ex) | ext (i : Nat) (e : Ex)
  | par2 (i j : Nat) (a b : Ex) | par3 (i j k : Nat) (a b d : Ex) | unp (tg : Tgs) (e : Ex)
  /-- x, y = a, b, some of them new lists that may be changed -/
  | par2o (i j : Nat) (oi oj : Bool) (a b : Ex) | par3o (i j k : Nat) (oi oj ok : Bool) (a b d : Ex)
  | iff (d : Ex) (a b : Sms)
  | for_ (tg : Tg) (k : SK) (src : Exs) (body : Sms) (lv : List (Nat × Bool)) (tmp : List Nat)
  | whl (d : Ex) (body : Sms) (lv : List (Nat × Bool)) (tmp : List Nat)
  | brk | cnt | pass
  /-- return (w,) + tuple([None if v is None else l.pop(0) for v in src]), l a list of its own -/
  | retPop (w : Ex) (v i : Nat) (src : Ex)
  | raise (c : Nat)
  | try_ (body : Sms) (c : Nat) (h : Sms)
inductive Sms where | nil | cons (s : Sm) (ss : Sms)
end
def popL : List T → List T → Option (List T)
  | [], _ => some []
  | t :: ts, l => if t.isNon then (popL ts l).map (.non :: ·) else (match l with
    | [] => none
    | x :: l => (popL ts l).map (x :: ·))
def fresh : Ex → Bool
  | .lst _ => true
  | .lc .. => true
  | .bi .lst _ => true
  | .bin .add _ _ => true
  | .bin .mul _ _ => true
  | .slc .. => true
  | _ => false
/-- a value, or a new list that may be changed -/
def putO (ρ : Lenv) (i : Nat) (e : Ex) : Bool → T → Option Lenv
  | true, .lst l => if fresh e then some (ρ.set i (.own l)) else none
  | false, t => some (ρ.set i (.val t))
  | _, _ => none
def forL (f : T → Lenv → Store → OutS) : List T → Lenv → Store → OutS
  | [], ρ, S => .nx ρ S
  | x :: l, ρ, S => match f x ρ S with
    | .nx ρ S => forL f l ρ S
    | .ct ρ S => forL f l ρ S
    | .bk ρ S => .nx ρ S
    | o => o
def whlN (d : Lenv → Store → Out T) (f : Lenv → Store → OutS) : Nat → Lenv → Store → OutS
  | 0, _, _ => .stk
  | n + 1, ρ, S => (d ρ S).st ρ fun t S => match t.tru with
    | none => .stk
    | some false => .nx ρ S
    | some true => match f ρ S with
      | .nx ρ S => whlN d f n ρ S
      | .ct ρ S => whlN d f n ρ S
      | .bk ρ S => .nx ρ S
      | o => o
open Classical in
noncomputable def whlL (d : Lenv → Store → Out T) (f : Lenv → Store → OutS) (ρ : Lenv) (S : Store) : OutS :=
  if h : ∃ n, whlN d f n ρ S ≠ .stk then whlN d f (Classical.choose h) ρ S else .stk
/-- what a loop's turn leaves: the slots of lv (true: a list of its own) as said, those of tmp not set -/
def okL : List (Nat × Bool) → Lenv → Bool
  | [], _ => true
  | (i, k) :: l, ρ => (match ρ[i]? with
    | some (.val _) => !k
    | some (.own _) => k
    | _ => false) && okL l ρ
def OutS.fix (lv : List (Nat × Bool)) (tmp : List Nat) : OutS → OutS
  | .nx ρ S => if okL lv (wipeR ρ tmp) then .nx (wipeR ρ tmp) S else .stk
  | .ct ρ S => if okL lv (wipeR ρ tmp) then .nx (wipeR ρ tmp) S else .stk
  | .bk ρ S => if okL lv (wipeR ρ tmp) then .bk (wipeR ρ tmp) S else .stk
  | .ex k ρ S => .ex k (wipeR (wipeR ρ tmp) (lv.map (·.1))) S
  | .rt t S => .rt t S
  | .stk => .stk
/-- class e is c or below it; 0 is below none and above all -/
def isSub (e c : Nat) : Bool := e == c || c == 0
def ownAt (ρ : Lenv) (i : Nat) (f : List T → OutS) : OutS := match ρ[i]? with
  | some (.own l) => f l
  | _ => .stk
def optS {α : Type} (o : Option α) (f : α → OutS) : OutS := match o with
  | none => .stk
  | some a => f a
mutual
noncomputable def ex (c : Call) : Sm → Lenv → Store → OutS
  | .ret e, ρ, S => (ev c e ρ S).st ρ fun t S => .rt t S
  | .retN, ρ, S => .rt .non S
  | .expr e, ρ, S => (ev c e ρ S).st ρ fun _ S => .nx ρ S
  | .asg i e, ρ, S => (ev c e ρ S).st ρ fun t S => .nx (ρ.set i (.val t)) S
  | .asgC i e, ρ, S => (ev c e ρ S).st ρ fun t S => .nx (ρ.set i (.val t)) S
  | .own i e, ρ, S => (ev c e ρ S).st ρ fun t S => match t with
    | .lst l => if fresh e then .nx (ρ.set i (.own l)) S else .stk
    | _ => .stk
  | .ownC i e, ρ, S => (ev c e ρ S).st ρ fun t S => match t with
    | .lst l => if fresh e then .nx (ρ.set i (.own l)) S else .stk
    | _ => .stk
  | .rel i, ρ, S => match ρ[i]? with
    | some (.own l) => .nx (ρ.set i (.val (.lst l))) S
    | some (.val t) => .nx ρ S
    | _ => .stk
  | .app i e, ρ, S => ownAt ρ i fun l => (ev c e ρ S).st ρ fun t S => if l.length < sizeLine then .nx (ρ.set i (.own (l ++ [t]))) S else .stk
  | .ext i e, ρ, S => ownAt ρ i fun l => (ev c e ρ S).st ρ fun t S => match t with
    | .lst m => if l.length + m.length ≤ sizeLine then .nx (ρ.set i (.own (l ++ m))) S else .stk
    | _ => .stk
  | .par2 i j a b, ρ, S => (ev c a ρ S).st ρ fun x S => (ev c b ρ S).st ρ fun y S => .nx ((ρ.set i (.val x)).set j (.val y)) S
  | .par3 i j k a b d, ρ, S => (ev c a ρ S).st ρ fun x S => (ev c b ρ S).st ρ fun y S => (ev c d ρ S).st ρ fun z S => .nx (((ρ.set i (.val x)).set j (.val y)).set k (.val z)) S
  | .par2o i j oi oj a b, ρ, S => (ev c a ρ S).st ρ fun x S => (ev c b ρ S).st ρ fun y S => optS ((putO ρ i a oi x).bind fun ρ => putO ρ j b oj y) fun ρ' => .nx ρ' S
  | .par3o i j k oi oj o3 a b d, ρ, S => (ev c a ρ S).st ρ fun x S => (ev c b ρ S).st ρ fun y S => (ev c d ρ S).st ρ fun z S => optS ((putO ρ i a oi x).bind fun ρ => (putO ρ j b oj y).bind fun ρ => putO ρ k d o3 z) fun ρ' => .nx ρ' S
  | .unp tg e, ρ, S => (ev c e ρ S).st ρ fun t S => optS ((Tg.tp tg).put t ρ) fun ρ' => .nx ρ' S
  | .iff d a b, ρ, S => (bor ρ d S (ev c d ρ S)).st ρ fun t S => match t.tru with
    | none => .stk
    | some true => exs c a ρ S
    | some false => exs c b ρ S
  | .for_ tg k src body lv tmp, ρ, S => (evs c src ρ S).st ρ fun ts S => optS (itemsF k ts) fun l =>
    forL (fun x ρ S => optS (tg.put x ρ) fun ρ' => (exs c body ρ' S).fix lv tmp) l (wipeR ρ tmp) S
  | .whl d body lv tmp, ρ, S => whlL (fun ρ S => bor ρ d S (ev c d ρ S)) (fun ρ S => (exs c body ρ S).fix lv tmp) (wipeR ρ tmp) S
  | .retPop w v i src, ρ, S => (ev c w ρ S).st ρ fun wt S => (ev c src ρ S).st ρ fun st S => ownAt ρ i fun l => optS st.items fun ts => optS (popL ts l) fun r =>
    if r.length + 1 ≤ sizeLine ∧ v < ρ.length then .rt (.tup (wt :: r)) S else .stk
  | .brk, ρ, S => .bk ρ S
  | .cnt, ρ, S => .ct ρ S
  | .pass, ρ, S => .nx ρ S
  | .raise k, ρ, S => .ex k ρ S
  | .try_ body k h, ρ, S => match exs c body ρ S with
    | .ex e ρ' S' => if isSub e k then exs c h ρ' S' else .ex e ρ' S'
    | o => o
noncomputable def exs (c : Call) : Sms → Lenv → Store → OutS
  | .nil, ρ, S => .nx ρ S
  | .cons s ss, ρ, S => (ex c s ρ S).nxt fun ρ S => exs c ss ρ S
end

/-! ### defs -/
structure FnI where
  np : Nat
  ns : Nat
  body : Sms
/-- a def's name and its slots' names -/
structure FnH where
  name : Str
  N : List Str
structure Tb where
  l : List FnI
  h : List (Option FnH)
def Tb.at (t : Tb) (f : Nat) : Option (FnI × FnH) := match t.l[f]?, t.h[f]? with
  | some fi, some (some fh) => some (fi, fh)
  | _, _ => none
def OutS.fin (o : OutS) : Out T := match o with
  | .nx _ S => .ok .non S
  | .rt t S => .ok t S
  | .ex c _ S => .exc c S
  | _ => .stk
noncomputable def run1 (c : Call) (f : FnI) (ts : List T) (S : Store) : Out T :=
  if ts.length = f.np then (exs c f.body (ts.map Sl.val ++ List.replicate (f.ns - f.np) Sl.un) S).fin else .stk
noncomputable def callF (tab : List FnI) : Nat → Call
  | 0 => fun _ _ _ => .stk
  | n + 1 => fun f ts S => match tab[f]? with
    | none => .stk
    | some fi => run1 (callF tab n) fi ts S
end Ly
namespace Ly
open PySem PySem.Spec L2
open PyProof.Rows hiding St

/-! ### a tuple times an int below two -/
theorem tuple_mul0 (l : Addr) (items : Array Value) (n : Nat) (dd : Option Addr) (sl : Array (Option Value)) (x : Int) (u : Tok) (c0 : (decide (x < -(2 ^ 63)) || decide (x ≥ 2 ^ 63)) = false) (c1 : (items.isEmpty || x == 1) = false) (c2 : (decide (x ≤ 0) || items.isEmpty) = true) :
    Meets (Builtin.«tuple.__mul__» ⟨[.ref l, .int x u], []⟩) (fun _ R s => s.heap.get? l = some { cls := .type "tuple", dict := dd, data := .seq items n, slots := sl } ∧
      R (.ok (.ret (Value.ref s.heap.objs.size))) { s with heap := s.heap.push { cls := Value.type "tuple", data := Data.seq #[] }, toks := s.toks }) :=
  .of_wp fun prog w A R s h => by
    obtain ⟨hp, g, d, tk, os⟩ := s
    obtain ⟨hl, h⟩ := h
    have f1 := AutoSeq1.idx_int
    have hsz : (#[] : Array Value).size ≤ sizeLine := by simp
    wp_walk using wpAny_loadPart' hl
    repeat (first
      | (refine wpAny_ite_false (decide_eq_false (by rw [c0]; exact Bool.false_ne_true)) ?_; wp_walk using wpAny_loadPart' hl)
      | (refine wpAny_ite_false (decide_eq_false (by rw [c1]; exact Bool.false_ne_true)) ?_; wp_walk using wpAny_loadPart' hl)
      | (refine wpAny_ite_true (decide_eq_true c2) ?_; wp_walk using wpAny_loadPart' hl)
      | (refine wpAny_ite_false (decide_eq_false (Nat.not_lt.mpr hsz)) ?_; wp_walk using wpAny_loadPart' hl))
    exact ⟨_, rfl, h⟩
theorem tuple_mul1 (l : Addr) (items : Array Value) (n : Nat) (sl : Array (Option Value)) (dd : Option Addr) (u : Tok) :
    Meets (Builtin.«tuple.__mul__» ⟨[.ref l, .int 1 u], []⟩) (fun _ R s => s.heap.get? l = some { cls := .type "tuple", dict := dd, data := .seq items n, slots := sl } ∧
      R (.ok (.ret (Value.ref l))) s) :=
  .of_wp fun prog w A R s h => by
    obtain ⟨hp, g, d, tk, os⟩ := s
    obtain ⟨hl, h⟩ := h
    have f1 := AutoSeq1.idx_int
    wp_walk using wpAny_loadPart' hl
    exact ⟨_, rfl, h⟩
section
variable {X : Cx}
def rRepA (K : PySem.W.Frag) : R2 := fun x y H Q => ∃ l k xs, x = .ref l ∧ y = .int k ∧ SqT K H l xs ∧ xs ≠ [] ∧ -1000 ≤ k ∧ k ≤ 1000 ∧ xs.length ≤ 1000 ∧ (k = 1 → Q (.ref l) H) ∧ (k ≠ 1 → ∀ p, H p = none → Q (.ref p) (upd H p (.tup (List.replicate k.toNat xs).flatten)))
theorem op_repA : OpR X (binaryOp .Mult) (rRepA X.K) := by
  intro pins s σ H x y v u Q I rx ry h
  obtain ⟨l, k, xs, rfl, rfl, hT, hne, h1, h2, hz, q1, q⟩ := h
  by_cases hk : 2 ≤ k
  · exact op_repT pins s σ H _ _ v u Q I rx ry ⟨l, k, xs, rfl, rfl, hT, hne, hk, h2, hz, q (by omega)⟩
  cases rx
  obtain ⟨t, rfl⟩ := ry
  obtain ⟨its, r, ⟨⟨cls, dd, data, sl⟩, ho, hc, n, hd⟩, hs⟩ := I.tuple hT
  simp only at hc hd
  subst hc hd
  have hle : its.length = xs.length := r.length.symm
  have hn : its ≠ [] := fun e => hne (by
    rw [e] at hle
    exact List.eq_nil_of_length_eq_zero hle.symm)
  have hi : its.toArray.isEmpty = false := by
    cases its with
    | nil => exact absurd rfl hn
    | cons a b => rfl
  by_cases k1 : k = 1
  · subst k1
    refine wpAny_binaryOp_repeat_ref (T := "tuple") (U := "int") (by decide) ⟨_, ho, rfl⟩ (fun s' => typeIs_int s' 1 t) noFill_tuple_mul F.fills_int_mul F.slot_int_rmul repeat_tuple F.slot_int_index.lookup
      (call_meets F.slot_int_rmul (typeIs_int s 1 t) F.entry_int_rmul (F.args_int_rmul_2 _ _) (int_rmul_tuple 1 t l its.toArray n dd sl)
        ⟨ho, rfl, ⟨_, ho, rfl⟩, call_meets F.slot_tuple_mul ⟨_, ho, rfl⟩ F.entry_tuple_mul (F.args_tuple_mul_2 _ _) (tuple_mul1 l its.toArray n sl dd t) ⟨ho, ?_⟩⟩)
    exact ⟨.ref l, H, I, rfl, q1 rfl⟩
  · have c0 : (decide (k < -(2 ^ 63)) || decide (k ≥ 2 ^ 63)) = false := by
      rw [decide_eq_false (by omega), decide_eq_false (by omega)] <;> rfl
    have c1 : (its.toArray.isEmpty || k == 1) = false := by
      rw [hi, Bool.false_or]
      exact beq_eq_false_iff_ne.mpr (by omega)
    have c2 : (decide (k ≤ 0) || its.toArray.isEmpty) = true := by
      rw [decide_eq_true (by omega)]; rfl
    refine wpAny_binaryOp_repeat_ref (T := "tuple") (U := "int") (by decide) ⟨_, ho, rfl⟩ (fun s' => typeIs_int s' k t) noFill_tuple_mul F.fills_int_mul F.slot_int_rmul repeat_tuple F.slot_int_index.lookup
      (call_meets F.slot_int_rmul (typeIs_int s k t) F.entry_int_rmul (F.args_int_rmul_2 _ _) (int_rmul_tuple k t l its.toArray n dd sl)
        ⟨ho, rfl, ⟨_, ho, rfl⟩, call_meets F.slot_tuple_mul ⟨_, ho, rfl⟩ F.entry_tuple_mul (F.args_tuple_mul_2 _ _) (tuple_mul0 l its.toArray n dd sl k t c0 c1 c2) ⟨ho, ?_⟩⟩)
    have e0 : k.toNat = 0 := by omega
    have qq := q k1
    rw [e0] at qq
    refine ⟨.ref s.heap.objs.size, _, I.laid (t' := s.toks) (o := .tup []) (fun b ob q => Heap.get?_push_of_some _ q) (Nat.le_refl _) ?_, rfl, qq _ (I.hok.fresh (Nat.le_refl _))⟩
    exact ⟨by simp, [], .nil, IsTup.new _ _⟩
def rMulS : R2 := fun x y H Q => ∃ z k, x = .str (tx z) ∧ y = .int k ∧ -(2 ^ 62) < k ∧ k < 2 ^ 62 ∧ z.length * k.toNat ≤ sizeLine ∧ Q (.str (tx (List.replicate k.toNat z).flatten)) H
theorem foldA (z : List Nat) : ∀ (m : Nat) (a : List Nat), (List.replicate m z.toArray).foldl (· ++ ·) a.toArray = (a ++ (List.replicate m z).flatten).toArray
  | 0, a => by simp
  | m + 1, a => by
    rw [List.replicate_succ, List.foldl_cons, List.replicate_succ, List.flatten_cons, ← List.append_assoc]
    have : a.toArray ++ z.toArray = (a ++ z).toArray := by simp
    rw [this]
    exact foldA z m (a ++ z)
theorem op_mulS : OpR X (binaryOp .Mult) rMulS := by
  intro pins s σ H x y v u Q I rx ry h
  obtain ⟨z, k, rfl, rfl, h1, h2, hz, q⟩ := h
  obtain ⟨t, rfl⟩ := rx
  obtain ⟨t', rfl⟩ := ry
  have f0 : (List.replicate k.toNat z.toArray).foldl (· ++ ·) #[] = ((List.replicate k.toNat z).flatten).toArray := by
    have := foldA z k.toNat []
    simpa using this
  have big : (2 : Nat) ^ 24 = sizeLine := rfl
  refine PySem.P.mul_str (by rw [decide_eq_false (by omega), decide_eq_false (by omega)]; rfl) (fun a b => ?_) (fun a b => ?_) ?_
  · have hk : 1 ≤ k := by omega
    rw [tx_len]
    have : (z.length : Int) ≤ (2 ^ 63 - 1) / k := by
      apply (Int.le_ediv_iff_mul_le (by omega)).mpr
      have e : ((z.length * k.toNat : Nat) : Int) ≤ sizeLine := by exact_mod_cast hz
      rw [Int.natCast_mul, Int.toNat_of_nonneg (by omega)] at e
      have : (sizeLine : Int) ≤ 2 ^ 63 - 1 := by decide
      omega
    omega
  · show decide (_ > sizeLine) = false
    rw [tx_len]
    exact decide_eq_false (by omega)
  · by_cases c1 : k < 1
    · rw [if_pos c1]
      have e0 : k.toNat = 0 := by omega
      rw [e0] at q
      exact ⟨by decide, .str _, H, I.tok _, ⟨_, rfl⟩, q⟩
    · rw [if_neg c1]
      by_cases c2 : (k == 1 || (tx z).length == 0) = true
      · rw [if_pos c2]
        have : (List.replicate k.toNat z).flatten = z := by
          rcases Bool.or_eq_true_iff.mp c2 with e | e
          · have : k = 1 := by simpa using e
            subst this; simp
          · rw [tx_len] at e
            have : z = [] := by simpa using e
            subst this; simp
        rw [this] at q
        exact ⟨.str _, H, I, ⟨_, rfl⟩, q⟩
      · rw [if_neg c2]
        show _ ∧ _
        have e2 : ((List.replicate k.toNat (tx z).cps).foldl (· ++ ·) #[]) = ((List.replicate k.toNat z).flatten).toArray := f0
        rw [e2]
        refine ⟨?_, .str (tx (List.replicate k.toNat z).flatten), H, I.tok _, ⟨_, rfl⟩, q⟩
        show (List.replicate k.toNat z).flatten.toArray.size ≤ _
        rw [List.size_toArray, PyProof.Rows.lm_len_rep_flat, Nat.mul_comm]
        exact hz
end
end Ly
namespace Ly
open PySem PySem.Spec L2
open PyProof.Rows hiding St

/-- what an operation on values ends in: a value that is t, the heap grown -/
def Res (G : Glo) (F H : Hp) (μ : List Addr) (t : T) (Q : VK) : Prop :=
  ∀ v F' H', Ext F H μ F' H' μ → (∀ S, Ok G F H μ S → Ok G F' H' μ S) → Rep G.K F' μ t v → Q v H'
/-- a value for a look: as it is, or a list of one's own -/
def RepB (G : Glo) (F H : Hp) (μ : List Addr) (t : T) (v : V) : Prop :=
  Rep G.K F μ t v ∨ ∃ a l vs, t = .lst l ∧ v = .ref a ∧ H a = some (.lst vs) ∧ l.length ≤ sizeLine ∧ Reps G.K F μ l vs ∧ a ∉ μ
section
variable {G : Glo} {F H : Hp} {μ : List Addr} {t : T} {v : V} {Q : VK} {S : Store}
theorem Res.now (r : Res G F H μ t Q) (h : Rep G.K F μ t v) : Q v H := r v F H .refl (fun _ k => k) h
theorem Res.tup {p : Addr} {ts : List T} {vs : List V} (r : Res G F H μ (.tup ts) Q) (s : Same F H) (hp : H p = none) (hl : ts.length ≤ sizeLine) (h : Reps G.K F μ ts vs) : Q (.ref p) (upd H p (.tup vs)) := by
  have x := Ext.new (μ := μ) (o := .tup vs) s hp
  refine r _ _ _ x (fun S k => k.new hp) ?_
  simp only [Rep]
  exact ⟨p, vs, rfl, SqT.of upd_same, hl, x.reps h⟩
theorem Res.lst {p : Addr} {ts : List T} {vs : List V} (r : Res G F H μ (.lst ts) Q) (s : Same F H) (hp : H p = none) (hl : ts.length ≤ sizeLine) (h : Reps G.K F μ ts vs) : Q (.ref p) (upd H p (.lst vs)) := by
  have x := Ext.new (μ := μ) (o := .lst vs) s hp
  refine r _ _ _ x (fun S k => k.new hp) ?_
  simp only [Rep]
  exact ⟨p, vs, rfl, upd_same, hl, x.reps h⟩
theorem RepB.of (h : Rep G.K F μ t v) : RepB G F H μ t v := .inl h
theorem RepB.lst {l : List T} (h : RepB G F H μ (.lst l) v) (s : Same F H) : ∃ a vs, v = .ref a ∧ H a = some (.lst vs) ∧ l.length ≤ sizeLine ∧ Reps G.K F μ l vs := by
  rcases h with h | ⟨a, l', vs, e, h1, h2, h3, h4, _⟩
  · simp only [Rep] at h
    obtain ⟨a, vs, e, q, z, r⟩ := h
    exact ⟨a, vs, e, s _ _ q, z, r⟩
  · cases e
    exact ⟨a, vs, h1, h2, h3, h4⟩
theorem RepB.tup {l : List T} (h : RepB G F H μ (.tup l) v) (s : Same F H) : ∃ a vs, v = .ref a ∧ SqT G.K H a vs ∧ l.length ≤ sizeLine ∧ Reps G.K F μ l vs := by
  rcases h with h | ⟨a, l', vs, e, _⟩
  · simp only [Rep] at h
    obtain ⟨a, vs, e, q, z, r⟩ := h
    exact ⟨a, vs, e, Same.seqT s q, z, r⟩
  · cases e
theorem RepB.int {i : Int} (h : RepB G F H μ (.int i) v) : v = .int i := by
  rcases h with h | ⟨a, l', vs, e, _⟩
  · simpa only [Rep] using h
  · cases e
theorem RepB.bl {i : Bool} (h : RepB G F H μ (.bl i) v) : v = .bl i := by
  rcases h with h | ⟨a, l', vs, e, _⟩
  · simpa only [Rep] using h
  · cases e
theorem RepB.non (h : RepB G F H μ .non v) : v = .non := by
  rcases h with h | ⟨a, l', vs, e, _⟩
  · simpa only [Rep] using h
  · cases e
theorem RepB.str {x : List Nat} (h : RepB G F H μ (.str x) v) : v = .str (tx x) ∧ x.length ≤ sizeLine ∧ ∀ c ∈ x, c < 1114112 := by
  rcases h with h | ⟨a, l', vs, e, _⟩
  · simpa only [Rep] using h
  · cases e
theorem Rep.int' {i : Int} : Rep G.K F μ (.int i) (.int i) := by simp [Rep]
theorem Rep.bl' {i : Bool} : Rep G.K F μ (.bl i) (.bl i) := by simp [Rep]
theorem Rep.non' : Rep G.K F μ .non .non := by simp [Rep]
theorem Rep.str' {x : List Nat} (h : x.length ≤ sizeLine) (c : ∀ c ∈ x, c < 1114112) : Rep G.K F μ (.str x) (.str (tx x)) := by simp only [Rep]; exact ⟨trivial, h, c⟩
end
/-- a rule for two values -/
def R2T (G : Glo) (f : T → T → Option T) : R2 := fun x y H Q => ∃ F μ a b t, Same F H ∧ RepB G F H μ a x ∧ RepB G F H μ b y ∧ f a b = some t ∧ Res G F H μ t Q

section
variable {X : Cx}
/-! ### arithmetic -/
theorem tx_app (x y : List Nat) : tx x ++ tx y = tx (x ++ y) := by
  show (⟨x.toArray ++ y.toArray⟩ : Str) = ⟨(x ++ y).toArray⟩
  simp
def bopE : BOp → Operator
  | .add => .Add | .sub => .Sub | .mul => .Mult | .fdv => .FloorDiv | .mod => .Mod
def copE : COp → CmpOp
  | .eq => .Eq | .ne => .NotEq | .lt => .Lt | .le => .LtE | .gt => .Gt | .ge => .GtE | .inn => .In | .nin => .NotIn | .is => .Is | .isn => .IsNot
theorem o_add {G : Glo} (hG : G.K = X.K) : OpR X (binaryOp .Add) (R2T G T.add) := by
  intro pins s σ H x y v u Q I rx ry h
  obtain ⟨F, μ, a, b, t, sf, ra, rb, e, r⟩ := h
  unfold T.add at e
  split at e
  · cases e
    have := ra.int; have := rb.int; subst_vars
    exact op_add pins s σ H _ _ v u Q I rx ry ⟨_, _, rfl, rfl, r.now Rep.int'⟩
  · split at e
    · cases e
      obtain ⟨rfl, l1, c1⟩ := ra.str
      obtain ⟨rfl, l2, c2⟩ := rb.str
      refine op_add_str pins s σ H _ _ v u Q I rx ry ⟨_, _, rfl, rfl, by rw [tx_len, tx_len]; assumption, ?_⟩
      rw [tx_app]
      exact r.now (Rep.str' (by simpa using ‹_›) fun c hc => (List.mem_append.mp hc).elim (c1 c) (c2 c))
    · cases e
  · rename_i p q
    split at e
    · cases e
      have fa : ∀ {l w}, RepB G F H μ (.tup l) w → Rep G.K F μ (.tup l) w := fun {l w} h => by
        rcases h with h | ⟨_, _, _, e, _⟩
        · exact h
        · cases e
      have ka := fa ra
      have kb := fa rb
      obtain ⟨a, vs, rfl, q1, l1, h1⟩ := ra.tup sf
      obtain ⟨b, ws, rfl, q2, l2, h2⟩ := rb.tup sf
      have e1 := h1.length
      have e2 := h2.length
      refine op_catA pins s σ H _ _ v u Q I rx ry ⟨_, _, vs, ws, rfl, rfl, hG ▸ q1, hG ▸ q2, by omega, fun z => ?_, fun _ z => ?_, fun _ _ p hp => ?_⟩
      · subst z
        have z : p = [] := List.eq_nil_of_length_eq_zero e1.symm
        subst z
        exact r.now kb
      · subst z
        have z : q = [] := List.eq_nil_of_length_eq_zero e2.symm
        subst z
        exact r.now (by simpa using ka)
      · exact r.tup sf hp (by simpa using ‹_›) (h1.append h2)
    · cases e
  · split at e
    · cases e
      obtain ⟨a, vs, rfl, q1, l1, h1⟩ := ra.lst sf
      obtain ⟨b, ws, rfl, q2, l2, h2⟩ := rb.lst sf
      have e1 := h1.length
      have e2 := h2.length
      exact op_cat pins s σ H _ _ v u Q I rx ry ⟨_, _, vs, ws, rfl, rfl, q1, q2, by omega, fun p hp => r.lst sf hp (by simpa using ‹_›) (h1.append h2)⟩
    · cases e
  · cases e
theorem o_sub {G : Glo} : OpR X (binaryOp .Sub) (R2T G T.sub) := by
  intro pins s σ H x y v u Q I rx ry h
  obtain ⟨F, μ, a, b, t, sf, ra, rb, e, r⟩ := h
  unfold T.sub at e
  split at e
  · cases e
    have := ra.int; have := rb.int; subst_vars
    exact op_sub pins s σ H _ _ v u Q I rx ry ⟨_, _, rfl, rfl, r.now Rep.int'⟩
  · cases e
theorem Reps.rep {K : PySem.W.Frag} {F : Hp} {μ : List Addr} {ts : List T} {vs : List V} (h : Reps K F μ ts vs) : ∀ n : Nat, Reps K F μ (List.replicate n ts).flatten (List.replicate n vs).flatten
  | 0 => by simp [Reps]
  | n + 1 => by
    rw [List.replicate_succ, List.replicate_succ, List.flatten_cons, List.flatten_cons]
    exact h.append (Reps.rep h n)
theorem o_mul {G : Glo} (hG : G.K = X.K) : OpR X (binaryOp .Mult) (R2T G T.mul) := by
  intro pins s σ H x y v u Q I rx ry h
  obtain ⟨F, μ, a, b, t, sf, ra, rb, e, r⟩ := h
  unfold T.mul at e
  split at e
  · split at e
    · cases e
      have := ra.int; have := rb.int; subst_vars
      rename_i i j hm
      refine op_mul pins s σ H _ _ v u Q I rx ry ⟨_, _, rfl, rfl, ?_, r.now Rep.int'⟩
      unfold mulOk at hm
      simp only [Bool.or_eq_true, Bool.and_eq_true, decide_eq_true_eq] at hm
      exact hm
    · cases e
  · split at e
    · cases e
      rename_i z k hz
      have := rb.int; subst_vars
      obtain ⟨rfl, l1, c1⟩ := ra.str
      refine op_mulS pins s σ H _ _ v u Q I rx ry ⟨_, _, rfl, rfl, hz.2.2, hz.2.1, hz.1, r.now (Rep.str' ?_ fun c hc => ?_)⟩
      · unfold reps
        rw [PyProof.Rows.lm_len_rep_flat, Nat.mul_comm]
        exact hz.1
      · unfold reps at hc
        rw [List.mem_flatten] at hc
        obtain ⟨l, hl, hc⟩ := hc
        rw [List.eq_of_mem_replicate hl] at hc
        exact c1 c hc
    · cases e
  · split at e
    · cases e
      rename_i z k hz
      have hb := rb.int
      subst hb
      have ka : Rep G.K F μ (.tup z) x := by
        rcases ra with h | ⟨_, _, _, e, _⟩
        · exact h
        · cases e
      obtain ⟨a, vs, rfl, q1, l1, h1⟩ := ra.tup sf
      have e1 := h1.length
      refine op_repA pins s σ H _ _ v u Q I rx ry ⟨_, _, vs, rfl, rfl, hG ▸ q1, fun e => hz.1 ?_, hz.2.2.2, hz.2.2.1, by omega, fun h => ?_, fun h p hp => ?_⟩
      · subst e
        exact List.eq_nil_of_length_eq_zero e1.symm
      · subst h
        refine r.now ?_
        simpa [reps] using ka
      · refine r.tup sf hp ?_ (h1.rep k.toNat)
        unfold reps
        rw [PyProof.Rows.lm_len_rep_flat]
        have : k.toNat * z.length ≤ 1000 * 1000 := Nat.mul_le_mul (by omega) hz.2.1
        have : (1000 * 1000 : Nat) ≤ sizeLine := by decide
        omega
    · cases e
  · split at e
    · cases e
      rename_i z k hz
      have hb := rb.int
      subst hb
      obtain ⟨a, vs, rfl, q1, l1, h1⟩ := ra.lst sf
      have e1 := h1.length
      refine op_rep pins s σ H _ _ v u Q I rx ry ⟨_, _, vs, rfl, rfl, q1, by omega, by omega, by rw [e1]; exact hz.1, fun p hp => r.lst sf hp ?_ (h1.rep k.toNat)⟩
      unfold reps
      rw [PyProof.Rows.lm_len_rep_flat, Nat.mul_comm]
      exact hz.1
    · cases e
  · cases e
theorem o_fdv {G : Glo} : OpR X (binaryOp .FloorDiv) (R2T G T.fdv) := by
  intro pins s σ H x y v u Q I rx ry h
  obtain ⟨F, μ, a, b, t, sf, ra, rb, e, r⟩ := h
  unfold T.fdv at e
  split at e
  · split at e
    · cases e
      have := ra.int; have := rb.int; subst_vars
      exact op_fdiv pins s σ H _ _ v u Q I rx ry ⟨_, _, rfl, rfl, ‹_›, r.now Rep.int'⟩
    · cases e
  · cases e
theorem o_mod {G : Glo} : OpR X (binaryOp .Mod) (R2T G T.mod) := by
  intro pins s σ H x y v u Q I rx ry h
  obtain ⟨F, μ, a, b, t, sf, ra, rb, e, r⟩ := h
  unfold T.mod at e
  split at e
  · split at e
    · cases e
      have := ra.int; have := rb.int; subst_vars
      exact op_mod pins s σ H _ _ v u Q I rx ry ⟨_, _, rfl, rfl, ‹_›, r.now Rep.int'⟩
    · cases e
  · cases e
theorem o_bin {G : Glo} (hG : G.K = X.K) : ∀ o, OpR X (binaryOp (bopE o)) (R2T G (binF o))
  | .add => o_add hG
  | .sub => o_sub
  | .mul => o_mul hG
  | .fdv => o_fdv
  | .mod => o_mod

/-! ### == -/
mutual
theorem Rep.dp {K : PySem.W.Frag} {F H : Hp} {μ : List Addr} (s : Same F H) : ∀ (t : T) {v : V}, Rep K F μ t v → t.dep < 1000 → Dp K H v t.toD
  | .non, v, h, _ => by simp only [Rep] at h; subst h; exact .non
  | .bl b, v, h, _ => by simp only [Rep] at h; subst h; exact .bl b
  | .int i, v, h, _ => by simp only [Rep] at h; subst h; exact .int i
  | .str x, v, h, _ => by simp only [Rep] at h; rw [h.1]; exact .str _
  | .tup l, v, h, d => by
    simp only [Rep] at h
    simp only [T.dep] at d
    obtain ⟨a, vs, rfl, q, z, r⟩ := h
    exact .tup (Same.seqT s q) (Reps.dp s l r (by omega))
  | .lst l, v, h, d => by
    simp only [Rep] at h
    simp only [T.dep] at d
    obtain ⟨a, vs, rfl, q, z, r⟩ := h
    exact .lst (SqL.of (s _ _ q)) (Reps.dp s l r (by omega))
  | .obj _, v, h, d => by simp [T.dep] at d
  | .scr _, v, h, d => by simp [T.dep] at d
theorem Reps.dp {K : PySem.W.Frag} {F H : Hp} {μ : List Addr} (s : Same F H) : ∀ (t : List T) {v : List V}, Reps K F μ t v → T.deps t < 1000 → DpAll K H v (T.toDs t)
  | [], v, h, _ => by simp only [Reps] at h; subst h; exact .nil
  | t :: l, v, h, d => by
    simp only [Reps] at h
    simp only [T.deps] at d
    obtain ⟨v, r, rfl, h1, h2⟩ := h
    have d1 : t.dep < 1000 := Nat.lt_of_le_of_lt (Nat.le_max_left _ _) d
    have d2 : T.deps l < 1000 := Nat.lt_of_le_of_lt (Nat.le_max_right _ _) d
    exact .cons (Rep.dp s t h1 d1) (Reps.dp s l h2 d2)
end
mutual
theorem Rep.lay {K : PySem.W.Frag} {F : Hp} {μ : List Addr} : ∀ (t : T) {v : V}, Rep K F μ t v → t.toD.canLay0 = true
  | .non, v, h => rfl
  | .bl b, v, h => rfl
  | .int i, v, h => rfl
  | .str x, v, h => by
    simp only [Rep] at h
    simp only [T.toD, PyData.canLay0]
    unfold PyData.strOk tx
    have : ∀ l : List Nat, (∀ c ∈ l, c < 1114112) → (l.all fun a => decide (a < 1114112)) = true := fun l h => by
      simpa [List.all_eq_true] using h
    show (x.toArray.all fun a => decide (a < 1114112)) = true
    rw [List.all_toArray]
    exact this x h.2.2
  | .tup l, v, h => by
    simp only [Rep] at h
    obtain ⟨a, vs, _, _, _, r⟩ := h
    simp only [T.toD, PyData.canLay0]
    exact Reps.lay l r
  | .lst l, v, h => by
    simp only [Rep] at h
    obtain ⟨a, vs, _, _, _, r⟩ := h
    simp only [T.toD, PyData.canLay0]
    exact Reps.lay l r
  | .obj _, v, h => rfl
  | .scr _, v, h => rfl
theorem Reps.lay {K : PySem.W.Frag} {F : Hp} {μ : List Addr} : ∀ (t : List T) {v : List V}, Reps K F μ t v → PyData.canLayAll0 (T.toDs t) = true
  | [], v, h => rfl
  | t :: l, v, h => by
    simp only [Reps] at h
    obtain ⟨v, r, rfl, h1, h2⟩ := h
    simp only [T.toDs, PyData.canLayAll0, Rep.lay t h1, Reps.lay l h2, Bool.and_self]
end
mutual
theorem T.toD_dep : ∀ t : T, t.toD.depth ≤ t.dep
  | .non => Nat.le_refl _
  | .bl b => Nat.le_refl _
  | .int i => Nat.le_refl _
  | .str x => Nat.le_refl _
  | .tup l => by simp only [T.toD, PyData.depth, T.dep]; have := T.toDs_dep l; omega
  | .lst l => by simp only [T.toD, PyData.depth, T.dep]; have := T.toDs_dep l; omega
  | .obj _ => by simp [T.toD, PyData.depth, T.dep]
  | .scr _ => by simp [T.toD, PyData.depth, T.dep]
theorem T.toDs_dep : ∀ t : List T, PyData.depthAll (T.toDs t) ≤ T.deps t
  | [] => Nat.le_refl _
  | t :: l => by
    simp only [T.toDs, PyData.depthAll, T.deps]
    have h1 := T.toD_dep t
    have h2 := T.toDs_dep l
    exact Nat.max_le.mpr ⟨Nat.le_trans h1 (Nat.le_max_left _ _), Nat.le_trans h2 (Nat.le_max_right _ _)⟩
end
theorem tx_beq (x y : List Nat) : (tx x == tx y) = (x == y) := by
  by_cases h : x = y
  · subst h; simp
  · rw [beq_eq_false_iff_ne.mpr h, beq_eq_false_iff_ne.mpr fun e => h (tx_inj e)]
mutual
theorem T.toD_eqv : ∀ a b : T, a.dep < 1000 → b.dep < 1000 → PyData.eqv a.toD b.toD = T.eqv a b
  | .tup l, .tup m, h, k => by
    simp only [T.toD, PyData.eqv, T.eqv]
    simp only [T.dep] at h k
    exact T.toDs_eqv l m (by omega) (by omega)
  | .lst l, .lst m, h, k => by
    simp only [T.toD, PyData.eqv, T.eqv]
    simp only [T.dep] at h k
    exact T.toDs_eqv l m (by omega) (by omega)
  | .str x, .str y, _, _ => by simp only [T.toD, PyData.eqv, T.eqv, tx_beq]
  | .obj _, _, h, _ => by simp [T.dep] at h
  | .scr _, _, h, _ => by simp [T.dep] at h
  | .non, b, _, k => by cases b <;> first | rfl | (simp [T.dep] at k; done) | simp [T.toD, PyData.eqv, T.eqv]
  | .bl _, b, _, k => by cases b <;> first | rfl | (simp [T.dep] at k; done) | simp [T.toD, PyData.eqv, T.eqv]
  | .int _, b, _, k => by cases b <;> first | rfl | (simp [T.dep] at k; done) | simp [T.toD, PyData.eqv, T.eqv]
  | .str _, .non, _, _ => by simp [T.toD, PyData.eqv, T.eqv]
  | .str _, .bl _, _, _ => by simp [T.toD, PyData.eqv, T.eqv]
  | .str _, .int _, _, _ => by simp [T.toD, PyData.eqv, T.eqv]
  | .str _, .tup _, _, _ => by simp [T.toD, PyData.eqv, T.eqv]
  | .str _, .lst _, _, _ => by simp [T.toD, PyData.eqv, T.eqv]
  | .str _, .obj _, _, k => by simp [T.dep] at k
  | .str _, .scr _, _, k => by simp [T.dep] at k
  | .tup _, .non, _, _ => by simp [T.toD, PyData.eqv, T.eqv]
  | .tup _, .bl _, _, _ => by simp [T.toD, PyData.eqv, T.eqv]
  | .tup _, .int _, _, _ => by simp [T.toD, PyData.eqv, T.eqv]
  | .tup _, .str _, _, _ => by simp [T.toD, PyData.eqv, T.eqv]
  | .tup _, .lst _, _, _ => by simp [T.toD, PyData.eqv, T.eqv]
  | .tup _, .obj _, _, k => by simp [T.dep] at k
  | .tup _, .scr _, _, k => by simp [T.dep] at k
  | .lst _, .non, _, _ => by simp [T.toD, PyData.eqv, T.eqv]
  | .lst _, .bl _, _, _ => by simp [T.toD, PyData.eqv, T.eqv]
  | .lst _, .int _, _, _ => by simp [T.toD, PyData.eqv, T.eqv]
  | .lst _, .str _, _, _ => by simp [T.toD, PyData.eqv, T.eqv]
  | .lst _, .tup _, _, _ => by simp [T.toD, PyData.eqv, T.eqv]
  | .lst _, .obj _, _, k => by simp [T.dep] at k
  | .lst _, .scr _, _, k => by simp [T.dep] at k
theorem T.toDs_eqv : ∀ a b : List T, T.deps a < 1000 → T.deps b < 1000 → PyData.eqvAll (T.toDs a) (T.toDs b) = T.eqvs a b
  | [], [], _, _ => rfl
  | [], _ :: _, _, _ => rfl
  | _ :: _, [], _, _ => rfl
  | x :: l, y :: m, h, k => by
    simp only [T.toDs, PyData.eqvAll, T.eqvs]
    simp only [T.deps] at h k
    have h1 : x.dep < 1000 := Nat.lt_of_le_of_lt (Nat.le_max_left _ _) h
    have h2 : T.deps l < 1000 := Nat.lt_of_le_of_lt (Nat.le_max_right _ _) h
    have k1 : y.dep < 1000 := Nat.lt_of_le_of_lt (Nat.le_max_left _ _) k
    have k2 : T.deps m < 1000 := Nat.lt_of_le_of_lt (Nat.le_max_right _ _) k
    rw [T.toD_eqv x y h1 k1, T.toDs_eqv l m h2 k2]
end
section
variable {G : Glo} {F H : Hp} {μ : List Addr} {t : T} {v : V}
theorem RepB.dp (h : RepB G F H μ t v) (s : Same F H) (d : t.dep < 1000) : Dp G.K H v t.toD := by
  rcases h with h | ⟨a, l, vs, rfl, rfl, h2, h3, h4, _⟩
  · exact Rep.dp s t h d
  · simp only [T.dep] at d
    exact .lst (SqL.of h2) (Reps.dp s l h4 (by omega))
theorem RepB.lay (h : RepB G F H μ t v) : t.toD.canLay0 = true := by
  rcases h with h | ⟨a, l, vs, rfl, rfl, h2, h3, h4, _⟩
  · exact Rep.lay t h
  · simp only [T.toD, PyData.canLay0]
    exact Reps.lay l h4
end
theorem o_eq {G : Glo} (hG : G.K = X.K) (hu : X.A.units + 128 < cLine) : OpR X (compareOp .Eq) (R2T G (cmpF .eq)) := by
  intro pins s σ H x y v u Q I rx ry h
  obtain ⟨F, μ, a, b, t, sf, ra, rb, e, r⟩ := h
  simp only [cmpF] at e
  split at e
  · cases e
    rename_i hd
    obtain ⟨as, r1⟩ := Dp.reads I _ x v (hG ▸ ra.dp sf (by omega)) rx
    obtain ⟨bs, r2⟩ := Dp.reads I _ y u (hG ▸ rb.dp sf (by omega)) ry
    refine SeqAt.compareEq_reads r1 r2 ra.lay rb.lay ?_ ⟨.bl _, H, I, rfl, ?_⟩
    · have := T.toD_dep a
      omega
    · rw [T.toD_eqv a b (by omega) (by omega)]
      exact r.now Rep.bl'
  · cases e
theorem o_ne {G : Glo} (hG : G.K = X.K) (hu : X.A.units + 128 < cLine) : OpR X (compareOp .NotEq) (R2T G (cmpF .ne)) := by
  intro pins s σ H x y v u Q I rx ry h
  obtain ⟨F, μ, a, b, t, sf, ra, rb, e, r⟩ := h
  simp only [cmpF] at e
  split at e
  · cases e
    rename_i hd
    obtain ⟨as, r1⟩ := Dp.reads I _ x v (hG ▸ ra.dp sf (by omega)) rx
    obtain ⟨bs, r2⟩ := Dp.reads I _ y u (hG ▸ rb.dp sf (by omega)) ry
    refine SeqAt.compareNe_reads r1 r2 ra.lay rb.lay ?_ ⟨.bl _, H, I, rfl, ?_⟩
    · have := T.toD_dep a
      omega
    · rw [T.toD_eqv a b (by omega) (by omega)]
      exact r.now Rep.bl'
  · cases e
theorem toD_ne {a : T} (h : a.isNon = false) (d : a.dep < 1000) : a.toD ≠ .none := by cases a <;> simp [T.toD, T.isNon, T.dep] at *
theorem alike_parts {a b : T} (h : alikeT a b = true) : PySem.W.alike a.toD b.toD = true ∧ a.dep < 64 ∧ b.dep < 64 := by
  simpa only [alikeT, Bool.and_eq_true, decide_eq_true_eq, and_assoc] using h
theorem o_lt {G : Glo} (hG : G.K = X.K) (hu : X.A.units + 128 < cLine) : OpR X (compareOp .Lt) (R2T G (cmpF .lt)) := by
  intro pins s σ H x y v u Q I rx ry h
  obtain ⟨F, μ, a, b, t, sf, ra, rb, e, r⟩ := h
  simp only [cmpF] at e
  unfold T.lt at e
  split at e
  · cases e
    have := ra.int; have := rb.int; subst_vars
    exact op_lt pins s σ H _ _ v u Q I rx ry ⟨_, _, rfl, rfl, r.now Rep.bl'⟩
  · cases e
    obtain ⟨rfl, _, _⟩ := ra.str
    obtain ⟨rfl, _, _⟩ := rb.str
    refine op_lt_str pins s σ H _ _ v u Q I rx ry ⟨_, _, rfl, rfl, ?_⟩
    rw [tx_cps, tx_cps]
    exact r.now Rep.bl'
  · rename_i p q
    split at e
    · cases e
      rename_i hal
      obtain ⟨h1, h2, h3⟩ := alike_parts hal
      obtain ⟨as, r1⟩ := Dp.reads I _ x v (hG ▸ ra.dp sf (by omega)) rx
      obtain ⟨bs, r2⟩ := Dp.reads I _ y u (hG ▸ rb.dp sf (by omega)) ry
      have := T.toD_dep (.tup p)
      refine PySem.W.lt_data r1 r2 h1 (toD_ne rfl (by omega)) (by omega) ⟨.bl _, H, I, rfl, ?_⟩
      exact r.now Rep.bl'
    · cases e
  · cases e
theorem o_le {G : Glo} : OpR X (compareOp .LtE) (R2T G (cmpF .le)) := by
  intro pins s σ H x y v u Q I rx ry h
  obtain ⟨F, μ, a, b, t, sf, ra, rb, e, r⟩ := h
  simp only [cmpF] at e
  unfold T.le at e
  split at e
  · cases e
    have := ra.int; have := rb.int; subst_vars
    exact op_le pins s σ H _ _ v u Q I rx ry ⟨_, _, rfl, rfl, r.now Rep.bl'⟩
  · cases e
    obtain ⟨rfl, _, _⟩ := ra.str
    obtain ⟨rfl, _, _⟩ := rb.str
    refine op_le_str pins s σ H _ _ v u Q I rx ry ⟨_, _, rfl, rfl, ?_⟩
    rw [tx_cps, tx_cps]
    exact r.now Rep.bl'
  · cases e
theorem o_gt {G : Glo} (hG : G.K = X.K) (hu : X.A.units + 128 < cLine) : OpR X (compareOp .Gt) (R2T G (cmpF .gt)) := by
  intro pins s σ H x y v u Q I rx ry h
  obtain ⟨F, μ, a, b, t, sf, ra, rb, e, r⟩ := h
  simp only [cmpF] at e
  unfold T.lt at e
  split at e
  · cases e
    have := ra.int; have := rb.int; subst_vars
    exact op_gt pins s σ H _ _ v u Q I rx ry ⟨_, _, rfl, rfl, r.now Rep.bl'⟩
  · cases e
    obtain ⟨rfl, _, _⟩ := ra.str
    obtain ⟨rfl, _, _⟩ := rb.str
    refine op_gt_str pins s σ H _ _ v u Q I rx ry ⟨_, _, rfl, rfl, ?_⟩
    rw [tx_cps, tx_cps]
    exact r.now Rep.bl'
  · rename_i p q
    split at e
    · cases e
      rename_i hal
      obtain ⟨h1, h2, h3⟩ := alike_parts hal
      obtain ⟨as, r1⟩ := Dp.reads I _ x v (hG ▸ ra.dp sf (by omega)) rx
      obtain ⟨bs, r2⟩ := Dp.reads I _ y u (hG ▸ rb.dp sf (by omega)) ry
      have := T.toD_dep (.tup q)
      refine PySem.W.gt_data r1 r2 (by rw [PySem.W.alike_comm]; exact h1) (toD_ne rfl (by omega)) (by omega) ⟨.bl _, H, I, rfl, ?_⟩
      exact r.now Rep.bl'
    · cases e
  · cases e
theorem o_ge {G : Glo} : OpR X (compareOp .GtE) (R2T G (cmpF .ge)) := by
  intro pins s σ H x y v u Q I rx ry h
  obtain ⟨F, μ, a, b, t, sf, ra, rb, e, r⟩ := h
  simp only [cmpF] at e
  unfold T.le at e
  split at e
  · cases e
    have := ra.int; have := rb.int; subst_vars
    exact op_ge pins s σ H _ _ v u Q I rx ry ⟨_, _, rfl, rfl, r.now Rep.bl'⟩
  · cases e
    obtain ⟨rfl, _, _⟩ := ra.str
    obtain ⟨rfl, _, _⟩ := rb.str
    refine op_ge_str pins s σ H _ _ v u Q I rx ry ⟨_, _, rfl, rfl, ?_⟩
    rw [tx_cps, tx_cps]
    exact r.now Rep.bl'
  · cases e
theorem toDs_any {a : T} (ha : a.dep < 1000) : ∀ {l : List T}, T.deps l < 1000 → ((T.toDs l).any fun y => PyData.eqv y a.toD) = l.any fun y => T.eqv y a
  | [], _ => rfl
  | t :: l, h => by
    simp only [T.deps] at h
    have h1 : t.dep < 1000 := Nat.lt_of_le_of_lt (Nat.le_max_left _ _) h
    have h2 : T.deps l < 1000 := Nat.lt_of_le_of_lt (Nat.le_max_right _ _) h
    rw [T.toDs, List.any_cons, List.any_cons, T.toD_eqv t a h1 ha, toDs_any ha h2]
theorem RepB.lays {G : Glo} {F H : Hp} {μ : List Addr} {l : List T} {v : V} (h : RepB G F H μ (.tup l) v ∨ RepB G F H μ (.lst l) v) : PyData.canLayAll0 (T.toDs l) = true := by
  rcases h with h | h
  · have := h.lay; simpa only [T.toD, PyData.canLay0] using this
  · have := h.lay; simpa only [T.toD, PyData.canLay0] using this
theorem o_inn {G : Glo} (hG : G.K = X.K) (hu : X.A.units + 128 < cLine) : OpR X (compareOp .In) (R2T G (cmpF .inn)) := by
  intro pins s σ H x y v u Q I rx ry h
  obtain ⟨F, μ, a, b, t, sf, ra, rb, e, r⟩ := h
  simp only [cmpF] at e
  unfold T.inn at e
  split at e
  · cases e
    obtain ⟨rfl, _, _⟩ := ra.str
    obtain ⟨rfl, _, _⟩ := rb.str
    refine op_in_sign pins s σ H _ _ v u Q I rx ry ⟨_, _, rfl, rfl, ?_⟩
    rw [tx_cps, ← List.contains_eq_mem]
    exact r.now Rep.bl'
  · split at e
    · rename_i hd
      cases e
      obtain ⟨as, r1⟩ := Dp.reads I _ x v (hG ▸ ra.dp sf (by omega)) rx
      obtain ⟨bs, r2⟩ := Dp.reads I _ y u (hG ▸ rb.dp sf (by simp only [T.dep]; omega)) ry
      have := T.toD_dep a
      refine SeqAt.in_tuple_reads r2 r1 (RepB.lays (.inl rb)) ra.lay (by omega) ⟨.bl _, H, I, rfl, ?_⟩
      rw [toDs_any (by omega) (by omega)]
      exact r.now Rep.bl'
    · cases e
  · split at e
    · rename_i hd
      cases e
      obtain ⟨as, r1⟩ := Dp.reads I _ x v (hG ▸ ra.dp sf (by omega)) rx
      obtain ⟨bs, r2⟩ := Dp.reads I _ y u (hG ▸ rb.dp sf (by simp only [T.dep]; omega)) ry
      have := T.toD_dep a
      refine SeqAt.in_list_reads r2 r1 (RepB.lays (.inr rb)) ra.lay (by omega) ⟨.bl _, H, I, rfl, ?_⟩
      rw [toDs_any (by omega) (by omega)]
      exact r.now Rep.bl'
    · cases e
  · cases e
theorem o_nin {G : Glo} (hG : G.K = X.K) (hu : X.A.units + 128 < cLine) : OpR X (compareOp .NotIn) (R2T G (cmpF .nin)) := by
  intro pins s σ H x y v u Q I rx ry h
  obtain ⟨F, μ, a, b, t, sf, ra, rb, e, r⟩ := h
  simp only [cmpF] at e
  unfold T.inn at e
  split at e
  · cases e
    obtain ⟨rfl, _, _⟩ := ra.str
    obtain ⟨rfl, _, _⟩ := rb.str
    refine op_notIn_sign pins s σ H _ _ v u Q I rx ry ⟨_, _, rfl, rfl, ?_⟩
    rw [tx_cps, ← List.contains_eq_mem]
    exact r.now Rep.bl'
  · split at e
    · rename_i hd
      cases e
      obtain ⟨as, r1⟩ := Dp.reads I _ x v (hG ▸ ra.dp sf (by omega)) rx
      obtain ⟨bs, r2⟩ := Dp.reads I _ y u (hG ▸ rb.dp sf (by simp only [T.dep]; omega)) ry
      have := T.toD_dep a
      refine SeqAt.notIn_tuple_reads r2 r1 (RepB.lays (.inl rb)) ra.lay (by omega) ⟨.bl _, H, I, rfl, ?_⟩
      rw [toDs_any (by omega) (by omega)]
      exact r.now Rep.bl'
    · cases e
  · split at e
    · rename_i hd
      cases e
      obtain ⟨as, r1⟩ := Dp.reads I _ x v (hG ▸ ra.dp sf (by omega)) rx
      obtain ⟨bs, r2⟩ := Dp.reads I _ y u (hG ▸ rb.dp sf (by simp only [T.dep]; omega)) ry
      have := T.toD_dep a
      refine SeqAt.notIn_list_reads r2 r1 (RepB.lays (.inr rb)) ra.lay (by omega) ⟨.bl _, H, I, rfl, ?_⟩
      rw [toDs_any (by omega) (by omega)]
      exact r.now Rep.bl'
    · cases e
  · cases e
theorem RepB.isNon {G : Glo} {F H : Hp} {μ : List Addr} {t : T} {v : V} (h : RepB G F H μ t v) : decide (v = .non) = t.isNon := by
  rcases h with h | ⟨a, l, vs, rfl, rfl, h2, h3, h4, _⟩
  · cases t <;> simp only [Rep] at h <;> first
      | (subst h; rfl)
      | (rw [h.1]; rfl)
      | (obtain ⟨_, _, rfl, _⟩ := h; rfl)
      | (obtain ⟨_, rfl, _⟩ := h; rfl)
  · rfl
theorem o_is {G : Glo} : OpR X (compareOp .Is) (R2T G (cmpF .is)) := by
  intro pins s σ H x y v u Q I rx ry h
  obtain ⟨F, μ, a, b, t, sf, ra, rb, e, r⟩ := h
  unfold cmpF at e
  split at e <;> first | (cases ‹COp.is = _›; done) | skip
  · cases e
    have hb := rb.non; subst hb
    refine op_isN pins s σ H _ _ v u Q I rx ry ⟨rfl, ?_⟩
    rw [ra.isNon]
    exact r.now Rep.bl'
  · cases e
    have hb := rb.bl; have ha := ra.bl; subst ha hb
    refine op_is_bl pins s σ H _ _ _ _ Q I rx ry ⟨_, _, rfl, rfl, ?_⟩
    rw [← Bool.beq_eq_decide_eq]
    exact r.now Rep.bl'
  · cases e
theorem o_isn {G : Glo} : OpR X (compareOp .IsNot) (R2T G (cmpF .isn)) := by
  intro pins s σ H x y v u Q I rx ry h
  obtain ⟨F, μ, a, b, t, sf, ra, rb, e, r⟩ := h
  unfold cmpF at e
  split at e <;> first | (cases ‹COp.isn = _›; done) | skip
  · cases e
    have hb := rb.non; subst hb
    refine op_notN pins s σ H _ _ v u Q I rx ry ⟨rfl, ?_⟩
    rw [ra.isNon]
    exact r.now Rep.bl'
  · cases e
    have hb := rb.bl; have ha := ra.bl; subst ha hb
    refine op_isnot_bl pins s σ H _ _ _ _ Q I rx ry ⟨_, _, rfl, rfl, ?_⟩
    rw [← Bool.beq_eq_decide_eq]
    exact r.now Rep.bl'
  · cases e
theorem o_cmp {G : Glo} (hG : G.K = X.K) (hu : X.A.units + 128 < cLine) : ∀ o, OpR X (compareOp (copE o)) (R2T G (cmpF o))
  | .eq => o_eq hG hu
  | .ne => o_ne hG hu
  | .lt => o_lt hG hu
  | .le => o_le
  | .gt => o_gt hG hu
  | .ge => o_ge
  | .inn => o_inn hG hu
  | .nin => o_nin hG hu
  | .is => o_is
  | .isn => o_isn
end
end Ly
namespace Ly
open PySem PySem.Spec L2
open PyProof.Rows hiding St
theorem h_allInt_map2 : ∀ {l : List T} {ns : List Int}, allInt l = some ns → l = ns.map fun i => T.int i
  | [], ns, e => by simp [allInt] at e; subst e; rfl
  | t :: l, ns, e => by
    cases t with
    | int i =>
      simp only [allInt, Option.map_eq_some_iff] at e
      obtain ⟨m, h, rfl⟩ := e
      rw [h_allInt_map2 h, List.map_cons]
    | _ => simp [allInt] at e
theorem kyT_tK {t : T} {k : Int × List Int} (h : kyT t = some k) : t = tK k := by
  unfold kyT at h
  split at h
  · simp only [Option.map_eq_some_iff] at h
    obtain ⟨ns, h, rfl⟩ := h
    rw [h_allInt_map2 h]
    rfl
  · cases h
theorem allKy_map : ∀ {l : List T} {ks : List (Int × List Int)}, allKy l = some ks → l = ks.map tK
  | [], ks, e => by simp [allKy] at e; subst e; rfl
  | t :: l, ks, e => by
    simp only [allKy, Option.bind_eq_some_iff, Option.map_eq_some_iff] at e
    obtain ⟨k, h1, m, h2, rfl⟩ := e
    rw [List.map_cons, ← kyT_tK h1, ← allKy_map h2]
def dK (k : Int × List Int) : PyData := .tuple [.int k.1, .tuple (k.2.map .int)]
theorem toDs_ints : ∀ l : List Int, T.toDs (l.map fun i => T.int i) = l.map PyData.int
  | [] => rfl
  | i :: l => by rw [List.map_cons, List.map_cons, T.toDs, toDs_ints l]; rfl
theorem tK_toD (k : Int × List Int) : (tK k).toD = dK k := by simp only [tK, T.toD, T.toDs, toDs_ints]; rfl
theorem tKs_toDs : ∀ l : List (Int × List Int), T.toDs (l.map tK) = l.map dK
  | [] => rfl
  | i :: l => by rw [List.map_cons, List.map_cons, T.toDs, tKs_toDs l, tK_toD]
theorem deps_ints : ∀ l : List Int, T.deps (l.map fun i => T.int i) = 0
  | [] => rfl
  | i :: l => by rw [List.map_cons, T.deps, deps_ints l]; rfl
theorem tK_dep (k : Int × List Int) : (tK k).dep ≤ 10 := by
  simp only [tK, T.dep, T.deps, deps_ints]
  decide
theorem tKs_deps : ∀ l : List (Int × List Int), T.deps (l.map tK) ≤ 10
  | [] => Nat.zero_le _
  | i :: l => by
    rw [List.map_cons, T.deps]
    exact Nat.max_le.mpr ⟨tK_dep i, tKs_deps l⟩
theorem dK_inj {a b : Int × List Int} (h : dK a = dK b) : a = b := by
  simp only [dK, PyData.tuple.injEq, List.cons.injEq, PyData.int.injEq, and_true] at h
  obtain ⟨h1, h2⟩ := h
  refine Prod.ext h1 ?_
  exact (List.map_inj_right fun x y e => by injection e).mp h2
theorem dK_lt (a b : Int × List Int) : PySem.W.dataLt (dK a) (dK b) = ltK a b := by
  unfold dK ltK
  rw [PySem.W.dataLt_pair (by simp [PySem.W.alike]) (by simp only [PySem.W.alike]; exact PySem.W.alike_ints _ _), PySem.W.dataLt_int, PySem.W.dataLt_tuple]
  have e := PySem.W.dataLt_ints a.2 b.2
  unfold PySem.W.rowLt at e
  rw [e]
  have q : PyData.eqv (.tuple (a.2.map .int)) (.tuple (b.2.map .int)) = true → a.2 = b.2 := fun h => by
    simp only [PyData.eqv] at h
    have : ∀ l m : List Int, PyData.eqvAll (l.map .int) (m.map .int) = true → l = m := by
      intro l
      induction l with
      | nil => intro m h; cases m with | nil => rfl | cons => simp [PyData.eqvAll] at h
      | cons x l ih => intro m h; cases m with
        | nil => simp [PyData.eqvAll] at h
        | cons y m =>
          simp only [List.map_cons, PyData.eqvAll, PyData.eqv, Bool.and_eq_true, beq_iff_eq] at h
          rw [h.1, ih m h.2]
    exact this _ _ h
  have e1 : (PyData.eqv (.int a.1) (.int b.1) = true) = (a.1 = b.1) := by simp [PyData.eqv]
  have ir : ¬ b.2 < b.2 := List.lt_irrefl _
  cases h : PyData.eqv (.tuple (a.2.map .int)) (.tuple (b.2.map .int)) with
  | true =>
    rw [if_pos rfl, q h]
    by_cases h1 : a.1 = b.1 <;> simp [PyData.eqv, h1, ir]
  | false =>
    rw [if_neg Bool.false_ne_true]
    by_cases h1 : a.1 = b.1 <;> simp [PyData.eqv, h1]
theorem dK_min (x : Int × List Int) (r : List (Int × List Int)) : PySem.W.minD (dK x) (r.map dK) = dK (minK x r) := by
  unfold PySem.W.minD minK
  induction r generalizing x with
  | nil => rfl
  | cons y r ih =>
    rw [List.map_cons, List.foldl_cons, List.foldl_cons, dK_lt, ← ih]
    split <;> rfl
theorem readsAll_get {h : Heap} : ∀ {vs : List Value} {xs : List PyData} {as : List Addr}, ReadsAll h vs xs as → ∀ (i : Nat) (v : Value), vs[i]? = some v → ∃ d bs, xs[i]? = some d ∧ Reads h v d bs
  | _, _, _, .nil, _, _, hv => by simp at hv
  | _, _, _, .cons r rs, 0, v, hv => by
    cases Option.some.inj (show some _ = some v from hv)
    exact ⟨_, _, rfl, r⟩
  | _, _, _, .cons r rs, i + 1, v, hv => by
    obtain ⟨d, bs, a, b⟩ := readsAll_get rs i v (by simpa using hv)
    exact ⟨d, bs, by simpa using a, b⟩
theorem vals_get : ∀ {vs : List V} {us : List Value}, Vals vs us → ∀ (i : Nat) (u : Value), us[i]? = some u → ∃ v, vs[i]? = some v ∧ RelV v u
  | _, _, .nil, _, _, h => by simp at h
  | _, _, .cons r rs, 0, u, h => by
    cases Option.some.inj (show some _ = some u from h)
    exact ⟨_, rfl, r⟩
  | _, _, .cons r rs, i + 1, u, h => by
    obtain ⟨v, a, b⟩ := vals_get rs i u (by simpa using h)
    exact ⟨v, by simpa using a, b⟩
theorem tKs_alike (l : List (Int × List Int)) : PySem.W.AlikeAll (l.map dK) := by
  refine ⟨fun x hx y hy => ?_, fun x hx => ?_⟩
  · obtain ⟨a, _, rfl⟩ := List.mem_map.mp hx
    obtain ⟨b, _, rfl⟩ := List.mem_map.mp hy
    simp only [dK, PySem.W.alike, PySem.W.alikeAll, Bool.true_and, Bool.and_true]
    exact PySem.W.alike_ints _ _
  · obtain ⟨a, _, rfl⟩ := List.mem_map.mp hx
    simp [dK]
/-- min(l), couples of a number and a tuple of numbers -/
theorem min_keys {X : Cx} {pins : List (Addr × Obj)} {s : Shared} {σ : St} {H F : Hp} {K : PySem.W.Frag} {μ : List Addr} (hc : X.calm = true) (hu : X.A.units + 128 < cLine) (hK : K = X.K) (sf : Same F H) {a : Addr} {vs : List V} {us : List Value} {x : Int × List Int} {r : List (Int × List Int)} (I : Inv X pins σ H s) (rv : Vals [V.ref a] us) (q : SqL X.K H a vs) (rs : Reps K F μ ((x :: r).map tK) vs) {Q : VK}
    (h : ∀ v, Rep K F μ (tK (minK x r)) v → Q v H) : wpAny (model X.prog X.w) X.A (call (.builtin "min") us) (EP X pins σ Q) X.xe s := by
  have D : DpAll X.K H vs ((x :: r).map dK) := by
    rw [← tKs_toDs, ← hK]
    exact Reps.dp sf _ rs (by have := tKs_deps (x :: r); omega)
  obtain ⟨its, rv2, hl, _⟩ := I.list q
  obtain ⟨as, R⟩ := Dp.readsAll I _ _ _ D rv2
  rw [Vals.ref1 rv]
  refine PySem.W.min_list_data (I.ok.hd hc) hl.isList (by rw [List.map_cons] at R; exact R) (tKs_alike (x :: r)) ?_ fun i v h' tk bs hv hr hk => ?_
  · have := T.toDs_dep ((x :: r).map tK)
    rw [tKs_toDs] at this
    have := tKs_deps (x :: r)
    simp only [List.map_cons] at *
    omega
  · have hv : its[i]? = some v := by simpa using hv
    obtain ⟨w, hw, rw⟩ := vals_get rv2 i v hv
    obtain ⟨d, cs, hd, rd⟩ := readsAll_get R i v hv
    have := (PyProof.Rows.reads_det (fun b o e _ => hk b o e) rd hr).1
    rw [dK_min] at this
    subst this
    rw [List.getElem?_map] at hd
    obtain ⟨k, hk1, hk2⟩ := Option.map_eq_some_iff.mp hd
    have := dK_inj hk2
    subst this
    obtain ⟨w', hw', hr'⟩ := Reps.get rs (i := i) (t := tK (minK x r)) (by rw [List.getElem?_map, hk1]; rfl)
    rw [hw] at hw'
    cases hw'
    exact ⟨w, H, I.kept hk, rw, h w hr'⟩
/-! ### least, greatest of alike data -/
mutual
theorem T.toD_inj : ∀ (a b : T), a.dep < 1000 → b.dep < 1000 → a.toD = b.toD → a = b
  | .tup l, b, h, k, e => by
    cases b <;> simp only [T.toD, reduceCtorEq, PyData.tuple.injEq] at e
    simp only [T.dep] at h k
    rw [T.toDs_inj l _ (by omega) (by omega) e]
  | .lst l, b, h, k, e => by
    cases b <;> simp only [T.toD, reduceCtorEq, PyData.list.injEq] at e
    simp only [T.dep] at h k
    rw [T.toDs_inj l _ (by omega) (by omega) e]
  | .str x, b, h, k, e => by
    cases b <;> simp only [T.toD, reduceCtorEq, PyData.str.injEq] at e
    rw [tx_inj e]
  | .int i, b, h, k, e => by
    cases b <;> simp only [T.toD, reduceCtorEq, PyData.int.injEq] at e
    rw [e]
  | .bl i, b, h, k, e => by
    cases b <;> simp only [T.toD, reduceCtorEq, PyData.bool.injEq] at e
    rw [e]
  | .non, b, h, k, e => by
    cases b <;> simp only [T.toD, reduceCtorEq] at e <;> first | rfl | (simp [T.dep] at k)
  | .obj _, b, h, k, e => by simp [T.dep] at h
  | .scr _, b, h, k, e => by simp [T.dep] at h
theorem T.toDs_inj : ∀ (a b : List T), T.deps a < 1000 → T.deps b < 1000 → T.toDs a = T.toDs b → a = b
  | [], [], _, _, _ => rfl
  | [], _ :: _, _, _, e => by simp [T.toDs] at e
  | _ :: _, [], _, _, e => by simp [T.toDs] at e
  | x :: l, y :: m, h, k, e => by
    simp only [T.toDs, List.cons.injEq] at e
    simp only [T.deps] at h k
    have h1 : x.dep < 1000 := Nat.lt_of_le_of_lt (Nat.le_max_left _ _) h
    have h2 : T.deps l < 1000 := Nat.lt_of_le_of_lt (Nat.le_max_right _ _) h
    have k1 : y.dep < 1000 := Nat.lt_of_le_of_lt (Nat.le_max_left _ _) k
    have k2 : T.deps m < 1000 := Nat.lt_of_le_of_lt (Nat.le_max_right _ _) k
    rw [T.toD_inj x y h1 k1 e.1, T.toDs_inj l m h2 k2 e.2]
end
theorem toDs_map : ∀ l : List T, T.toDs l = l.map T.toD
  | [] => rfl
  | t :: l => by rw [T.toDs, toDs_map l]; rfl
theorem h_deps_of : ∀ {l : List T}, (∀ t ∈ l, t.dep < 64) → T.deps l < 64
  | [], _ => by simp [T.deps]
  | t :: l, h => by
    rw [T.deps]
    exact Nat.max_lt.mpr ⟨h t List.mem_cons_self, h_deps_of fun u hu => h u (List.mem_cons_of_mem _ hu)⟩
theorem alikeL_parts {l : List T} (h : alikeL l = true) : (∀ x ∈ l, ∀ y ∈ l, PySem.W.alike x.toD y.toD = true) ∧ (∀ x ∈ l, x.dep < 64) ∧ ∀ x ∈ l, x.isNon = false := by
  simp only [alikeL, Bool.and_eq_true, List.all_eq_true, Bool.not_eq_true'] at h
  exact ⟨fun x hx y hy => (alike_parts (h.1 x hx y hy)).1, fun x hx => (alike_parts (h.1 x hx x hx)).2.1, h.2⟩
theorem alikeL_all {l : List T} (h : alikeL l = true) : PySem.W.AlikeAll (l.map T.toD) := by
  obtain ⟨h1, h2, h3⟩ := alikeL_parts h
  refine ⟨fun x hx y hy => ?_, fun x hx => ?_⟩
  · obtain ⟨a, ha, rfl⟩ := List.mem_map.mp hx
    obtain ⟨b, hb, rfl⟩ := List.mem_map.mp hy
    exact h1 a ha b hb
  · obtain ⟨a, ha, rfl⟩ := List.mem_map.mp hx
    exact toD_ne (h3 a ha) (by have := h2 a ha; omega)
theorem fold_mem {f : T → T → Bool} : ∀ (r : List T) (x : T), r.foldl (fun a y => if f a y then y else a) x ∈ x :: r
  | [], x => List.mem_cons_self
  | y :: r, x => by
    have := fold_mem (f := f) r (if f x y then y else x)
    rw [List.foldl_cons]
    rcases List.mem_cons.mp this with h | h
    · rw [h]
      split
      · exact List.mem_cons_of_mem _ List.mem_cons_self
      · exact List.mem_cons_self
    · exact List.mem_cons_of_mem _ (List.mem_cons_of_mem _ h)
theorem fold_toD {f : T → T → Bool} {g : PyData → PyData → Bool} (hg : ∀ a b : T, f a b = g a.toD b.toD) : ∀ (r : List T) (x : T), (r.map T.toD).foldl (fun a y => if g a y then y else a) x.toD = (r.foldl (fun a y => if f a y then y else a) x).toD
  | [], x => rfl
  | y :: r, x => by
    rw [List.map_cons, List.foldl_cons, List.foldl_cons, ← hg]
    have : (if f x y then y.toD else x.toD) = (if f x y then y else x).toD := by split <;> rfl
    rw [this]
    exact fold_toD hg r _
theorem gen_item {pins : List (Addr × Obj)} {X : Cx} {s : Shared} {σ : St} {H F : Hp} {K : PySem.W.Frag} {μ : List Addr} {h' : Heap} {tk : Nat} {its : List Value} {vs : List V} {l : List T} {m : T} {as : List Addr} {i : Nat} {v : Value} {bs : List Addr} {Q : VK}
    (I : Inv X pins σ H s) (rv2 : Vals vs its) (R : ReadsAll s.heap its (l.map T.toD) as) (rs : Reps K F μ l vs) (al : alikeL l = true) (hm : m ∈ l) (hv : its[i]? = some v) (hr : Reads h' v m.toD bs) (hk : ∀ b o, s.heap.get? b = some o → h'.get? b = some o)
    (h : ∀ v, Rep K F μ m v → Q v H) : EP X pins σ Q v { s with heap := h', toks := tk } := by
  obtain ⟨_, h2, _⟩ := alikeL_parts al
  obtain ⟨w, hw, rw⟩ := vals_get rv2 i v hv
  obtain ⟨d, cs, hd, rd⟩ := readsAll_get R i v hv
  have := (PyProof.Rows.reads_det (fun b o e _ => hk b o e) rd hr).1
  subst this
  rw [List.getElem?_map] at hd
  obtain ⟨k, hk1, hk2⟩ := Option.map_eq_some_iff.mp hd
  have hkm := List.mem_of_getElem? hk1
  have := T.toD_inj k m (by have := h2 k hkm; omega) (by have := h2 m hm; omega) hk2
  subst this
  obtain ⟨w', hw', hr'⟩ := Reps.get rs (i := i) (t := k) hk1
  rw [hw] at hw'
  cases hw'
  exact ⟨w, H, I.kept hk, rw, h w hr'⟩
theorem min_gen {X : Cx} {pins : List (Addr × Obj)} {s : Shared} {σ : St} {H F : Hp} {K : PySem.W.Frag} {μ : List Addr} (hc : X.calm = true) (hu : X.A.units + 128 < cLine) (hK : K = X.K) (sf : Same F H) {a : Addr} {vs : List V} {us : List Value} {x : T} {r : List T} (I : Inv X pins σ H s) (rv : Vals [V.ref a] us) (q : SqL X.K H a vs) (rs : Reps K F μ (x :: r) vs) (al : alikeL (x :: r) = true) {Q : VK}
    (h : ∀ v, Rep K F μ (r.foldl (fun a y => if ltT y a then y else a) x) v → Q v H) : wpAny (model X.prog X.w) X.A (call (.builtin "min") us) (EP X pins σ Q) X.xe s := by
  obtain ⟨_, h2, _⟩ := alikeL_parts al
  have dp := h_deps_of h2
  have D : DpAll X.K H vs ((x :: r).map T.toD) := by
    rw [← toDs_map, ← hK]
    exact Reps.dp sf _ rs (by omega)
  obtain ⟨its, rv2, hl, _⟩ := I.list q
  obtain ⟨as, R⟩ := Dp.readsAll I _ _ _ D rv2
  rw [Vals.ref1 rv]
  refine PySem.W.min_list_data (I.ok.hd hc) hl.isList (by rw [List.map_cons] at R; exact R) (alikeL_all al) ?_ fun i v h' tk bs hv hr hk => ?_
  · have := T.toDs_dep (x :: r)
    rw [toDs_map] at this
    simp only [List.map_cons] at *
    omega
  · refine gen_item (bs := bs) I rv2 R rs al (fold_mem (f := fun a y => ltT y a) r x) (by simpa using hv) ?_ hk h
    rw [← fold_toD (f := fun a y => ltT y a) (g := fun a y => PySem.W.dataLt y a) fun _ _ => rfl]
    exact hr
theorem max_gen {X : Cx} {pins : List (Addr × Obj)} {s : Shared} {σ : St} {H F : Hp} {K : PySem.W.Frag} {μ : List Addr} (hc : X.calm = true) (hu : X.A.units + 128 < cLine) (hK : K = X.K) (sf : Same F H) {a : Addr} {vs : List V} {us : List Value} {x : T} {r : List T} (I : Inv X pins σ H s) (rv : Vals [V.ref a] us) (q : SqL X.K H a vs) (rs : Reps K F μ (x :: r) vs) (al : alikeL (x :: r) = true) {Q : VK}
    (h : ∀ v, Rep K F μ (r.foldl (fun a y => if ltT a y then y else a) x) v → Q v H) : wpAny (model X.prog X.w) X.A (call (.builtin "max") us) (EP X pins σ Q) X.xe s := by
  obtain ⟨_, h2, _⟩ := alikeL_parts al
  have dp := h_deps_of h2
  have D : DpAll X.K H vs ((x :: r).map T.toD) := by
    rw [← toDs_map, ← hK]
    exact Reps.dp sf _ rs (by omega)
  obtain ⟨its, rv2, hl, _⟩ := I.list q
  obtain ⟨as, R⟩ := Dp.readsAll I _ _ _ D rv2
  rw [Vals.ref1 rv]
  refine PySem.W.max_list_data (I.ok.hd hc) hl.isList (by rw [List.map_cons] at R; exact R) (alikeL_all al) ?_ fun i v h' tk bs hv hr hk => ?_
  · have := T.toDs_dep (x :: r)
    rw [toDs_map] at this
    simp only [List.map_cons] at *
    omega
  · refine gen_item (bs := bs) I rv2 R rs al (fold_mem (f := fun a y => ltT a y) r x) (by simpa using hv) ?_ hk h
    rw [← fold_toD (f := fun a y => ltT a y) (g := fun a y => PySem.W.dataLt a y) fun _ _ => rfl]
    exact hr
end Ly
namespace Ly
open PySem PySem.Spec L2
open PyProof.Rows hiding St

/-! ### several values for a look -/
def RepBs (G : Glo) (F H : Hp) (μ : List Addr) : List T → List V → Prop
  | [], vs => vs = []
  | t :: ts, vs => ∃ v r, vs = v :: r ∧ RepB G F H μ t v ∧ RepBs G F H μ ts r
def RLT (G : Glo) (f : List T → Option T) : List V → Hp → VK → Prop := fun xs H Q => ∃ F μ ts t, Same F H ∧ RepBs G F H μ ts xs ∧ f ts = some t ∧ Res G F H μ t Q
section
variable {G : Glo} {F H : Hp} {μ : List Addr}
theorem RepBs.one {t : T} {xs : List V} (h : RepBs G F H μ [t] xs) : ∃ v, xs = [v] ∧ RepB G F H μ t v := by
  simp only [RepBs] at h
  obtain ⟨v, r, rfl, h1, rfl⟩ := h
  exact ⟨v, rfl, h1⟩
theorem RepBs.two {t u : T} {xs : List V} (h : RepBs G F H μ [t, u] xs) : ∃ v w, xs = [v, w] ∧ RepB G F H μ t v ∧ RepB G F H μ u w := by
  simp only [RepBs] at h
  obtain ⟨v, r, rfl, h1, w, r', rfl, h2, rfl⟩ := h
  exact ⟨v, w, rfl, h1, h2⟩
theorem RepBs.three {t u r : T} {xs : List V} (h : RepBs G F H μ [t, u, r] xs) : ∃ v w z, xs = [v, w, z] ∧ RepB G F H μ t v ∧ RepB G F H μ u w ∧ RepB G F H μ r z := by
  simp only [RepBs] at h
  obtain ⟨v, _, rfl, h1, w, _, rfl, h2, z, _, rfl, h3, rfl⟩ := h
  exact ⟨v, w, z, rfl, h1, h2, h3⟩
theorem h_allInt_map : ∀ {l : List T} {ns : List Int}, allInt l = some ns → l = ns.map T.int
  | [], ns, e => by simp [allInt] at e; subst e; rfl
  | t :: l, ns, e => by
    cases t with
    | int i =>
      simp only [allInt, Option.map_eq_some_iff] at e
      obtain ⟨m, h, rfl⟩ := e
      rw [h_allInt_map h, List.map_cons]
    | _ => simp [allInt] at e
theorem h_allBl_map : ∀ {l : List T} {ns : List Bool}, allBl l = some ns → l = ns.map T.bl
  | [], ns, e => by simp [allBl] at e; subst e; rfl
  | t :: l, ns, e => by
    cases t with
    | bl i =>
      simp only [allBl, Option.map_eq_some_iff] at e
      obtain ⟨m, h, rfl⟩ := e
      rw [h_allBl_map h, List.map_cons]
    | _ => simp [allBl] at e
theorem h_allStr_map : ∀ {l : List T} {ns : List (List Nat)}, allStr l = some ns → l = ns.map T.str
  | [], ns, e => by simp [allStr] at e; subst e; rfl
  | t :: l, ns, e => by
    cases t with
    | str i =>
      simp only [allStr, Option.map_eq_some_iff] at e
      obtain ⟨m, h, rfl⟩ := e
      rw [h_allStr_map h, List.map_cons]
    | _ => simp [allStr] at e
theorem maxI_spec : ∀ (l : List Int), l ≠ [] → maxI l ∈ l ∧ ∀ y ∈ l, y ≤ maxI l
  | [], h => absurd rfl h
  | [a], _ => by simp [maxI]
  | a :: b :: l, _ => by
    obtain ⟨h1, h2⟩ := maxI_spec (b :: l) (by simp)
    simp only [maxI]
    constructor
    · by_cases h : a ≤ maxI (b :: l)
      · rw [Int.max_eq_right h]; exact List.mem_cons_of_mem _ h1
      · rw [Int.max_eq_left (by omega)]; exact List.mem_cons_self
    · intro y hy
      rcases List.mem_cons.mp hy with rfl | hy
      · exact Int.le_max_left _ _
      · exact Int.le_trans (h2 y hy) (Int.le_max_right _ _)
theorem minI_spec : ∀ (l : List Int), l ≠ [] → minI l ∈ l ∧ ∀ y ∈ l, minI l ≤ y
  | [], h => absurd rfl h
  | [a], _ => by simp [minI]
  | a :: b :: l, _ => by
    obtain ⟨h1, h2⟩ := minI_spec (b :: l) (by simp)
    simp only [minI]
    constructor
    · by_cases h : a ≤ minI (b :: l)
      · rw [Int.min_eq_left h]; exact List.mem_cons_self
      · rw [Int.min_eq_right (by omega)]; exact List.mem_cons_of_mem _ h1
    · intro y hy
      rcases List.mem_cons.mp hy with rfl | hy
      · exact Int.min_le_left _ _
      · exact Int.le_trans (Int.min_le_right _ _) (h2 y hy)
end

section
variable {X : Cx}
/-! ### subscripts and slices -/
theorem ixOf_ixN (n : Nat) (i : Int) : ixOf n i = ixN n i := rfl
theorem Reps.atI {K : PySem.W.Frag} {F : Hp} {μ : List Addr} {ts : List T} {vs : List V} {i : Int} {t : T} (h : Reps K F μ ts vs) (e : ((ixOf ts.length i).bind fun k => ts[k]?) = some t) : ∃ v, L2.atI vs i = some v ∧ Rep K F μ t v := by
  unfold L2.atI
  rw [h.length, ← ixOf_ixN]
  cases q : ixOf ts.length i with
  | none => rw [q] at e; cases e
  | some k =>
    rw [q] at e
    exact h.get e
theorem o_sub_ix {G : Glo} (hG : G.K = X.K) : IxR X (R2T G T.sub?) := by
  intro value slice pins s σ H x y v u Q I rx ry h hs
  obtain ⟨F, μ, a, b, t, sf, ra, rb, e, r⟩ := h
  unfold T.sub? at e
  split at e
  · have := rb.int; subst this
    simp only [Option.bind_eq_some_iff, Option.map_eq_some_iff] at e
    obtain ⟨k, e1, j, e2, rfl⟩ := e
    rcases ra with ra | ⟨_, _, _, e, _⟩
    · simp only [Rep] at ra
      obtain ⟨a, rfl, q, z⟩ := ra
      refine ix_list value slice pins s σ H _ _ v u Q I rx ry ⟨a, _, _, .int j, rfl, rfl, hG ▸ sf.seq q, ?_, r.now Rep.int'⟩ hs
      unfold L2.atI
      rw [List.length_map, ← ixOf_ixN, e1]
      simp [e2]
    · cases e
  · have := rb.int; subst this
    obtain ⟨a, vs, rfl, q, z, rs⟩ := ra.tup sf
    obtain ⟨w, e1, h1⟩ := rs.atI e
    exact ix_tup value slice pins s σ H _ _ v u Q I rx ry ⟨a, vs, _, w, rfl, rfl, hG ▸ q, e1, r.now h1⟩ hs
  · have := rb.int; subst this
    obtain ⟨a, vs, rfl, q, z, rs⟩ := ra.lst sf
    obtain ⟨w, e1, h1⟩ := rs.atI e
    exact ix_list value slice pins s σ H _ _ v u Q I rx ry ⟨a, vs, _, w, rfl, rfl, SqL.of q, e1, r.now h1⟩ hs
  · have := rb.int; subst this
    obtain ⟨rfl, z, c⟩ := ra.str
    simp only [Option.bind_eq_some_iff, Option.map_eq_some_iff] at e
    obtain ⟨k, e1, j, e2, rfl⟩ := e
    refine ix_str value slice pins s σ H _ _ v u Q I rx ry ⟨_, _, j, rfl, rfl, by rw [tx_len]; exact z, ?_, ?_⟩ hs
    · unfold L2.atI
      rw [tx_cps, ← ixOf_ixN, e1]
      exact e2
    · refine r.now (Rep.str' (x := [j]) (by show 1 ≤ sizeLine; decide) fun d hd => ?_)
      have : d = j := by simpa using hd
      subst this
      exact c d (List.mem_of_getElem? e2)
  · cases e
theorem cutL_le {α : Type} (l : List α) (lo hi : Option Int) : (cutL l lo hi).length ≤ l.length := by
  unfold cutL
  rw [List.length_take, List.length_drop]
  omega
theorem clip_sIx (n d : Nat) (o : Option Int) : clip n d o = HT.sIx n d o := by cases o <;> rfl
theorem Reps.cut {K : PySem.W.Frag} {F : Hp} {μ : List Addr} {ts : List T} {vs : List V} (h : Reps K F μ ts vs) (lo hi : Option Int) : Reps K F μ (cutL ts lo hi) (cutV vs lo hi) := by
  unfold cutL cutV
  rw [h.length, clip_sIx, clip_sIx]
  exact (h.drop _).take _
theorem o_slc {G : Glo} (hG : G.K = X.K) : SlR X (fun x lo hi H Q => ∃ F μ a t, Same F H ∧ RepB G F H μ a x ∧ T.slc a lo hi = some t ∧ Res G F H μ t Q) := by
  intro pins s σ H x v vl vu lo hi sl Q I rx hs pl pu h
  obtain ⟨F, μ, a, t, sf, ra, e, r⟩ := h
  unfold T.slc at e
  split at e
  · cases e
    rename_i l
    have ka : Rep G.K F μ (.tup l) x := by
      rcases ra with h | ⟨_, _, _, e, _⟩
      · exact h
      · cases e
    obtain ⟨a, vs, rfl, q, z, rs⟩ := ra.tup sf
    refine sl_tupA pins s σ H _ v vl vu lo hi sl Q I rx hs pl pu ⟨a, vs, rfl, hG ▸ q, fun hw => ?_, fun _ p hp => ?_⟩
    · have : cutL l lo hi = l := by
        have e := rs.length
        unfold cutL
        rw [clip_sIx, clip_sIx, ← e, hw.1, hw.2, e]
        simp
      rw [this] at r
      exact r.now ka
    · exact r.tup sf hp (Nat.le_trans (cutL_le _ _ _) z) (rs.cut lo hi)
  · cases e
    obtain ⟨a, vs, rfl, q, z, rs⟩ := ra.lst sf
    exact sl_list pins s σ H _ v vl vu lo hi sl Q I rx hs pl pu ⟨a, vs, rfl, SqL.of q, fun p hp => r.lst sf hp (Nat.le_trans (cutL_le _ _ _) z) (rs.cut lo hi)⟩
  · cases e
    rename_i l
    obtain ⟨rfl, z, c⟩ := ra.str
    refine sl_str pins s σ H _ v vl vu lo hi sl Q I rx hs pl pu ⟨_, rfl, by rw [tx_len]; exact z, ?_⟩
    have : cutS (tx l) lo hi = tx (cutL l lo hi) := by
      unfold cutS cutL
      rw [tx_cps, tx_len, clip_sIx, clip_sIx]
      rfl
    rw [this]
    exact r.now (Rep.str' (Nat.le_trans (cutL_le _ _ _) z) fun d hd => c d (List.mem_of_mem_drop (List.mem_of_mem_take hd)))
  · cases e

/-! ### truth -/
theorem RepB.tru {G : Glo} {F H : Hp} {μ : List Addr} {t : T} {v : V} {b : Bool} (h : RepB G F H μ t v) (hG : G.K = X.K) (sf : Same F H) (e : t.tru = some b) : TruV X.K v H b := by
  cases t with
  | non => have := h.non; subst this; cases e; rfl
  | bl k => have := h.bl; subst this; cases e; rfl
  | int k => have := h.int; subst this; cases e; rfl
  | str x =>
    obtain ⟨rfl, z, _⟩ := h.str
    cases e
    refine ⟨by rw [tx_len]; exact z, ?_⟩
    rw [tx_len]
    cases x <;> simp
    omega
  | tup l =>
    obtain ⟨a, vs, rfl, q, z, rs⟩ := h.tup sf
    cases e
    exact .inr (.inl ⟨vs, hG ▸ q, by rw [rs.nil_iff]⟩)
  | lst l =>
    obtain ⟨a, vs, rfl, q, z, rs⟩ := h.lst sf
    cases e
    exact .inl ⟨vs, SqL.of q, by rw [rs.nil_iff]⟩
  | obj _ => cases e
  | scr _ => cases e

/-! ### built-in functions -/
theorem o_len {G : Glo} (hG : G.K = X.K) : CallR X (.builtin "len") (RLT G (biF .len)) := by
  intro pins s σ H xs us Q I rv h
  obtain ⟨F, μ, ts, t, sf, rb, e, r⟩ := h
  unfold biF at e
  split at e <;> first | (cases ‹Bi.len = _›; done) | skip
  · cases e
    obtain ⟨v, rfl, h⟩ := rb.one
    obtain ⟨rfl, z, _⟩ := h.str
    refine call_len_str pins s σ H _ us Q I rv ⟨_, rfl, by rw [tx_len]; exact z, ?_⟩
    rw [tx_len]
    exact r.now Rep.int'
  · cases e
    obtain ⟨v, rfl, h⟩ := rb.one
    obtain ⟨a, vs, rfl, q, z, rs⟩ := h.tup sf
    refine call_len_seq pins s σ H _ us Q I rv ⟨a, vs, rfl, .inr (hG ▸ q), ?_⟩
    rw [rs.length]
    exact r.now Rep.int'
  · cases e
    obtain ⟨v, rfl, h⟩ := rb.one
    obtain ⟨a, vs, rfl, q, z, rs⟩ := h.lst sf
    refine call_len_seq pins s σ H _ us Q I rv ⟨a, vs, rfl, .inl (SqL.of q), ?_⟩
    rw [rs.length]
    exact r.now Rep.int'
  · cases e
    obtain ⟨v, rfl, h⟩ := rb.one
    rcases h with h | ⟨_, _, _, e, _⟩
    · simp only [Rep] at h
      obtain ⟨a, rfl, q, z⟩ := h
      refine call_len_seq pins s σ H _ us Q I rv ⟨a, _, rfl, .inl (hG ▸ sf.seq q), ?_⟩
      rw [List.length_map]
      exact r.now Rep.int'
    · cases e
  · cases e
theorem o_max {G : Glo} (hc : X.calm = true) (hu : X.A.units + 128 < cLine) (hG : G.K = X.K) : CallR X (.builtin "max") (RLT G (biF .max)) := by
  intro pins s σ H xs us Q I rv h
  obtain ⟨F, μ, ts, t, sf, rb, e, r⟩ := h
  unfold biF at e
  split at e <;> first | (cases ‹Bi.max = _›; done) | skip
  · cases e
    rename_i i j _
    obtain ⟨v, w, rfl, h1, h2⟩ := rb.two
    have := h1.int; have := h2.int; subst_vars
    refine call_max2 hc pins s σ H _ us Q I rv ⟨_, _, rfl, ?_⟩
    have : (if j > i then j else i) = max i j := by split <;> omega
    rw [this]
    exact r.now Rep.int'
  · split at e
    · cases e
      rename_i hq
      obtain ⟨v, rfl, h⟩ := rb.one
      obtain ⟨a, vs, rfl, q, z, rs⟩ := h.lst sf
      rw [h_allInt_map hq] at rs
      rw [rs.ints] at q
      refine cr_max hc pins s σ H _ us Q I rv ⟨a, _, rfl, SqL.of q, by simp, fun m hm hy => ?_⟩
      obtain ⟨h1, h2⟩ := maxI_spec _ (List.cons_ne_nil _ _)
      have : m = maxI _ := Int.le_antisymm (h2 m hm) (hy _ h1)
      rw [this]
      exact r.now Rep.int'
    · unfold maxG at e
      split at e
      · cases e
      · split at e
        · cases e
          rename_i hal
          obtain ⟨v, rfl, h⟩ := rb.one
          obtain ⟨a, vs, rfl, q, z, rs⟩ := h.lst sf
          exact max_gen hc hu hG sf I rv (hG ▸ SqL.of q) rs hal fun v hr => r.now hr
        · cases e
  · cases e
theorem o_min {G : Glo} (hc : X.calm = true) (hu : X.A.units + 128 < cLine) (hG : G.K = X.K) : CallR X (.builtin "min") (RLT G (biF .min)) := by
  intro pins s σ H xs us Q I rv h
  obtain ⟨F, μ, ts, t, sf, rb, e, r⟩ := h
  unfold biF at e
  split at e <;> first | (cases ‹Bi.min = _›; done) | skip
  · cases e
    rename_i i j _
    obtain ⟨v, w, rfl, h1, h2⟩ := rb.two
    have := h1.int; have := h2.int; subst_vars
    refine call_min2 hc pins s σ H _ us Q I rv ⟨_, _, rfl, ?_⟩
    have : (if j < i then j else i) = min i j := by split <;> omega
    rw [this]
    exact r.now Rep.int'
  · split at e
    · cases e
      rename_i hq
      obtain ⟨v, rfl, h⟩ := rb.one
      obtain ⟨a, vs, rfl, q, z, rs⟩ := h.lst sf
      rw [h_allInt_map hq] at rs
      rw [rs.ints] at q
      refine cr_min hc pins s σ H _ us Q I rv ⟨a, _, rfl, SqL.of q, by simp, fun m hm hy => ?_⟩
      obtain ⟨h1, h2⟩ := minI_spec _ (List.cons_ne_nil _ _)
      have : m = minI _ := Int.le_antisymm (hy _ h1) (h2 m hm)
      rw [this]
      exact r.now Rep.int'
    · unfold minA at e
      split at e
      · rename_i hm
        cases e
        unfold minKF at hm
        split at hm
        · cases hm
          rename_i hq
          obtain ⟨v, rfl, h⟩ := rb.one
          obtain ⟨a, vs, rfl, q, z, rs⟩ := h.lst sf
          rw [allKy_map hq] at rs
          exact min_keys hc hu hG sf I rv (hG ▸ SqL.of q) rs fun v hr => r.now hr
        · cases hm
      · unfold minG at e
        split at e
        · cases e
        · split at e
          · cases e
            rename_i hal
            obtain ⟨v, rfl, h⟩ := rb.one
            obtain ⟨a, vs, rfl, q, z, rs⟩ := h.lst sf
            exact min_gen hc hu hG sf I rv (hG ▸ SqL.of q) rs hal fun v hr => r.now hr
          · cases e
  · cases e
theorem o_sum {G : Glo} (hc : X.calm = true) : CallR X (.builtin "sum") (RLT G (biF .sum)) := by
  intro pins s σ H xs us Q I rv h
  obtain ⟨F, μ, ts, t, sf, rb, e, r⟩ := h
  unfold biF at e
  split at e <;> first | (cases ‹Bi.sum = _›; done) | skip
  · simp only [Option.map_eq_some_iff] at e
    obtain ⟨ns, hq, rfl⟩ := e
    obtain ⟨v, rfl, h⟩ := rb.one
    obtain ⟨a, vs, rfl, q, z, rs⟩ := h.lst sf
    rw [h_allInt_map hq] at rs
    rw [rs.ints] at q
    exact cr_sum hc pins s σ H _ us Q I rv ⟨a, _, rfl, SqL.of q, r.now Rep.int'⟩
  · cases e
theorem o_all {G : Glo} (hc : X.calm = true) : CallR X (.builtin "all") (RLT G (biF .all)) := by
  intro pins s σ H xs us Q I rv h
  obtain ⟨F, μ, ts, t, sf, rb, e, r⟩ := h
  unfold biF at e
  split at e <;> first | (cases ‹Bi.all = _›; done) | skip
  · simp only [Option.map_eq_some_iff] at e
    obtain ⟨ns, hq, rfl⟩ := e
    obtain ⟨v, rfl, h⟩ := rb.one
    obtain ⟨a, vs, rfl, q, z, rs⟩ := h.lst sf
    rw [h_allBl_map hq] at rs
    rw [rs.bls] at q
    exact cr_all hc pins s σ H _ us Q I rv ⟨a, _, rfl, SqL.of q, r.now Rep.bl'⟩
  · cases e
theorem o_any {G : Glo} (hc : X.calm = true) : CallR X (.builtin "any") (RLT G (biF .any)) := by
  intro pins s σ H xs us Q I rv h
  obtain ⟨F, μ, ts, t, sf, rb, e, r⟩ := h
  unfold biF at e
  split at e <;> first | (cases ‹Bi.any = _›; done) | skip
  · simp only [Option.map_eq_some_iff] at e
    obtain ⟨ns, hq, rfl⟩ := e
    obtain ⟨v, rfl, h⟩ := rb.one
    obtain ⟨a, vs, rfl, q, z, rs⟩ := h.lst sf
    rw [h_allBl_map hq] at rs
    rw [rs.bls] at q
    exact cr_any hc pins s σ H _ us Q I rv ⟨a, _, rfl, SqL.of q, r.now Rep.bl'⟩
  · cases e
theorem o_tup {G : Glo} (hG : G.K = X.K) : CallR X (.type "tuple") (RLT G (biF .tup)) := by
  intro pins s σ H xs us Q I rv h
  obtain ⟨F, μ, ts, t, sf, rb, e, r⟩ := h
  unfold biF at e
  split at e <;> first | (cases ‹Bi.tup = _›; done) | skip
  · cases e
    obtain ⟨v, rfl, h⟩ := rb.one
    obtain ⟨a, vs, rfl, q, z, rs⟩ := h.lst sf
    exact call_tuple_of pins s σ H _ us Q I rv ⟨a, vs, rfl, .inl ⟨SqL.of q, fun p hp => r.tup sf hp z rs⟩⟩
  · cases e
    rename_i l _
    obtain ⟨v, rfl, h⟩ := rb.one
    have ka : Rep G.K F μ (.tup l) v := by
      rcases h with h | ⟨_, _, _, e, _⟩
      · exact h
      · cases e
    obtain ⟨a, vs, rfl, q, z, rs⟩ := h.tup sf
    exact call_tuple_of pins s σ H _ us Q I rv ⟨a, vs, rfl, .inr ⟨hG ▸ q, r.now ka⟩⟩
  · cases e
theorem o_lst {G : Glo} (hG : G.K = X.K) : CallR X (.type "list") (RLT G (biF .lst)) := by
  intro pins s σ H xs us Q I rv h
  obtain ⟨F, μ, ts, t, sf, rb, e, r⟩ := h
  unfold biF at e
  split at e <;> first | (cases ‹Bi.lst = _›; done) | skip
  · cases e
    obtain ⟨v, rfl, h⟩ := rb.one
    obtain ⟨a, vs, rfl, q, z, rs⟩ := h.lst sf
    exact call_list_of pins s σ H _ us Q I rv ⟨a, vs, rfl, .inl (SqL.of q), fun p hp => r.lst sf hp z rs⟩
  · cases e
    obtain ⟨v, rfl, h⟩ := rb.one
    obtain ⟨a, vs, rfl, q, z, rs⟩ := h.tup sf
    exact call_list_of pins s σ H _ us Q I rv ⟨a, vs, rfl, .inr (hG ▸ q), fun p hp => r.lst sf hp z rs⟩
  · cases e
/-- isinstance(x, one built-in type): x and the type's value -/
def tyT : T → Option String
  | .non => some "NoneType" | .bl _ => some "bool" | .int _ => some "int" | .str _ => some "str" | .tup _ => some "tuple" | .lst _ => some "list"
  | .obj _ => none | .scr _ => none
theorem RepB.ty {G : Glo} {F H : Hp} {μ : List Addr} {t : T} {v : V} {n : String} (h : RepB G F H μ t v) (hG : G.K = X.K) (sf : Same F H) (e : tyT t = some n) : TyX X.K H v (.type n) := by
  cases t with
  | non => have := h.non; subst this; cases e; exact .base .non
  | bl k => have := h.bl; subst this; cases e; exact .base (.bl _)
  | int k => have := h.int; subst this; cases e; exact .base (.int _)
  | str x => obtain ⟨rfl, _, _⟩ := h.str; cases e; exact .base (.str _)
  | tup l =>
    obtain ⟨a, vs, rfl, q, z, rs⟩ := h.tup sf
    cases e
    rcases q with (q | ⟨o, q⟩) | ⟨o, its, n, h1, h2, _⟩
    · exact .base (.tup q)
    · exact .fTuple q
    · exact .kTuple (hG ▸ h1) h2
  | lst l =>
    obtain ⟨a, vs, rfl, q, z, rs⟩ := h.lst sf
    cases e
    exact .base (.lst q)
  | obj _ => cases e
  | scr _ => cases e
theorem kit_b (K : PySem.W.Frag) (n m : String) (b : Bool) (h : PySem.W.kitOne K (.type n) (.type m) = some b) : PySem.W.kitOne K (.type n) (.type m) = some b := h
def isiB (n m : String) : Bool := n == m || (n == "bool" && m == "int")
theorem kit_all (K : PySem.W.Frag) {t : T} {n m : String} (e : tyT t = some n) (hm : m = "tuple" ∨ m = "list" ∨ m = "str" ∨ m = "int" ∨ m = "bool") : PySem.W.kitOne K (.type n) (.type m) = some (isiB n m) := by
  cases t <;> simp only [tyT, Option.some.injEq] at e <;> first
    | (cases e; done)
    | (subst e; rcases hm with rfl | rfl | rfl | rfl | rfl <;> rfl)
theorem o_isi {G : Glo} (hG : G.K = X.K) {m : String} (hm : m = "tuple" ∨ m = "list" ∨ m = "str" ∨ m = "int" ∨ m = "bool") :
    CallR X (.builtin "isinstance") (fun xs H Q => ∃ F μ a t n x, xs = [x, .ty m] ∧ Same F H ∧ RepB G F H μ a x ∧ tyT a = some n ∧ t = T.bl (isiB n m) ∧ Res G F H μ t Q) := by
  intro pins s σ H xs us Q I rv h
  obtain ⟨F, μ, a, t, n, x, rfl, sf, ra, e, rfl, r⟩ := h
  exact call_isi pins s σ H _ us Q I rv ⟨x, .ty m, .type n, .type m, _, rfl, .ty m, ra.ty hG sf e, kit_all X.K e hm, r.now Rep.bl'⟩
theorem kit_is (K : PySem.W.Frag) {t u : T} {n : String} (e : tyT t = some n) (h : isISf t = some u) : ∃ b, u = T.bl b ∧ PySem.W.kitAny K (.type n) [.type "int", .type "str"] = some b := by
  cases t <;> simp only [tyT, isISf, Option.some.injEq, reduceCtorEq] at e h <;> subst e <;> subst h <;> exact ⟨_, rfl, rfl⟩
theorem isIS_ty {t u : T} (h : isISf t = some u) : ∃ n, tyT t = some n := by
  cases t <;> simp only [isISf, reduceCtorEq] at h <;> exact ⟨_, rfl⟩
theorem o_isIS {G : Glo} (hG : G.K = X.K) :
    CallR X (.builtin "isinstance") (fun xs H Q => ∃ F μ a t x tp, xs = [x, .ref tp] ∧ H tp = some (.tup [.ty "int", .ty "str"]) ∧ Same F H ∧ RepB G F H μ a x ∧ isISf a = some t ∧ Res G F H μ t Q) := by
  intro pins s σ H xs us Q I rv h
  obtain ⟨F, μ, a, t, x, tp, rfl, ht, sf, ra, e, r⟩ := h
  obtain ⟨n, hn⟩ := isIS_ty e
  obtain ⟨b, rfl, hb⟩ := kit_is X.K hn e
  exact call_isiT pins s σ H _ us Q I rv ⟨x, tp, _, .type n, _, b, rfl, ht, .cons (.ty "int") (.cons (.ty "str") .nil), ra.ty hG sf hn, hb, r.now Rep.bl'⟩
end
end Ly
namespace Ly
open PySem PySem.Spec L2
open PyProof.Rows hiding St

/-! ### is the text this text -/
def visB (sc : Scope) (x : Str) : Bool := match sc.names.lookup x with
  | some .local => true
  | some .cell => true
  | some .free => true
  | _ => false
def locB (sc : Scope) (x : Str) : Bool := match sc.names.lookup x with
  | some .local => true
  | some .cell => true
  | _ => false
def gloB (sc : Scope) (x : Str) : Bool := match sc.names.lookup x with
  | some .globalImplicit => true
  | _ => false
theorem visB_ok {sc : Scope} {x : Str} (h : visB sc x = true) : Vis sc x := by
  unfold visB at h
  split at h <;> first | (cases h; done) | skip
  · exact .inl ‹_›
  · exact .inr (.inl ‹_›)
  · exact .inr (.inr ‹_›)
theorem locB_ok {sc : Scope} {x : Str} (h : locB sc x = true) : Loc sc x := by
  unfold locB at h
  split at h <;> first | (cases h; done) | skip
  · exact .inl ‹_›
  · exact .inr ‹_›
theorem gloB_ok {sc : Scope} {x : Str} (h : gloB sc x = true) : sc.names.lookup x = some .globalImplicit := by
  unfold gloB at h
  split at h <;> first | (cases h; done) | skip
  assumption
mutual
def T.same : T → T → Bool
  | .non, .non => true
  | .bl a, .bl b => a == b
  | .int a, .int b => a == b
  | .str a, .str b => a == b
  | .tup a, .tup b => T.sames a b
  | _, _ => false
def T.sames : List T → List T → Bool
  | [], [] => true
  | a :: l, b :: m => T.same a b && T.sames l m
  | _, _ => false
end
mutual
theorem T.same_ok : ∀ {a b : T}, T.same a b = true → a = b
  | .non, b, h => by cases b <;> simp_all [T.same]
  | .bl _, b, h => by cases b <;> simp_all [T.same]
  | .int _, b, h => by cases b <;> simp_all [T.same]
  | .str _, b, h => by cases b <;> simp_all [T.same]
  | .tup l, b, h => by
    cases b <;> simp only [T.same, Bool.false_eq_true] at h
    rw [T.sames_ok h]
  | .lst _, b, h => by cases b <;> simp [T.same] at h
  | .obj _, b, h => by cases b <;> simp [T.same] at h
  | .scr _, b, h => by cases b <;> simp [T.same] at h
theorem T.sames_ok : ∀ {a b : List T}, T.sames a b = true → a = b
  | [], [], _ => rfl
  | [], _ :: _, h => by simp [T.sames] at h
  | _ :: _, [], h => by simp [T.sames] at h
  | a :: l, b :: m, h => by
    simp only [T.sames, Bool.and_eq_true] at h
    rw [T.same_ok h.1, T.sames_ok h.2]
end
def biName : Bi → Str
  | .len => "len" | .max => "max" | .min => "min" | .sum => "sum" | .all => "all" | .any => "any" | .tup => "tuple" | .lst => "list" | .isT => "isinstance" | .isS => "isinstance" | .isI => "isinstance" | .isL => "isinstance" | .isB => "isinstance"
def isiName : Bi → Option Str
  | .isT => some "tuple" | .isS => some "str" | .isI => some "int" | .isL => some "list" | .isB => some "bool" | _ => none
def mtName : Mt → Str
  | .join => "join" | .strip => "strip" | .rstrip => "rstrip" | .lstrip => "lstrip" | .split => "split"
def litB : T → Expr → Bool
  | .int i, .Constant (.int j) _ _ => i == j
  | .str x, .Constant (.str y) _ _ => decide (tx x = y) && decide (x.length ≤ 1000) && x.all (fun c => decide (c < 1114112))
  | .non, .Constant .none _ _ => true
  | .bl b, .Constant (.bool c) _ _ => b == c
  | _, _ => false
mutual
def okT (N : List Str) (sc : Scope) : Tg → Expr → Bool
  | .nm i, .Name x _ => decide (N[i]? = some x) && locB sc x
  | .tp ts, .Tuple es _ _ => okTs N sc ts es
  | _, _ => false
def okTs (N : List Str) (sc : Scope) : Tgs → List Expr → Bool
  | .nil, [] => true
  | .cons t ts, e :: es => okT N sc t e && okTs N sc ts es
  | _, _ => false
end
mutual
def Tg.own (N : List Str) : Tg → List (Str × Nat)
  | .nm i => [(N.getD i "", i)]
  | .tp ts => Tgs.own N ts
def Tgs.own (N : List Str) : Tgs → List (Str × Nat)
  | .nil => []
  | .cons g gs => g.own N ++ gs.own N
end
def srcName : SK → Str
  | .rng => "range" | .enm => "enumerate" | .zip => "zip" | .rev => "reversed" | .val => ""
def srcLen : SK → List Expr → Bool
  | .rng, es => es.length == 1 || es.length == 2 || es.length == 3
  | .enm, es => es.length == 1
  | .zip, es => es.length == 2
  | _, _ => false
/-- a source's arguments -/
def srcArgs (sc : Scope) : SK → Expr → Option (List Expr)
  | .val, e => some [e]
  | k, .Call (.Name x _) es [] _ => if x = srcName k && gloB sc x && srcLen k es then some es else none
  | _, _ => none
/-- pairs are walked to a tuple -/
def tgOk : SK → Expr → Bool
  | .enm, .Tuple .. => true
  | .enm, _ => false
  | .zip, .Tuple .. => true
  | .zip, _ => false
  | _, _ => true
def plainX : Expr → Bool
  | .Starred .. => false
  | .Set .. => false
  | .Slice .. => false
  | .Lambda .. => false
  | _ => true
def nBor : Ex → Bool
  | .bor _ => false
  | _ => true
theorem nBor_ok {E : Ex} (h : nBor E = true) : ∀ i, E ≠ .bor i := fun i q => by subst q; cases h
def noIf : Expr → Bool
  | .IfExp .. => false
  | _ => true
/-- an operation's text, and the texts of what it takes -/
def okOp (sc : Scope) : Op → Expr → Option (List Expr)
  | .mxd k, .Call (.Name x _) [y] [⟨some d, .Constant (.int j) _ _, _⟩] _ => if decide (x = "max") && gloB sc x && decide (d = "default") && (j == k) then some [y] else none
  | .mnd k, .Call (.Name x _) [y] [⟨some d, .Constant (.int j) _ _, _⟩] _ => if decide (x = "min") && gloB sc x && decide (d = "default") && (j == k) then some [y] else none
  | .srt, .Call (.Name x _) [y] [] _ => if decide (x = "sorted") && gloB sc x then some [y] else none
  | .lenS, .Call (.Name x _) [.Call (.Name z _) [y] [] _] [] _ => if decide (x = "len") && gloB sc x && decide (z = "set") && gloB sc z then some [y] else none
  | .toI, .Call (.Name x _) [y] [] _ => if decide (x = "int") && gloB sc x then some [y] else none
  | _, _ => none
section
variable (tab : Tb) (glo : List (Str × T)) (N : List Str)
mutual
def okE : Scope → Ex → Expr → Bool
  | _, .lit t, e => litB t e
  | sc, .glb x t, .Name y _ => gloB sc y && decide (y ≠ "__debug__") && (match glo.lookup y with | some u => T.same t u | none => false)
  | sc, .var i, .Name x _ => decide (N[i]? = some x) && visB sc x && decide (x ≠ "__debug__") && decide (x ≠ "__classdict__")
  | sc, .bor i, .Name x _ => decide (N[i]? = some x) && visB sc x && decide (x ≠ "__debug__") && decide (x ≠ "__classdict__")
  | _, .neg i, .UnaryOp .USub (.Constant (.int j) _ _) _ => i == j
  | sc, .bin o a b, .BinOp l op r _ => decide (op = bopE o) && okE sc a l && okE sc b r
  | sc, .cmp o a b, .Compare l [op] [r] _ => decide (op = copE o) && okE sc a l && okE sc b r
  | sc, .chn o o' a b d, .Compare l [op, op'] [r, q] _ => decide (op = copE o) && decide (op' = copE o') && (nBor a && nBor b && nBor d) && okE sc a l && okE sc b r && okE sc d q
  | sc, .and a b, .BoolOp .And (x :: y :: r) p => noIf x && okE sc a x && okE sc b (.BoolOp .And (y :: r) p)
  | sc, .or a b, .BoolOp .Or (x :: y :: r) p => noIf x && okE sc a x && okE sc b (.BoolOp .Or (y :: r) p)
  | sc, .one a, .BoolOp _ [x] _ => noIf x && okE sc a x
  | sc, .not a, .UnaryOp .Not x _ => noIf x && okE sc a x
  | sc, .ife d a b, .IfExp t x y _ => noIf t && okE sc d t && okE sc a x && okE sc b y
  | sc, .tup es, .Tuple xs _ _ => okEs sc es xs
  | sc, .lst es, .List xs _ => okEs sc es xs
  | sc, .sub a i, .Subscript x y _ => nBor i && okE sc a x && okE sc i y
  | sc, .rev a, .Subscript x (.Slice none none (some (.UnaryOp .USub (.Constant (.int 1) _ _) _)) _) _ => okE sc a x
  | sc, .slc a lo hi, .Subscript x (.Slice l h none _) _ => okE sc a x && (match l with | none => isNop lo | some l => okE sc lo l) && (match h with | none => isNop hi | some h => okE sc hi h)
  | sc, .call f es, .Call (.Name x _) xs [] _ => (match tab.at f with | some fi => decide (x = fi.2.name) | none => false) && gloB sc x && decide (x ≠ "__debug__") && decide (xs ≠ []) && okEs sc es xs
  | sc, .bi b es, .Call (.Name x _) xs [] _ => decide (x = biName b) && gloB sc x && decide (xs ≠ []) && (match isiName b with
      | none => okEs sc es xs
      | some m => (match es, xs with
        | .cons e .nil, [y, .Name z _] => decide (z = m) && gloB sc z && okE sc e y
        | _, _ => false))
  | sc, .mth m a (.cons e .nil), .Call (.Attribute x name apos) [y] [] cpos => decide (name = mtName m) && (apos.endLine == cpos.line) && okE sc a x && okE sc e y
  | _, .mth _ _ _, _ => false
  | sc, .isIS a, .Call (.Name x _) [y, .Tuple [.Name z _, .Name z2 _] _ _] [] _ => decide (x = "isinstance") && gloB sc x && decide (z = "int") && gloB sc z && decide (z2 = "str") && gloB sc z2 && okE sc a y
  | sc, .op o es, e => plainX e && noIf e && (match okOp sc o e with | some xs => okEs sc es xs | none => false)
  | sc, .lc elt tg k src cond, .ListComp x [⟨g, it, ifs, as⟩] scope _ => decide (as = 0) && tgOk k g && plainX it && (match srcArgs sc k it with | some es => okEs sc src es | none => false) && okT N (relS scope sc) tg g && okT N scope tg g && blkC N sc scope (tg.own N) && decide ((tg.own N).map (·.2) = tg.slots)
      && ifs.all noIf && okEs (relS scope sc) cond ifs && decide (ifs.length ≤ 1) && okE (relS scope sc) elt x
  | _, _, _ => false
def okEs : Scope → Exs → List Expr → Bool
  | _, .nil, [] => true
  | sc, .cons e es, x :: xs => okE sc e x && okEs sc es xs
  | _, _, _ => false
end
end
end Ly
namespace Ly
open PySem PySem.Spec L2
open PyProof.Rows hiding St

/-! ### what is wanted behind a run -/
def PostO {α β : Type} (G : Glo) (F H : Hp) (μ : List Addr) (E : Nat → Hp → Prop) (R : Hp → Hp → List Addr → α → β → Prop) (Q : β → Hp → Prop) : Out α → Prop
  | .stk => False
  | .ok a S' => ∀ v F' H' μ', Ext F H μ F' H' μ' → Ok G F' H' μ' S' → R F' H' μ' a v → Q v H'
  | .exc c S' => ∀ F' H' μ', Ext F H μ F' H' μ' → Ok G F' H' μ' S' → E c H'
section
variable {α β γ δ : Type} {G : Glo} {F H F1 H1 : Hp} {μ μ1 : List Addr} {E : Nat → Hp → Prop} {R : Hp → Hp → List Addr → α → β → Prop} {Q Q' : β → Hp → Prop}
theorem PostO.imp {o : Out α} (h : PostO G F H μ E R Q o) (i : ∀ v H', Q v H' → Q' v H') : PostO G F H μ E R Q' o := by
  cases o with
  | stk => exact h
  | ok a S => exact fun v F' H' μ' x k r => i v H' (h v F' H' μ' x k r)
  | exc c S => exact h
theorem PostO.later {o : Out α} (h : PostO G F H μ E R Q o) (x : Ext F H μ F1 H1 μ1) : PostO G F1 H1 μ1 E R Q o := by
  cases o with
  | stk => exact h
  | ok a S => exact fun v F' H' μ' y k r => h v F' H' μ' (x.trans y) k r
  | exc c S => exact fun F' H' μ' y k => h F' H' μ' (x.trans y) k
theorem PostO.bind {R' : Hp → Hp → List Addr → γ → δ → Prop} {o : Out γ} {f : γ → Store → Out α} (h : PostO G F H μ E R Q (o.bind f)) :
    PostO G F H μ E R' (fun v H1 => ∃ F1 μ1 S1 a, Ext F H μ F1 H1 μ1 ∧ Ok G F1 H1 μ1 S1 ∧ R' F1 H1 μ1 a v ∧ o = .ok a S1 ∧ PostO G F1 H1 μ1 E R Q (f a S1)) o := by
  cases o with
  | stk => exact h
  | ok a S => exact fun v F' H' μ' x k r => ⟨F', μ', S, a, x, k, r, rfl, PostO.later (o := f a S) h x⟩
  | exc c S => exact h
theorem PostO.of {o : Option α} {S : Store} (h : PostO G F H μ E R Q (Out.of o S)) : ∃ a, o = some a ∧ PostO G F H μ E R Q (.ok a S) := by
  cases o with
  | none => exact h.elim
  | some a => exact ⟨a, rfl, h⟩
end
abbrev rP (G : Glo) : Hp → Hp → List Addr → T → V → Prop := fun F _ μ t v => Rep G.K F μ t v
abbrev rB (G : Glo) : Hp → Hp → List Addr → T → V → Prop := fun F H μ t v => RepB G F H μ t v
abbrev rPs (G : Glo) : Hp → Hp → List Addr → List T → List V → Prop := fun F _ μ t v => Reps G.K F μ t v
abbrev rBs (G : Glo) : Hp → Hp → List Addr → List T → List V → Prop := fun F H μ t v => RepBs G F H μ t v
section
variable {G : Glo} {F H F1 H1 : Hp} {μ μ1 : List Addr}
theorem Ext.repB (x : Ext F H μ F1 H1 μ1) {t : T} {v : V} (h : RepB G F H μ t v) : RepB G F1 H1 μ1 t v := by
  rcases h with h | ⟨a, l, vs, e, e', h2, h3, h4, h5⟩
  · exact .inl (x.rep h)
  · refine .inr ⟨a, l, vs, e, e', x.hh a _ h2 h5, h3, x.reps h4, fun hm => ?_⟩
    have := x.nw a hm h5
    rw [h2] at this; cases this
theorem Ext.repBs (x : Ext F H μ F1 H1 μ1) : ∀ {t : List T} {v : List V}, RepBs G F H μ t v → RepBs G F1 H1 μ1 t v
  | [], _, h => h
  | t :: ts, _, h => by
    simp only [RepBs] at h ⊢
    obtain ⟨v, r, e, h1, h2⟩ := h
    exact ⟨v, r, e, x.repB h1, x.repBs h2⟩
theorem RepBs.of : ∀ {t : List T} {v : List V}, Reps G.K F μ t v → RepBs G F H μ t v
  | [], _, h => h
  | t :: ts, _, h => by
    simp only [RepBs, Reps] at h ⊢
    obtain ⟨v, r, e, h1, h2⟩ := h
    exact ⟨v, r, e, .inl h1, RepBs.of h2⟩
end
/-- an exception's class -/
def exK (G : Glo) (W : WX) (σ : St) : Nat → Hp → Prop := fun c H' => W (.ref (G.exc c)) none σ H'
def tE (G : Glo) (H₀ : Hp) (W : WX) (o : Lenv → Store → Out T) : TE := fun σ H Q => ∃ ρ F μ S, EnvR G H₀ F H μ ρ σ ∧ Ok G F H μ S ∧ PostO G F H μ (exK G W σ) (rP G) Q (o ρ S)
def tEb (G : Glo) (H₀ : Hp) (W : WX) (o : Lenv → Store → Out T) : TE := fun σ H Q => ∃ ρ F μ S, EnvR G H₀ F H μ ρ σ ∧ Ok G F H μ S ∧ PostO G F H μ (exK G W σ) (rB G) Q (o ρ S)
def tA (G : Glo) (H₀ : Hp) (W : WX) (o : Lenv → Store → Out (List T)) : TA := fun σ H Q => ∃ ρ F μ S, EnvR G H₀ F H μ ρ σ ∧ Ok G F H μ S ∧ PostO G F H μ (exK G W σ) (rPs G) Q (o ρ S)
def tAb (G : Glo) (H₀ : Hp) (W : WX) (o : Lenv → Store → Out (List T)) : TA := fun σ H Q => ∃ ρ F μ S, EnvR G H₀ F H μ ρ σ ∧ Ok G F H μ S ∧ PostO G F H μ (exK G W σ) (rBs G) Q (o ρ S)
theorem PE.imp {X : Cx} {e : Expr} {t t' : TE} (h : PE X e t) (i : ∀ σ H Q, t' σ H Q → t σ H Q) : PE X e t' := ⟨fun pins s σ H Q I q => h.run pins s σ H Q I (i σ H Q q)⟩
theorem PA.imp {X : Cx} {e : List Expr} {t t' : TA} (h : PA X e t) (i : ∀ σ H Q, t' σ H Q → t σ H Q) : PA X e t' := ⟨fun pos pins s σ H Q I q => h.run pos pins s σ H Q I (i σ H Q q)⟩
theorem PT.imp {X : Cx} {e : Expr} {t t' : TT} (h : PT X e t) (i : ∀ σ H Q, t' σ H Q → t σ H Q) : PT X e t' := ⟨fun pins s σ H Q I q => h.run pins s σ H Q I (i σ H Q q)⟩
theorem PE.stk {X : Cx} {e : Expr} {G : Glo} {H₀ : Hp} {W : WX} {o : Lenv → Store → Out T} (h : ∀ ρ S, o ρ S = .stk) : PE X e (tE G H₀ W o) := ⟨fun pins s σ H Q I q => by
  obtain ⟨ρ, F, μ, S, _, _, p⟩ := q
  rw [h] at p
  exact p.elim⟩

/-! ### a def's promise; where one stands -/
def PostF (G : Glo) (F H : Hp) (μ : List Addr) (E : XK) (Q : VK) (o : Out T) : Prop := PostO G F H μ (fun c H' => E (.ref (G.exc c)) none H') (rP G) Q o
def spF (G : Glo) (tab : Tb) (n f : Nat) : Sp := fun vs H Q E => ∃ ts F μ S, Reps G.K F μ ts vs ∧ Ok G F H μ S ∧ PostF G F H μ E Q (callF tab.l n f ts S)
def bltNames : List Str := ["len", "max", "min", "sum", "all", "any", "tuple", "list", "isinstance", "sorted", "abs", "range", "enumerate", "zip", "reversed", "str", "int", "bool", "set", "dict"]
structure Cxt (G : Glo) (tab : Tb) (glo : List (Str × T)) (n k : Nat) (X : Cx) (W : WX) : Prop where
  hG : G.K = X.K
  calm : X.calm = true
  nd : X.N.Nodup
  room : Room k X.A
  fns : ∀ (f : Nat) fi, tab.at f = some fi → ∃ a fd ps, X.mg fi.2.name = some (.ref a) ∧ PySem.W.keepIn X.K (.ref a) = true ∧ Binds X.K fd ps [] ∧ FnOk X.prog X.w X.K X.mg X.base (L2.CX X.prog X.w) k a fd ps (spF G tab n f)
  blt : ∀ x ∈ bltNames, X.mg x = none
  glo : ∀ x t, glo.lookup x = some t → ∃ u v, X.mg x = some u ∧ RelV v u ∧ ∀ F μ, Rep G.K F μ t v
  tk : Takes X W
theorem Cxt.blk {G : Glo} {tab : Tb} {glo : List (Str × T)} {n k : Nat} {X : Cx} {W : WX} (c : Cxt G tab glo n k X W) (s : Shared) (H : Hp) (scope : Scope) (cenv : Env) (fp : List Addr) :
    Cxt G tab glo n k (X.blk s H scope cenv fp) (fun _ _ _ _ => False) :=
  ⟨c.hG, c.calm, c.nd, c.room, c.fns, c.blt, c.glo, takes0⟩

/-! ### forms -/
section
variable {tab : Tb} {glo : List (Str × T)} {N : List Str}
theorem okE_plain {sc : Scope} {E : Ex} {e : Expr} (h : okE tab glo N sc E e = true) : plainX e = true := by
  cases e <;> first | rfl | (cases E <;> simp [okE, litB, plainX] at h <;> done) | skip
  all_goals (cases E <;> first | (simp [okE, litB, plainX] at h; done) | skip)
  all_goals (rename_i t; cases t <;> simp [okE, litB, plainX] at h)
theorem star_cons {e : Expr} {es : List Expr} {env : Env} (h : plainX e = true) : starEach (e :: es) env = (false, eval e env) :: starEach es env := by
  cases e <;> first | rfl | (simp [plainX] at h)
theorem behind_no {op : CmpOp} {e : Expr} (h : plainX e = true) : behindInMarks op e = false := by
  cases e <;> first | rfl | (simp [plainX] at h)
theorem folded_no {e : Expr} {env : Env} (h : plainX e = true) : ∀ x, foldedSetIterable e env x = pure x := by
  intro x
  cases e <;> first | rfl | (simp [plainX] at h)
theorem plainIx {e : Expr} (h : plainX e = true) : PlainIx e := by
  intro o i
  cases e <;> first | rfl | (simp [plainX] at h)
theorem pl_no {es : List Expr} {env : Env} {pos : Pos} (h : ∀ e ∈ es, plainX e = true) : (backTo pos (starEach es env)).any (·.1) = false := by
  induction es with
  | nil => rfl
  | cons e es ih =>
    rw [star_cons (h e List.mem_cons_self)]
    have := ih fun x hx => h x (List.mem_cons_of_mem _ hx)
    show (false || (backTo pos (starEach es env)).any (·.1)) = false
    rw [this]; rfl
end
end Ly
namespace Ly
open PySem PySem.Spec L2
open PyProof.Rows hiding St

section
variable {G : Glo} {H₀ : Hp} {W : WX} {X : Cx}
theorem tE_b {o : Lenv → Store → Out T} {σ : St} {H : Hp} {Q : VK} (h : tEb G H₀ W o σ H Q) : tE G H₀ W o σ H Q := by
  obtain ⟨ρ, F, μ, S, e, k, p⟩ := h
  refine ⟨ρ, F, μ, S, e, k, ?_⟩
  cases q : o ρ S with
  | stk => rw [q] at p; exact p
  | ok a S => rw [q] at p; exact fun v F' H' μ' x k r => p v F' H' μ' x k (.inl r)
  | exc c S => rw [q] at p; exact p
/-- the name of a list of one's own, for a look -/
theorem pe_bor {i : Nat} {x : Str} {pos : Pos} (hN : X.N[i]? = some x) (hv : Vis X.env.scope x) (h1 : x ≠ "__debug__") (h2 : x ≠ "__classdict__") (o : Lenv → Store → Out T) :
    PE X (.Name x pos) (tEb G H₀ W (fun ρ S => bor ρ (.bor i) S (o ρ S))) := by
  refine PE.imp (pe_var hN hv (beq_eq_false_iff_ne.mpr h1) (beq_eq_false_iff_ne.mpr h2)) fun σ H Q h => ?_
  obtain ⟨ρ, F, μ, S, e, k, p⟩ := h
  simp only [bor] at p
  split at p
  · rename_i l hl
    obtain ⟨a, vs, h1, h2, h3, h4, h5, h6, h7⟩ := e.own i l hl
    exact ⟨_, h1, p _ F H μ .refl k (.inr ⟨a, l, vs, rfl, rfl, h2, h6, h7, h5⟩)⟩
  · exact p.elim
theorem bor_id {a : Ex} (h : ∀ i, a ≠ .bor i) (ρ : Lenv) (S : Store) (r : Out T) : bor ρ a S r = r := by
  cases a <;> first | rfl | exact absurd rfl (h _)

/-! ### two values -/
theorem tOp_of {f : T → T → Option T} {oa ob : Lenv → Store → Out T} {σ : St} {H : Hp} {Q : VK}
    (h : tE G H₀ W (fun ρ S => (oa ρ S).bind fun x S1 => (ob ρ S1).bind fun y S2 => .of (f x y) S2) σ H Q) :
    tOp (R2T G f) (tEb G H₀ W oa) (tEb G H₀ W ob) σ H Q := by
  obtain ⟨ρ, F, μ, S, e, k, p⟩ := h
  refine ⟨ρ, F, μ, S, e, k, p.bind.imp fun v H1 hv => ?_⟩
  obtain ⟨F1, μ1, S1, a, x1, k1, r1, _, p1⟩ := hv
  refine ⟨ρ, F1, μ1, S1, e.ext x1, k1, p1.bind.imp fun w H2 hw => ?_⟩
  obtain ⟨F2, μ2, S2, b, x2, k2, r2, _, p2⟩ := hw
  obtain ⟨t, et, p3⟩ := p2.of
  exact ⟨F2, μ2, a, b, t, k2.fh, x2.repB r1, r2, et, fun v F' H' x k r => p3 v F' H' μ2 x (k S2 k2) r⟩

theorem tTest_tr {t : TE} {σ : St} {H : Hp} {Q : Bool → Hp → Prop} {P : VK} (h : t σ H P) (mono : ∀ Q Q', (∀ v H', Q v H' → Q' v H') → t σ H Q → t σ H Q') (i : ∀ v H', P v H' → ∃ k, v = .bl k ∧ Q k H') : tTest t σ H Q := mono P _ i h
/-! ### truth -/
def tT (G : Glo) (H₀ : Hp) (W : WX) (o : Lenv → Store → Out T) : TT := fun σ H Q => ∃ ρ F μ S, EnvR G H₀ F H μ ρ σ ∧ Ok G F H μ S ∧
  PostO G F H μ (exK G W σ) (fun F' H' μ' (t : T) (b : Bool) => t.tru = some b) Q ((o ρ S).bind fun t S => if t.tru.isSome then .ok t S else .stk)
/-- a test whose value is known -/
theorem pt_of (hG : G.K = X.K) {e : Expr} {o : Lenv → Store → Out T} (h : PE X e (tEb G H₀ W o)) (he : ∀ whole, isTrue e X.env whole = (do let v ← whole; standAt e.pos; holding [v] (truthy v))) : PT X e (tT G H₀ W o) := by
  refine PT.imp (pt_truth h he) fun σ H Q q => ?_
  obtain ⟨ρ, F, μ, S, en, k, p⟩ := q
  refine ⟨ρ, F, μ, S, en, k, p.bind.imp fun v H1 hv => ?_⟩
  obtain ⟨F1, μ1, S1, t, x1, k1, r1, _, p1⟩ := hv
  cases ht : t.tru with
  | none => rw [ht] at p1; exact p1.elim
  | some b =>
    rw [ht] at p1
    exact ⟨b, RepB.tru r1 hG k1.fh ht, p1 b F1 H1 μ1 .refl k1 ht⟩
/-- a value that is a truth, as a test -/
theorem tEb_bl {o : Lenv → Store → Out T} {σ : St} {H : Hp} {Q : Bool → Hp → Prop} (h : tT G H₀ W o σ H Q) (ob : ∀ ρ S t S', o ρ S = .ok t S' → ∃ b, t = .bl b) : tE G H₀ W o σ H (fun x H' => ∃ k, x = .bl k ∧ Q k H') := by
  obtain ⟨ρ, F, μ, S, en, k, p⟩ := h
  refine ⟨ρ, F, μ, S, en, k, ?_⟩
  cases q : o ρ S with
  | stk => rw [q] at p; exact p
  | exc c S => rw [q] at p; exact p
  | ok t S' =>
    obtain ⟨b, rfl⟩ := ob ρ S t S' q
    rw [q] at p
    intro v F' H' μ' x k r
    simp only [Rep] at r
    exact ⟨b, r, p b F' H' μ' x k rfl⟩
end
section
variable {tab : Tb} {glo : List (Str × T)}
theorem okEs_plain {N : List Str} {sc : Scope} : ∀ {Es : Exs} {es : List Expr}, okEs tab glo N sc Es es = true → ∀ e ∈ es, plainX e = true
  | .nil, [], _ => by simp
  | .nil, _ :: _, h => by simp [okEs] at h
  | .cons _ _, [], h => by simp [okEs] at h
  | .cons E Es, x :: xs, h => by
    simp only [okEs, Bool.and_eq_true] at h
    intro e he
    rcases List.mem_cons.mp he with rfl | he
    · exact okE_plain h.1
    · exact okEs_plain h.2 e he

/-! ### what is shown of each text -/
structure SndE (G : Glo) (tab : Tb) (glo : List (Str × T)) (n k : Nat) (E : Ex) : Prop where
  run : ∀ (X : Cx) (W : WX) (H₀ : Hp) (e : Expr), Cxt G tab glo n k X W → okE tab glo X.N X.env.scope E e = true →
    PE X e (tE G H₀ W (fun ρ S => ev (callF tab.l n) E ρ S)) ∧ PE X e (tEb G H₀ W (fun ρ S => bor ρ E S (ev (callF tab.l n) E ρ S))) ∧
    (noIf e = true → PT X e (tT G H₀ W (fun ρ S => bor ρ E S (ev (callF tab.l n) E ρ S)))) ∧
    (∀ op es pos, e = .BoolOp op es pos → PW X e (tT G H₀ W (fun ρ S => ev (callF tab.l n) E ρ S)))
section
variable {G : Glo} {n k : Nat}
/-- an expression whose test is its value's truth -/
theorem SndE.val {E : Ex} (hb : ∀ i, E ≠ .bor i) (h : ∀ (X : Cx) (W : WX) (H₀ : Hp) (e : Expr), Cxt G tab glo n k X W → okE tab glo X.N X.env.scope E e = true →
    PE X e (tE G H₀ W (fun ρ S => ev (callF tab.l n) E ρ S)) ∧ (noIf e = true → ∀ env whole, isTrue e env whole = (do let v ← whole; standAt e.pos; holding [v] (truthy v))) ∧ ∀ op es pos, e ≠ .BoolOp op es pos) : SndE G tab glo n k E := ⟨fun X W H₀ e c ok => by
  obtain ⟨h1, h2, h3⟩ := h X W H₀ e c ok
  have e1 : (fun ρ S => bor ρ E S (ev (callF tab.l n) E ρ S)) = fun ρ S => ev (callF tab.l n) E ρ S := by
    funext ρ S; exact bor_id hb ρ S _
  have pb : PE X e (tEb G H₀ W (fun ρ S => ev (callF tab.l n) E ρ S)) := PE.imp h1 fun σ H Q q => tE_b q
  refine ⟨h1, by rw [e1]; exact pb, fun hn => ?_, fun op es pos q => absurd q (h3 _ _ _)⟩
  rw [e1]
  exact pt_of c.hG pb (h2 hn _)⟩
theorem snd_lit (t : T) : SndE G tab glo n k (.lit t) := .val (fun i => by simp) fun X W H₀ e c ok => by
  simp only [okE] at ok
  refine ⟨?_, ?_, ?_⟩
  · cases t <;> cases e <;> simp only [litB, Bool.false_eq_true] at ok <;> rename_i c1 _ _ <;> cases c1 <;> simp only [litB, Bool.false_eq_true] at ok
    · refine PE.imp pe_non fun σ H Q h => ?_
      obtain ⟨ρ, F, μ, S, en, k, p⟩ := h
      exact p _ F H μ .refl k Rep.non'
    · rename_i b
      have := eq_of_beq ok; subst this
      refine PE.imp pe_bl fun σ H Q h => ?_
      obtain ⟨ρ, F, μ, S, en, k, p⟩ := h
      exact p _ F H μ .refl k Rep.bl'
    · have := eq_of_beq ok; subst this
      refine PE.imp pe_int fun σ H Q h => ?_
      obtain ⟨ρ, F, μ, S, en, k, p⟩ := h
      exact p _ F H μ .refl k Rep.int'
    · simp only [Bool.and_eq_true, decide_eq_true_eq, List.all_eq_true] at ok
      obtain ⟨⟨rfl, l⟩, cs⟩ := ok
      refine PE.imp pe_str fun σ H Q h => ?_
      obtain ⟨ρ, F, μ, S, en, k, p⟩ := h
      refine p _ F H μ .refl k (Rep.str' (Nat.le_trans l (by decide)) cs)
  · cases t <;> cases e <;> simp only [litB, Bool.false_eq_true] at ok <;> exact fun _ _ _ => rfl
  · cases t <;> cases e <;> simp only [litB, Bool.false_eq_true] at ok <;> simp
theorem snd_glb (x : Str) (t : T) : SndE G tab glo n k (.glb x t) := .val (fun i => by simp) fun X W H₀ e c ok => by
  cases e <;> simp only [okE, Bool.false_eq_true] at ok
  rename_i y pos
  refine ⟨?_, fun _ _ _ => rfl, by simp⟩
  simp only [Bool.and_eq_true, decide_eq_true_eq] at ok
  obtain ⟨⟨hg, hd⟩, ht⟩ := ok
  split at ht
  · rename_i u hu
    have := T.same_ok ht; subst this
    obtain ⟨w, v, hm, rv, rp⟩ := c.glo _ _ hu
    refine PE.imp (pe_glob (gloB_ok hg) hm rv (beq_eq_false_iff_ne.mpr hd)) fun σ H Q h => ?_
    obtain ⟨ρ, F, μ, S, en, k, p⟩ := h
    exact p _ F H μ .refl k (rp F μ)
  · cases ht
theorem snd_var (i : Nat) : SndE G tab glo n k (.var i) := .val (fun i => by simp) fun X W H₀ e c ok => by
  cases e <;> simp only [okE, Bool.false_eq_true] at ok
  rename_i y pos
  refine ⟨?_, fun _ _ _ => rfl, by simp⟩
  simp only [Bool.and_eq_true, decide_eq_true_eq] at ok
  obtain ⟨⟨⟨hN, hv⟩, h1⟩, h2⟩ := ok
  refine PE.imp (pe_var hN (visB_ok hv) (beq_eq_false_iff_ne.mpr h1) (beq_eq_false_iff_ne.mpr h2)) fun σ H Q h => ?_
  obtain ⟨ρ, F, μ, S, en, k, p⟩ := h
  simp only [ev] at p
  split at p
  · rename_i t ht
    obtain ⟨v, hv, rv⟩ := en.val i t ht
    exact ⟨v, hv, p v F H μ .refl k rv⟩
  · exact p.elim
theorem snd_bor (i : Nat) : SndE G tab glo n k (.bor i) := ⟨fun X W H₀ e c ok => by
  cases e <;> simp only [okE, Bool.false_eq_true] at ok
  rename_i y pos
  simp only [Bool.and_eq_true, decide_eq_true_eq] at ok
  obtain ⟨⟨⟨hN, hv⟩, h1⟩, h2⟩ := ok
  have pb := pe_bor (G := G) (H₀ := H₀) (W := W) (pos := pos) hN (visB_ok hv) h1 h2 (fun ρ S => ev (callF tab.l n) (.bor i) ρ S)
  exact ⟨PE.stk fun ρ S => by simp [ev], pb, fun _ => pt_of c.hG pb fun _ => rfl, by simp⟩⟩
theorem snd_nop : SndE G tab glo n k .nop := ⟨fun X W H₀ e c ok => by cases e <;> simp [okE] at ok⟩
theorem snd_neg (i : Int) : SndE G tab glo n k (.neg i) := .val (fun i => by simp) fun X W H₀ e c ok => by
  cases e <;> first | (simp only [okE, Bool.false_eq_true] at ok; done) | skip
  rename_i op x pos
  cases op <;> first | (simp only [okE, Bool.false_eq_true] at ok; done) | skip
  cases x <;> first | (simp only [okE, Bool.false_eq_true] at ok; done) | skip
  rename_i d _ _
  cases d <;> first | (simp only [okE, Bool.false_eq_true] at ok; done) | skip
  simp only [okE] at ok
  refine ⟨?_, fun _ _ _ => rfl, by simp⟩
  have := eq_of_beq ok; subst this
  refine PE.imp (pe_un un_neg pe_int) fun σ H Q h => ?_
  obtain ⟨ρ, F, μ, S, en, k, p⟩ := h
  exact ⟨_, rfl, p _ F H μ .refl k Rep.int'⟩
theorem snd_bin (o : BOp) {a b : Ex} (ha : SndE G tab glo n k a) (hb : SndE G tab glo n k b) : SndE G tab glo n k (.bin o a b) := .val (fun i => by simp) fun X W H₀ e c ok => by
  cases e <;> simp only [okE, Bool.false_eq_true] at ok
  refine ⟨?_, fun _ _ _ => rfl, by simp⟩
  simp only [Bool.and_eq_true, decide_eq_true_eq] at ok
  obtain ⟨⟨rfl, k1⟩, k2⟩ := ok
  exact PE.imp (pe_op (o_bin c.hG o) (ha.run X W H₀ _ c k1).2.1 (hb.run X W H₀ _ c k2).2.1) fun σ H Q h => tOp_of (by simpa only [ev] using h)
theorem cmpF_bl {o : COp} {a b t : T} (h : cmpF o a b = some t) : ∃ k, t = .bl k := by
  unfold cmpF at h
  split at h <;> first
    | (split at h <;> first | (cases h; exact ⟨_, rfl⟩) | cases h)
    | (simp only [Option.map_eq_some_iff] at h; obtain ⟨_, _, rfl⟩ := h; exact ⟨_, rfl⟩)
    | (cases h; exact ⟨_, rfl⟩)
    | cases h
theorem Cxt.hu {X : Cx} {W : WX} (c : Cxt G tab glo n k X W) : X.A.units + 128 < cLine := by have := c.room.un; omega
theorem ok_bind {α β : Type} {o : Out α} {f : α → Store → Out β} {b : β} {S' : Store} (h : o.bind f = .ok b S') : ∃ a S1, o = .ok a S1 ∧ f a S1 = .ok b S' := by
  cases o with
  | stk => cases h
  | ok a S => exact ⟨a, S, rfl, h⟩
  | exc c S => cases h
theorem ok_of {α : Type} {o : Option α} {S S' : Store} {a : α} (h : Out.of o S = .ok a S') : o = some a := by
  cases o with
  | none => cases h
  | some b => cases h; rfl
theorem snd_cmp (o : COp) {a b : Ex} (ha : SndE G tab glo n k a) (hb : SndE G tab glo n k b) : SndE G tab glo n k (.cmp o a b) := ⟨fun X W H₀ e c ok => by
  cases e <;> first | (simp only [okE, Bool.false_eq_true] at ok; done) | skip
  rename_i l ops cs pos
  match ops, cs, ok with
  | [op], [r], ok =>
    simp only [okE, Bool.and_eq_true, decide_eq_true_eq] at ok
    obtain ⟨⟨rfl, k1⟩, k2⟩ := ok
    have hm := behind_no (op := copE o) (okE_plain k2)
    have h1 : PE X (.Compare l [copE o] [r] pos) (tE G H₀ W (fun ρ S => ev (callF tab.l n) (.cmp o a b) ρ S)) :=
      PE.imp (pe_cmpR (o_cmp c.hG c.hu o) (ha.run X W H₀ _ c k1).2.1 (hb.run X W H₀ _ c k2).2.1 hm) fun σ H Q h => tOp_of (by simpa only [ev] using h)
    refine ⟨h1, PE.imp h1 fun σ H Q q => tE_b q, fun _ => ?_, by simp⟩
    refine PT.imp (pt_cmpR (o_cmp c.hG c.hu o) (ha.run X W H₀ _ c k1).2.1 (hb.run X W H₀ _ c k2).2.1 hm) fun σ H Q h => ?_
    refine tOp_of (f := cmpF o) ?_
    have := tEb_bl h fun ρ S t S' q => by
      simp only [bor, ev] at q
      obtain ⟨_, _, _, q⟩ := ok_bind q
      obtain ⟨_, _, _, q⟩ := ok_bind q
      exact cmpF_bl (ok_of q)
    simpa only [bor, ev] using this⟩
theorem tChain_of {o o' : COp} {oa ob oc : Lenv → Store → Out T} {σ : St} {H : Hp} {Q : VK}
    (h : tE G H₀ W (fun ρ S => (oa ρ S).bind fun x S1 => (ob ρ S1).bind fun y S2 => (Out.of (cmpF o x y) S2).bind fun r S3 =>
      ifBl r ((oc ρ S3).bind fun z S4 => .of (cmpF o' y z) S4) (.ok (.bl false) S3)) σ H Q) :
    tChain (R2T G (cmpF o)) (R2T G (cmpF o')) (tEb G H₀ W oa) (tEb G H₀ W ob) (tEb G H₀ W oc) σ H Q := by
  obtain ⟨ρ, F, μ, S, e, k, p⟩ := h
  refine ⟨ρ, F, μ, S, e, k, p.bind.imp fun v H1 hv => ?_⟩
  obtain ⟨F1, μ1, S1, a, x1, k1, r1, _, p1⟩ := hv
  refine ⟨ρ, F1, μ1, S1, e.ext x1, k1, p1.bind.imp fun w H2 hw => ?_⟩
  obtain ⟨F2, μ2, S2, b, x2, k2, r2, _, p2⟩ := hw
  cases hq : cmpF o a b with
  | none => rw [hq] at p2; exact p2.elim
  | some t =>
    rw [hq] at p2
    obtain ⟨d, rfl⟩ := cmpF_bl hq
    refine ⟨F2, μ2, a, b, _, k2.fh, x2.repB r1, r2, hq, fun v F' H' x kk r => ?_⟩
    have k3 := kk S2 k2
    simp only [Rep] at r
    refine ⟨d, r, ?_⟩
    cases d with
    | false => exact PostO.later (o := Out.ok (T.bl false) S2) p2 x _ F' H' μ2 .refl k3 Rep.bl'
    | true =>
      have p3 := PostO.later (o := (oc ρ S2).bind fun z S4 => .of (cmpF o' b z) S4) p2 x
      refine ⟨ρ, F', μ2, S2, (e.ext (x1.trans x2)).ext x, k3, p3.bind.imp fun z H4 hz => ?_⟩
      obtain ⟨F4, μ4, S4, g, x4, k4, r4, _, p4⟩ := hz
      obtain ⟨t, et, p5⟩ := p4.of
      exact ⟨F4, μ4, b, g, t, k4.fh, x4.repB (x.repB r2), r4, et, fun v F' H' x k r => p5 v F' H' μ4 x (k S4 k4) r⟩
end
end
end Ly
namespace Ly
open PySem PySem.Spec L2
open PyProof.Rows hiding St

section
variable {tab : Tb} {glo : List (Str × T)} {G : Glo} {n k : Nat}
theorem tT_bor {c : Call} {a : Ex} {H₀ : Hp} {W : WX} {σ : St} {H : Hp} {Q : Bool → Hp → Prop} (h : tT G H₀ W (fun ρ S => ev c a ρ S) σ H Q) : tT G H₀ W (fun ρ S => bor ρ a S (ev c a ρ S)) σ H Q := by
  obtain ⟨ρ, F, μ, S, en, k, p⟩ := h
  refine ⟨ρ, F, μ, S, en, k, ?_⟩
  cases a <;> first | exact p | skip
  simp only [ev] at p
  exact p.elim
theorem ifBl_ok {r : T} {t f : Out T} {o : Out T} (h : ifBl r t f = o) (ho : o ≠ .stk) : (r = .bl true ∧ t = o) ∨ (r = .bl false ∧ f = o) := by
  unfold ifBl at h
  split at h
  · exact .inl ⟨rfl, h⟩
  · exact .inr ⟨rfl, h⟩
  · exact absurd h.symm ho
theorem snd_chn (o o' : COp) {a b d : Ex} (ha : SndE G tab glo n k a) (hb : SndE G tab glo n k b) (hd : SndE G tab glo n k d) : SndE G tab glo n k (.chn o o' a b d) := ⟨fun X W H₀ e c ok => by
  cases e <;> first | (simp only [okE, Bool.false_eq_true] at ok; done) | skip
  rename_i l ops cs pos
  match ops, cs, ok with
  | [op, op'], [r, q], ok =>
    simp only [okE, Bool.and_eq_true, decide_eq_true_eq] at ok
    obtain ⟨⟨⟨⟨⟨rfl, rfl⟩, ⟨na, nb⟩, nd⟩, k1⟩, k2⟩, k3⟩ := ok
    have na := nBor_ok na
    have nb := nBor_ok nb
    have nd := nBor_ok nd
    have hm : lastMarks [copE o, copE o'] [r, q] = false := by
      show behindInMarks (copE o') q = false
      exact behind_no (okE_plain k3)
    have ea : (fun ρ S => bor ρ a S (ev (callF tab.l n) a ρ S)) = fun ρ S => ev (callF tab.l n) a ρ S := by funext ρ S; exact bor_id na ρ S _
    have eb : (fun ρ S => bor ρ b S (ev (callF tab.l n) b ρ S)) = fun ρ S => ev (callF tab.l n) b ρ S := by funext ρ S; exact bor_id nb ρ S _
    have ed : (fun ρ S => bor ρ d S (ev (callF tab.l n) d ρ S)) = fun ρ S => ev (callF tab.l n) d ρ S := by funext ρ S; exact bor_id nd ρ S _
    have pa := (ha.run X W H₀ _ c k1).2.1
    have pb := (hb.run X W H₀ _ c k2).2.1
    have pd := (hd.run X W H₀ _ c k3).2.1
    rw [ea] at pa; rw [eb] at pb; rw [ed] at pd
    have h1 : PE X (.Compare l [copE o, copE o'] [r, q] pos) (tE G H₀ W (fun ρ S => ev (callF tab.l n) (.chn o o' a b d) ρ S)) :=
      PE.imp (pe_chain (o_cmp c.hG c.hu o) (o_cmp c.hG c.hu o') pa pb pd hm) fun σ H Q h => tChain_of (by simpa only [ev] using h)
    refine ⟨h1, PE.imp h1 fun σ H Q q => tE_b q, fun _ => ?_, by simp⟩
    refine PT.imp (pt_chain (o_cmp c.hG c.hu o) (o_cmp c.hG c.hu o') pa pb pd hm) fun σ H Q h => ?_
    refine tChain_of ?_
    have := tEb_bl h fun ρ S t S' q => by
      simp only [bor, ev] at q
      obtain ⟨_, _, _, q⟩ := ok_bind q
      obtain ⟨_, _, _, q⟩ := ok_bind q
      obtain ⟨t', _, q1, q⟩ := ok_bind q
      rcases ifBl_ok q (by simp) with ⟨_, q⟩ | ⟨_, q⟩
      · obtain ⟨_, _, _, q⟩ := ok_bind q
        exact cmpF_bl (ok_of q)
      · cases q; exact ⟨_, rfl⟩
    simpa only [bor, ev] using this⟩
theorem tAnd_of {oa ob : Lenv → Store → Out T} {H₀ : Hp} {W : WX} {σ : St} {H : Hp} {Q : Bool → Hp → Prop}
    (h : tT G H₀ W (fun ρ S => (oa ρ S).bind fun x S1 => ifBl x (ob ρ S1) (.ok (.bl false) S1)) σ H Q) : tAnd (tT G H₀ W oa) (tT G H₀ W ob) σ H Q := by
  obtain ⟨ρ, F, μ, S, en, k, p⟩ := h
  refine ⟨ρ, F, μ, S, en, k, ?_⟩
  dsimp only at p
  cases q : oa ρ S with
  | stk => rw [q] at p; exact p
  | exc e S => rw [q] at p; exact p
  | ok t S1 =>
    rw [q] at p
    cases t <;> first | exact p.elim | skip
    rename_i d
    intro v F' H' μ' x k r
    have r : d = v := Option.some.inj r
    subst r
    cases d with
    | false => exact p false F' H' μ' x k rfl
    | true => exact ⟨ρ, F', μ', S1, en.ext x, k, PostO.later (o := (ob ρ S1).bind fun t S => if t.tru.isSome then .ok t S else .stk) p x⟩
theorem tOr_of {oa ob : Lenv → Store → Out T} {H₀ : Hp} {W : WX} {σ : St} {H : Hp} {Q : Bool → Hp → Prop}
    (h : tT G H₀ W (fun ρ S => (oa ρ S).bind fun x S1 => ifBl x (.ok (.bl true) S1) (ob ρ S1)) σ H Q) : tOr (tT G H₀ W oa) (tT G H₀ W ob) σ H Q := by
  obtain ⟨ρ, F, μ, S, en, k, p⟩ := h
  refine ⟨ρ, F, μ, S, en, k, ?_⟩
  dsimp only at p
  cases q : oa ρ S with
  | stk => rw [q] at p; exact p
  | exc e S => rw [q] at p; exact p
  | ok t S1 =>
    rw [q] at p
    cases t <;> first | exact p.elim | skip
    rename_i d
    intro v F' H' μ' x k r
    have r : d = v := Option.some.inj r
    subst r
    cases d with
    | true => exact p true F' H' μ' x k rfl
    | false => exact ⟨ρ, F', μ', S1, en.ext x, k, PostO.later (o := (ob ρ S1).bind fun t S => if t.tru.isSome then .ok t S else .stk) p x⟩
theorem tAnd_mono {t t' u : TT} {σ : St} {H : Hp} {Q : Bool → Hp → Prop} (h : tAnd t u σ H Q) (i : ∀ σ H Q, t σ H Q → t' σ H Q) : tAnd t' u σ H Q := i _ _ _ h
theorem tOr_mono {t t' u : TT} {σ : St} {H : Hp} {Q : Bool → Hp → Prop} (h : tOr t u σ H Q) (i : ∀ σ H Q, t σ H Q → t' σ H Q) : tOr t' u σ H Q := i _ _ _ h
theorem snd_and {a b : Ex} (ha : SndE G tab glo n k a) (hb : SndE G tab glo n k b) : SndE G tab glo n k (.and a b) := ⟨fun X W H₀ e c ok => by
  cases e <;> first | (simp only [okE, Bool.false_eq_true] at ok; done) | skip
  rename_i op es pos
  cases op <;> first | (simp only [okE, Bool.false_eq_true] at ok; done) | skip
  match es, ok with
  | x :: y :: r, ok =>
    simp only [okE, Bool.and_eq_true] at ok
    obtain ⟨⟨k0, k1⟩, k2⟩ := ok
    have pa := ha.run X W H₀ _ c k1
    have pb := hb.run X W H₀ _ c k2
    have h1 : PE X (.BoolOp .And (x :: y :: r) pos) (tE G H₀ W (fun ρ S => ev (callF tab.l n) (.and a b) ρ S)) := PE.imp (pe_and pa.1 pb.1) fun σ H Q h => by
      obtain ⟨ρ, F, μ, S, en, k, p⟩ := h
      simp only [ev] at p
      refine ⟨ρ, F, μ, S, en, k, p.bind.imp fun v H1 hv => ?_⟩
      obtain ⟨F1, μ1, S1, t, x1, k1, r1, _, p1⟩ := hv
      unfold ifBl at p1
      split at p1
      · simp only [Rep] at r1
        exact ⟨true, r1, ρ, F1, μ1, S1, en.ext x1, k1, p1⟩
      · simp only [Rep] at r1
        exact ⟨false, r1, p1 _ F1 H1 μ1 .refl k1 Rep.bl'⟩
      · exact p1.elim
    have hw : PW X (.BoolOp .And (x :: y :: r) pos) (tT G H₀ W (fun ρ S => ev (callF tab.l n) (.and a b) ρ S)) := ⟨fun wh pins s σ H Q I h => (pw_and (pa.2.2.1 k0) (pb.2.2.2 _ _ _ rfl)).run wh pins s σ H Q I
      (tAnd_mono (tAnd_of (by simpa only [ev] using h)) fun σ H Q q => tT_bor q)⟩
    exact ⟨h1, PE.imp h1 fun σ H Q q => tE_b q, fun _ => hw.pt, fun _ _ _ _ => by exact hw⟩⟩
theorem snd_or {a b : Ex} (ha : SndE G tab glo n k a) (hb : SndE G tab glo n k b) : SndE G tab glo n k (.or a b) := ⟨fun X W H₀ e c ok => by
  cases e <;> first | (simp only [okE, Bool.false_eq_true] at ok; done) | skip
  rename_i op es pos
  cases op <;> first | (simp only [okE, Bool.false_eq_true] at ok; done) | skip
  match es, ok with
  | x :: y :: r, ok =>
    simp only [okE, Bool.and_eq_true] at ok
    obtain ⟨⟨k0, k1⟩, k2⟩ := ok
    have pa := ha.run X W H₀ _ c k1
    have pb := hb.run X W H₀ _ c k2
    have h1 : PE X (.BoolOp .Or (x :: y :: r) pos) (tE G H₀ W (fun ρ S => ev (callF tab.l n) (.or a b) ρ S)) := PE.imp (pe_or pa.1 pb.1) fun σ H Q h => by
      obtain ⟨ρ, F, μ, S, en, k, p⟩ := h
      simp only [ev] at p
      refine ⟨ρ, F, μ, S, en, k, p.bind.imp fun v H1 hv => ?_⟩
      obtain ⟨F1, μ1, S1, t, x1, k1, r1, _, p1⟩ := hv
      unfold ifBl at p1
      split at p1
      · simp only [Rep] at r1
        exact ⟨true, r1, p1 _ F1 H1 μ1 .refl k1 Rep.bl'⟩
      · simp only [Rep] at r1
        exact ⟨false, r1, ρ, F1, μ1, S1, en.ext x1, k1, p1⟩
      · exact p1.elim
    have hw : PW X (.BoolOp .Or (x :: y :: r) pos) (tT G H₀ W (fun ρ S => ev (callF tab.l n) (.or a b) ρ S)) := ⟨fun wh pins s σ H Q I h => (pw_or (pa.2.2.1 k0) (pb.2.2.2 _ _ _ rfl)).run wh pins s σ H Q I
      (tOr_mono (tOr_of (by simpa only [ev] using h)) fun σ H Q q => tT_bor q)⟩
    exact ⟨h1, PE.imp h1 fun σ H Q q => tE_b q, fun _ => hw.pt, fun _ _ _ _ => by exact hw⟩⟩
theorem snd_one {a : Ex} (ha : SndE G tab glo n k a) : SndE G tab glo n k (.one a) := ⟨fun X W H₀ e c ok => by
  cases e <;> first | (simp only [okE, Bool.false_eq_true] at ok; done) | skip
  rename_i op es pos
  match es, ok with
  | [x], ok =>
    simp only [okE, Bool.and_eq_true] at ok
    obtain ⟨k0, k1⟩ := ok
    have pa := ha.run X W H₀ _ c k1
    have h1 : PE X (.BoolOp op [x] pos) (tE G H₀ W (fun ρ S => ev (callF tab.l n) (.one a) ρ S)) := by
      simp only [ev]
      exact pe_one pa.1
    have hw : PW X (.BoolOp op [x] pos) (tT G H₀ W (fun ρ S => ev (callF tab.l n) (.one a) ρ S)) := ⟨fun wh pins s σ H Q I h => by
      have h' : tT G H₀ W (fun ρ S => bor ρ a S (ev (callF tab.l n) a ρ S)) σ H Q := tT_bor (by simpa only [ev] using h)
      cases op with
      | And => exact (pw_and1 (pa.2.2.1 k0)).run wh pins s σ H Q I h'
      | Or => exact (pw_or1 (pa.2.2.1 k0)).run wh pins s σ H Q I h'⟩
    exact ⟨h1, PE.imp h1 fun σ H Q q => tE_b q, fun _ => hw.pt, fun _ _ _ _ => by exact hw⟩⟩
theorem snd_not {a : Ex} (ha : SndE G tab glo n k a) : SndE G tab glo n k (.not a) := ⟨fun X W H₀ e c ok => by
  cases e <;> first | (simp only [okE, Bool.false_eq_true] at ok; done) | skip
  rename_i op x pos
  cases op <;> first | (simp only [okE, Bool.false_eq_true] at ok; done) | skip
  simp only [okE, Bool.and_eq_true] at ok
  obtain ⟨k0, k1⟩ := ok
  have pa := ha.run X W H₀ _ c k1
  have h1 : PE X (.UnaryOp .Not x pos) (tE G H₀ W (fun ρ S => ev (callF tab.l n) (.not a) ρ S)) := PE.imp (pe_notT pa.2.1) fun σ H Q h => by
    obtain ⟨ρ, F, μ, S, en, k, p⟩ := h
    simp only [ev] at p
    refine ⟨ρ, F, μ, S, en, k, p.bind.imp fun v H1 hv => ?_⟩
    obtain ⟨F1, μ1, S1, t, x1, k1, r1, _, p1⟩ := hv
    obtain ⟨u, hu, p2⟩ := p1.of
    simp only [Option.map_eq_some_iff] at hu
    obtain ⟨d, hd, rfl⟩ := hu
    exact ⟨d, RepB.tru r1 c.hG k1.fh hd, p2 _ F1 H1 μ1 .refl k1 Rep.bl'⟩
  refine ⟨h1, PE.imp h1 fun σ H Q q => tE_b q, fun _ => PT.imp (pt_not (pa.2.2.1 k0)) fun σ H Q h => ?_, by simp⟩
  obtain ⟨ρ, F, μ, S, en, k, p⟩ := h
  refine ⟨ρ, F, μ, S, en, k, ?_⟩
  simp only [bor, ev] at p
  show PostO _ _ _ _ _ _ _ ((bor ρ a S (ev (callF tab.l n) a ρ S)).bind fun t S => if t.tru.isSome then .ok t S else .stk)
  cases q : bor ρ a S (ev (callF tab.l n) a ρ S) with
  | stk => simp only [bor] at q; rw [q] at p; exact p
  | exc e S => simp only [bor] at q; rw [q] at p; exact p
  | ok t S1 =>
    simp only [bor] at q
    rw [q] at p
    show PostO _ _ _ _ _ _ _ (if t.tru.isSome then Out.ok t S1 else Out.stk)
    cases hd : t.tru with
    | none => simp only [Out.bind, hd] at p; exact p.elim
    | some d =>
      simp only [Out.bind, hd, Out.of, Option.map] at p
      exact fun v F' H' μ' x k r => by
        have r : t.tru = some v := r
        rw [hd] at r
        cases r
        exact p (!d) F' H' μ' x k rfl⟩

theorem snd_ife {d a b : Ex} (hd : SndE G tab glo n k d) (ha : SndE G tab glo n k a) (hb : SndE G tab glo n k b) : SndE G tab glo n k (.ife d a b) := .val (fun i => by simp) fun X W H₀ e c ok => by
  cases e <;> first | (simp only [okE, Bool.false_eq_true] at ok; done) | skip
  rename_i t x y pos
  simp only [okE, Bool.and_eq_true] at ok
  obtain ⟨⟨⟨k0, k1⟩, k2⟩, k3⟩ := ok
  refine ⟨?_, fun h => by simp [noIf] at h, by simp⟩
  refine PE.imp (pe_ifExp ((hd.run X W H₀ _ c k1).2.2.1 k0) (ha.run X W H₀ _ c k2).1 (hb.run X W H₀ _ c k3).1) fun σ H Q h => ?_
  refine tT_bor (c := callF tab.l n) ?_
  obtain ⟨ρ, F, μ, S, en, k, p⟩ := h
  refine ⟨ρ, F, μ, S, en, k, ?_⟩
  simp only [ev] at p
  show PostO _ _ _ _ _ _ _ ((ev (callF tab.l n) d ρ S).bind fun t S => if t.tru.isSome then .ok t S else .stk)
  cases q : ev (callF tab.l n) d ρ S with
  | stk => rw [q] at p; exact p
  | exc e S => rw [q] at p; exact p
  | ok t S1 =>
    rw [q] at p
    simp only [Out.bind] at p ⊢
    cases hq : t.tru with
    | none => rw [hq] at p; exact p.elim
    | some g =>
      rw [hq] at p
      intro v F' H' μ' x k r
      have r : t.tru = some v := r
      rw [hq] at r
      cases r
      cases g with
      | true => exact ⟨ρ, F', μ', S1, en.ext x, k, PostO.later (o := ev (callF tab.l n) a ρ S1) p x⟩
      | false => exact ⟨ρ, F', μ', S1, en.ext x, k, PostO.later (o := ev (callF tab.l n) b ρ S1) p x⟩

/-! ### argument lists -/
structure SndA (G : Glo) (tab : Tb) (glo : List (Str × T)) (n k : Nat) (E : Exs) : Prop where
  run : ∀ (X : Cx) (W : WX) (H₀ : Hp) (es : List Expr), Cxt G tab glo n k X W → okEs tab glo X.N X.env.scope E es = true →
    PA X es (tA G H₀ W (fun ρ S => evs (callF tab.l n) E ρ S)) ∧ PA X es (tAb G H₀ W (fun ρ S => evb (callF tab.l n) E ρ S))
theorem snd_nil : SndA G tab glo n k .nil := ⟨fun X W H₀ es c ok => by
  cases es with
  | cons _ _ => simp [okEs] at ok
  | nil =>
    refine ⟨PA.imp pa_nil fun σ H Q h => ?_, PA.imp pa_nil fun σ H Q h => ?_⟩
    · obtain ⟨ρ, F, μ, S, en, k, p⟩ := h
      exact p [] F H μ .refl k (by simp [Reps])
    · obtain ⟨ρ, F, μ, S, en, k, p⟩ := h
      exact p [] F H μ .refl k (by simp [RepBs])⟩
theorem snd_cons {E : Ex} {Es : Exs} (h1 : SndE G tab glo n k E) (h2 : SndA G tab glo n k Es) : SndA G tab glo n k (.cons E Es) := ⟨fun X W H₀ es c ok => by
  cases es with
  | nil => simp [okEs] at ok
  | cons x xs =>
    simp only [okEs, Bool.and_eq_true] at ok
    have p1 := h1.run X W H₀ x c ok.1
    have p2 := h2.run X W H₀ xs c ok.2
    have hs : starEach (x :: xs) X.env = (false, eval x X.env) :: starEach xs X.env := star_cons (okE_plain ok.1)
    refine ⟨PA.imp (pa_cons p1.1 p2.1 hs) fun σ H Q h => ?_, PA.imp (pa_cons p1.2.1 p2.2 hs) fun σ H Q h => ?_⟩
    · obtain ⟨ρ, F, μ, S, en, k, p⟩ := h
      simp only [evs] at p
      refine ⟨ρ, F, μ, S, en, k, p.bind.imp fun v H1 hv => ?_⟩
      obtain ⟨F1, μ1, S1, t, x1, k1, r1, _, p1⟩ := hv
      refine ⟨ρ, F1, μ1, S1, en.ext x1, k1, p1.bind.imp fun w H2 hw => ?_⟩
      obtain ⟨F2, μ2, S2, u, x2, k2, r2, _, p2⟩ := hw
      exact p2 _ F2 H2 μ2 .refl k2 (Reps.cons (x2.rep r1) r2)
    · obtain ⟨ρ, F, μ, S, en, k, p⟩ := h
      simp only [evb] at p
      refine ⟨ρ, F, μ, S, en, k, p.bind.imp fun v H1 hv => ?_⟩
      obtain ⟨F1, μ1, S1, t, x1, k1, r1, _, p1⟩ := hv
      refine ⟨ρ, F1, μ1, S1, en.ext x1, k1, p1.bind.imp fun w H2 hw => ?_⟩
      obtain ⟨F2, μ2, S2, u, x2, k2, r2, _, p2⟩ := hw
      refine p2 _ F2 H2 μ2 .refl k2 ?_
      simp only [RepBs]
      exact ⟨v, w, rfl, x2.repB r1, r2⟩⟩
theorem snd_tup {Es : Exs} (h : SndA G tab glo n k Es) : SndE G tab glo n k (.tup Es) := .val (fun i => by simp) fun X W H₀ e c ok => by
  cases e <;> first | (simp only [okE, Bool.false_eq_true] at ok; done) | skip
  simp only [okE] at ok
  refine ⟨?_, fun _ _ _ => rfl, by simp⟩
  refine PE.imp (pe_tup (h.run X W H₀ _ c ok).1) fun σ H Q h => ?_
  obtain ⟨ρ, F, μ, S, en, k, p⟩ := h
  simp only [ev] at p
  refine ⟨ρ, F, μ, S, en, k, p.bind.imp fun v H1 hv => ?_⟩
  obtain ⟨F1, μ1, S1, t, x1, k1, r1, _, p1⟩ := hv
  split at p1
  · rename_i hl
    have : (1000 : Nat) ≤ sizeLine := by decide
    have e := r1.length
    refine ⟨by omega, fun q hq => ?_⟩
    exact Res.tup (G := G) (F := F1) (μ := μ1) (ts := t) (fun v F' H' x k r => p1 v F' H' μ1 x (k S1 k1) r) k1.fh hq (by omega) r1
  · exact p1.elim
theorem snd_lst {Es : Exs} (h : SndA G tab glo n k Es) : SndE G tab glo n k (.lst Es) := .val (fun i => by simp) fun X W H₀ e c ok => by
  cases e <;> first | (simp only [okE, Bool.false_eq_true] at ok; done) | skip
  simp only [okE] at ok
  refine ⟨?_, fun _ _ _ => rfl, by simp⟩
  refine PE.imp (pe_lst (h.run X W H₀ _ c ok).1) fun σ H Q h => ?_
  obtain ⟨ρ, F, μ, S, en, k, p⟩ := h
  simp only [ev] at p
  refine ⟨ρ, F, μ, S, en, k, p.bind.imp fun v H1 hv => ?_⟩
  obtain ⟨F1, μ1, S1, t, x1, k1, r1, _, p1⟩ := hv
  split at p1
  · rename_i hl
    have : (1000 : Nat) ≤ sizeLine := by decide
    have e := r1.length
    refine ⟨by omega, fun q hq => ?_⟩
    exact Res.lst (G := G) (F := F1) (μ := μ1) (ts := t) (fun v F' H' x k r => p1 v F' H' μ1 x (k S1 k1) r) k1.fh hq (by omega) r1
  · exact p1.elim
theorem snd_sub {a i : Ex} (ha : SndE G tab glo n k a) (hi : SndE G tab glo n k i) : SndE G tab glo n k (.sub a i) := .val (fun i => by simp) fun X W H₀ e c ok => by
  cases e <;> first | (simp only [okE, Bool.false_eq_true] at ok; done) | skip
  rename_i x y pos
  have ok' : (nBor i = true ∧ okE tab glo X.N X.env.scope a x = true) ∧ okE tab glo X.N X.env.scope i y = true := by
    cases y <;> first | (simp only [okE, Bool.and_eq_true] at ok; exact ok)
  obtain ⟨⟨ni, oa⟩, oi⟩ := ok'
  have ni := nBor_ok ni
  have ok' := And.intro oa oi
  refine ⟨?_, fun _ _ _ => rfl, by simp⟩
  have ei : (fun ρ S => bor ρ i S (ev (callF tab.l n) i ρ S)) = fun ρ S => ev (callF tab.l n) i ρ S := by funext ρ S; exact bor_id ni ρ S _
  have pi := (hi.run X W H₀ _ c ok'.2).2.1
  rw [ei] at pi
  exact PE.imp (pe_ix (o_sub_ix c.hG) (ha.run X W H₀ _ c ok'.1).2.1 pi (plainIx (okE_plain ok'.2))) fun σ H Q h => tOp_of (by simpa only [ev] using h)
theorem h_optI_nop {t : T} {o : Option Int} (h : optI .nop t = some o) : o = none := by simp [optI] at h; exact h.symm
theorem optI_val {E : Ex} {t : T} {o : Option Int} (h : optI E t = some o) (hE : E ≠ .nop) : ∃ i, t = .int i ∧ o = some i := by
  unfold optI at h
  split at h
  · exact absurd rfl hE
  · split at h
    · cases h; exact ⟨_, rfl, rfl⟩
    · cases h
/-- an end of a slice -/
theorem po_of {X : Cx} {W : WX} {H₀ : Hp} (c : Cxt G tab glo n k X W) {E : Ex} (hE : SndE G tab glo n k E) {l : Option Expr}
    (ok : (match l with | none => isNop E | some l => okE tab glo X.N X.env.scope E l) = true) :
    ∃ t : TO, PO X l t ∧ ∀ σ H (Q : Option Int → Hp → Prop), (∃ ρ F μ S, EnvR G H₀ F H μ ρ σ ∧ Ok G F H μ S ∧ PostO G F H μ (exK G W σ) (fun F' H' μ' (t : T) (o : Option Int) => optI E t = some o) Q
      ((ev (callF tab.l n) E ρ S).bind fun t S => if (optI E t).isSome then .ok t S else .stk)) → t σ H Q := by
  cases l with
  | none =>
    refine ⟨_, po_none, fun σ H Q h => ?_⟩
    cases E <;> simp only [isNop, Bool.false_eq_true] at ok
    obtain ⟨ρ, F, μ, S, en, k, p⟩ := h
    simp only [ev, Out.bind, optI] at p
    exact p none F H μ .refl k rfl
  | some l =>
    have nE : E ≠ .nop := fun e => by subst e; cases l <;> simp [okE] at ok
    refine ⟨_, po_some (hE.run X W H₀ _ c ok).1, fun σ H Q h => ?_⟩
    obtain ⟨ρ, F, μ, S, en, k, p⟩ := h
    refine ⟨ρ, F, μ, S, en, k, ?_⟩
    show PostO _ _ _ _ _ _ _ (ev (callF tab.l n) E ρ S)
    cases q : ev (callF tab.l n) E ρ S with
    | stk => rw [q] at p; exact p
    | exc e S => rw [q] at p; exact p
    | ok t S1 =>
      rw [q] at p
      simp only [Out.bind] at p
      cases hq : optI E t with
      | none => rw [hq] at p; exact p.elim
      | some o =>
        rw [hq] at p
        obtain ⟨i, rfl, rfl⟩ := optI_val hq nE
        intro v F' H' μ' x k r
        simp only [Rep] at r
        exact ⟨i, r, p (some i) F' H' μ' x k hq⟩
theorem snd_slc {a lo hi : Ex} (ha : SndE G tab glo n k a) (hl : SndE G tab glo n k lo) (hh : SndE G tab glo n k hi) : SndE G tab glo n k (.slc a lo hi) := .val (fun i => by simp) fun X W H₀ e c ok => by
  cases e <;> first | (simp only [okE, Bool.false_eq_true] at ok; done) | skip
  rename_i x y pos
  cases y <;> first | (simp only [okE, Bool.false_eq_true] at ok; done) | skip
  rename_i l h s pos2
  cases s <;> first | (simp only [okE, Bool.false_eq_true] at ok; done) | skip
  simp only [okE, Bool.and_eq_true] at ok
  obtain ⟨⟨k1, k2⟩, k3⟩ := ok
  obtain ⟨tl, pl, il⟩ := po_of (H₀ := H₀) c hl k2
  obtain ⟨th, ph, ih⟩ := po_of (H₀ := H₀) c hh k3
  refine ⟨?_, fun _ _ _ => rfl, by simp⟩
  refine PE.imp (pe_slice (o_slc c.hG) (ha.run X W H₀ _ c k1).2.1 pl ph) fun σ H Q h => ?_
  obtain ⟨ρ, F, μ, S, en, k, p⟩ := h
  simp only [ev] at p
  refine ⟨ρ, F, μ, S, en, k, p.bind.imp fun v H1 hv => ?_⟩
  obtain ⟨F1, μ1, S1, t, x1, k1, r1, _, p1⟩ := hv
  refine il σ H1 _ ⟨ρ, F1, μ1, S1, en.ext x1, k1, ?_⟩
  cases q1 : ev (callF tab.l n) lo ρ S1 with
  | stk => rw [q1] at p1; exact p1
  | exc e S => rw [q1] at p1; exact p1
  | ok tl S2 =>
    rw [q1] at p1
    simp only [Out.bind] at p1 ⊢
    cases e1 : optI lo tl with
    | none => rw [e1] at p1; exact p1
    | some ol =>
      rw [e1] at p1
      intro o2 F2 H2 μ2 x2 k2 r2
      have r2 : optI lo tl = some o2 := r2
      rw [e1] at r2
      cases r2
      refine ih σ H2 _ ⟨ρ, F2, μ2, S2, (en.ext x1).ext x2, k2, ?_⟩
      have p2 := PostO.later (o := (ev (callF tab.l n) hi ρ S2).bind fun h S3 => Out.opt (optI hi h) fun h => .of (T.slc t ol h) S3) p1 x2
      cases q2 : ev (callF tab.l n) hi ρ S2 with
      | stk => rw [q2] at p2; exact p2
      | exc e S => rw [q2] at p2; exact p2
      | ok th S3 =>
        rw [q2] at p2
        simp only [Out.bind] at p2 ⊢
        cases e2 : optI hi th with
        | none => rw [e2] at p2; exact p2
        | some oh =>
          rw [e2] at p2
          intro o3 F3 H3 μ3 x3 k3 r3
          have r3 : optI hi th = some o3 := r3
          rw [e2] at r3
          cases r3
          obtain ⟨u, eu, p3⟩ := p2.of
          exact ⟨F3, μ3, t, u, k3.fh, x3.repB (x2.repB r1), eu, fun v F' H' x k r => PostO.later p3 x3 v F' H' μ3 x (k S3 k3) r⟩
end
end Ly
namespace Ly
open PySem PySem.Spec L2
open PyProof.Rows hiding St

section
variable {tab : Tb} {glo : List (Str × T)} {G : Glo} {n k : Nat}
theorem snd_call (f : Nat) {Es : Exs} (h : SndA G tab glo n k Es) : SndE G tab glo n k (.call f Es) := .val (fun i => by simp) fun X W H₀ e c ok => by
  cases e <;> first | (simp only [okE, Bool.false_eq_true] at ok; done) | skip
  rename_i g xs ks pos
  cases g <;> first | (simp only [okE, Bool.false_eq_true] at ok; done) | skip
  rename_i x p2
  cases ks <;> first | (simp only [okE, Bool.false_eq_true] at ok; done) | skip
  simp only [okE, Bool.and_eq_true, decide_eq_true_eq] at ok
  obtain ⟨⟨⟨⟨k1, k2⟩, k3⟩, k4⟩, k5⟩ := ok
  refine ⟨?_, fun _ _ _ => rfl, by simp⟩
  cases hf : tab.at f with
  | none => rw [hf] at k1; cases k1
  | some fi =>
    rw [hf] at k1
    have : x = fi.2.name := by simpa using k1
    subst this
    obtain ⟨a, fd, ps, m1, m2, m3, m4⟩ := c.fns f fi hf
    cases xs with
    | nil => exact absurd rfl k4
    | cons y ys =>
      have pl := okEs_plain k5
      have hs : starEach (y :: ys) X.env = (false, eval y X.env) :: starEach ys X.env := star_cons (pl y List.mem_cons_self)
      refine PE.imp (pe_callS (E := WE W) m4 c.room (gloB_ok k2) m1 m2 m3 (passAt c.tk) (h.run X W H₀ _ c k5).1 (beq_eq_false_iff_ne.mpr k3) hs (pl_no fun e he => pl e (List.mem_cons_of_mem _ he))) fun σ H Q q => ?_
      obtain ⟨ρ, F, μ, S, en, k, p⟩ := q
      simp only [ev] at p
      refine ⟨ρ, F, μ, S, en, k, p.bind.imp fun v H1 hv => ?_⟩
      obtain ⟨F1, μ1, S1, t, x1, k1, r1, _, p1⟩ := hv
      exact ⟨t, F1, μ1, S1, r1, k1, p1⟩
theorem blt_in (b : Bi) : biName b ∈ bltNames := by cases b <;> simp [biName, bltNames]
theorem tCB_of {b : Bi} {H₀ : Hp} {W : WX} {oa : Lenv → Store → Out (List T)} {σ : St} {H : Hp} {Q : VK}
    (h : tE G H₀ W (fun ρ S => (oa ρ S).bind fun l S1 => .of (biF b l) S1) σ H Q) : tCB (RLT G (biF b)) (tAb G H₀ W oa) σ H Q := by
  obtain ⟨ρ, F, μ, S, en, k, p⟩ := h
  refine ⟨ρ, F, μ, S, en, k, p.bind.imp fun v H1 hv => ?_⟩
  obtain ⟨F1, μ1, S1, t, x1, k1, r1, _, p1⟩ := hv
  obtain ⟨u, eu, p2⟩ := p1.of
  exact ⟨F1, μ1, t, u, k1.fh, r1, eu, fun v F' H' x k r => p2 v F' H' μ1 x (k S1 k1) r⟩
theorem ty_of_bi {b : Bi} {m : String} (hm : isiName b = some (Str.ofString m)) (hmm : m = "tuple" ∨ m = "list" ∨ m = "str" ∨ m = "int" ∨ m = "bool") {t u : T} (e : biF b [t] = some u) : ∃ n, tyT t = some n ∧ u = T.bl (isiB n m) := by
  rcases hmm with rfl | rfl | rfl | rfl | rfl <;> cases b <;> first
    | (exact absurd hm (by decide +kernel))
    | (cases t <;> simp only [biF, reduceCtorEq, Option.some.injEq] at e <;> subst e <;> exact ⟨_, rfl, rfl⟩)
theorem isi_of (b : Bi) {m : Str} (h : isiName b = some m) : ∃ s : String, m = Str.ofString s ∧ (s = "tuple" ∨ s = "list" ∨ s = "str" ∨ s = "int" ∨ s = "bool") := by
  cases b <;> simp only [isiName, reduceCtorEq, Option.some.injEq] at h <;> subst h
  · exact ⟨"tuple", rfl, by simp⟩
  · exact ⟨"str", rfl, by simp⟩
  · exact ⟨"int", rfl, by simp⟩
  · exact ⟨"list", rfl, by simp⟩
  · exact ⟨"bool", rfl, by simp⟩
theorem isi_name (b : Bi) {m : Str} (h : isiName b = some m) : biName b = "isinstance" := by
  cases b <;> simp only [isiName, reduceCtorEq] at h <;> rfl
theorem snd_bi (b : Bi) {Es : Exs} (h : SndA G tab glo n k Es) (h1 : ∀ e, Es = .cons e .nil → SndE G tab glo n k e) : SndE G tab glo n k (.bi b Es) := .val (fun i => by simp) fun X W H₀ e c ok => by
  cases e <;> first | (simp only [okE, Bool.false_eq_true] at ok; done) | skip
  rename_i g xs ks pos
  cases g <;> first | (simp only [okE, Bool.false_eq_true] at ok; done) | skip
  rename_i x p2
  cases ks <;> first | (simp only [okE, Bool.false_eq_true] at ok; done) | skip
  simp only [okE, Bool.and_eq_true, decide_eq_true_eq] at ok
  obtain ⟨⟨⟨rfl, k2⟩, k3⟩, k4⟩ := ok
  refine ⟨?_, fun _ _ _ => rfl, by simp⟩
  have gl := gloB_ok k2
  have mn := c.blt _ (blt_in b)
  cases hi : isiName b with
  | some m =>
    rw [hi] at k4
    simp only at k4
    split at k4
    · rename_i e y z pz
      simp only [Bool.and_eq_true, decide_eq_true_eq] at k4
      obtain ⟨⟨rfl, kz⟩, ky⟩ := k4
      obtain ⟨s, es, hs⟩ := isi_of b hi
      subst es
      have pe := ((h1 e rfl).run X W H₀ _ c ky).2.1
      have gz := gloB_ok kz
      have mz : X.mg (Str.ofString s) = none := c.blt _ (by rcases hs with rfl | rfl | rfl | rfl | rfl <;> simp [bltNames])
      have bz : bootBuiltins (Str.ofString s) = some (.type s) := by rcases hs with rfl | rfl | rfl | rfl | rfl <;> decide +kernel
      have pz2 : PE X (.Name (Str.ofString s) pz) (tC (.ty s)) := pe_bltn gz mz bz rfl (by rcases hs with rfl | rfl | rfl | rfl | rfl <;> decide +kernel) (by rcases hs with rfl | rfl | rfl | rfl | rfl <;> decide +kernel)
      have hst : starEach (y :: [Expr.Name (Str.ofString s) pz]) X.env = (false, eval y X.env) :: starEach [Expr.Name (Str.ofString s) pz] X.env := star_cons (okE_plain ky)
      have en := isi_name b hi
      rw [en] at gl mn ⊢
      refine PE.imp (pe_callB (o_isi c.hG hs) gl mn PyProof.Rows.boot_isinstance (pa_cons pe (pa_cons pz2 pa_nil) hst) (by decide +kernel) (by decide +kernel) hst rfl) fun σ H Q q => ?_
      obtain ⟨ρ, F, μ, S, en, k, p⟩ := q
      simp only [ev, evb] at p
      refine ⟨ρ, F, μ, S, en, k, ?_⟩
      show PostO _ _ _ _ _ _ _ (bor ρ e S (ev (callF tab.l n) e ρ S))
      cases q : bor ρ e S (ev (callF tab.l n) e ρ S) with
      | stk => rw [q] at p; exact p
      | exc e S => rw [q] at p; exact p
      | ok t S1 =>
        rw [q] at p
        simp only [Out.bind] at p
        obtain ⟨u, eu, p2⟩ := p.of
        obtain ⟨n, hn, rfl⟩ := ty_of_bi hi hs eu
        intro v F' H' μ' x k r
        exact ⟨F', μ', t, _, n, v, rfl, k.fh, r, hn, rfl, fun v F'' H'' x' k' r' => p2 v F'' H'' μ' (x.trans x') (k' S1 k) r'⟩
    · cases k4
  | none =>
    rw [hi] at k4
    simp only at k4
    cases xs with
    | nil => exact absurd rfl k3
    | cons y ys =>
      have pl := okEs_plain k4
      have hs : starEach (y :: ys) X.env = (false, eval y X.env) :: starEach ys X.env := star_cons (pl y List.mem_cons_self)
      have hp : (backTo pos (starEach ys X.env)).any (·.1) = false := pl_no fun e he => pl e (List.mem_cons_of_mem _ he)
      have pa := (h.run X W H₀ _ c k4).2
      have i : ∀ σ H Q, tE G H₀ W (fun ρ S => ev (callF tab.l n) (.bi b Es) ρ S) σ H Q → tCB (RLT G (biF b)) (tAb G H₀ W (fun ρ S => evb (callF tab.l n) Es ρ S)) σ H Q := fun σ H Q q => tCB_of (by simpa only [ev] using q)
      cases b <;> simp only [isiName, reduceCtorEq] at hi
      · exact PE.imp (pe_callB (o_len c.hG) gl mn PySem.boot_len pa (by decide +kernel) (by decide +kernel) hs hp) i
      · exact PE.imp (pe_callB (o_max c.calm c.hu c.hG) gl mn PyProof.Rows.boot_max pa (by decide +kernel) (by decide +kernel) hs hp) i
      · exact PE.imp (pe_callB (o_min c.calm c.hu c.hG) gl mn PyProof.Rows.boot_min pa (by decide +kernel) (by decide +kernel) hs hp) i
      · exact PE.imp (pe_callB (o_sum c.calm) gl mn PyProof.Rows.boot_sum pa (by decide +kernel) (by decide +kernel) hs hp) i
      · exact PE.imp (pe_callB (o_all c.calm) gl mn PyProof.Rows.boot_all pa (by decide +kernel) (by decide +kernel) hs hp) i
      · exact PE.imp (pe_callB (o_any c.calm) gl mn PyProof.Rows.boot_any pa (by decide +kernel) (by decide +kernel) hs hp) i
      · exact PE.imp (pe_callTy (o_tup c.hG) gl mn PyProof.Rows.boot_tuple pa (by decide +kernel) (by decide +kernel) hs hp) i
      · exact PE.imp (pe_callTy (o_lst c.hG) gl mn PyProof.Rows.boot_list pa (by decide +kernel) (by decide +kernel) hs hp) i
theorem snd_isIS {a : Ex} (h : SndE G tab glo n k a) : SndE G tab glo n k (.isIS a) := .val (fun i => by simp) fun X W H₀ e c ok => by
  unfold okE at ok
  split at ok
  all_goals first | (rename_i q; cases q; done) | (rename_i q _; cases q; done) | skip
  · rename_i heq
    cases heq
    simp only [Bool.and_eq_true, decide_eq_true_eq] at ok
    obtain ⟨⟨⟨⟨⟨⟨rfl, k1⟩, rfl⟩, k2⟩, rfl⟩, k3⟩, k4⟩ := ok
    refine ⟨?_, fun _ _ _ => rfl, by simp⟩
    rename_i pf y pz pz2 kt pt pos
    have pe := (h.run X W H₀ _ c k4).2.1
    have gl := gloB_ok k1
    have mn := c.blt _ (show ("isinstance" : Str) ∈ bltNames by simp [bltNames])
    have m1 : X.mg "int" = none := c.blt _ (by simp [bltNames])
    have m2 : X.mg "str" = none := c.blt _ (by simp [bltNames])
    have p1 : PE X (.Name "int" pz) (tC (.ty "int")) := pe_bltn (gloB_ok k2) m1 (by decide +kernel) rfl (by decide +kernel) (by decide +kernel)
    have p2 : PE X (.Name "str" pz2) (tC (.ty "str")) := pe_bltn (gloB_ok k3) m2 (by decide +kernel) rfl (by decide +kernel) (by decide +kernel)
    have hst : starEach (y :: [Expr.Tuple [Expr.Name "int" pz, Expr.Name "str" pz2] kt pt]) X.env = (false, eval y X.env) :: starEach [Expr.Tuple [Expr.Name "int" pz, Expr.Name "str" pz2] kt pt] X.env := star_cons (okE_plain k4)
    have pt' : PE X (.Tuple [Expr.Name "int" pz, Expr.Name "str" pz2] kt pt) (tTup (tCons (tC (.ty "int")) (tCons (tC (.ty "str")) tNil))) := pe_tup (pa_cons p1 (pa_cons p2 pa_nil))
    refine PE.imp (pe_callB (o_isIS c.hG) gl mn PyProof.Rows.boot_isinstance (pa_cons pe (pa_cons pt' pa_nil) hst) (by decide +kernel) (by decide +kernel) hst rfl) fun σ H Q q => ?_
    obtain ⟨ρ, F, μ, S, en, k, p⟩ := q
    simp only [ev] at p
    refine ⟨ρ, F, μ, S, en, k, ?_⟩
    refine p.bind.imp fun v H1 hv => ?_
    obtain ⟨F1, μ1, S1, t, x1, k1, r1, _, p1⟩ := hv
    obtain ⟨u, eu, p2⟩ := p1.of
    refine ⟨by decide, fun q hq => ?_⟩
    have x2 : Ext F1 H1 μ1 F1 (upd H1 q (.tup [.ty "int", .ty "str"])) μ1 := Ext.newH hq
    have k2 := k1.newH (o := .tup [.ty "int", .ty "str"]) hq
    exact ⟨F1, μ1, t, u, v, q, rfl, upd_same, k2.fh, x2.repB r1, eu, fun w F' H' x k r => p2 w F' H' μ1 (x2.trans x) (k S1 k2) r⟩
  · cases ok
end
end Ly
namespace Ly
open PySem PySem.Spec L2
open PyProof.Rows hiding St

/-! ### targets -/
theorem EnvR.put {G : Glo} {H₀ F H : Hp} {μ : List Addr} {ρ : Lenv} {σ : St} (e : EnvR G H₀ F H μ ρ σ) {i : Nat} {t : T} {v : V} (r : Rep G.K F μ t v) : EnvR G H₀ F H μ (ρ.set i (.val t)) (σ.set i (some v)) where
  len := by simp [e.len]
  val := fun j u h => by
    by_cases hj : i = j
    · subst hj
      by_cases hl : i < ρ.length
      · rw [List.getElem?_set_self hl] at h
        cases h
        exact ⟨v, List.getElem?_set_self (by rw [← e.len]; exact hl), r⟩
      · rw [List.getElem?_eq_none (by simpa using hl)] at h; cases h
    · rw [List.getElem?_set_ne hj] at h
      obtain ⟨w, h1, h2⟩ := e.val j u h
      exact ⟨w, by rw [List.getElem?_set_ne hj]; exact h1, h2⟩
  own := fun j l h => by
    by_cases hj : i = j
    · subst hj
      by_cases hl : i < ρ.length
      · rw [List.getElem?_set_self hl] at h; cases h
      · rw [List.getElem?_eq_none (by simpa using hl)] at h; cases h
    · rw [List.getElem?_set_ne hj] at h
      obtain ⟨a, vs, h1, h2⟩ := e.own j l h
      exact ⟨a, vs, by rw [List.getElem?_set_ne hj]; exact h1, h2⟩
  ne := fun j k l l' h1 h2 h3 => by
    have nj : ∀ {j : Nat} {l : List T}, (ρ.set i (.val t))[j]? = some (Sl.own l) → i ≠ j := fun {j l} h q => by
      subst q
      by_cases hl : i < ρ.length
      · rw [List.getElem?_set_self hl] at h; cases h
      · rw [List.getElem?_eq_none (by simpa using hl)] at h; cases h
    have n1 := nj h1
    have n2 := nj h2
    rw [List.getElem?_set_ne n1] at h1
    rw [List.getElem?_set_ne n2] at h2
    rw [List.getElem?_set_ne n1, List.getElem?_set_ne n2] at h3
    exact e.ne j k l l' h1 h2 h3
theorem EnvR.wipe1 {G : Glo} {H₀ F H : Hp} {μ : List Addr} {ρ : Lenv} {σ : St} (e : EnvR G H₀ F H μ ρ σ) (i : Nat) : EnvR G H₀ F H μ (ρ.set i .un) (σ.set i none) where
  len := by simp [e.len]
  val := fun j u h => by
    by_cases hj : i = j
    · subst hj
      by_cases hl : i < ρ.length
      · rw [List.getElem?_set_self hl] at h; cases h
      · rw [List.getElem?_eq_none (by simpa using hl)] at h; cases h
    · rw [List.getElem?_set_ne hj] at h
      obtain ⟨w, h1, h2⟩ := e.val j u h
      exact ⟨w, by rw [List.getElem?_set_ne hj]; exact h1, h2⟩
  own := fun j l h => by
    by_cases hj : i = j
    · subst hj
      by_cases hl : i < ρ.length
      · rw [List.getElem?_set_self hl] at h; cases h
      · rw [List.getElem?_eq_none (by simpa using hl)] at h; cases h
    · rw [List.getElem?_set_ne hj] at h
      obtain ⟨a, vs, h1, h2⟩ := e.own j l h
      exact ⟨a, vs, by rw [List.getElem?_set_ne hj]; exact h1, h2⟩
  ne := fun j k l l' h1 h2 h3 => by
    have nj : ∀ {j : Nat} {l : List T}, (ρ.set i Sl.un)[j]? = some (Sl.own l) → i ≠ j := fun {j l} h q => by
      subst q
      by_cases hl : i < ρ.length
      · rw [List.getElem?_set_self hl] at h; cases h
      · rw [List.getElem?_eq_none (by simpa using hl)] at h; cases h
    have n1 := nj h1
    have n2 := nj h2
    rw [List.getElem?_set_ne n1] at h1
    rw [List.getElem?_set_ne n2] at h2
    rw [List.getElem?_set_ne n1, List.getElem?_set_ne n2] at h3
    exact e.ne j k l l' h1 h2 h3
theorem EnvR.wipe {G : Glo} {H₀ F H : Hp} {μ : List Addr} {ρ : Lenv} {σ : St} (e : EnvR G H₀ F H μ ρ σ) : ∀ vs : List Nat, EnvR G H₀ F H μ (wipeR ρ vs) (L2.wipe σ vs)
  | [] => e
  | v :: vs => by
    unfold wipeR L2.wipe
    exact (EnvR.wipe e vs).wipe1 v
/-- the slots in vs aside, nothing has changed -/
def SameBut (vs : List Nat) (σ σ' : St) : Prop := σ'.length = σ.length ∧ ∀ i, i ∉ vs → σ'[i]? = σ[i]?
theorem SameBut.refl {vs : List Nat} {σ : St} : SameBut vs σ σ := ⟨rfl, fun _ _ => rfl⟩
theorem SameBut.trans {vs ws : List Nat} {σ σ1 σ2 : St} (a : SameBut vs σ σ1) (b : SameBut ws σ1 σ2) : SameBut (vs ++ ws) σ σ2 :=
  ⟨b.1.trans a.1, fun i h => by
    rw [List.mem_append, not_or] at h
    exact (b.2 i h.2).trans (a.2 i h.1)⟩
theorem SameBut.set {σ : St} {i : Nat} {v : Option V} : SameBut [i] σ (σ.set i v) :=
  ⟨by simp, fun j h => by rw [List.getElem?_set_ne]; intro e; subst e; simp at h⟩
theorem wipe_get (σ : St) : ∀ (vs : List Nat) (i : Nat), (L2.wipe σ vs)[i]? = if i ∈ vs then (if i < σ.length then some none else none) else σ[i]?
  | [], i => by simp [L2.wipe]
  | v :: vs, i => by
    unfold L2.wipe
    by_cases hv : v = i
    · subst hv
      by_cases hl : v < σ.length
      · rw [List.getElem?_set_self (by rw [L2.wipe_length]; exact hl)]
        simp [hl]
      · rw [List.getElem?_eq_none (by simp [L2.wipe_length]; omega)]
        simp [hl]
    · rw [List.getElem?_set_ne hv, wipe_get σ vs i]
      have : i ≠ v := fun e => hv e.symm
      simp [this]
theorem SameBut.wipe {vs : List Nat} {σ σ' : St} (h : SameBut vs σ σ') : L2.wipe σ' vs = L2.wipe σ vs := by
  apply List.ext_getElem?
  intro i
  rw [wipe_get, wipe_get, h.1]
  by_cases hi : i ∈ vs
  · simp [hi]
  · simp [hi, h.2 i hi]

section
variable {G : Glo} {H₀ : Hp} {X : Cx}
def gOf (G : Glo) (H₀ : Hp) (g : Tg) : TG := fun v σ H Q => ∃ ρ F μ t, EnvR G H₀ F H μ ρ σ ∧ Same F H ∧ Rep G.K F μ t v ∧ ∃ ρ', g.put t ρ = some ρ' ∧ ∀ σ', EnvR G H₀ F H μ ρ' σ' → SameBut g.slots σ σ' → Q σ' H
def gsOf (G : Glo) (H₀ : Hp) (g : Tgs) : TGs := fun vs σ H Q => ∃ ρ F μ ts, EnvR G H₀ F H μ ρ σ ∧ Same F H ∧ Reps G.K F μ ts vs ∧ ∃ ρ', g.put ts ρ = some ρ' ∧ ∀ σ', EnvR G H₀ F H μ ρ' σ' → SameBut g.slots σ σ' → Q σ' H
theorem PG.imp {tg : Expr} {t t' : TG} (h : PG X tg t) (i : ∀ v σ H Q, t' v σ H Q → t v σ H Q) : PG X tg t' := ⟨fun pins s σ H v u Q I r q => h.run pins s σ H v u Q I r (i v σ H Q q)⟩
theorem PGs.imp {tg : List Expr} {t t' : TGs} (h : PGs X tg t) (i : ∀ v σ H Q, t' v σ H Q → t v σ H Q) : PGs X tg t' := ⟨fun pins s σ H v u Q I r q => h.run pins s σ H v u Q I r (i v σ H Q q)⟩
theorem PG.or {tg : Expr} {t t' : TG} (h : PG X tg t) (h' : PG X tg t') : PG X tg (fun v σ H Q => t v σ H Q ∨ t' v σ H Q) := ⟨fun pins s σ H v u Q I r q => by
  rcases q with q | q
  · exact h.run pins s σ H v u Q I r q
  · exact h'.run pins s σ H v u Q I r q⟩
/-- X's own names may be stored -/
def FnLoc (X : Cx) (sc : Scope) : Prop := ∀ x, locB sc x = true → X.fn x = true ∨ X.env.scope.names.lookup x = some .local
theorem okTs_assign {N : List Str} {sc : Scope} {env : Env} : ∀ {g : Tgs} {es : List Expr}, okTs N sc g es = true → (assignEach es env).length = es.length ∧ (assignEach es env).findIdx? (·.1) = none ∧ (assignEach es env).map (·.2) = es.map fun e => assign e env
  | .nil, [], _ => ⟨rfl, rfl, rfl⟩
  | .nil, _ :: _, h => by simp [okTs] at h
  | .cons _ _, [], h => by simp [okTs] at h
  | .cons g gs, e :: es, h => by
    simp only [okTs, Bool.and_eq_true] at h
    obtain ⟨h1, h2, h3⟩ := okTs_assign (env := env) h.2
    have : assignEach (e :: es) env = (false, assign e env) :: assignEach es env := by
      cases e <;> first | rfl | (cases g <;> simp [okT] at h)
    rw [this]
    refine ⟨by simp [h1], ?_, by simp [h3]⟩
    rw [List.findIdx?_cons]
    simp [h2]
theorem okTs_len {N : List Str} {sc : Scope} : ∀ {g : Tgs} {es : List Expr}, okTs N sc g es = true → ∀ {ts : List T} {ρ ρ' : Lenv}, g.put ts ρ = some ρ' → ts.length = es.length
  | .nil, [], _, ts, ρ, ρ', p => by cases ts <;> simp [Tgs.put] at p ⊢
  | .nil, _ :: _, h, _, _, _, _ => by simp [okTs] at h
  | .cons _ _, [], h, _, _, _, _ => by simp [okTs] at h
  | .cons g gs, e :: es, h, ts, ρ, ρ', p => by
    simp only [okTs, Bool.and_eq_true] at h
    cases ts with
    | nil => simp [Tgs.put] at p
    | cons t ts =>
      simp only [Tgs.put, Option.bind_eq_some_iff] at p
      obtain ⟨ρ1, _, p⟩ := p
      simp [okTs_len h.2 p]
mutual
theorem snd_tg (hG : G.K = X.K) (hc : X.calm = true) (hN : X.N.Nodup) (sc : Scope) (hf : FnLoc X sc) : ∀ (g : Tg) (e : Expr), okT X.N X.env.scope g e = true → okT X.N sc g e = true → PG X e (gOf G H₀ g)
  | .nm i, .Name x pos, h, h' => by
    simp only [okT, Bool.and_eq_true, decide_eq_true_eq] at h h'
    refine PG.imp (pg_name hN h.1 (locB_ok h.2) (hf x h'.2)) fun v σ H Q q => ?_
    obtain ⟨ρ, F, μ, t, en, s, r, ρ', p, k⟩ := q
    simp only [Tg.put, Option.some.injEq] at p
    subst p
    exact k _ (en.put r) SameBut.set
  | .tp gs, .Tuple es kk pos, h, h' => by
    simp only [okT] at h h'
    obtain ⟨a1, a2, _⟩ := okTs_assign (env := X.env) h
    have hs := snd_tgs hG hc hN sc hf gs es h h'
    refine PG.imp (PG.or (pg_tup hc hs a1 a2) (pg_unl hc hs a1 a2)) fun v σ H Q q => ?_
    obtain ⟨ρ, F, μ, t, en, s, r, ρ', p, k⟩ := q
    simp only [Tg.put] at p
    cases t with
    | tup l =>
      simp only [T.seq] at p
      simp only [Rep] at r
      obtain ⟨a, vs, rfl, q, z, rs⟩ := r
      exact .inl ⟨a, vs, rfl, hG ▸ Same.seqT s q, by rw [rs.length]; exact okTs_len h p, ρ, F, μ, l, en, s, rs, ρ', p, k⟩
    | lst l =>
      simp only [T.seq] at p
      simp only [Rep] at r
      obtain ⟨a, vs, rfl, q, z, rs⟩ := r
      exact .inr ⟨a, vs, rfl, SqL.of (s _ _ q), by rw [rs.length]; exact okTs_len h p, ρ, F, μ, l, en, s, rs, ρ', p, k⟩
    | _ => simp [T.seq] at p
  | .nm _, .BoolOp .., h, _ | .nm _, .NamedExpr .., h, _ | .nm _, .BinOp .., h, _ | .nm _, .UnaryOp .., h, _ | .nm _, .Lambda .., h, _ | .nm _, .IfExp .., h, _ | .nm _, .Dict .., h, _ | .nm _, .Set .., h, _ | .nm _, .ListComp .., h, _ | .nm _, .SetComp .., h, _ | .nm _, .DictComp .., h, _ | .nm _, .GeneratorExp .., h, _ | .nm _, .Await .., h, _ | .nm _, .Yield .., h, _ | .nm _, .YieldFrom .., h, _ | .nm _, .Compare .., h, _ | .nm _, .Call .., h, _ | .nm _, .FormattedValue .., h, _ | .nm _, .JoinedStr .., h, _ | .nm _, .Constant .., h, _ | .nm _, .Attribute .., h, _ | .nm _, .Subscript .., h, _ | .nm _, .Starred .., h, _ | .nm _, .List .., h, _ | .nm _, .Tuple .., h, _ | .nm _, .Slice .., h, _ => by simp [okT] at h
  | .tp _, .BoolOp .., h, _ | .tp _, .NamedExpr .., h, _ | .tp _, .BinOp .., h, _ | .tp _, .UnaryOp .., h, _ | .tp _, .Lambda .., h, _ | .tp _, .IfExp .., h, _ | .tp _, .Dict .., h, _ | .tp _, .Set .., h, _ | .tp _, .ListComp .., h, _ | .tp _, .SetComp .., h, _ | .tp _, .DictComp .., h, _ | .tp _, .GeneratorExp .., h, _ | .tp _, .Await .., h, _ | .tp _, .Yield .., h, _ | .tp _, .YieldFrom .., h, _ | .tp _, .Compare .., h, _ | .tp _, .Call .., h, _ | .tp _, .FormattedValue .., h, _ | .tp _, .JoinedStr .., h, _ | .tp _, .Constant .., h, _ | .tp _, .Attribute .., h, _ | .tp _, .Subscript .., h, _ | .tp _, .Starred .., h, _ | .tp _, .List .., h, _ | .tp _, .Name .., h, _ | .tp _, .Slice .., h, _ => by simp [okT] at h
theorem snd_tgs (hG : G.K = X.K) (hc : X.calm = true) (hN : X.N.Nodup) (sc : Scope) (hf : FnLoc X sc) : ∀ (g : Tgs) (es : List Expr), okTs X.N X.env.scope g es = true → okTs X.N sc g es = true → PGs X es (gsOf G H₀ g)
  | .nil, [], h, _ => PGs.imp pgs_nil fun v σ H Q q => by
    obtain ⟨ρ, F, μ, ts, en, s, r, ρ', p, k⟩ := q
    cases ts with
    | cons _ _ => simp [Tgs.put] at p
    | nil =>
      simp only [Tgs.put, Option.some.injEq] at p
      subst p
      simp only [Reps] at r
      exact ⟨r, k _ en SameBut.refl⟩
  | .nil, _ :: _, h, _ => by simp [okTs] at h
  | .cons _ _, [], h, _ => by simp [okTs] at h
  | .cons g gs, e :: es, h, h' => by
    obtain ⟨_, _, a3⟩ := okTs_assign (env := X.env) h
    simp only [okTs, Bool.and_eq_true] at h h'
    obtain ⟨_, _, b3⟩ := okTs_assign (env := X.env) h.2
    refine PGs.imp (pgs_cons (snd_tg hG hc hN sc hf g e h.1 h'.1) (snd_tgs hG hc hN sc hf gs es h.2 h'.2) (by rw [a3, b3]; rfl)) fun v σ H Q q => ?_
    obtain ⟨ρ, F, μ, ts, en, s, r, ρ', p, k⟩ := q
    cases ts with
    | nil => simp [Tgs.put] at p
    | cons t ts =>
      simp only [Tgs.put, Option.bind_eq_some_iff] at p
      obtain ⟨ρ1, p1, p2⟩ := p
      simp only [Reps] at r
      obtain ⟨v, vs, rfl, r1, r2⟩ := r
      refine ⟨v, vs, rfl, ρ, F, μ, t, en, s, r1, ρ1, p1, fun σ1 en1 b1 => ?_⟩
      exact ⟨ρ1, F, μ, ts, en1, s, r2, ρ', p2, fun σ2 en2 b2 => k σ2 en2 (b1.trans b2)⟩
end
end
end Ly
namespace Ly
open PySem PySem.Spec L2
open PyProof.Rows hiding St

/-! ### what a loop walks -/
structure WalkOk (G : Glo) (F H : Hp) (μ : List Addr) (bw : Bool) (J : It) (l : List T) (P : Hp → Prop) : Prop where
  now : P H
  per : ∀ F' H' μ', (bw = true → Ext F H μ F' H' μ') → Same F F' → Same F' H' → P H'
  go : ∀ i H', i < l.length → P H' → J.go i H'
  stop : ∀ H', P H' → J.stop l.length H'
  yld : ∀ (i : Nat) t x F' H' H'' μ' S, l[i]? = some t → P H' → Same F F' → (∃ r, μ' = μ ++ r) → Ok G F' H' μ' S → J.yld i H' x H'' → ∃ F'', Ext F' H' μ' F'' H'' μ' ∧ Ok G F'' H'' μ' S ∧ Rep G.K F'' μ' t x
  len : l.length ≤ sizeLine
section
variable {G : Glo} {F H : Hp} {μ : List Addr} {X : Cx}
theorem Reps.mono' {F' : Hp} {μ' : List Addr} {ts : List T} {vs : List V} (h : Reps G.K F μ ts vs) (s : Same F F') (m : ∃ r, μ' = μ ++ r) : Reps G.K F' μ' ts vs := by
  obtain ⟨r, rfl⟩ := m
  exact Reps.mono s ts h
theorem walk_lst {a : Addr} {l : List T} {vs : List V} (bw : Bool) (h : (F a = some (.lst vs)) ∨ (bw = true ∧ H a = some (.lst vs) ∧ a ∉ μ)) (s : Same F H) (z : l.length ≤ sizeLine) (r : Reps G.K F μ l vs) : WalkOk G F H μ bw (Itl G.K a) l (fun H' => H' a = some (.lst vs)) where
  now := by
    rcases h with h | ⟨_, h, _⟩
    · exact s _ _ h
    · exact h
  per := fun F' H' μ' x sf s' => by
    rcases h with h | ⟨e, h, m⟩
    · exact s' _ _ (sf _ _ h)
    · exact (x e).hh a _ h m
  go := fun i H' hi p => ⟨vs, vs[i]'(by rw [r.length]; exact hi), SqL.of p, by simp [r.length, hi]⟩
  stop := fun H' p => ⟨vs, SqL.of p, by rw [r.length]; exact Nat.le_refl _⟩
  yld := fun i t x F' H' H'' μ' S e p sf m k y => by
    obtain ⟨rfl, y⟩ := y
    refine ⟨F', .refl, k, ?_⟩
    obtain ⟨v, h1, h2⟩ := (r.mono' sf m).get e
    rw [y vs (SqL.of p)] at h1
    cases h1
    exact h2
  len := z
theorem walk_tpl {a : Addr} {l : List T} {vs : List V} (bw : Bool) (h : SqT G.K F a vs) (s : Same F H) (z : l.length ≤ sizeLine) (r : Reps G.K F μ l vs) : WalkOk G F H μ bw (Itt G.K a) l (fun H' => SqT G.K H' a vs) where
  now := Same.seqT s h
  per := fun F' H' μ' x sf s' => Same.seqT s' (Same.seqT sf h)
  go := fun i H' hi p => ⟨vs, vs[i]'(by rw [r.length]; exact hi), p, by simp [r.length, hi]⟩
  stop := fun H' p => ⟨vs, p, by rw [r.length]; exact Nat.le_refl _⟩
  yld := fun i t x F' H' H'' μ' S e p sf m k y => by
    obtain ⟨rfl, y⟩ := y
    refine ⟨F', .refl, k, ?_⟩
    obtain ⟨v, h1, h2⟩ := (r.mono' sf m).get e
    rw [y vs p] at h1
    cases h1
    exact h2
  len := z
theorem walk_txt {x : List Nat} (bw : Bool) (z : x.length ≤ sizeLine) (c : ∀ c ∈ x, c < 1114112) : WalkOk G F H μ bw (Its (tx x)) (x.map fun c => T.str [c]) (fun _ => True) where
  now := trivial
  per := fun _ _ _ _ _ _ => trivial
  go := fun i H' hi p => by
    show i < (tx x).cps.size
    simpa [tx] using hi
  stop := fun H' p => by
    show (tx x).cps.size ≤ _
    simp [tx]
  yld := fun i t y F' H' H'' μ' S e p sf m k h => by
    obtain ⟨rfl, d, h1, rfl⟩ := h
    refine ⟨F', .refl, k, ?_⟩
    rw [List.getElem?_map] at e
    cases q : x[i]? with
    | none => rw [q] at e; cases e
    | some g =>
      rw [q] at e
      cases e
      have : g = d := by
        have h1 : (x.toArray)[i]? = some d := h1
        rw [List.getElem?_toArray, q] at h1
        exact Option.some.inj h1
      subst this
      exact Rep.str' (x := [g]) (by show 1 ≤ sizeLine; decide) fun w hw => by
        have : w = g := by simpa using hw
        subst this
        exact c w (List.mem_of_getElem? q)
  len := by simpa using z
theorem walk_rng {lo : Int} {m : Nat} (bw : Bool) (z : m ≤ sizeLine) : WalkOk G F H μ bw (Itr lo m) ((List.range m).map fun (k : Nat) => T.int (lo + k)) (fun _ => True) where
  now := trivial
  per := fun _ _ _ _ _ _ => trivial
  go := fun i H' hi p => by
    show i < m
    simpa using hi
  stop := fun H' p => by
    show m ≤ _
    simp
  yld := fun i t y F' H' H'' μ' S e p sf mm k h => by
    obtain ⟨rfl, rfl⟩ := h
    refine ⟨F', .refl, k, ?_⟩
    rw [List.getElem?_map] at e
    cases q : (List.range m)[i]? with
    | none => rw [q] at e; cases e
    | some g =>
      rw [q] at e
      cases e
      have : g = i := by
        obtain ⟨h1, h2⟩ := List.getElem?_eq_some_iff.mp q
        simpa using h2.symm
      subst this
      exact Rep.int'
  len := by simpa using z

/-- any value walked -/
def iVal (K : PySem.W.Frag) (te : TE) : TI := fun σ H R => te σ H fun x H1 => (∃ a xs, x = .ref a ∧ SqL K H1 a xs ∧ R (Itl K a) H1) ∨ (∃ a xs, x = .ref a ∧ SqT K H1 a xs ∧ R (Itt K a) H1) ∨ ∃ z, x = .str z ∧ R (Its z) H1
theorem pi_val {tg e : Expr} {te : TE} (he : PE X e te) : PI X tg e (iVal X.K te) := by
  refine ⟨fun pins s σ H R I h => ?_⟩
  refine thn (he.run pins s σ H _ I h) fun v s1 ⟨x, H1, I1, r1, q1⟩ => ?_
  rcases q1 with ⟨a, xs, rfl, hq, q⟩ | ⟨a, xs, rfl, hq, q⟩ | ⟨z, rfl, q⟩
  · cases r1
    obtain ⟨its, rv, p, hz⟩ := I1.list hq
    refine wpAny_pyIter_list p.isList ?_
    refine ⟨s1.heap.objs.size, [s1.heap.objs.size], _, _, H1, rfl, I1.kept (t' := s1.toks) fun b o e => Heap.get?_push_of_some _ e, turn_list a _, ⟨_, Heap.get?_push_size _ rfl, rfl, rfl⟩, fun b hb => ?_, q⟩
    have e : b = s1.heap.objs.size := by simpa using hb
    subst e
    exact I1.fpOk (Nat.le_refl _) (I1.hok.fresh (Nat.le_refl _))
  · cases r1
    obtain ⟨its, rv, p, hz⟩ := I1.tuple hq
    refine wpAny_pyIter_tuple (show s1.heap.IsTuple a its.toArray from p) ?_
    refine ⟨s1.heap.objs.size, [s1.heap.objs.size], _, _, H1, rfl, I1.kept (t' := s1.toks) fun b o e => Heap.get?_push_of_some _ e, turn_tuple a _, ⟨_, Heap.get?_push_size _ rfl, rfl, rfl⟩, fun b hb => ?_, q⟩
    have e : b = s1.heap.objs.size := by simpa using hb
    subst e
    exact I1.fpOk (Nat.le_refl _) (I1.hok.fresh (Nat.le_refl _))
  · obtain ⟨t, rfl⟩ := r1
    cases ha : z.cps.all (· < 128)
    · exact wpAny_pyIter_wide ha (pi_one (tk := s1.toks) I1 _ (turn_str _ z t "str_iterator" (.inr rfl)) ⟨_, Heap.get?_push_size _ rfl, rfl, rfl⟩ q)
    · exact wpAny_pyIter_ascii ha (pi_one (tk := s1.toks) I1 _ (turn_str _ z t "str_ascii_iterator" (.inl rfl)) ⟨_, Heap.get?_push_size _ rfl, rfl, rfl⟩ q)
end

/-- a source's reading -/
def iSrc (G : Glo) (H₀ : Hp) (W : WX) (bw : Bool) (k : SK) (o : Lenv → Store → Out (List T)) : TI := fun σ H R => ∃ ρ F μ S, EnvR G H₀ F H μ ρ σ ∧ Ok G F H μ S ∧
  PostO G F H μ (exK G W σ) (fun F' H' μ' (l : List T) (J : It) => ∃ P, WalkOk G F' H' μ' bw J l P) R ((o ρ S).bind fun ts S1 => Out.opt (itemsF k ts) fun l => .ok l S1)
section
variable {tab : Tb} {glo : List (Str × T)} {G : Glo} {n k : Nat}
theorem PI.imp {X : Cx} {tg e : Expr} {t t' : TI} (h : PI X tg e t) (i : ∀ σ H R, t' σ H R → t σ H R) : PI X tg e t' := ⟨fun pins s σ H R I q => h.run pins s σ H R I (i σ H R q)⟩
theorem opt_ok {α β : Type} {o : Option α} {f : α → Out β} {b : β} {S' : Store} (h : Out.opt o f = .ok b S') : ∃ a, o = some a ∧ f a = .ok b S' := by
  cases o with
  | none => cases h
  | some a => exact ⟨a, rfl, h⟩
theorem PostO.opt {α β γ : Type} {G : Glo} {F H : Hp} {μ : List Addr} {E : Nat → Hp → Prop} {R : Hp → Hp → List Addr → α → β → Prop} {Q : β → Hp → Prop} {o : Option γ} {f : γ → Out α} (h : PostO G F H μ E R Q (Out.opt o f)) :
    ∃ a, o = some a ∧ PostO G F H μ E R Q (f a) := by
  cases o with
  | none => exact h.elim
  | some a => exact ⟨a, rfl, h⟩
/-- a value, walked: the evaluation's end as the walk's start -/
theorem src_val {H₀ : Hp} {W : WX} {X : Cx} (c : Cxt G tab glo n k X W) {x tg : Expr} {o : Lenv → Store → Out T} (bw : Bool) (hp : PE X x (if bw then tEb G H₀ W o else tE G H₀ W o)) :
    PI X tg x (iSrc G H₀ W bw .val (fun ρ S => (o ρ S).bind fun t S1 => .ok [t] S1)) := by
  refine PI.imp (pi_val hp) fun σ H R q => ?_
  obtain ⟨ρ, F, μ, S, en, k, p⟩ := q
  dsimp only at p
  have main : ∀ {F1 H1 μ1 S1 t v}, Ok G F1 H1 μ1 S1 → (RepB G F1 H1 μ1 t v) → (bw = false → Rep G.K F1 μ1 t v) → PostO G F1 H1 μ1 (exK G W σ) (fun F' H' μ' (l : List T) (J : It) => ∃ P, WalkOk G F' H' μ' bw J l P) R (Out.opt (itemsF .val [t]) fun l => .ok l S1) →
      (∃ a xs, v = .ref a ∧ SqL X.K H1 a xs ∧ R (Itl X.K a) H1) ∨ (∃ a xs, v = .ref a ∧ SqT X.K H1 a xs ∧ R (Itt X.K a) H1) ∨ ∃ z, v = .str z ∧ R (Its z) H1 := fun {F1 H1 μ1 S1 t v} k1 r1 r0 p1 => by
    obtain ⟨l, e, p2⟩ := p1.opt
    simp only [itemsF] at e
    cases t with
    | tup l' =>
      simp only [T.items, Option.some.injEq] at e
      subst e
      have r : Rep G.K F1 μ1 (.tup l') v := by
        rcases r1 with h | ⟨_, _, _, e, _⟩
        · exact h
        · cases e
      simp only [Rep] at r
      obtain ⟨a, vs, rfl, q, z, rs⟩ := r
      refine .inr (.inl ⟨a, vs, rfl, c.hG ▸ Same.seqT k1.fh q, ?_⟩)
      rw [← c.hG]
      exact p2 _ F1 H1 μ1 .refl k1 ⟨_, walk_tpl bw q k1.fh z rs⟩
    | lst l' =>
      simp only [T.items, Option.some.injEq] at e
      subst e
      rcases r1 with r | ⟨a, l2, vs, e, rfl, h1, h2, h3, h4⟩
      · simp only [Rep] at r
        obtain ⟨a, vs, rfl, q, z, rs⟩ := r
        refine .inl ⟨a, vs, rfl, SqL.of (k1.fh _ _ q), ?_⟩
        rw [← c.hG]
        exact p2 _ F1 H1 μ1 .refl k1 ⟨_, walk_lst bw (.inl q) k1.fh z rs⟩
      · cases e
        cases hb : bw with
        | false =>
          have r := r0 hb
          simp only [Rep] at r
          obtain ⟨a', vs', e, q, z, rs⟩ := r
          cases e
          refine .inl ⟨a, vs', rfl, SqL.of (k1.fh _ _ q), ?_⟩
          rw [← c.hG]
          subst hb
          exact p2 _ F1 H1 μ1 .refl k1 ⟨_, walk_lst false (.inl q) k1.fh z rs⟩
        | true =>
          subst hb
          refine .inl ⟨a, vs, rfl, SqL.of h1, ?_⟩
          rw [← c.hG]
          exact p2 _ F1 H1 μ1 .refl k1 ⟨_, walk_lst true (.inr ⟨rfl, h1, h4⟩) k1.fh h2 h3⟩
    | str x =>
      simp only [T.items, Option.some.injEq] at e
      subst e
      obtain ⟨rfl, z, cs⟩ := r1.str
      exact .inr (.inr ⟨_, rfl, p2 _ F1 H1 μ1 .refl k1 ⟨_, walk_txt bw z cs⟩⟩)
    | _ => simp [T.items] at e
  cases bw with
  | true =>
    refine ⟨ρ, F, μ, S, en, k, ?_⟩
    cases q : o ρ S with
    | stk => rw [q] at p; exact p
    | exc e S => rw [q] at p; exact p
    | ok t S1 =>
      rw [q] at p
      intro v F' H' μ' x k r
      exact main k r (fun h => by cases h) (PostO.later (o := Out.opt (itemsF .val [t]) fun l => .ok l S1) p x)
  | false =>
    refine ⟨ρ, F, μ, S, en, k, ?_⟩
    cases q : o ρ S with
    | stk => rw [q] at p; exact p
    | exc e S => rw [q] at p; exact p
    | ok t S1 =>
      rw [q] at p
      intro v F' H' μ' x k r
      exact main k (.inl r) (fun _ => r) (PostO.later (o := Out.opt (itemsF .val [t]) fun l => .ok l S1) p x)

theorem evs_len {c : Call} {N : List Str} {sc : Scope} : ∀ {Es : Exs} {es : List Expr} {ρ : Lenv} {S : Store} {l : List T} {S' : Store}, okEs tab glo N sc Es es = true → evs c Es ρ S = .ok l S' → l.length = es.length
  | .nil, [], ρ, S, l, S', _, h => by simp only [evs] at h; cases h; rfl
  | .nil, _ :: _, _, _, _, _, h, _ => by simp [okEs] at h
  | .cons _ _, [], _, _, _, _, h, _ => by simp [okEs] at h
  | .cons E Es, e :: es, ρ, S, l, S', h, q => by
    simp only [okEs, Bool.and_eq_true] at h
    simp only [evs] at q
    obtain ⟨_, _, _, q⟩ := ok_bind q
    obtain ⟨l', _, q1, q⟩ := ok_bind q
    cases q
    simp [evs_len h.2 q1]
theorem evb_len {c : Call} {N : List Str} {sc : Scope} : ∀ {Es : Exs} {es : List Expr} {ρ : Lenv} {S : Store} {l : List T} {S' : Store}, okEs tab glo N sc Es es = true → evb c Es ρ S = .ok l S' → l.length = es.length
  | .nil, [], ρ, S, l, S', _, h => by simp only [evb] at h; cases h; rfl
  | .nil, _ :: _, _, _, _, _, h, _ => by simp [okEs] at h
  | .cons _ _, [], _, _, _, _, h, _ => by simp [okEs] at h
  | .cons E Es, e :: es, ρ, S, l, S', h, q => by
    simp only [okEs, Bool.and_eq_true] at h
    simp only [evb] at q
    obtain ⟨_, _, _, q⟩ := ok_bind q
    obtain ⟨l', _, q1, q⟩ := ok_bind q
    cases q
    simp [evb_len h.2 q1]
theorem rngSz_le {a b c : Int} (h : c ≠ 0) (ha : -1000000 ≤ a ∧ a ≤ 1000000) (hb : -1000000 ≤ b ∧ b ≤ 1000000) : 0 ≤ rngSz a b c ∧ rngSz a b c ≤ 2000001 := by
  have key : ∀ x y : Int, 0 ≤ x → 0 < y → 0 ≤ x / y ∧ x / y ≤ x := fun x y hx hy => ⟨Int.ediv_nonneg hx (by omega), Int.ediv_le_self _ hx⟩
  unfold rngSz
  split
  · split
    · have := key (b - a - 1) c (by omega) (by omega); omega
    · omega
  · split
    · have := key (a - b - 1) (-c) (by omega) (by omega); omega
    · omega
theorem rgC_of {a b c : Int} (h : c ≠ 0) (ha : -1000000 ≤ a ∧ a ≤ 1000000) (hb : -1000000 ≤ b ∧ b ≤ 1000000) (hc : -1000000 ≤ c ∧ c ≤ 1000000) : RgC a b c (rngSz a b c).toNat := by
  have := rngSz_le h ha hb
  have e : Builtin.Range.rangeSize a b c = rngSz a b c := rfl
  refine ⟨h, by omega, ?_, by rw [e]; omega⟩
  unfold Builtin.Range.small
  rw [e]
  have f : ∀ i : Int, -9000000 ≤ i → i ≤ 9000000 → Builtin.Range.rangeFitsLong i = true := fun i h1 h2 => by
    simp only [Builtin.Range.rangeFitsLong, Bool.and_eq_true, decide_eq_true_eq]; omega
  rw [f a (by omega) (by omega), f b (by omega) (by omega), f c (by omega) (by omega), f _ (by omega) (by omega), f (b + (c - 1)) (by omega) (by omega), f (b + (c + 1)) (by omega) (by omega)]
  simp
theorem walk_rngC {lo c : Int} {m : Nat} (bw : Bool) (z : m ≤ sizeLine) : WalkOk G F H μ bw (Itc lo c m) ((List.range m).map fun (k : Nat) => T.int (lo + k * c)) (fun _ => True) where
  now := trivial
  per := fun _ _ _ _ _ _ => trivial
  go := fun i H' hi p => by
    show i < m
    simpa using hi
  stop := fun H' p => by
    show m ≤ _
    simp
  yld := fun i t y F' H' H'' μ' S e p sf mm k h => by
    obtain ⟨rfl, rfl⟩ := h
    refine ⟨F', .refl, k, ?_⟩
    rw [List.getElem?_map] at e
    cases q : (List.range m)[i]? with
    | none => rw [q] at e; cases e
    | some g =>
      rw [q] at e
      cases e
      obtain ⟨h1, h2⟩ := List.getElem?_eq_some_iff.mp q
      rw [List.getElem_range] at h2
      subst h2
      simp [Rep]
  len := by simpa using z
theorem src_rng {H₀ : Hp} {W : WX} {X : Cx} (c : Cxt G tab glo n k X W) {es : List Expr} {tg : Expr} {p pos : Pos} {o : Lenv → Store → Out (List T)} (bw : Bool) (hp : PA X es (if bw then tAb G H₀ W o else tA G H₀ W o)) (pl : ∀ e ∈ es, plainX e = true) (hg : gloB X.env.scope "range" = true)
    (ho : ∀ ρ S l S', o ρ S = .ok l S' → l.length = es.length) (hl : es.length = 1 ∨ es.length = 2 ∨ es.length = 3) :
    PI X tg (.Call (.Name "range" p) es [] pos) (iSrc G H₀ W bw .rng o) := by
  have gl := gloB_ok hg
  have mn : X.mg "range" = none := c.blt _ (by simp [bltNames])
  have big : (2000001 : Nat) ≤ sizeLine := by decide
  have hp' : PA X es (tAb G H₀ W o) := by
    cases bw with
    | true => exact hp
    | false =>
      exact PA.imp hp fun σ H Q q => by
        show tA G H₀ W o σ H Q
        obtain ⟨ρ, F, μ, S, en, k, p⟩ := q
        refine ⟨ρ, F, μ, S, en, k, ?_⟩
        cases e : o ρ S with
        | stk => rw [e] at p; exact p
        | exc c S => rw [e] at p; exact p
        | ok l S1 => rw [e] at p; exact fun v F' H' μ' x k r => p v F' H' μ' x k (RepBs.of r)
  match es, hl with
  | [e], _ =>
    have hs : starEach [e] X.env = [(false, eval e X.env)] := star_cons (pl e (by simp))
    refine PI.imp (pi_range1 gl mn hp' hs) fun σ H R q => ?_
    obtain ⟨ρ, F, μ, S, en, k, p⟩ := q
    refine ⟨ρ, F, μ, S, en, k, p.bind.imp fun v H1 hv => ?_⟩
    obtain ⟨F1, μ1, S1, t, x1, k1, r1, eo, p1⟩ := hv
    have hlen := ho _ _ _ _ eo
    obtain ⟨l, e, p2⟩ := p1.opt
    unfold itemsF at e
    split at e <;> first | (cases ‹SK.rng = _›; done) | skip
    · split at e
      · rename_i m _ hm
        cases e
        obtain ⟨w, rfl, h⟩ := r1.one
        have := h.int
        subst this
        refine ⟨m, rfl, by omega, by omega, ?_⟩
        refine p2 _ F1 H1 μ1 .refl k1 ⟨fun _ => True, ?_⟩
        have := walk_rng (G := G) (F := F1) (H := H1) (μ := μ1) (lo := 0) (m := m.toNat) bw (by omega)
        simpa using this
      · cases e
    · simp at hlen
    · simp at hlen
    · cases e
  | [e, e2], _ =>
    have hs2 : starEach [e2] X.env = [(false, eval e2 X.env)] := star_cons (pl e2 (by simp))
    have hs : starEach [e, e2] X.env = [(false, eval e X.env), (false, eval e2 X.env)] := (star_cons (pl e (by simp))).trans (by rw [hs2])
    refine PI.imp (pi_range2 gl mn hp' hs hs2) fun σ H R q => ?_
    obtain ⟨ρ, F, μ, S, en, k, p⟩ := q
    refine ⟨ρ, F, μ, S, en, k, p.bind.imp fun v H1 hv => ?_⟩
    obtain ⟨F1, μ1, S1, t, x1, k1, r1, eo, p1⟩ := hv
    have hlen := ho _ _ _ _ eo
    obtain ⟨l, e, p2⟩ := p1.opt
    unfold itemsF at e
    split at e <;> first | (cases ‹SK.rng = _›; done) | skip
    · simp at hlen
    · split at e
      · rename_i i j _ hm
        cases e
        obtain ⟨w, w2, rfl, h, h2⟩ := r1.two
        have := h.int
        have := h2.int
        subst_vars
        refine ⟨i, j, rfl, ⟨by omega, by omega, by omega, by omega⟩, ?_⟩
        exact p2 _ F1 H1 μ1 .refl k1 ⟨_, walk_rng bw (by omega)⟩
      · cases e
    · simp at hlen
    · cases e
  | [e, e2, e3], _ =>
    have hs3 : starEach [e3] X.env = [(false, eval e3 X.env)] := star_cons (pl e3 (by simp))
    have hs2 : starEach [e2, e3] X.env = [(false, eval e2 X.env), (false, eval e3 X.env)] := (star_cons (pl e2 (by simp))).trans (by rw [hs3])
    have hs : starEach [e, e2, e3] X.env = (false, eval e X.env) :: starEach [e2, e3] X.env := star_cons (pl e (by simp))
    refine PI.imp (pi_range3 gl mn hp' hs (by rw [hs2]; rfl)) fun σ H R q => ?_
    obtain ⟨ρ, F, μ, S, en, k, p⟩ := q
    refine ⟨ρ, F, μ, S, en, k, p.bind.imp fun v H1 hv => ?_⟩
    obtain ⟨F1, μ1, S1, t, x1, k1, r1, eo, p1⟩ := hv
    have hlen := ho _ _ _ _ eo
    obtain ⟨l, e, p2⟩ := p1.opt
    unfold itemsF at e
    split at e <;> first | (cases ‹SK.rng = _›; done) | skip
    · simp at hlen
    · simp at hlen
    · split at e
      · rename_i i j m _ hm
        cases e
        obtain ⟨w, w2, w3, rfl, h, h2, h3⟩ := r1.three
        have := h.int
        have := h2.int
        have := h3.int
        subst_vars
        have hz := rngSz_le hm.1 ⟨hm.2.1, hm.2.2.1⟩ ⟨hm.2.2.2.1, hm.2.2.2.2.1⟩
        refine ⟨i, j, m, _, rfl, rgC_of hm.1 ⟨hm.2.1, hm.2.2.1⟩ ⟨hm.2.2.2.1, hm.2.2.2.2.1⟩ hm.2.2.2.2.2, ?_⟩
        exact p2 _ F1 H1 μ1 .refl k1 ⟨_, walk_rngC bw (by omega)⟩
      · cases e
    · cases e
end
end Ly
namespace Ly
open PySem PySem.Spec L2
open PyProof.Rows hiding St

section
variable {G : Glo} {F H : Hp} {μ : List Addr} {S : Store}
/-- a list of one's own is shown to F -/
theorem Ok.freeze {p : Addr} {vs : List V} (k : Ok G F H μ S) (h : H p = some (.lst vs)) (f : F p = none) (m : p ∉ μ) : Ok G (upd F p (.lst vs)) H μ S where
  fh := fun b u e => by
    by_cases q : b = p
    · subst q; rw [upd_same] at e; cases e; exact h
    · rw [upd_ne q] at e; exact k.fh b u e
  len := k.len
  nd := k.nd
  mf := fun a ha => by rw [upd_ne (fun e => m (by rw [← e]; exact ha))]; exact k.mf a ha
  cell := fun i c a h1 h2 => by
    have sf : Same F (upd F p (.lst vs)) := fun b u e => by
      rw [upd_ne (ne_of_none e f)]; exact e
    have := (k.cell i c a h1 h2)
    cases c with
    | lst l =>
      obtain ⟨ws, h1, h2, h3⟩ := this
      exact ⟨ws, h1, h2, by simpa using Reps.mono (r := []) sf _ h3⟩
    | ins c fs =>
      obtain ⟨dx, ws, h1, h0, h2, h3, h4, h5⟩ := this
      have : dx ≠ p := fun e => by rw [e, h] at h0; cases h0
      exact ⟨dx, ws, h1, h0, h2, by simpa using Reps.mono (r := []) sf _ h3, by rw [upd_ne this]; exact h4, h5⟩
    | dK kvs =>
      obtain ⟨ws, h1, h2, h3, h4⟩ := this
      exact ⟨ws, h1, h2, h3, by simpa using Reps.mono (r := []) sf _ h4⟩
    | dT kvs =>
      obtain ⟨ws, h1, h2, h3, h4⟩ := this
      exact ⟨ws, h1, h2, h3, by simpa using Reps.mono (r := []) sf _ h4⟩
/-- an untold object is changed -/
theorem Ok.setH {p : Addr} {o o' : HO} (k : Ok G F H μ S) (h : H p = some o) (f : F p = none) (m : p ∉ μ) (ho : ∀ x, o ≠ .own x) : Ok G F (upd H p o') μ S where
  fh := fun b u e => by rw [upd_ne (ne_of_none e f)]; exact k.fh b u e
  len := k.len
  nd := k.nd
  mf := k.mf
  cell := fun i c a h1 h2 => by
    have := (k.cell i c a h1 h2).stay (F' := F) (H' := upd H p o') (r := []) (Same.refl _) (fun b u e hb => by
      have : b ≠ p := fun q => by
        subst q
        rcases hb with rfl | rfl
        · exact m (List.mem_of_getElem? h2)
        · rw [h] at e; cases e; exact ho _ rfl
      rw [upd_ne this]; exact e) (fun _ _ _ n => n) (fun _ _ _ => by simp)
    simpa using this
end
section
variable {tab : Tb} {glo : List (Str × T)} {G : Glo} {n k : Nat}
theorem h_noX_ok {α : Type} {o : Out α} {a : α} {S : Store} (h : o.noX = .ok a S) : o = .ok a S := by
  cases o <;> first | (cases h; rfl) | cases h
theorem noX_post {α β : Type} {F H : Hp} {μ : List Addr} {E : Nat → Hp → Prop} {R : Hp → Hp → List Addr → α → β → Prop} {Q : β → Hp → Prop} {o : Out α} (h : PostO G F H μ E R Q o.noX) {E' : Nat → Hp → Prop} : PostO G F H μ E' R Q o := by
  cases o with
  | stk => exact h
  | ok a S => exact h
  | exc c S => exact h.elim
/-- the tests of a clause -/
def ttOf (G : Glo) (H₀ : Hp) (W : WX) (c : Call) : Exs → TT
  | .nil => tYes
  | .cons E _ => tT G H₀ W (fun ρ S => bor ρ E S (ev c E ρ S))
theorem pts_of {X : Cx} {W : WX} {H₀ : Hp} (c : Cxt G tab glo n k X W) {Es : Exs} {es : List Expr} (h1 : ∀ E, Es = .cons E .nil → SndE G tab glo n k E) (ok : okEs tab glo X.N X.env.scope Es es = true) (hl : es.length ≤ 1) (hn : es.all noIf = true) :
    PTs X es (ttOf G H₀ W (callF tab.l n) Es) := by
  match Es, es, ok, hl, hn with
  | .nil, [], _, _, _ => exact pts_nil
  | .cons E .nil, [e], ok, _, hn =>
    simp only [okEs, Bool.and_true] at ok
    simp only [List.all_cons, List.all_nil, Bool.and_true] at hn
    exact pts_one (((h1 E rfl).run X W H₀ e c ok).2.2.1 hn)
  | .cons E (.cons _ _), [e], ok, _, _ => simp [okEs] at ok
  | .nil, _ :: _, ok, _, _ => simp [okEs] at ok
  | .cons _ _, [], ok, _, _ => simp [okEs] at ok
  | .cons _ _, _ :: _ :: _, _, hl, _ => simp at hl
theorem okEs_shape {N : List Str} {sc : Scope} {Es : Exs} {es : List Expr} (ok : okEs tab glo N sc Es es = true) (hl : es.length ≤ 1) : Es = .nil ∨ ∃ E, Es = .cons E .nil := by
  match Es, es, ok, hl with
  | .nil, [], _, _ => exact .inl rfl
  | .cons E .nil, [e], ok, _ => exact .inr ⟨E, rfl⟩
  | .cons E (.cons _ _), [e], ok, _ => simp [okEs] at ok
  | .nil, _ :: _, ok, _ => simp [okEs] at ok
  | .cons _ _, [], ok, _ => simp [okEs] at ok
  | .cons _ _, _ :: _ :: _, _, hl => simp at hl
theorem tt_of {W : WX} {H₀ : Hp} {Es : Exs} (hs : Es = .nil ∨ ∃ E, Es = .cons E .nil) (σ : St) (H : Hp) (Q : Bool → Hp → Prop) (h : ∃ ρ F μ S, EnvR G H₀ F H μ ρ σ ∧ Ok G F H μ S ∧ PostO G F H μ (exK G W σ) (fun F' H' μ' (b b' : Bool) => b = b') Q
      ((evs (callF tab.l n) Es ρ S).bind fun bs S1 => Out.opt (allTru bs) fun b => .ok b S1)) : ttOf G H₀ W (callF tab.l n) Es σ H Q := by
  obtain ⟨ρ, F, μ, S, en, k, p⟩ := h
  rcases hs with rfl | ⟨E, rfl⟩
  · simp only [evs, Out.bind, allTru, Out.opt] at p
    exact p true F H μ .refl k rfl
  · refine tT_bor ?_
    refine ⟨ρ, F, μ, S, en, k, ?_⟩
    dsimp only
    simp only [evs] at p
    cases q : ev (callF tab.l n) E ρ S with
    | stk => rw [q] at p; exact p
    | exc c S => rw [q] at p; exact p
    | ok t S1 =>
      rw [q] at p
      simp only [Out.bind, allTru] at p ⊢
      cases ht : t.tru with
      | none => rw [ht] at p; exact p
      | some b =>
        rw [ht] at p
        simp only [Option.map, Bool.and_true, Out.opt] at p
        intro v F' H' μ' x k r
        have r : t.tru = some v := r
        rw [ht] at r
        cases r
        exact p b F' H' μ' x k rfl
theorem noX_exc {α : Type} {o : Out α} {c : Nat} {S : Store} : o.noX ≠ .exc c S := by cases o <;> simp [Out.noX]
/-- a new list that may still be changed: H the heap ahead of it -/
abbrev rF (G : Glo) (H : Hp) : Hp → Hp → List Addr → T → V → Prop := fun F' H' μ' t v => ∃ p vs l, t = .lst l ∧ v = .ref p ∧ H' p = some (.lst vs) ∧ F' p = none ∧ p ∉ μ' ∧ H p = none ∧ l.length ≤ sizeLine ∧ Reps G.K F' μ' l vs
def tF (G : Glo) (H₀ : Hp) (W : WX) (o : Lenv → Store → Out T) : TE := fun σ H Q => ∃ ρ F μ S, EnvR G H₀ F H μ ρ σ ∧ Ok G F H μ S ∧ PostO G F H μ (exK G W σ) (rF G H) Q (o ρ S)
theorem post_fresh {F H : Hp} {μ : List Addr} {E : Nat → Hp → Prop} {Q : VK} {o : Out T} (h : PostO G F H μ E (rP G) Q o) : PostO G F H μ E (rF G H) Q o := by
  cases o with
  | stk => exact h
  | exc c S => exact h
  | ok t S =>
    intro v F' H' μ' x k r
    obtain ⟨p, vs, l, rfl, rfl, h1, h2, h3, h4, h5, h6⟩ := r
    have sf : Same F' (upd F' p (.lst vs)) := fun b u e => by rw [upd_ne (ne_of_none e h2)]; exact e
    refine h _ (upd F' p (.lst vs)) H' μ' ⟨x.ff.trans sf, x.hh, x.hs, fun b u e n => ?_, x.mm, x.nw⟩ (k.freeze h1 h2 h3) ?_
    · have : b ≠ p := fun q => by rw [q, h4] at e; cases e
      rw [upd_ne this]; exact x.nf b u e n
    · simp only [Rep]
      exact ⟨p, vs, rfl, upd_same, h5, by simpa using Reps.mono (r := []) sf _ h6⟩
/-- one turn's own part: the element, or nothing -/
def h_lcF (c : Call) (elt : Ex) (tg : Tg) (cond : Exs) (ρ : Lenv) (x : T) (S : Store) : Out (Option T) := Out.opt (tg.put x (wipeR ρ tg.slots)) fun ρ' =>
  ((evs c cond ρ' S).bind fun bs S1 => Out.opt (allTru bs) fun b => if b then (ev c elt ρ' S1).bind fun y S2 => .ok (some y) S2 else .ok none S1).noX
theorem ev_lc (c : Call) (elt : Ex) (tg : Tg) (kk : SK) (src cond : Exs) (ρ : Lenv) (S : Store) :
    ev c (.lc elt tg kk src cond) ρ S = ((evb c src ρ S).bind fun ts S1 => Out.opt (itemsF kk ts) fun l => .ok l S1).bind fun l S1 => (compL (h_lcF c elt tg cond ρ) l S1).bind fun r S2 => .ok (.lst r) S2 := by
  simp only [ev]
  cases evb c src ρ S with
  | stk => rfl
  | exc e S => rfl
  | ok ts S1 =>
    simp only [Out.bind]
    cases itemsF kk ts <;> rfl
def optL {α : Type} (o : Option α) (r : List α) : List α := match o with
  | some y => y :: r
  | none => r
theorem h_compL_cons (f : T → Store → Out (Option T)) (x : T) (l : List T) (S : Store) : compL f (x :: l) S = (f x S).bind fun o S1 => (compL f l S1).bind fun r S2 => .ok (optL o r) S2 := by
  simp only [compL]
  cases f x S <;> simp only [Out.bind]
  rename_i o S1
  cases o <;> rfl
theorem fnLoc_blk {X : Cx} {s : Shared} {H : Hp} {scope : Scope} {C : Addr} {cl : List (Str × Addr)} {fp : List Addr} : FnLoc (X.blk s H scope (compEnvC scope cl C X.env) fp) scope := fun x hx => by
  unfold locB at hx
  split at hx <;> first | (cases hx; done) | skip
  · rename_i h
    refine .inr ?_
    exact lookup_relabel_local (env := X.env) h
  · rename_i h
    refine .inl ?_
    show (scope.names.lookup x == some .cell) = true
    rw [h]; rfl
theorem tupTg {kk : SK} {g : Expr} (h : tgOk kk g = true) (q : kk = .enm ∨ kk = .zip) : ∃ es k p, g = .Tuple es k p := by
  rcases q with rfl | rfl <;> cases g <;> first | exact ⟨_, _, _, rfl⟩ | (simp [tgOk] at h)
structure LcParts (G : Glo) (H₀ : Hp) (W : WX) (c : Call) (X : Cx) (x g it : Expr) (ifs : List Expr) (scope : Scope) (E : Ex) (wi : TI) (gg : TG) (tt : TT) (te : TE) (own : List (Str × Nat)) : Prop where
  hi : PI X g it wi
  blk : BlkOk X.N X.env.scope scope own
  hg : ∀ (s : Shared) (H : Hp) (C : Addr) (cl : List (Str × Addr)) (fp : List Addr), PG (X.blk s H scope (compEnvC scope cl C X.env) fp) g gg
  ht : ∀ (s : Shared) (H : Hp) (C : Addr) (cl : List (Str × Addr)) (fp : List Addr), PTs (X.blk s H scope (compEnvC scope cl C X.env) fp) ifs tt
  he : ∀ (s : Shared) (H : Hp) (C : Addr) (cl : List (Str × Addr)) (fp : List Addr), PE (X.blk s H scope (compEnvC scope cl C X.env) fp) x te
  fold : ∀ x, foldedSetIterable it X.env x = pure x
  imp : ∀ σ H Q, tF G H₀ W (fun ρ S => ev c E ρ S) σ H Q → tLc wi gg tt te (own.map (·.2)) σ H Q
def SrcOk (G : Glo) (tab : Tb) (glo : List (Str × T)) (n k : Nat) (kk : SK) (src : Exs) : Prop :=
  ∀ (X : Cx) (W : WX) (H₀ : Hp) (g e : Expr), Cxt G tab glo n k X W → (∃ es, srcArgs X.env.scope kk e = some es ∧ okEs tab glo X.N X.env.scope src es = true) → plainX e = true ∧ (kk = .enm ∨ kk = .zip → ∃ es k p, g = .Tuple es k p) → PI X g e (iSrc G H₀ W true kk (fun ρ S => evb (callF tab.l n) src ρ S)) ∧ PI X g e (iSrc G H₀ W false kk (fun ρ S => evs (callF tab.l n) src ρ S))
theorem lc_parts {elt : Ex} {tg : Tg} {kk : SK} {src cond : Exs} (he : SndE G tab glo n k elt) (hcond : ∀ E, cond = .cons E .nil → SndE G tab glo n k E) (hs : SrcOk G tab glo n k kk src)
    {X : Cx} {W : WX} (H₀ : Hp) (c : Cxt G tab glo n k X W) {x : Expr} {gens : List Comprehension} {scope : Scope} {pos : Pos} (ok : okE tab glo X.N X.env.scope (.lc elt tg kk src cond) (.ListComp x gens scope pos) = true) :
    ∃ g it ifs wi gg tt te own, gens = [⟨g, it, ifs, 0⟩] ∧ LcParts G H₀ W (callF tab.l n) X x g it ifs scope (.lc elt tg kk src cond) wi gg tt te own := by
  match gens, ok with
  | [⟨g, it, ifs, as⟩], ok =>
    simp only [okE, Bool.and_eq_true, decide_eq_true_eq] at ok
    obtain ⟨⟨⟨⟨⟨⟨⟨⟨⟨⟨⟨e0, kt⟩, kp⟩, k1⟩, k2⟩, k3⟩, k4⟩, k5⟩, k6⟩, k7⟩, k8⟩, k9⟩ := ok
    subst e0
    have k1' : ∃ es, srcArgs X.env.scope kk it = some es ∧ okEs tab glo X.N X.env.scope src es = true := by
      cases q : srcArgs X.env.scope kk it with
      | none => rw [q] at k1; cases k1
      | some es => rw [q] at k1; exact ⟨es, rfl, k1⟩
    have hi := (hs X W H₀ g it c k1' ⟨kp, tupTg kt⟩).1
    have cb := fun s H cenv fp => c.blk s H scope cenv fp
    have hg : ∀ (s : Shared) (H : Hp) (C : Addr) (cl : List (Str × Addr)) (fp : List Addr), PG (X.blk s H scope (compEnvC scope cl C X.env) fp) g (gOf G H₀ tg) := fun s H C cl fp =>
      snd_tg (X := X.blk s H scope (compEnvC scope cl C X.env) fp) c.hG c.calm c.nd scope fnLoc_blk tg g k2 k3
    have hpts := fun (s : Shared) (H : Hp) (C : Addr) (cl : List (Str × Addr)) (fp : List Addr) =>
      pts_of (X := X.blk s H scope (compEnvC scope cl C X.env) fp) (H₀ := H₀) (cb s H (compEnvC scope cl C X.env) fp) hcond k7 k8 k6
    have hel := fun (s : Shared) (H : Hp) (C : Addr) (cl : List (Str × Addr)) (fp : List Addr) =>
      (he.run (X.blk s H scope (compEnvC scope cl C X.env) fp) (fun _ _ _ _ => False) H₀ x (cb s H (compEnvC scope cl C X.env) fp) k9).1
    have hpt := fun σ H Q => tt_of (W := fun _ _ _ _ => False) (G := G) (tab := tab) (n := n) (H₀ := H₀) (okEs_shape k7 k8) σ H Q
    refine ⟨g, it, ifs, _, _, _, _, _, rfl, hi, blkOk_by k4, hg, hpts, hel, folded_no kp, fun σ H Q h => ?_⟩
    rw [k5]
    obtain ⟨ρ, F, μ, S, en, k, p⟩ := h
    dsimp only at p
    rw [ev_lc] at p
    refine ⟨ρ, F, μ, S, en, k, p.bind.imp fun J H1 hv => ?_⟩
    obtain ⟨F1, μ1, S1, l, x1, kk1, ⟨P, w⟩, eo, p1⟩ := hv
    intro D hD
    have fD : F1 D = none := Same.free kk1.fh hD
    have mD : D ∉ μ1 := kk1.notin hD
    have w' : Walk J l.length P (fun i H x H' => J.yld i H x H') := ⟨w.go, w.stop, fun _ _ _ _ _ _ y => y⟩
    refine lc_it w' (Pv := fun i H' => ∃ F' μ' S' accT accV, Ext F1 H1 μ1 F' H' μ' ∧ Ok G F' H' μ' S' ∧ F' D = none ∧ D ∉ μ' ∧ H' D = some (.lst accV) ∧ accT.length ≤ i ∧ Reps G.K F' μ' accT accV ∧
      compL (h_lcF (callF tab.l n) elt tg cond ρ) l S1 = (compL (h_lcF (callF tab.l n) elt tg cond ρ) (l.drop i) S').bind fun r S => .ok (accT ++ r) S) ?_ (fun i H' _ hp => ?_) (fun i x' H2 H3 hi hp y => ?_) (fun H' hp => ?_)
    · refine ⟨F1, μ1, S1, [], [], Ext.newH hD, kk1.newH hD, fD, mD, upd_same, Nat.le_refl _, Reps.nil, ?_⟩
      rw [List.drop_zero]
      cases compL (h_lcF (callF tab.l n) elt tg cond ρ) l S1 <;> rfl
    · obtain ⟨F', μ', S', accT, accV, xx, kx, _⟩ := hp
      exact w.per F' H' μ' (fun _ => xx) xx.ff kx.fh
    · obtain ⟨F', μ', S', accT, accV, xx, kx, f1, m1, d1, a1, r1, q1⟩ := hp
      have hw := w.per F' H2 μ' (fun _ => xx) xx.ff kx.fh
      have hi' : l[i]? = some (l[i]) := List.getElem?_eq_getElem hi
      obtain ⟨F2, x2, k2, rx⟩ := w.yld i l[i] x' F' H2 H3 μ' S' hi' hw xx.ff xx.mm kx y
      have hdrop : l.drop i = l[i] :: l.drop (i + 1) := List.drop_eq_getElem_cons hi
      rw [hdrop, h_compL_cons] at q1
      -- the end of this turn is no stk
      cases ht : tg.put l[i] (wipeR ρ tg.slots) with
      | none =>
        rw [q1] at p1
        simp only [h_lcF, ht, Out.opt, Out.bind] at p1
        exact p1.elim
      | some ρ' =>
        have en2 : EnvR G H₀ F2 H3 μ' (wipeR ρ tg.slots) (L2.wipe σ tg.slots) := (((en.ext x1).ext xx).ext x2).wipe tg.slots
        refine ⟨_, F2, μ', l[i], en2, k2.fh, rx, ρ', ht, fun σ2 en3 sb => ?_⟩
        have hwp : L2.wipe σ2 tg.slots = L2.wipe σ tg.slots := by
          have : L2.wipe (L2.wipe σ tg.slots) tg.slots = L2.wipe σ tg.slots := by
            apply List.ext_getElem?
            intro j
            rw [wipe_get, wipe_get, L2.wipe_length]
            by_cases hj : j ∈ tg.slots <;> simp [hj]
          rw [sb.wipe, this]
        refine ⟨hwp, ?_⟩
        have hD2 : H3 D = some (.lst accV) := x2.hh D _ d1 m1
        have fD2 : F2 D = none := x2.nf D _ d1 f1
        -- the turn's run
        cases ho : h_lcF (callF tab.l n) elt tg cond ρ l[i] S' with
        | stk => rw [q1, ho] at p1; exact p1.elim
        | exc ce Se =>
          simp only [h_lcF, ht, Out.opt] at ho
          exact absurd ho noX_exc
        | ok oy S3 =>
          rw [ho] at q1
          simp only [Out.bind] at q1
          simp only [h_lcF, ht, Out.opt] at ho
          have ho := h_noX_ok ho
          obtain ⟨bs, S4, hb1, hb2⟩ := ok_bind ho
          obtain ⟨b, hb3, hb4⟩ := opt_ok hb2
          refine hpt σ2 H3 _ ⟨ρ', F2, μ', S', en3, k2, ?_⟩
          rw [hb1]
          simp only [Out.bind, hb3, Out.opt]
          intro b' F4 H4 μ4 x4 k4 rb
          have rb : b = b' := rb
          subst rb
          have hD4 : H4 D = some (.lst accV) := x4.hh D _ hD2 m1
          have fD4 : F4 D = none := x4.nf D _ hD2 fD2
          have mD4 : D ∉ μ4 := fun hm => by
            have := x4.nw D hm m1
            rw [hD2] at this; cases this
          have xx4 := (xx.trans x2).trans x4
          cases b with
          | false =>
            simp only [Bool.false_eq_true, if_false] at hb4 ⊢
            cases hb4
            refine ⟨F4, μ4, S3, accT, accV, xx4, k4, fD4, mD4, hD4, by omega, (x2.trans x4).reps r1, ?_⟩
            rw [q1]
            cases compL (h_lcF (callF tab.l n) elt tg cond ρ) (l.drop (i + 1)) S3 <;> rfl
          | true =>
            simp only [if_true] at hb4 ⊢
            obtain ⟨yt, S5, hy1, hy2⟩ := ok_bind hb4
            cases hy2
            refine ⟨ρ', F4, μ4, S4, en3.ext x4, k4, ?_⟩
            dsimp only
            rw [hy1]
            intro yv F5 H5 μ5 x5 k5' r5
            have hD5 : H5 D = some (.lst accV) := x5.hh D _ hD4 mD4
            have fD5 : F5 D = none := x5.nf D _ hD4 fD4
            have mD5 : D ∉ μ5 := fun hm => by
              have := x5.nw D hm mD4
              rw [hD4] at this; cases this
            have r5' := (((x2.trans x4).trans x5).reps r1).append (Reps.cons r5 Reps.nil)
            have hlen := r1.length
            have := w.len
            refine ⟨accV, hD5, by omega, F5, μ5, S3, accT ++ [yt], accV ++ [yv], ?_, k5'.setH hD5 fD5 mD5 (fun _ q => by cases q), fD5, mD5, upd_same, by simp; omega, r5', ?_⟩
            · have z := xx4.trans x5
              refine ⟨z.ff, fun b u e m => ?_, fun b u e => ?_, z.nf, z.mm, z.nw⟩
              · have : b ≠ D := fun q => by rw [q, hD] at e; cases e
                rw [upd_ne this]; exact z.hh b u e m
              · by_cases q : b = D
                · subst q; exact ⟨_, upd_same⟩
                · rw [upd_ne q]; exact z.hs b u e
            · rw [q1]
              cases compL (h_lcF (callF tab.l n) elt tg cond ρ) (l.drop (i + 1)) S3 <;> simp [Out.bind, optL]
    · obtain ⟨F', μ', S', accT, accV, xx, kx, f1, m1, d1, a1, r1, q1⟩ := hp
      rw [List.drop_length] at q1
      simp only [compL, Out.bind, List.append_nil] at q1
      rw [q1] at p1
      simp only [Out.bind] at p1
      have hD0 : H D = none := by
        cases q : H D with
        | none => rfl
        | some u =>
          obtain ⟨u', e⟩ := x1.hs D u q
          rw [hD] at e; cases e
      exact p1 (.ref D) F' H' μ' xx kx ⟨D, accV, accT, rfl, rfl, d1, f1, m1, hD0, Nat.le_trans a1 w.len, r1⟩
theorem snd_lc {elt : Ex} {tg : Tg} {kk : SK} {src cond : Exs} (he : SndE G tab glo n k elt) (hcond : ∀ E, cond = .cons E .nil → SndE G tab glo n k E) (hs : SrcOk G tab glo n k kk src) :
    SndE G tab glo n k (.lc elt tg kk src cond) := .val (fun i => by simp) fun X W H₀ e c ok => by
  cases e <;> first | (simp only [okE, Bool.false_eq_true] at ok; done) | skip
  rename_i x gens scope pos
  obtain ⟨g, it, ifs, wi, gg, tt, te, own, rfl, L⟩ := lc_parts he hcond hs H₀ c ok
  refine ⟨PE.imp (pe_lc c.calm c.nd L.hi L.blk L.hg L.ht L.he L.fold) fun σ H Q h => L.imp σ H Q ?_, fun _ _ _ => rfl, by simp⟩
  obtain ⟨ρ, F, μ, S, en, k, p⟩ := h
  exact ⟨ρ, F, μ, S, en, k, post_fresh p⟩
end
end Ly
namespace Ly
open PySem PySem.Spec L2
open PyProof.Rows hiding St

/-! ### is the statement this statement -/
def freshB : Ex → Bool
  | .lst _ => true
  | .lc .. => true
  | .bi .lst (.cons _ .nil) => true
  | _ => false
def notComp : Expr → Bool
  | .ListComp .. => false
  | .SetComp .. => false
  | .DictComp .. => false
  | _ => true
def scFree (x : Str) : Expr → Bool
  | .ListComp _ _ scope _ => !(scope.names.any fun (n, k) => n == x && (k == .local || k == .cell))
  | _ => false
def isNm (e : Expr) : Option Str := match e with
  | .Name x _ => some x
  | _ => none
def lineOf (ts : List Expr) : Nat := (ts.head?.map (·.pos.line)).getD 0
def namesOf (sc : Scope) (ts : List Expr) : List Str := ts.filterMap fun
  | .Name id pos => if sc.names.lookup id == some .local && pos.line == lineOf ts then some id else none
  | _ => none
/-- a, b = x, y stored straight -/
def parOk (sc : Scope) (ts vs : List Expr) : Bool :=
  ts.length == vs.length && (ts.length == 2 || ts.length == 3) && (namesOf sc ts).length == ts.length && (namesOf sc ts).eraseDups.length == (namesOf sc ts).length && !(vs.all (foldedForSure 8)) && !(vs.all (constantsAlone 8)) && vs.all plainX
/-- .. not straight -/
def unpOk (sc : Scope) (ts : List Expr) (v : Expr) : Bool := match v with
  | .Tuple vs _ _ => (!(ts.length == 2 || ts.length == 3) || vs.length != ts.length) || (vs.all plainX && ((namesOf sc ts).length != ts.length || (namesOf sc ts).eraseDups.length != (namesOf sc ts).length || vs.all (foldedForSure 8)))
  | _ => true
section
variable (tab : Tb) (glo : List (Str × T)) (N : List Str) (exn : List Str) (sc : Scope)
def nmB (i : Nat) (x : Str) : Bool := decide (N[i]? = some x) && locB sc x
mutual
def okS : Sm → Stmt → Bool
  | .ret E, .Return (some e) _ => okE tab glo N sc E e
  | .retN, .Return none _ => true
  | .expr E, .Expr e pos => okE tab glo N sc E e && notComp e
  | .asg i E, .Assign [.Name x _] e pos => nmB N sc i x && okE tab glo N sc E e && (notComp e || decide (sc.names.lookup x = some .cell))
  | .asgC i E, .Assign [.Name x px] e pos => nmB N sc i x && okE tab glo N sc E e && decide (sc.names.lookup x = some .local) && decide (sc.kind = .function) && (px.line == e.pos.line) && scFree x e
  | .own i E, .Assign [.Name x _] e pos => nmB N sc i x && okE tab glo N sc E e && (notComp e || decide (sc.names.lookup x = some .cell)) && freshB E
  | .ownC i E, .Assign [.Name x px] e pos => nmB N sc i x && okE tab glo N sc E e && decide (sc.names.lookup x = some .local) && decide (sc.kind = .function) && (px.line == e.pos.line) && scFree x e
  | .app i E, .Expr (.Call (.Attribute (.Name x _) m apos) [e] [] cpos) _ => decide (N[i]? = some x) && visB sc x && decide (x ≠ "__debug__") && decide (x ≠ "__classdict__") && decide (m = "append") && (apos.endLine == cpos.line) && okE tab glo N sc E e
  | .ext i E, .Expr (.Call (.Attribute (.Name x _) m apos) [e] [] cpos) _ => decide (N[i]? = some x) && visB sc x && decide (x ≠ "__debug__") && decide (x ≠ "__classdict__") && decide (m = "extend") && (apos.endLine == cpos.line) && okE tab glo N sc E e
  | .par2 i j a b, .Assign [.Tuple [.Name x px, .Name y py] _ _] (.Tuple [e1, e2] _ _) _ => decide (N[i]? = some x) && decide (N[j]? = some y) && decide (i ≠ j) && decide (sc.names.lookup x = some .local) && decide (sc.names.lookup y = some .local)
      && parOk sc [.Name x px, .Name y py] [e1, e2] && decide (namesOf sc [.Name x px, .Name y py] = [x, y]) && okE tab glo N sc a e1 && okE tab glo N sc b e2
  | .par3 i j l a b d, .Assign [.Tuple [.Name x px, .Name y py, .Name z pz] _ _] (.Tuple [e1, e2, e3] _ _) _ => decide (N[i]? = some x) && decide (N[j]? = some y) && decide (N[l]? = some z) && decide (i ≠ j) && decide (i ≠ l) && decide (j ≠ l) && decide (sc.names.lookup x = some .local) && decide (sc.names.lookup y = some .local) && decide (sc.names.lookup z = some .local)
      && parOk sc [.Name x px, .Name y py, .Name z pz] [e1, e2, e3] && decide (namesOf sc [.Name x px, .Name y py, .Name z pz] = [x, y, z]) && okE tab glo N sc a e1 && okE tab glo N sc b e2 && okE tab glo N sc d e3
  | .par2o i j oi oj a b, .Assign [.Tuple [.Name x px, .Name y py] _ _] (.Tuple [e1, e2] _ _) _ => decide (N[i]? = some x) && decide (N[j]? = some y) && decide (i ≠ j) && decide (sc.names.lookup x = some .local) && decide (sc.names.lookup y = some .local)
      && parOk sc [.Name x px, .Name y py] [e1, e2] && decide (namesOf sc [.Name x px, .Name y py] = [x, y]) && okE tab glo N sc a e1 && okE tab glo N sc b e2 && (!oi || freshB a) && (!oj || freshB b)
  | .par3o i j l oi oj ol a b d, .Assign [.Tuple [.Name x px, .Name y py, .Name z pz] _ _] (.Tuple [e1, e2, e3] _ _) _ => decide (N[i]? = some x) && decide (N[j]? = some y) && decide (N[l]? = some z) && decide (i ≠ j) && decide (i ≠ l) && decide (j ≠ l) && decide (sc.names.lookup x = some .local) && decide (sc.names.lookup y = some .local) && decide (sc.names.lookup z = some .local)
      && parOk sc [.Name x px, .Name y py, .Name z pz] [e1, e2, e3] && decide (namesOf sc [.Name x px, .Name y py, .Name z pz] = [x, y, z]) && okE tab glo N sc a e1 && okE tab glo N sc b e2 && okE tab glo N sc d e3 && (!oi || freshB a) && (!oj || freshB b) && (!ol || freshB d)
  | .unp g E, .Assign [.Tuple ts k p] e _ => okTs N sc g ts && okE tab glo N sc E e && unpOk sc ts e
  | .iff d a b, .If c x y _ => noIf c && okE tab glo N sc d c && okSs a x && okSs b y
  | .for_ tg k src body _ _, .For g it b [] _ => tgOk k g && plainX it && okT N sc tg g && (match srcArgs sc k it with | some es => okEs tab glo N sc src es | none => false) && okSs body b
  | .whl d body _ _, .While c b [] _ => noIf c && okE tab glo N sc d c && okSs body b
  | .retPop w v i src, .Return (some (.BinOp (.Tuple [ew] _ _) op (.Call (.Name tn _) [.ListComp (.IfExp cc (.Constant .none _ _) (.Call (.Attribute (.Name ln _) pm apos) [.Constant (.int 0) _ _] [] cpos) _) [⟨g, it, [], as⟩] scope _] [] _) _)) _ =>
    decide (op = .Add) && decide (tn = "tuple") && gloB sc tn && decide (as = 0) && okE tab glo N sc w ew && okE tab glo N sc src it && okT N (relS scope sc) (.nm v) g && okT N scope (.nm v) g && blkC N sc scope ((Tg.nm v).own N)
      && okE tab glo N (relS scope sc) (.cmp .is (.var v) (.lit .non)) cc && noIf cc && decide (N[i]? = some ln) && visB (relS scope sc) ln && decide (ln ≠ "__debug__") && decide (ln ≠ "__classdict__") && decide (pm = "pop") && (apos.endLine == cpos.line) && decide (v ≠ i)
  | .brk, .Break _ => true
  | .cnt, .Continue _ => true
  | .pass, .Pass _ => true
  | .raise k, .Raise (some (.Call (.Name x _) [.Constant (.str _) _ _] [] _)) none _ => decide (exn[k]? = some x) && gloB sc x && decide (x ≠ "__debug__") && decide (x ≠ "")
  | _, _ => false
def okSs : Sms → List Stmt → Bool
  | .nil, [] => true
  | .cons (.rel _) ss, sts => okSs ss sts
  | .cons s ss, st :: sts => okS s st && okSs ss sts
  | _, _ => false
end
end

/-! ### what is wanted behind a statement -/
def Grow (F : Hp) (μ : List Addr) (F' : Hp) (μ' : List Addr) : Prop := Same F F' ∧ ∃ r, μ' = μ ++ r
theorem Grow.refl {F : Hp} {μ : List Addr} : Grow F μ F μ := ⟨Same.refl _, [], by simp⟩
theorem Grow.trans {F F1 F2 : Hp} {μ μ1 μ2 : List Addr} (a : Grow F μ F1 μ1) (b : Grow F1 μ1 F2 μ2) : Grow F μ F2 μ2 := by
  obtain ⟨a1, r, a2⟩ := a
  obtain ⟨b1, r', b2⟩ := b
  exact ⟨a1.trans b1, r ++ r', by rw [b2, a2, List.append_assoc]⟩
theorem Ext.grow {F H F' H' : Hp} {μ μ' : List Addr} (x : Ext F H μ F' H' μ') : Grow F μ F' μ' := ⟨x.ff, x.mm⟩
/-- the def's entry: the heaps, the store's addresses, the wish of an exception -/
structure At0 where
  F₀ : Hp
  H₀ : Hp
  μ₀ : List Addr
  W : WX
/-- a state of the def's -/
structure StOk (G : Glo) (Z : At0) (F H : Hp) (μ : List Addr) (ρ : Lenv) (σ : St) (S : Store) : Prop where
  ext : Ext Z.F₀ Z.H₀ Z.μ₀ F H μ
  env : EnvR G Z.H₀ F H μ ρ σ
  ok : Ok G F H μ S
def PostS (G : Glo) (Z : At0) (F : Hp) (μ : List Addr) (D : Ends) : OutS → Prop
  | .stk => False
  | .nx ρ S => ∀ σ' F' H' μ', Grow F μ F' μ' → StOk G Z F' H' μ' ρ σ' S → D.nx σ' H'
  | .bk ρ S => ∀ σ' F' H' μ', Grow F μ F' μ' → StOk G Z F' H' μ' ρ σ' S → D.bk σ' H'
  | .ct ρ S => ∀ σ' F' H' μ', Grow F μ F' μ' → StOk G Z F' H' μ' ρ σ' S → D.ct σ' H'
  | .rt t S => ∀ v F' H' μ', Ext Z.F₀ Z.H₀ Z.μ₀ F' H' μ' → Ok G F' H' μ' S → Rep G.K F' μ' t v → D.rt v H'
  | .ex c ρ S => ∀ σ' F' H' μ', Grow F μ F' μ' → StOk G Z F' H' μ' ρ σ' S → Z.W (.ref (G.exc c)) none σ' H'
theorem PostS.later {G : Glo} {Z : At0} {F F1 : Hp} {μ μ1 : List Addr} {D : Ends} {o : OutS} (h : PostS G Z F μ D o) (g : Grow F μ F1 μ1) : PostS G Z F1 μ1 D o := by
  cases o <;> first | exact h | exact fun σ' F' H' μ' g' s => h σ' F' H' μ' (g.trans g') s
def tS (G : Glo) (Z : At0) (o : Lenv → Store → OutS) : TS := fun D σ H => ∃ ρ F μ S, StOk G Z F H μ ρ σ S ∧ PostS G Z F μ D (o ρ S)
theorem PS.imp {X : Cx} {st : Stmt} {t t' : TS} (h : PS X st t) (i : ∀ D σ H, t' D σ H → t D σ H) : PS X st t' := ⟨fun pins s σ H D I q => h.run pins s σ H D I (i D σ H q)⟩
theorem PSs.imp {X : Cx} {st : List Stmt} {t t' : TS} (h : PSs X st t) (i : ∀ D σ H, t' D σ H → t D σ H) : PSs X st t' := ⟨fun pins s σ H D I q => h.run pins s σ H D I (i D σ H q)⟩
/-- an expression ahead of a statement's rest -/
theorem PostS.st {α β : Type} {G : Glo} {Z : At0} {F H : Hp} {μ : List Addr} {ρ : Lenv} {σ : St} {S : Store} {D : Ends} {o : Out α} {f : α → Store → OutS} {R : Hp → Hp → List Addr → α → β → Prop} (s : StOk G Z F H μ ρ σ S) (h : PostS G Z F μ D (o.st ρ f)) :
    PostO G F H μ (exK G Z.W σ) R (fun v H1 => ∃ F1 μ1 S1 a, Ext F H μ F1 H1 μ1 ∧ StOk G Z F1 H1 μ1 ρ σ S1 ∧ R F1 H1 μ1 a v ∧ o = .ok a S1 ∧ PostS G Z F1 μ1 D (f a S1)) o := by
  cases o with
  | stk => exact h
  | ok a S1 => exact fun v F' H' μ' x k r => ⟨F', μ', S1, a, x, ⟨s.ext.trans x, s.env.ext x, k⟩, r, rfl, PostS.later (o := f a S1) h x.grow⟩
  | exc c S1 => exact fun F' H' μ' x k => h σ F' H' μ' x.grow ⟨s.ext.trans x, s.env.ext x, k⟩
theorem EnvR.own_put {G : Glo} {H₀ F H : Hp} {μ : List Addr} {ρ : Lenv} {σ : St} (e : EnvR G H₀ F H μ ρ σ) {i : Nat} {l : List T} {a : Addr} {vs : List V} (h1 : H a = some (.lst vs)) (h2 : H₀ a = none) (h3 : F a = none) (h4 : a ∉ μ) (h5 : l.length ≤ sizeLine) (h6 : Reps G.K F μ l vs)
    (hne : ∀ (j : Nat) l', ρ[j]? = some (Sl.own l') → j ≠ i → σ[j]? ≠ some (some (.ref a))) : EnvR G H₀ F H μ (ρ.set i (.own l)) (σ.set i (some (.ref a))) where
  len := by simp [e.len]
  val := fun j u h => by
    by_cases hj : i = j
    · subst hj
      by_cases hl : i < ρ.length
      · rw [List.getElem?_set_self hl] at h; cases h
      · rw [List.getElem?_eq_none (by simpa using hl)] at h; cases h
    · rw [List.getElem?_set_ne hj] at h
      obtain ⟨w, h1, h2⟩ := e.val j u h
      exact ⟨w, by rw [List.getElem?_set_ne hj]; exact h1, h2⟩
  own := fun j l' h => by
    by_cases hj : i = j
    · subst hj
      by_cases hl : i < ρ.length
      · rw [List.getElem?_set_self hl] at h
        cases h
        exact ⟨a, vs, List.getElem?_set_self (by rw [← e.len]; exact hl), h1, h2, h3, h4, h5, h6⟩
      · rw [List.getElem?_eq_none (by simpa using hl)] at h; cases h
    · rw [List.getElem?_set_ne hj] at h
      obtain ⟨a, vs, h1, h2⟩ := e.own j l' h
      exact ⟨a, vs, by rw [List.getElem?_set_ne hj]; exact h1, h2⟩
  ne := fun j k l1 l2 q1 q2 q3 => by
    by_cases hj : i = j
    · by_cases hk : i = k
      · rw [← hj, ← hk]
      · subst hj
        have hl : i < ρ.length := by
          by_cases hl : i < ρ.length
          · exact hl
          · rw [List.getElem?_eq_none (by simpa using hl)] at q1; cases q1
        rw [List.getElem?_set_ne hk] at q2
        rw [List.getElem?_set_self (by rw [← e.len]; exact hl), List.getElem?_set_ne hk] at q3
        exact absurd q3.symm (hne k l2 q2 (Ne.symm hk))
    · rw [List.getElem?_set_ne hj] at q1
      by_cases hk : i = k
      · subst hk
        have hl : i < ρ.length := by
          by_cases hl : i < ρ.length
          · exact hl
          · rw [List.getElem?_eq_none (by simpa using hl)] at q2; cases q2
        rw [List.getElem?_set_self (l := σ) (by rw [← e.len]; exact hl), List.getElem?_set_ne hj] at q3
        exact absurd q3 (hne j l1 q1 (Ne.symm hj))
      · rw [List.getElem?_set_ne hk] at q2
        rw [List.getElem?_set_ne hj, List.getElem?_set_ne hk] at q3
        exact e.ne j k l1 l2 q1 q2 q3
/-! ### slots not set -/
theorem EnvR.un1 {G : Glo} {H₀ F H : Hp} {μ : List Addr} {ρ : Lenv} {σ : St} (e : EnvR G H₀ F H μ ρ σ) (i : Nat) : EnvR G H₀ F H μ (ρ.set i .un) σ := by
  have g : ∀ {j : Nat} {s : Sl}, (ρ.set i .un)[j]? = some s → s ≠ .un → ρ[j]? = some s := fun {j s} h n => by
    by_cases hj : i = j
    · subst hj
      rw [List.getElem?_set] at h
      split at h
      · split at h
        · cases h; exact absurd rfl n
        · cases h
      · exact absurd rfl ‹_›
    · rwa [List.getElem?_set_ne hj] at h
  exact ⟨by rw [List.length_set]; exact e.len, fun j t h => e.val j t (g h (by simp)), fun j l h => e.own j l (g h (by simp)), fun j k l l' h h' => e.ne j k l l' (g h (by simp)) (g h' (by simp))⟩
theorem EnvR.wipeU {G : Glo} {H₀ F H : Hp} {μ : List Addr} {ρ : Lenv} {σ : St} (e : EnvR G H₀ F H μ ρ σ) : ∀ l : List Nat, EnvR G H₀ F H μ (wipeR ρ l) σ
  | [] => e
  | i :: l => (e.wipeU l).un1 i
theorem StOk.wipe {G : Glo} {Z : At0} {F H : Hp} {μ : List Addr} {ρ : Lenv} {σ : St} {S : Store} (s : StOk G Z F H μ ρ σ S) (l : List Nat) : StOk G Z F H μ (wipeR ρ l) σ S := ⟨s.ext, s.env.wipeU l, s.ok⟩
/-- a turn's end -/
theorem PostS.fix {G : Glo} {Z : At0} {F : Hp} {μ : List Addr} {D D' : Ends} {o : OutS} {lv : List (Nat × Bool)} {tmp : List Nat} (h : PostS G Z F μ D (o.fix lv tmp)) (c : ∀ σ H, D.nx σ H → D'.ct σ H) (n : ∀ σ H, D.nx σ H → D'.nx σ H) (b : ∀ σ H, D.bk σ H → D'.bk σ H) (r : ∀ v H, D.rt v H → D'.rt v H) : PostS G Z F μ D' o := by
  cases o <;> simp only [OutS.fix] at h
  · exact h
  · split at h
    · exact fun σ' F' H' μ' g s => n _ _ (h σ' F' H' μ' g (s.wipe tmp))
    · exact h.elim
  · exact fun v F' H' μ' x k q => r _ _ (h v F' H' μ' x k q)
  · split at h
    · exact fun σ' F' H' μ' g s => b _ _ (h σ' F' H' μ' g (s.wipe tmp))
    · exact h.elim
  · split at h
    · exact fun σ' F' H' μ' g s => c _ _ (h σ' F' H' μ' g (s.wipe tmp))
    · exact h.elim
  · exact fun σ' F' H' μ' g s => h σ' F' H' μ' g ((s.wipe tmp).wipe (lv.map (·.1)))
end Ly
namespace Ly
open PySem PySem.Spec L2
open PyProof.Rows hiding St

structure Snd (G : Glo) (tab : Tb) (glo : List (Str × T)) (n k : Nat) : Prop where
  e : ∀ E, SndE G tab glo n k E
  a : ∀ E, SndA G tab glo n k E
  s : ∀ kk src, SrcOk G tab glo n k kk src
structure CxtS (G : Glo) (tab : Tb) (glo : List (Str × T)) (exn : List Str) (n k : Nat) (X : Cx) (Z : At0) : Prop where
  c : Cxt G tab glo n k X Z.W
  hp : PassesOwn (model X.prog X.w) X.A X.env X.xe
  fn : ∀ x, X.fn x = true
  kind : X.env.scope.kind = .function
  exc : ∀ (j : Nat) x, exn[j]? = some x → x ≠ "" → X.mg x = some (.ref (G.exc j)) ∧ PySem.W.excIn X.K (G.exc j) He.veBase "ValueError.__new__" = true ∧ PySem.W.keepIn X.K (.ref (G.exc j)) = true ∧ Raises X (.ref (G.exc j))
section
variable {G : Glo} {tab : Tb} {glo : List (Str × T)} {exn : List Str} {n k : Nat} {X : Cx} {Z : At0}
theorem nmB_ok {N : List Str} {sc : Scope} {i : Nat} {x : Str} (h : nmB N sc i x = true) : N[i]? = some x ∧ Loc sc x := by
  unfold nmB at h
  simp only [Bool.and_eq_true, decide_eq_true_eq] at h
  exact ⟨h.1, locB_ok h.2⟩
theorem swaps_no {e : Expr} {t : Option Expr} {l : Nat} {env : Env} (h : notComp e = true) : swapsWith e t l env = pure false := by
  cases e <;> first | rfl | (simp [notComp] at h)
theorem swaps_cell {e : Expr} {x : Str} {p : Pos} {l : Nat} {env : Env} (h : env.scope.names.lookup x = some .cell) : swapsWith e (some (.Name x p)) l env = pure false := by
  have hk : env.kindOf x = some .cell := h
  cases e <;> first
    | rfl
    | (unfold swapsWith
       simp only [hk]
       cases env.blockKind <;> rfl)
theorem ps_asg_of (C : CxtS G tab glo exn n k X Z) (Sd : Snd G tab glo n k) {i : Nat} {E : Ex} {x : Str} {px pos : Pos} {e : Expr} (hn : nmB X.N X.env.scope i x = true) (ok : okE tab glo X.N X.env.scope E e = true) (hc : notComp e = true ∨ X.env.scope.names.lookup x = some .cell) :
    PS X (.Assign [.Name x px] e pos) (tS G Z (ex (callF tab.l n) (.asg i E))) := by
  obtain ⟨h1, h2⟩ := nmB_ok hn
  have hs : swapsWith e (some (.Name x px)) pos.line X.env = pure false := by
    rcases hc with hc | hc
    · exact swaps_no hc
    · exact swaps_cell hc
  refine PS.imp (ps_set C.c.nd h1 h2 ((Sd.e E).run X Z.W Z.H₀ e C.c ok).1 hs (.inl (C.fn x))) fun D σ H q => ?_
  obtain ⟨ρ, F, μ, S, s, p⟩ := q
  simp only [ex] at p
  refine ⟨ρ, F, μ, S, s.env, s.ok, (p.st s).imp fun v H1 hv => ?_⟩
  obtain ⟨F1, μ1, S1, t, x1, s1, r1, _, p1⟩ := hv
  exact p1 _ F1 H1 μ1 .refl ⟨s1.ext, s1.env.put r1, s1.ok⟩
theorem ps_asgC_of (C : CxtS G tab glo exn n k X Z) (Sd : Snd G tab glo n k) {i : Nat} {E : Ex} {x : Str} {px pos : Pos} {y : Expr} {gens : List Comprehension} {scope : Scope} {p2 : Pos} (hn : nmB X.N X.env.scope i x = true) (ok : okE tab glo X.N X.env.scope E (.ListComp y gens scope p2) = true) (hl : X.env.scope.names.lookup x = some .local)
    (hline : (px.line == p2.line) = true) (hsc : (scope.names.any fun (n, k) => n == x && (k == .local || k == .cell)) = false) :
    ∃ wi gg tt te own, ∃ L : (∃ g it ifs, gens = [⟨g, it, ifs, 0⟩] ∧ LcParts G Z.H₀ Z.W (callF tab.l n) X y g it ifs scope E wi gg tt te own), PS X (.Assign [.Name x px] (.ListComp y gens scope p2) pos) (tAsg (tLc wi gg tt te (own.map (·.2))) (gName i)) := by
  obtain ⟨h1, h2⟩ := nmB_ok hn
  cases E <;> first | (simp only [okE, Bool.false_eq_true] at ok; done) | skip
  · cases ‹T› <;> simp [okE, litB] at ok
  · rename_i o es
    simp only [okE, Bool.and_eq_true] at ok
    obtain ⟨_, ok⟩ := ok
    cases o <;> simp [okOp] at ok
  · rename_i elt tg kk src cond
    obtain ⟨g, it, ifs, wi, gg, tt, te, own, rfl, L⟩ := lc_parts (Sd.e elt) (fun E _ => Sd.e E) (Sd.s kk src) Z.H₀ C.c ok
    refine ⟨wi, gg, tt, te, own, ⟨g, it, ifs, rfl, L⟩, ?_⟩
    have hsw : swapsWith (.ListComp y [⟨g, it, ifs, 0⟩] scope p2) (some (.Name x px)) pos.line X.env = pure true := by
      exact sw_true (C.kind) hl hline hsc
    exact ps_setLc C.c.calm C.c.nd h1 hl hsw L.hi L.blk L.hg L.ht L.he L.fold
theorem ps_expr_of (C : CxtS G tab glo exn n k X Z) (Sd : Snd G tab glo n k) {E : Ex} {pos : Pos} {e : Expr} (ok : okE tab glo X.N X.env.scope E e = true) (hc : notComp e = true) : PS X (.Expr e pos) (tS G Z (ex (callF tab.l n) (.expr E))) := by
  refine PS.imp (ps_expr ((Sd.e E).run X Z.W Z.H₀ e C.c ok).1 (swaps_no hc)) fun D σ H q => ?_
  obtain ⟨ρ, F, μ, S, s, p⟩ := q
  simp only [ex] at p
  refine ⟨ρ, F, μ, S, s.env, s.ok, (p.st s).imp fun v H1 hv => ?_⟩
  obtain ⟨F1, μ1, S1, t, x1, s1, r1, _, p1⟩ := hv
  exact p1 _ F1 H1 μ1 .refl s1
theorem ps_ret_of (C : CxtS G tab glo exn n k X Z) (Sd : Snd G tab glo n k) {E : Ex} {pos : Pos} {e : Expr} (ok : okE tab glo X.N X.env.scope E e = true) : PS X (.Return (some e) pos) (tS G Z (ex (callF tab.l n) (.ret E))) := by
  refine PS.imp (ps_ret ((Sd.e E).run X Z.W Z.H₀ e C.c ok).1) fun D σ H q => ?_
  obtain ⟨ρ, F, μ, S, s, p⟩ := q
  simp only [ex] at p
  refine ⟨ρ, F, μ, S, s.env, s.ok, (p.st s).imp fun v H1 hv => ?_⟩
  obtain ⟨F1, μ1, S1, t, x1, s1, r1, _, p1⟩ := hv
  exact p1 v F1 H1 μ1 s1.ext s1.ok r1
theorem ps_retN_of {pos : Pos} : PS X (.Return none pos) (tS G Z (ex (callF tab.l n) .retN)) := by
  refine PS.imp ps_retN fun D σ H q => ?_
  obtain ⟨ρ, F, μ, S, s, p⟩ := q
  simp only [ex] at p
  exact p _ F H μ s.ext s.ok Rep.non'
theorem ps_if_of (C : CxtS G tab glo exn n k X Z) (Sd : Snd G tab glo n k) {d : Ex} {A B : Sms} {pos : Pos} {c : Expr} {x y : List Stmt} (h0 : noIf c = true) (ok : okE tab glo X.N X.env.scope d c = true) (ha : PSs X x (tS G Z (exs (callF tab.l n) A))) (hb : PSs X y (tS G Z (exs (callF tab.l n) B))) :
    PS X (.If c x y pos) (tS G Z (ex (callF tab.l n) (.iff d A B))) := by
  refine PS.imp (ps_if (((Sd.e d).run X Z.W Z.H₀ c C.c ok).2.2.1 h0) ha hb) fun D σ H q => ?_
  obtain ⟨ρ, F, μ, S, s, p⟩ := q
  simp only [ex] at p
  refine ⟨ρ, F, μ, S, s.env, s.ok, ?_⟩
  dsimp only
  cases q : bor ρ d S (ev (callF tab.l n) d ρ S) with
  | stk => rw [q] at p; exact p
  | exc e S1 =>
    rw [q] at p
    exact fun F' H' μ' x k => p σ F' H' μ' x.grow ⟨s.ext.trans x, s.env.ext x, k⟩
  | ok t S1 =>
    rw [q] at p
    simp only [Out.st] at p
    simp only [Out.bind]
    cases ht : t.tru with
    | none => rw [ht] at p; exact p.elim
    | some b =>
      rw [ht] at p
      intro v F' H' μ' x k r
      have r : t.tru = some v := r
      rw [ht] at r
      cases r
      cases b with
      | true => exact ⟨ρ, F', μ', S1, ⟨s.ext.trans x, s.env.ext x, k⟩, PostS.later (o := exs (callF tab.l n) A ρ S1) p x.grow⟩
      | false => exact ⟨ρ, F', μ', S1, ⟨s.ext.trans x, s.env.ext x, k⟩, PostS.later (o := exs (callF tab.l n) B ρ S1) p x.grow⟩
theorem pss_cons_of {s : Sm} {ss : Sms} {st : Stmt} {sts : List Stmt} (h1 : PS X st (tS G Z (ex (callF tab.l n) s))) (h2 : PSs X sts (tS G Z (exs (callF tab.l n) ss))) : PSs X (st :: sts) (tS G Z (exs (callF tab.l n) (.cons s ss))) := by
  refine PSs.imp (pss_cons h1 h2) fun D σ H q => ?_
  obtain ⟨ρ, F, μ, S, s', p⟩ := q
  simp only [exs] at p
  refine ⟨ρ, F, μ, S, s', ?_⟩
  cases q : ex (callF tab.l n) s ρ S with
  | stk => rw [q] at p; exact p
  | nx ρ1 S1 =>
    rw [q] at p
    exact fun σ' F' H' μ' g s1 => ⟨ρ1, F', μ', S1, s1, PostS.later (o := exs (callF tab.l n) ss ρ1 S1) p g⟩
  | rt t S1 => rw [q] at p; exact p
  | bk ρ1 S1 => rw [q] at p; exact p
  | ct ρ1 S1 => rw [q] at p; exact p
  | ex c ρ1 S1 => rw [q] at p; exact p
theorem pss_nil_of : PSs X [] (tS G Z (exs (callF tab.l n) .nil)) := by
  refine PSs.imp pss_nil fun D σ H q => ?_
  obtain ⟨ρ, F, μ, S, s', p⟩ := q
  simp only [exs] at p
  exact p σ F H μ .refl s'
theorem pss_rel_of {i : Nat} {ss : Sms} {sts : List Stmt} (h2 : PSs X sts (tS G Z (exs (callF tab.l n) ss))) : PSs X sts (tS G Z (exs (callF tab.l n) (.cons (.rel i) ss))) := by
  refine PSs.imp h2 fun D σ H q => ?_
  obtain ⟨ρ, F, μ, S, s, p⟩ := q
  simp only [exs, ex] at p
  split at p
  · rename_i l hl
    obtain ⟨a, vs, h1, h2, h3, h4, h5, h6, h7⟩ := s.env.own i l hl
    have sf : Same F (upd F a (.lst vs)) := fun b u e => by rw [upd_ne (ne_of_none e h4)]; exact e
    refine ⟨ρ.set i (.val (.lst l)), upd F a (.lst vs), μ, S, ⟨?_, ?_, s.ok.freeze h2 h4 h5⟩, PostS.later (o := exs (callF tab.l n) ss (ρ.set i (.val (.lst l))) S) p ⟨sf, [], by simp⟩⟩
    · refine ⟨s.ext.ff.trans sf, s.ext.hh, s.ext.hs, fun b u e n => ?_, s.ext.mm, s.ext.nw⟩
      have : b ≠ a := fun q => by rw [q, h3] at e; cases e
      rw [upd_ne this]; exact s.ext.nf b u e n
    · have hi : i < ρ.length := (List.getElem?_eq_some_iff.mp hl).1
      refine ⟨by simp [s.env.len], fun j u h => ?_, fun j l' h => ?_, fun j k l1 l2 q1 q2 q3 => ?_⟩
      · by_cases hj : i = j
        · subst hj
          rw [List.getElem?_set_self hi] at h
          cases h
          refine ⟨_, h1, ?_⟩
          simp only [Rep]
          exact ⟨a, vs, rfl, upd_same, h6, by simpa using Reps.mono (r := []) sf _ h7⟩
        · rw [List.getElem?_set_ne hj] at h
          obtain ⟨w, w1, w2⟩ := s.env.val j u h
          exact ⟨w, w1, by simpa using Rep.mono (r := []) sf _ w2⟩
      · by_cases hj : i = j
        · subst hj
          rw [List.getElem?_set_self hi] at h
          cases h
        · rw [List.getElem?_set_ne hj] at h
          obtain ⟨b, ws, w1, w2, w3, w4, w5, w6, w7⟩ := s.env.own j l' h
          have : b ≠ a := fun q => by
            subst q
            exact hj (s.env.ne i j l l' hl h (by rw [h1, w1]))
          exact ⟨b, ws, w1, w2, w3, by rw [upd_ne this]; exact w4, w5, w6, by simpa using Reps.mono (r := []) sf _ w7⟩
      · have nj : ∀ {j : Nat} {l' : List T}, (ρ.set i (Sl.val (T.lst l)))[j]? = some (Sl.own l') → i ≠ j := fun {j l'} h q => by
          subst q
          rw [List.getElem?_set_self hi] at h
          cases h
        rw [List.getElem?_set_ne (nj q1)] at q1
        rw [List.getElem?_set_ne (nj q2)] at q2
        exact s.env.ne j k l1 l2 q1 q2 q3
  · exact ⟨ρ, F, μ, S, s, p⟩
  · exact p.elim
/-! ### lists of one's own -/
theorem own_new {F H : Hp} {μ : List Addr} {ρ : Lenv} {σ : St} {S S1 : Store} {D : Ends} {i : Nat} {l : List T} {v : V} {F' H' : Hp} {μ' : List Addr} (s : StOk G Z F H μ ρ σ S) (x : Ext F H μ F' H' μ') (k : Ok G F' H' μ' S1) (r : rF G H F' H' μ' (.lst l) v)
    (p : PostS G Z F μ D (.nx (ρ.set i (.own l)) S1)) : D.nx (σ.set i (some v)) H' := by
  obtain ⟨a, vs, l', e, rfl, h1, h2, h3, h4, h5, h6⟩ := r
  cases e
  have hH0 : Z.H₀ a = none := by
    cases q : Z.H₀ a with
    | none => rfl
    | some u =>
      obtain ⟨u', e⟩ := s.ext.hs a u q
      rw [h4] at e; cases e
  refine p _ F' H' μ' x.grow ⟨s.ext.trans x, (s.env.ext x).own_put h1 hH0 h2 h3 h5 h6 fun j l' hj hji q => ?_, k⟩
  obtain ⟨b, ws, w1, w2, _⟩ := s.env.own j l' hj
  rw [w1] at q
  cases q
  rw [h4] at w2; cases w2
/-- list(x): a new list -/
theorem o_lstF {X : Cx} {G : Glo} (hG : G.K = X.K) : CallR X (.type "list") (fun xs H Q => ∃ F μ t l, Same F H ∧ RepBs G F H μ [t] xs ∧ biF .lst [t] = some (.lst l) ∧ ∀ p vs, H p = none → l.length ≤ sizeLine → Reps G.K F μ l vs → Q (.ref p) (upd H p (.lst vs))) := by
  intro pins s σ H xs us Q I rv h
  obtain ⟨F, μ, t, l, sf, rb, e, r⟩ := h
  unfold biF at e
  split at e <;> first | (cases ‹Bi.lst = _›; done) | skip
  · rename_i hq; cases hq
    cases e
    obtain ⟨v, rfl, h⟩ := rb.one
    obtain ⟨a, vs, rfl, q, z, rs⟩ := h.lst sf
    exact call_list_of pins s σ H _ us Q I rv ⟨a, vs, rfl, .inl (SqL.of q), fun p hp => r p vs hp z rs⟩
  · rename_i hq; cases hq
    cases e
    obtain ⟨v, rfl, h⟩ := rb.one
    obtain ⟨a, vs, rfl, q, z, rs⟩ := h.tup sf
    exact call_list_of pins s σ H _ us Q I rv ⟨a, vs, rfl, .inr (hG ▸ q), fun p hp => r p vs hp z rs⟩
  · cases e
theorem pe_fresh (C : CxtS G tab glo exn n k X Z) (Sd : Snd G tab glo n k) {E : Ex} {e : Expr} (hE : freshB E = true) (ok : okE tab glo X.N X.env.scope E e = true) : PE X e (tF G Z.H₀ Z.W (fun ρ S => ev (callF tab.l n) E ρ S)) := by
  cases E <;> simp only [freshB, Bool.false_eq_true] at hE
  · rename_i Es
    cases e <;> first | (simp only [okE, Bool.false_eq_true] at ok; done) | skip
    simp only [okE] at ok
    refine PE.imp (pe_lst ((Sd.a Es).run X Z.W Z.H₀ _ C.c ok).1) fun σ H Q h => ?_
    obtain ⟨ρ, F, μ, S, en, k, p⟩ := h
    simp only [ev] at p
    refine ⟨ρ, F, μ, S, en, k, p.bind.imp fun v H1 hv => ?_⟩
    obtain ⟨F1, μ1, S1, t, x1, k1, r1, _, p1⟩ := hv
    split at p1
    · rename_i hl
      have : (1000 : Nat) ≤ sizeLine := by decide
      have e := r1.length
      refine ⟨by omega, fun q hq => ?_⟩
      have hH : H q = none := by
        cases z : H q with
        | none => rfl
        | some u =>
          obtain ⟨u', e⟩ := x1.hs q u z
          rw [hq] at e; cases e
      exact p1 (.ref q) F1 (upd H1 q (.lst v)) μ1 (Ext.newH hq) (k1.newH hq) ⟨q, v, t, rfl, rfl, upd_same, Same.free k1.fh hq, k1.notin hq, hH, by omega, r1⟩
    · exact p1.elim
  · rename_i b Es
    cases b <;> first | (cases hE; done) | skip
    cases Es with
    | nil => cases hE
    | cons E' Er =>
      cases Er with
      | cons _ _ => cases hE
      | nil =>
        cases e <;> first | (simp only [okE, Bool.false_eq_true] at ok; done) | skip
        rename_i f xs ks pos
        cases f <;> first | (simp only [okE, Bool.false_eq_true] at ok; done) | skip
        rename_i x p2
        cases ks <;> first | (simp only [okE, Bool.false_eq_true] at ok; done) | skip
        simp only [okE, isiName, biName, Bool.and_eq_true, decide_eq_true_eq] at ok
        obtain ⟨⟨⟨k1, k2⟩, k3⟩, k4⟩ := ok
        have k1 : x = "list" := of_decide_eq_true k1
        subst k1
        have k3 : xs ≠ [] := by simpa using k3
        match xs, k4 with
        | [y], k4 =>
          simp only [okEs, Bool.and_true] at k4
          have pe := ((Sd.e E').run X Z.W Z.H₀ y C.c k4).2.1
          have hs : starEach (y :: []) X.env = (false, eval y X.env) :: starEach [] X.env := star_cons (okE_plain k4)
          refine PE.imp (pe_callTy (o_lstF C.c.hG) (gloB_ok k2) (C.c.blt _ (by simp [bltNames])) PyProof.Rows.boot_list (pa_cons pe pa_nil hs) (by decide +kernel) (by decide +kernel) hs rfl) fun σ H Q h => ?_
          obtain ⟨ρ, F, μ, S, en, k, p⟩ := h
          simp only [ev, evb] at p
          have p' : PostO G F H μ (exK G Z.W σ) (rF G H) Q ((bor ρ E' S (ev (callF tab.l n) E' ρ S)).bind fun x S1 => Out.of (biF .lst [x]) S1) := by
            revert p
            cases bor ρ E' S (ev (callF tab.l n) E' ρ S) <;> exact id
          refine ⟨ρ, F, μ, S, en, k, p'.bind.imp fun v H1 hv => ?_⟩
          obtain ⟨F1, μ1, S1, t, x1, k1, r1, _, p1⟩ := hv
          obtain ⟨u, eu, p2⟩ := p1.of
          have hl : ∃ l, u = .lst l := by
            unfold biF at eu
            split at eu <;> first | (cases ‹Bi.lst = _›; done) | (cases eu; exact ⟨_, rfl⟩) | (cases eu; done)
          obtain ⟨l, rfl⟩ := hl
          refine ⟨F1, μ1, t, l, k1.fh, ?_, eu, fun q vs hq z rs => ?_⟩
          · simp only [RepBs]
            exact ⟨v, [], rfl, r1, rfl⟩
          · have hH : H q = none := by
              cases z : H q with
              | none => rfl
              | some u =>
                obtain ⟨u', e⟩ := x1.hs q u z
                rw [hq] at e; cases e
            exact p2 (.ref q) F1 (upd H1 q (.lst vs)) μ1 (Ext.newH hq) (k1.newH hq) ⟨q, vs, l, rfl, rfl, upd_same, Same.free k1.fh hq, k1.notin hq, hH, z, rs⟩
        | [], k4 => exact absurd rfl k3
        | _ :: _ :: _, k4 => simp [okEs] at k4
  · rename_i elt tg kk src cond
    cases e <;> first | (simp only [okE, Bool.false_eq_true] at ok; done) | skip
    rename_i x gens scope pos
    obtain ⟨g, it, ifs, wi, gg, tt, te, own, rfl, L⟩ := lc_parts (Sd.e elt) (fun E _ => Sd.e E) (Sd.s kk src) Z.H₀ C.c ok
    exact PE.imp (pe_lc C.c.calm C.c.nd L.hi L.blk L.hg L.ht L.he L.fold) L.imp
theorem freshE {E : Ex} (hE : freshB E = true) : fresh E = true := by
  cases E <;> first | (cases hE; done) | rfl | skip
  rename_i b es
  cases b <;> first | (cases hE; done) | rfl
theorem own_post {F H : Hp} {μ : List Addr} {ρ : Lenv} {σ : St} {S : Store} {D : Ends} {i : Nat} {E : Ex} (s : StOk G Z F H μ ρ σ S)
    (p : PostS G Z F μ D ((ev (callF tab.l n) E ρ S).st ρ fun t S => match t with | .lst l => if fresh E then .nx (ρ.set i (.own l)) S else .stk | _ => .stk)) : PostO G F H μ (exK G Z.W σ) (rF G H) (fun v H' => D.nx (σ.set i (some v)) H') (ev (callF tab.l n) E ρ S) := by
  cases q : ev (callF tab.l n) E ρ S with
  | stk => rw [q] at p; exact p
  | exc c S1 =>
    rw [q] at p
    exact fun F' H' μ' x k => p σ F' H' μ' x.grow ⟨s.ext.trans x, s.env.ext x, k⟩
  | ok t S1 =>
    rw [q] at p
    simp only [Out.st] at p
    intro v F' H' μ' x k r
    obtain ⟨a, vs, l, rfl, rest⟩ := id r
    simp only at p
    split at p
    · exact own_new s x k r p
    · exact p.elim
theorem ps_own_of (C : CxtS G tab glo exn n k X Z) (Sd : Snd G tab glo n k) {i : Nat} {E : Ex} {x : Str} {px pos : Pos} {e : Expr} (hn : nmB X.N X.env.scope i x = true) (ok : okE tab glo X.N X.env.scope E e = true) (hc : notComp e = true ∨ X.env.scope.names.lookup x = some .cell)
    (hE : freshB E = true) : PS X (.Assign [.Name x px] e pos) (tS G Z (ex (callF tab.l n) (.own i E))) := by
  obtain ⟨h1, h2⟩ := nmB_ok hn
  have hs : swapsWith e (some (.Name x px)) pos.line X.env = pure false := by
    rcases hc with hc | hc
    · exact swaps_no hc
    · exact swaps_cell hc
  refine PS.imp (ps_set C.c.nd h1 h2 (pe_fresh C Sd hE ok) hs (.inl (C.fn x))) fun D σ H q => ?_
  obtain ⟨ρ, F, μ, S, s, p⟩ := q
  simp only [ex] at p
  exact ⟨ρ, F, μ, S, s.env, s.ok, own_post s p⟩

theorem ps_asgC_all (C : CxtS G tab glo exn n k X Z) (Sd : Snd G tab glo n k) {i : Nat} {E : Ex} {x : Str} {px pos : Pos} {e : Expr} (hn : nmB X.N X.env.scope i x = true) (ok : okE tab glo X.N X.env.scope E e = true) (hl : X.env.scope.names.lookup x = some .local)
    (hline : (px.line == e.pos.line) = true) (hsc : scFree x e = true) :
    PS X (.Assign [.Name x px] e pos) (tS G Z (ex (callF tab.l n) (.asgC i E))) ∧ PS X (.Assign [.Name x px] e pos) (tS G Z (ex (callF tab.l n) (.ownC i E))) := by
  cases e <;> first | (simp only [scFree, Bool.false_eq_true] at hsc; done) | skip
  rename_i y gens scope p2
  obtain ⟨wi, gg, tt, te, own, ⟨g, it, ifs, rfl, L⟩, ps⟩ := ps_asgC_of (pos := pos) C Sd hn ok hl hline (by simpa [scFree] using hsc)
  refine ⟨PS.imp ps fun D σ H q => L.imp σ H _ ?_, PS.imp ps fun D σ H q => L.imp σ H _ ?_⟩
  · obtain ⟨ρ, F, μ, S, s, p⟩ := q
    simp only [ex] at p
    refine ⟨ρ, F, μ, S, s.env, s.ok, post_fresh ((p.st s).imp fun v H1 hv => ?_)⟩
    obtain ⟨F1, μ1, S1, t, x1, s1, r1, _, p1⟩ := hv
    exact p1 _ F1 H1 μ1 .refl ⟨s1.ext, s1.env.put r1, s1.ok⟩
  · obtain ⟨ρ, F, μ, S, s, p⟩ := q
    simp only [ex] at p
    exact ⟨ρ, F, μ, S, s.env, s.ok, own_post s p⟩
/-- x.append(e), x.extend(e) -/
theorem own_set {F H : Hp} {μ : List Addr} {ρ : Lenv} {σ : St} {S : Store} {i : Nat} {l l' : List T} {a : Addr} {vs ws : List V} (s : StOk G Z F H μ ρ σ S) (hl : ρ[i]? = some (Sl.own l)) (h1 : σ[i]? = some (some (.ref a))) (h2 : H a = some (.lst vs)) (h3 : Z.H₀ a = none) (h4 : F a = none) (h5 : a ∉ μ)
    (z : l'.length ≤ sizeLine) (r : Reps G.K F μ l' ws) : StOk G Z F (upd H a (.lst ws)) μ (ρ.set i (.own l')) σ S := by
  have hi : i < ρ.length := (List.getElem?_eq_some_iff.mp hl).1
  refine ⟨⟨s.ext.ff, fun b u e m => ?_, fun b u e => ?_, s.ext.nf, s.ext.mm, s.ext.nw⟩, ⟨by simp [s.env.len], fun j u h => ?_, fun j m h => ?_, fun j k l1 l2 q1 q2 q3 => ?_⟩, s.ok.setH h2 h4 h5 (fun _ q => by cases q)⟩
  · have : b ≠ a := fun q => by rw [q, h3] at e; cases e
    rw [upd_ne this]; exact s.ext.hh b u e m
  · by_cases q : b = a
    · subst q; exact ⟨_, upd_same⟩
    · rw [upd_ne q]; exact s.ext.hs b u e
  · by_cases hj : i = j
    · subst hj
      rw [List.getElem?_set_self hi] at h; cases h
    · rw [List.getElem?_set_ne hj] at h
      exact s.env.val j u h
  · by_cases hj : i = j
    · subst hj
      rw [List.getElem?_set_self hi] at h
      cases h
      exact ⟨a, ws, h1, upd_same, h3, h4, h5, z, r⟩
    · rw [List.getElem?_set_ne hj] at h
      obtain ⟨b, us, w1, w2, w3, w4, w5, w6, w7⟩ := s.env.own j m h
      have : b ≠ a := fun q => by
        subst q
        exact hj (s.env.ne i j l m hl h (by rw [h1, w1]))
      exact ⟨b, us, w1, by rw [upd_ne this]; exact w2, w3, w4, w5, w6, w7⟩
  · have nj : ∀ {j : Nat} {m : List T}, (ρ.set i (Sl.own l'))[j]? = some (Sl.own m) → ∃ m', ρ[j]? = some (Sl.own m') := fun {j m} h => by
      by_cases hj : i = j
      · subst hj; exact ⟨l, hl⟩
      · rw [List.getElem?_set_ne hj] at h; exact ⟨m, h⟩
    obtain ⟨m1, e1⟩ := nj q1
    obtain ⟨m2, e2⟩ := nj q2
    exact s.env.ne j k m1 m2 e1 e2 q3
theorem att_base {x : Str} {p : Pos} {a : Str} {env : Env} {w : Sem Value} : attributeBase (.Name x p) a env w = w := rfl
theorem ps_app_of (C : CxtS G tab glo exn n k X Z) (Sd : Snd G tab glo n k) {i : Nat} {E : Ex} {x : Str} {px apos cpos pos : Pos} {e : Expr} (h1 : X.N[i]? = some x) (h2 : Vis X.env.scope x) (h3 : x ≠ "__debug__") (h4 : x ≠ "__classdict__") (hl : (apos.endLine == cpos.line) = true) (ok : okE tab glo X.N X.env.scope E e = true) :
    PS X (.Expr (.Call (.Attribute (.Name x px) "append" apos) [e] [] cpos) pos) (tS G Z (ex (callF tab.l n) (.app i E))) := by
  have pl := okE_plain ok
  have hs : starEach (e :: []) X.env = (false, eval e X.env) :: starEach [] X.env := star_cons pl
  refine PS.imp (ps_expr (pe_bm PySem.F.plainAttrs_list PySem.F.slot_list_append PySem.F.type_list_append mt_append (pe_var h1 h2 (beq_eq_false_iff_ne.mpr h3) (beq_eq_false_iff_ne.mpr h4)) (pa_cons ((Sd.e E).run X Z.W Z.H₀ e C.c ok).1 pa_nil hs) rfl (by rw [hs]; rfl) hl hs rfl) rfl) fun D σ H q => ?_
  obtain ⟨ρ, F, μ, S, s, p⟩ := q
  simp only [ex] at p
  unfold ownAt at p
  split at p
  · rename_i l hl
    obtain ⟨a, vs, w1, w2, w3, w4, w5, w6, w7⟩ := s.env.own i l hl
    refine ⟨_, w1, .inl ⟨rfl, vs, SqL.of w2⟩, ?_⟩
    refine ⟨ρ, F, μ, S, s.env, s.ok, (p.st s).imp fun v H1 hv => ?_⟩
    obtain ⟨F1, μ1, S1, t, x1, s1, r1, _, p1⟩ := hv
    obtain ⟨a', vs', w1', w2', w3', w4', w5', w6', w7'⟩ := s1.env.own i l hl
    rw [w1] at w1'
    cases w1'
    split at p1
    · rename_i hz
      have e := w7'.length
      exact ⟨a, vs', v, rfl, rfl, w2', by omega, p1 σ F1 (upd H1 a (.lst (vs' ++ [v]))) μ1 .refl (own_set s1 hl w1 w2' w3' w4' w5' (by simp; omega) (w7'.append (Reps.cons r1 Reps.nil)))⟩
    · exact p1.elim
  · exact p.elim
theorem ps_ext_of (C : CxtS G tab glo exn n k X Z) (Sd : Snd G tab glo n k) {i : Nat} {E : Ex} {x : Str} {px apos cpos pos : Pos} {e : Expr} (h1 : X.N[i]? = some x) (h2 : Vis X.env.scope x) (h3 : x ≠ "__debug__") (h4 : x ≠ "__classdict__") (hl : (apos.endLine == cpos.line) = true) (ok : okE tab glo X.N X.env.scope E e = true) :
    PS X (.Expr (.Call (.Attribute (.Name x px) "extend" apos) [e] [] cpos) pos) (tS G Z (ex (callF tab.l n) (.ext i E))) := by
  have pl := okE_plain ok
  have hs : starEach (e :: []) X.env = (false, eval e X.env) :: starEach [] X.env := star_cons pl
  refine PS.imp (ps_expr (pe_bm PySem.F.plainAttrs_list PySem.F.slot_list_extend PySem.F.type_list_extend mt_extend (pe_var h1 h2 (beq_eq_false_iff_ne.mpr h3) (beq_eq_false_iff_ne.mpr h4)) (pa_cons ((Sd.e E).run X Z.W Z.H₀ e C.c ok).1 pa_nil hs) rfl (by rw [hs]; rfl) hl hs rfl) rfl) fun D σ H q => ?_
  obtain ⟨ρ, F, μ, S, s, p⟩ := q
  simp only [ex] at p
  unfold ownAt at p
  split at p
  · rename_i l hl
    obtain ⟨a, vs, w1, w2, w3, w4, w5, w6, w7⟩ := s.env.own i l hl
    refine ⟨_, w1, .inl ⟨rfl, vs, SqL.of w2⟩, ?_⟩
    refine ⟨ρ, F, μ, S, s.env, s.ok, (p.st s).imp fun v H1 hv => ?_⟩
    obtain ⟨F1, μ1, S1, t, x1, s1, r1, _, p1⟩ := hv
    obtain ⟨a', vs', w1', w2', w3', w4', w5', w6', w7'⟩ := s1.env.own i l hl
    rw [w1] at w1'
    cases w1'
    split at p1
    · rename_i m
      split at p1
      · rename_i hz
        simp only [Rep] at r1
        obtain ⟨b, ws, rfl, b1, b2, b3⟩ := r1
        have e := w7'.length
        have e2 := b3.length
        exact ⟨a, b, vs', ws, rfl, rfl, w2', s1.ok.fh _ _ b1, by omega, p1 σ F1 (upd H1 a (.lst (vs' ++ ws))) μ1 .refl (own_set s1 hl w1 w2' w3' w4' w5' (by simpa using hz) (w7'.append b3))⟩
      · exact p1.elim
    · exact p1.elim
  · exact p.elim
end
end Ly
namespace Ly
open PySem PySem.Spec L2
open PyProof.Rows hiding St

theorem blockKind_fn {env : Env} (h : env.scope.kind = .function) : env.blockKind = .function := by
  unfold Env.blockKind
  rw [h]; rfl
theorem nostar {vs : List Expr} (h : vs.all plainX = true) : (vs.any fun | .Starred .. => true | _ => false) = false := by
  rw [List.any_eq_false]
  intro x hx
  have := List.all_eq_true.mp h x hx
  cases x <;> first | (simp; done) | (simp [plainX] at this)
theorem swapped_some {env : Env} {ts vs : List Expr} {k k2 : Nat} {p p2 : Pos} (hk : env.scope.kind = .function) (h : parOk env.scope ts vs = true) :
    swappedStores [.Tuple ts k p] (.Tuple vs k2 p2) env = pure (some (namesOf env.scope ts)) := by
  unfold parOk at h
  simp only [Bool.and_eq_true, beq_iff_eq, Bool.not_eq_true'] at h
  obtain ⟨⟨⟨⟨⟨⟨e1, e2⟩, d1⟩, d2⟩, d3⟩, d4⟩, d5⟩ := h
  have bk := blockKind_fn hk
  have ns := nostar d5
  have f1 : (!(ts.length == 2 || ts.length == 3) || vs.length != ts.length || env.blockKind != .function) = false := by
    rw [bk, e2, ← e1]; simp
  unfold swappedStores
  refine (if_neg (by rw [f1]; exact Bool.false_ne_true)).trans ?_
  refine (if_neg (fun h => Bool.false_ne_true (ns.symm.trans h))).trans ?_
  refine (if_neg (show ¬ (((namesOf env.scope ts).length != ts.length || (namesOf env.scope ts).eraseDups.length != (namesOf env.scope ts).length) = true) by rw [d1, d2, d1]; simp)).trans ?_
  refine (if_neg (by rw [d3]; exact Bool.false_ne_true)).trans ?_
  refine (if_neg (by rw [d4]; exact Bool.false_ne_true)).trans ?_
  rfl
theorem swapped_none {env : Env} {ts : List Expr} {v : Expr} {k : Nat} {p : Pos} (hk : env.scope.kind = .function) (h : unpOk env.scope ts v = true) :
    swappedStores [.Tuple ts k p] v env = pure none := by
  cases v <;> first | rfl | skip
  rename_i vs k2 p2
  simp only [unpOk, Bool.or_eq_true, Bool.and_eq_true] at h
  have bk := blockKind_fn hk
  unfold swappedStores
  cases f1 : (!(ts.length == 2 || ts.length == 3) || vs.length != ts.length || env.blockKind != .function) with
  | true => exact if_pos f1
  | false =>
    refine (if_neg (by rw [f1]; exact Bool.false_ne_true)).trans ?_
    rcases h with h | ⟨h1, h2⟩
    · exfalso
      simp only [Bool.or_eq_false_iff] at f1
      rcases h with h | h
      · rw [f1.1.1] at h; cases h
      · rw [f1.1.2] at h; cases h
    · refine (if_neg (fun h => Bool.false_ne_true ((nostar h1).symm.trans h))).trans ?_
      cases f2 : ((namesOf env.scope ts).length != ts.length || (namesOf env.scope ts).eraseDups.length != (namesOf env.scope ts).length) with
      | true => exact if_pos f2
      | false =>
        refine (if_neg (show ¬ (((namesOf env.scope ts).length != ts.length || (namesOf env.scope ts).eraseDups.length != (namesOf env.scope ts).length) = true) by rw [f2]; exact Bool.false_ne_true)).trans ?_
        simp only [Bool.or_eq_false_iff] at f2
        rcases h2 with (h2 | h2) | h2
        · rw [f2.1] at h2; cases h2
        · rw [f2.2] at h2; cases h2
        · exact if_pos h2
section
variable {G : Glo} {tab : Tb} {glo : List (Str × T)} {exn : List Str} {n k : Nat} {X : Cx} {Z : At0}
theorem ps_par2_of (C : CxtS G tab glo exn n k X Z) (Sd : Snd G tab glo n k) {i j : Nat} {A B : Ex} {x y : Str} {px py pt pos pt2 : Pos} {kt k2 : Nat} {a b : Expr} (h1 : X.N[i]? = some x) (h2 : X.N[j]? = some y) (hij : i ≠ j) (l1 : X.env.scope.names.lookup x = some .local) (l2 : X.env.scope.names.lookup y = some .local)
    (po : parOk X.env.scope [.Name x px, .Name y py] [a, b] = true) (pn : namesOf X.env.scope [.Name x px, .Name y py] = [x, y]) (oa : okE tab glo X.N X.env.scope A a = true) (ob : okE tab glo X.N X.env.scope B b = true) :
    PS X (.Assign [.Tuple [.Name x px, .Name y py] kt pt] (.Tuple [a, b] k2 pt2) pos) (tS G Z (ex (callF tab.l n) (.par2 i j A B))) := by
  have pa := (Sd.e A).run X Z.W Z.H₀ a C.c oa
  have pb := (Sd.e B).run X Z.W Z.H₀ b C.c ob
  have s2 : starEach (b :: []) X.env = (false, eval b X.env) :: starEach [] X.env := star_cons (okE_plain ob)
  have s1 : starEach (a :: [b]) X.env = (false, eval a X.env) :: starEach [b] X.env := star_cons (okE_plain oa)
  refine PS.imp (ps_par C.c.calm C.c.nd h1 h2 hij l1 l2 (pa_cons pa.1 (pa_cons pb.1 pa_nil s2) s1) ((swapped_some C.kind po).trans (by rw [pn])) rfl) fun D σ H q => ?_
  obtain ⟨ρ, F, μ, S, s, p⟩ := q
  simp only [ex] at p
  refine ⟨ρ, F, μ, S, s.env, s.ok, (p.st s).imp fun v H1 hv => ?_⟩
  obtain ⟨F1, μ1, S1, t, x1, s1, r1, _, p1⟩ := hv
  refine ⟨ρ, F1, μ1, S1, s1.env, s1.ok, (p1.st s1).imp fun w H2 hw => ?_⟩
  obtain ⟨F2, μ2, S2, u, x2, s2, r2, _, p2⟩ := hw
  exact ⟨v, w, rfl, p2 _ F2 H2 μ2 .refl ⟨s2.ext, (s2.env.put (x2.rep r1)).put r2, s2.ok⟩⟩
theorem ps_par3_of (C : CxtS G tab glo exn n k X Z) (Sd : Snd G tab glo n k) {i j l : Nat} {A B D : Ex} {x y z : Str} {px py pz pt pos pt2 : Pos} {kt k2 : Nat} {a b d : Expr} (h1 : X.N[i]? = some x) (h2 : X.N[j]? = some y) (h3 : X.N[l]? = some z) (hij : i ≠ j) (hil : i ≠ l) (hjl : j ≠ l)
    (l1 : X.env.scope.names.lookup x = some .local) (l2 : X.env.scope.names.lookup y = some .local) (l3 : X.env.scope.names.lookup z = some .local)
    (po : parOk X.env.scope [.Name x px, .Name y py, .Name z pz] [a, b, d] = true) (pn : namesOf X.env.scope [.Name x px, .Name y py, .Name z pz] = [x, y, z]) (oa : okE tab glo X.N X.env.scope A a = true) (ob : okE tab glo X.N X.env.scope B b = true) (od : okE tab glo X.N X.env.scope D d = true) :
    PS X (.Assign [.Tuple [.Name x px, .Name y py, .Name z pz] kt pt] (.Tuple [a, b, d] k2 pt2) pos) (tS G Z (ex (callF tab.l n) (.par3 i j l A B D))) := by
  have pa := (Sd.e A).run X Z.W Z.H₀ a C.c oa
  have pb := (Sd.e B).run X Z.W Z.H₀ b C.c ob
  have pd := (Sd.e D).run X Z.W Z.H₀ d C.c od
  have s3 : starEach (d :: []) X.env = (false, eval d X.env) :: starEach [] X.env := star_cons (okE_plain od)
  have s2 : starEach (b :: [d]) X.env = (false, eval b X.env) :: starEach [d] X.env := star_cons (okE_plain ob)
  have s1 : starEach (a :: [b, d]) X.env = (false, eval a X.env) :: starEach [b, d] X.env := star_cons (okE_plain oa)
  refine PS.imp (ps_par3 C.c.calm C.c.nd h1 h2 h3 hij hil hjl l1 l2 l3 (pa_cons pa.1 (pa_cons pb.1 (pa_cons pd.1 pa_nil s3) s2) s1) ((swapped_some C.kind po).trans (by rw [pn])) rfl) fun D σ H q => ?_
  obtain ⟨ρ, F, μ, S, s, p⟩ := q
  simp only [ex] at p
  refine ⟨ρ, F, μ, S, s.env, s.ok, (p.st s).imp fun v H1 hv => ?_⟩
  obtain ⟨F1, μ1, S1, t, x1, s1, r1, _, p1⟩ := hv
  refine ⟨ρ, F1, μ1, S1, s1.env, s1.ok, (p1.st s1).imp fun w H2 hw => ?_⟩
  obtain ⟨F2, μ2, S2, u, x2, s2, r2, _, p2⟩ := hw
  refine ⟨ρ, F2, μ2, S2, s2.env, s2.ok, (p2.st s2).imp fun w3 H3 hw3 => ?_⟩
  obtain ⟨F3, μ3, S3, u3, x3, s3, r3, _, p3⟩ := hw3
  exact ⟨v, w, w3, rfl, p3 _ F3 H3 μ3 .refl ⟨s3.ext, ((s3.env.put (x3.rep (x2.rep r1))).put (x3.rep r2)).put r3, s3.ok⟩⟩
/-! new lists among them -/
theorem rF_ext {H F1 H1 F2 H2 : Hp} {μ1 μ2 : List Addr} {t : T} {v : V} (r : rF G H F1 H1 μ1 t v) (x : Ext F1 H1 μ1 F2 H2 μ2) : rF G H F2 H2 μ2 t v := by
  obtain ⟨p, vs, l, rfl, rfl, h1, h2, h3, h4, h5, h6⟩ := r
  refine ⟨p, vs, l, rfl, rfl, x.hh p _ h1 h3, x.nf p _ h1 h2, fun hm => ?_, h4, h5, x.reps h6⟩
  have := x.nw p hm h3
  rw [h1] at this; cases this
/-- one of them -/
def rO (G : Glo) (o : Bool) (H : Hp) : Hp → Hp → List Addr → T → V → Prop := fun F' H' μ' t v => if o then rF G H F' H' μ' t v else Rep G.K F' μ' t v
theorem rO_ext {o : Bool} {H F1 H1 F2 H2 : Hp} {μ1 μ2 : List Addr} {t : T} {v : V} (r : rO G o H F1 H1 μ1 t v) (x : Ext F1 H1 μ1 F2 H2 μ2) : rO G o H F2 H2 μ2 t v := by
  cases o with
  | true => exact rF_ext r x
  | false => exact x.rep r
def tO (G : Glo) (o : Bool) (H₀ : Hp) (W : WX) (f : Lenv → Store → Out T) : TE := fun σ H Q => ∃ ρ F μ S, EnvR G H₀ F H μ ρ σ ∧ Ok G F H μ S ∧ PostO G F H μ (exK G W σ) (rO G o H) Q (f ρ S)
theorem pe_O (C : CxtS G tab glo exn n k X Z) (Sd : Snd G tab glo n k) {o : Bool} {E : Ex} {e : Expr} (hE : o = true → freshB E = true) (ok : okE tab glo X.N X.env.scope E e = true) : PE X e (tO G o Z.H₀ Z.W (fun ρ S => ev (callF tab.l n) E ρ S)) := by
  cases o with
  | true => exact pe_fresh C Sd (hE rfl) ok
  | false => exact ((Sd.e E).run X Z.W Z.H₀ e C.c ok).1
/-- no list of one's own stands at the new one's place -/
theorem own_ne {F H : Hp} {μ : List Addr} {ρ : Lenv} {σ : St} {H₀ : Hp} (e : EnvR G H₀ F H μ ρ σ) {p : Addr} (hp : H p = none) (j : Nat) (l' : List T) (hj : ρ[j]? = some (Sl.own l')) : σ[j]? ≠ some (some (.ref p)) := fun q => by
  obtain ⟨b, ws, w1, w2, _⟩ := e.own j l' hj
  rw [w1] at q
  cases q
  rw [hp] at w2; cases w2
theorem putO_env {F H Hb : Hp} {μ : List Addr} {ρ ρ' : Lenv} {σ : St} {H₀ : Hp} {o : Bool} {i : Nat} {E : Ex} {t : T} {v : V} (e : EnvR G H₀ F H μ ρ σ) (h0 : ∀ b u, H₀ b = some u → ∃ u', Hb b = some u') (r : rO G o Hb F H μ t v) (hne : ∀ p, Hb p = none → ∀ (j : Nat) l', ρ[j]? = some (Sl.own l') → σ[j]? ≠ some (some (.ref p)))
    (h : putO ρ i E o t = some ρ') : EnvR G H₀ F H μ ρ' (σ.set i (some v)) := by
  cases o with
  | false =>
    simp only [putO, Option.some.injEq] at h
    subst h
    exact e.put r
  | true =>
    obtain ⟨p, vs, l, rfl, rfl, h1, h2, h3, h4, h5, h6⟩ := r
    simp only [putO] at h
    split at h
    · cases h
      refine e.own_put h1 ?_ h2 h3 h5 h6 fun j l' hj _ => hne p h4 j l' hj
      cases q : H₀ p with
      | none => rfl
      | some u =>
        obtain ⟨u', e'⟩ := h0 p u q
        rw [h4] at e'; cases e'
    · cases h
theorem own_set_ne {F H Hb : Hp} {μ : List Addr} {ρ ρ' : Lenv} {σ : St} {H₀ : Hp} {o : Bool} {i : Nat} {E : Ex} {t : T} {v : V} {H1 : Hp} (e : EnvR G H₀ F H μ ρ σ) (r : rO G o Hb F H μ t v) (r1 : ∀ (p : Addr) (vs : List V) (l : List T), t = .lst l → o = true → v = .ref p → ∃ u, H1 p = some u) (hne : ∀ p, H1 p = none → ∀ (j : Nat) l', ρ[j]? = some (Sl.own l') → σ[j]? ≠ some (some (.ref p)))
    (h : putO ρ i E o t = some ρ') : ∀ p, H1 p = none → ∀ (j : Nat) l', ρ'[j]? = some (Sl.own l') → (σ.set i (some v))[j]? ≠ some (some (.ref p)) := fun p hp j l' hj q => by
  have hle := e.len
  cases o with
  | false =>
    simp only [putO, Option.some.injEq] at h
    subst h
    by_cases hij : i = j
    · subst hij
      rw [List.getElem?_set] at hj
      split at hj
      · split at hj <;> cases hj
      · exact absurd rfl ‹_›
    · rw [List.getElem?_set_ne hij] at hj q
      exact hne p hp j l' hj q
  | true =>
    obtain ⟨p', vs, l, rfl, rfl, h1, h2, h3, h4, h5, h6⟩ := r
    simp only [putO] at h
    split at h
    · cases h
      by_cases hij : i = j
      · subst hij
        rw [List.getElem?_set] at q
        split at q
        · split at q
          · cases q
            obtain ⟨u, hu⟩ := r1 _ [] _ rfl rfl rfl
            rw [hp] at hu; cases hu
          · cases q
        · exact absurd rfl ‹_›
      · rw [List.getElem?_set_ne hij] at hj q
        exact hne p hp j l' hj q
    · cases h
theorem rO_there {o : Bool} {Hb F H : Hp} {μ : List Addr} {t : T} {v : V} (r : rO G o Hb F H μ t v) : ∀ (p : Addr) (vs : List V) (l : List T), t = .lst l → o = true → v = .ref p → ∃ u, H p = some u := fun p vs l h1 h2 h3 => by
  subst h2
  obtain ⟨p', vs', l', rfl, rfl, q1, _⟩ := r
  cases h3
  exact ⟨_, q1⟩
theorem ps_par2o_of (C : CxtS G tab glo exn n k X Z) (Sd : Snd G tab glo n k) {i j : Nat} {oi oj : Bool} {A B : Ex} {x y : Str} {px py pt pos pt2 : Pos} {kt k2 : Nat} {a b : Expr} (h1 : X.N[i]? = some x) (h2 : X.N[j]? = some y) (hij : i ≠ j) (l1 : X.env.scope.names.lookup x = some .local) (l2 : X.env.scope.names.lookup y = some .local)
    (po : parOk X.env.scope [.Name x px, .Name y py] [a, b] = true) (pn : namesOf X.env.scope [.Name x px, .Name y py] = [x, y]) (oa : okE tab glo X.N X.env.scope A a = true) (ob : okE tab glo X.N X.env.scope B b = true) (fa : oi = true → freshB A = true) (fb : oj = true → freshB B = true) :
    PS X (.Assign [.Tuple [.Name x px, .Name y py] kt pt] (.Tuple [a, b] k2 pt2) pos) (tS G Z (ex (callF tab.l n) (.par2o i j oi oj A B))) := by
  have pa := pe_O C Sd fa oa
  have pb := pe_O C Sd fb ob
  have s2 : starEach (b :: []) X.env = (false, eval b X.env) :: starEach [] X.env := star_cons (okE_plain ob)
  have s1 : starEach (a :: [b]) X.env = (false, eval a X.env) :: starEach [b] X.env := star_cons (okE_plain oa)
  refine PS.imp (ps_par C.c.calm C.c.nd h1 h2 hij l1 l2 (pa_cons pa (pa_cons pb pa_nil s2) s1) ((swapped_some C.kind po).trans (by rw [pn])) rfl) fun D σ H q => ?_
  obtain ⟨ρ, F, μ, S, s, p⟩ := q
  simp only [ex] at p
  refine ⟨ρ, F, μ, S, s.env, s.ok, (p.st s).imp fun v H1 hv => ?_⟩
  obtain ⟨F1, μ1, S1, t, x1, s1, r1, _, p1⟩ := hv
  refine ⟨ρ, F1, μ1, S1, s1.env, s1.ok, (p1.st s1).imp fun w H2 hw => ?_⟩
  obtain ⟨F2, μ2, S2, u, x2, s2, r2, _, p2⟩ := hw
  refine ⟨v, w, rfl, ?_⟩
  cases e1 : putO ρ i A oi t with
  | none => rw [e1] at p2; exact p2.elim
  | some ρ1 =>
    cases e2 : putO ρ1 j B oj u with
    | none => rw [e1, Option.bind_some, e2] at p2; exact p2.elim
    | some ρ2 =>
      rw [e1, Option.bind_some, e2] at p2
      have hb : ∀ b u, Z.H₀ b = some u → ∃ u', H b = some u' := fun b u q => s.ext.hs b u q
      have hb1 : ∀ b u, Z.H₀ b = some u → ∃ u', H1 b = some u' := fun b u q => s1.ext.hs b u q
      have n0 : ∀ p, H p = none → ∀ (j : Nat) l', ρ[j]? = some (Sl.own l') → σ[j]? ≠ some (some (.ref p)) := fun p hp j l' hj => own_ne s.env hp j l' hj
      have n1 : ∀ p, H1 p = none → ∀ (j : Nat) l', ρ[j]? = some (Sl.own l') → σ[j]? ≠ some (some (.ref p)) := fun p hp j l' hj => own_ne s1.env hp j l' hj
      have en1 := putO_env s2.env hb (rO_ext r1 x2) n0 e1
      have n1' := own_set_ne s2.env (rO_ext r1 x2) (rO_there r1) n1 e1
      have en2 := putO_env en1 hb1 r2 n1' e2
      exact p2 _ F2 H2 μ2 .refl ⟨s2.ext, en2, s2.ok⟩
theorem ps_par3o_of (C : CxtS G tab glo exn n k X Z) (Sd : Snd G tab glo n k) {i j l : Nat} {oi oj ol : Bool} {A B D : Ex} {x y z : Str} {px py pz pt pos pt2 : Pos} {kt k2 : Nat} {a b d : Expr} (h1 : X.N[i]? = some x) (h2 : X.N[j]? = some y) (h3 : X.N[l]? = some z) (hij : i ≠ j) (hil : i ≠ l) (hjl : j ≠ l)
    (l1 : X.env.scope.names.lookup x = some .local) (l2 : X.env.scope.names.lookup y = some .local) (l3 : X.env.scope.names.lookup z = some .local)
    (po : parOk X.env.scope [.Name x px, .Name y py, .Name z pz] [a, b, d] = true) (pn : namesOf X.env.scope [.Name x px, .Name y py, .Name z pz] = [x, y, z]) (oa : okE tab glo X.N X.env.scope A a = true) (ob : okE tab glo X.N X.env.scope B b = true) (od : okE tab glo X.N X.env.scope D d = true) (fa : oi = true → freshB A = true) (fb : oj = true → freshB B = true) (fd : ol = true → freshB D = true) :
    PS X (.Assign [.Tuple [.Name x px, .Name y py, .Name z pz] kt pt] (.Tuple [a, b, d] k2 pt2) pos) (tS G Z (ex (callF tab.l n) (.par3o i j l oi oj ol A B D))) := by
  have pa := pe_O C Sd fa oa
  have pb := pe_O C Sd fb ob
  have pd := pe_O C Sd fd od
  have s3 : starEach (d :: []) X.env = (false, eval d X.env) :: starEach [] X.env := star_cons (okE_plain od)
  have s2 : starEach (b :: [d]) X.env = (false, eval b X.env) :: starEach [d] X.env := star_cons (okE_plain ob)
  have s1 : starEach (a :: [b, d]) X.env = (false, eval a X.env) :: starEach [b, d] X.env := star_cons (okE_plain oa)
  refine PS.imp (ps_par3 C.c.calm C.c.nd h1 h2 h3 hij hil hjl l1 l2 l3 (pa_cons pa (pa_cons pb (pa_cons pd pa_nil s3) s2) s1) ((swapped_some C.kind po).trans (by rw [pn])) rfl) fun D' σ H q => ?_
  obtain ⟨ρ, F, μ, S, s, p⟩ := q
  simp only [ex] at p
  refine ⟨ρ, F, μ, S, s.env, s.ok, (p.st s).imp fun v H1 hv => ?_⟩
  obtain ⟨F1, μ1, S1, t, x1, s1, r1, _, p1⟩ := hv
  refine ⟨ρ, F1, μ1, S1, s1.env, s1.ok, (p1.st s1).imp fun w H2 hw => ?_⟩
  obtain ⟨F2, μ2, S2, u, x2, s2, r2, _, p2⟩ := hw
  refine ⟨ρ, F2, μ2, S2, s2.env, s2.ok, (p2.st s2).imp fun w3 H3 hw3 => ?_⟩
  obtain ⟨F3, μ3, S3, u3, x3, s3, r3, _, p3⟩ := hw3
  refine ⟨v, w, w3, rfl, ?_⟩
  cases e1 : putO ρ i A oi t with
  | none => rw [e1] at p3; exact p3.elim
  | some ρ1 =>
    cases e2 : putO ρ1 j B oj u with
    | none => rw [e1, Option.bind_some, e2] at p3; exact p3.elim
    | some ρ2 =>
      cases e3 : putO ρ2 l D ol u3 with
      | none => rw [e1, Option.bind_some, e2, Option.bind_some, e3] at p3; exact p3.elim
      | some ρ3 =>
        rw [e1, Option.bind_some, e2, Option.bind_some, e3] at p3
        have hb : ∀ b u, Z.H₀ b = some u → ∃ u', H b = some u' := fun b u q => s.ext.hs b u q
        have hb1 : ∀ b u, Z.H₀ b = some u → ∃ u', H1 b = some u' := fun b u q => s1.ext.hs b u q
        have hb2 : ∀ b u, Z.H₀ b = some u → ∃ u', H2 b = some u' := fun b u q => s2.ext.hs b u q
        have n0 : ∀ p, H p = none → ∀ (j : Nat) l', ρ[j]? = some (Sl.own l') → σ[j]? ≠ some (some (.ref p)) := fun p hp j l' hj => own_ne s.env hp j l' hj
        have n1 : ∀ p, H1 p = none → ∀ (j : Nat) l', ρ[j]? = some (Sl.own l') → σ[j]? ≠ some (some (.ref p)) := fun p hp j l' hj => own_ne s1.env hp j l' hj
        have n2 : ∀ p, H2 p = none → ∀ (j : Nat) l', ρ[j]? = some (Sl.own l') → σ[j]? ≠ some (some (.ref p)) := fun p hp j l' hj => own_ne s2.env hp j l' hj
        have th : ∀ (p : Addr) (vs : List V) (l : List T), t = .lst l → oi = true → v = .ref p → ∃ u, H2 p = some u := rO_there (rO_ext r1 x2)
        have en1 := putO_env s3.env hb (rO_ext (rO_ext r1 x2) x3) n0 e1
        have n1' := own_set_ne s3.env (rO_ext (rO_ext r1 x2) x3) (rO_there r1) n1 e1
        have n2' := own_set_ne s3.env (rO_ext (rO_ext r1 x2) x3) th n2 e1
        have en2 := putO_env en1 hb1 (rO_ext r2 x3) n1' e2
        have n2'' := own_set_ne en1 (rO_ext r2 x3) (rO_there r2) n2' e2
        have en3 := putO_env en2 hb2 r3 n2'' e3
        exact p3 _ F3 H3 μ3 .refl ⟨s3.ext, en3, s3.ok⟩
theorem ps_unp_of (C : CxtS G tab glo exn n k X Z) (Sd : Snd G tab glo n k) {g : Tgs} {E : Ex} {ts : List Expr} {kk : Nat} {p pos : Pos} {e : Expr} (h1 : okTs X.N X.env.scope g ts = true) (ok : okE tab glo X.N X.env.scope E e = true) (hu : unpOk X.env.scope ts e = true) :
    PS X (.Assign [.Tuple ts kk p] e pos) (tS G Z (ex (callF tab.l n) (.unp g E))) := by
  have hg : PG X (.Tuple ts kk p) (gOf G Z.H₀ (.tp g)) := snd_tg C.c.hG C.c.calm C.c.nd X.env.scope (fun x _ => .inl (C.fn x)) (.tp g) (.Tuple ts kk p) (by simpa only [okT] using h1) (by simpa only [okT] using h1)
  have hs : swapsWithSole [.Tuple ts kk p] e pos.line X.env = pure false := by
    show swapsWith e (some (.Tuple ts kk p)) pos.line X.env = pure false
    cases e <;> rfl
  refine PS.imp (ps_asg ((Sd.e E).run X Z.W Z.H₀ e C.c ok).1 hg hs (swapped_none C.kind hu) rfl) fun D σ H q => ?_
  obtain ⟨ρ, F, μ, S, s, p⟩ := q
  simp only [ex] at p
  refine ⟨ρ, F, μ, S, s.env, s.ok, (p.st s).imp fun v H1 hv => ?_⟩
  obtain ⟨F1, μ1, S1, t, x1, s1, r1, _, p1⟩ := hv
  cases q : (Tg.tp g).put t ρ with
  | none => rw [q] at p1; exact p1.elim
  | some ρ' =>
    rw [q] at p1
    exact ⟨ρ, F1, μ1, t, s1.env, s1.ok.fh, r1, ρ', q, fun σ' en _ => p1 σ' F1 H1 μ1 .refl ⟨s1.ext, en, s1.ok⟩⟩
/-! ### for -/
theorem ps_for_of (C : CxtS G tab glo exn n k X Z) (Sd : Snd G tab glo n k) {tg : Tg} {kk : SK} {src : Exs} {body : Sms} {g it : Expr} {b : List Stmt} {pos : Pos} (ht : tgOk kk g = true) (hp : plainX it = true) (hg : okT X.N X.env.scope tg g = true)
    (hs : ∃ es, srcArgs X.env.scope kk it = some es ∧ okEs tab glo X.N X.env.scope src es = true) (hb : PSs X b (tS G Z (exs (callF tab.l n) body))) {lv : List (Nat × Bool)} {tmp : List Nat} :
    PS X (.For g it b [] pos) (tS G Z (ex (callF tab.l n) (.for_ tg kk src body lv tmp))) := by
  have pi := (Sd.s kk src X Z.W Z.H₀ g it C.c hs ⟨hp, tupTg ht⟩).2
  have pg : PG X g (gOf G Z.H₀ tg) := snd_tg C.c.hG C.c.calm C.c.nd X.env.scope (fun x _ => .inl (C.fn x)) tg g hg hg
  refine PS.imp (ps_for C.hp C.c.calm pi pg hb (folded_no hp)) fun D σ H q => ?_
  obtain ⟨ρ, F, μ, S, s, p⟩ := q
  simp only [ex] at p
  have p' : PostS G Z F μ D (((evs (callF tab.l n) src ρ S).bind fun ts S1 => Out.opt (itemsF kk ts) fun l => .ok l S1).st ρ fun l S => forL (fun x ρ S => optS (tg.put x ρ) fun ρ' => (exs (callF tab.l n) body ρ' S).fix lv tmp) l (wipeR ρ tmp) S) := by
    cases q : evs (callF tab.l n) src ρ S with
    | stk => rw [q] at p; exact p
    | exc c S1 => rw [q] at p; exact p
    | ok ts S1 =>
      rw [q] at p
      simp only [Out.bind, Out.st] at p ⊢
      cases e : itemsF kk ts with
      | none => rw [e] at p; exact p
      | some l => rw [e] at p; exact p
  refine ⟨ρ, F, μ, S, s.env, s.ok, (p'.st s).imp fun J H1 hv => ?_⟩
  obtain ⟨F1, μ1, S1, l, x1, s1, ⟨P, w⟩, _, p1⟩ := hv
  have w' : Walk J l.length P (fun i H x H' => J.yld i H x H') := ⟨w.go, w.stop, fun _ _ _ _ _ _ y => y⟩
  refine for_it w' (Pv := fun i σ' H' => ∃ ρ' F' μ' S', Grow F1 μ1 F' μ' ∧ StOk G Z F' H' μ' ρ' σ' S' ∧ PostS G Z F' μ' D (forL (fun x ρ S => optS (tg.put x ρ) fun ρ' => (exs (callF tab.l n) body ρ' S).fix lv tmp) (l.drop i) ρ' S')) ?_ (fun i σ' H' _ hp => ?_) (fun i x' σ' H2 H3 hi hp y => ?_) (fun σ' H' hp => ?_)
  · exact ⟨wipeR ρ tmp, F1, μ1, S1, .refl, s1.wipe tmp, by rw [List.drop_zero]; exact p1⟩
  · obtain ⟨ρ', F', μ', S', g', s', _⟩ := hp
    exact w.per F' H' μ' (fun h => by cases h) g'.1 s'.ok.fh
  · obtain ⟨ρ', F', μ', S', g', s', p2⟩ := hp
    have hw := w.per F' H2 μ' (fun h => by cases h) g'.1 s'.ok.fh
    have hi' : l[i]? = some (l[i]) := List.getElem?_eq_getElem hi
    obtain ⟨F2, x2, k2, rx⟩ := w.yld i l[i] x' F' H2 H3 μ' S' hi' hw g'.1 g'.2 s'.ok y
    have s2 : StOk G Z F2 H3 μ' ρ' σ' S' := ⟨s'.ext.trans x2, s'.env.ext x2, k2⟩
    have hdrop : l.drop i = l[i] :: l.drop (i + 1) := List.drop_eq_getElem_cons hi
    rw [hdrop] at p2
    simp only [forL] at p2
    have p2 := PostS.later p2 x2.grow
    cases ht : tg.put l[i] ρ' with
    | none => rw [ht] at p2; exact p2.elim
    | some ρ2 =>
      rw [ht] at p2
      simp only [optS] at p2
      refine ⟨ρ', F2, μ', l[i], s2.env, k2.fh, rx, ρ2, ht, fun σ2 en3 _ => ?_⟩
      refine ⟨ρ2, F2, μ', S', ⟨s2.ext, en3, k2⟩, ?_⟩
      refine PostS.fix (lv := lv) (tmp := tmp) (D := { nx := fun σ' H' => ∃ ρ' F' μ' S', Grow F1 μ1 F' μ' ∧ StOk G Z F' H' μ' ρ' σ' S' ∧ PostS G Z F' μ' D (forL (fun x ρ S => optS (tg.put x ρ) fun ρ' => (exs (callF tab.l n) body ρ' S).fix lv tmp) (l.drop (i + 1)) ρ' S'), rt := D.rt, bk := D.nx }) ?_ (fun _ _ h => h) (fun _ _ h => h) (fun _ _ h => h) (fun _ _ h => h)
      cases q : (exs (callF tab.l n) body ρ2 S').fix lv tmp with
      | stk => rw [q] at p2; exact p2
      | nx ρ3 S3 =>
        rw [q] at p2
        exact fun σ4 F4 H4 μ4 g4 s4 => ⟨ρ3, F4, μ4, S3, (g'.trans x2.grow).trans g4, s4, PostS.later p2 g4⟩
      | ct ρ3 S3 =>
        cases q0 : exs (callF tab.l n) body ρ2 S' <;> rw [q0] at q <;> simp only [OutS.fix] at q <;> first | (cases q; done) | (split at q <;> cases q)
      | bk ρ3 S3 => rw [q] at p2; exact p2
      | rt t S3 => rw [q] at p2; exact p2
      | ex c ρ3 S3 => rw [q] at p2; exact p2
  · obtain ⟨ρ', F', μ', S', g', s', p2⟩ := hp
    rw [List.drop_length] at p2
    exact p2 σ' F' H' μ' .refl s'
end
end Ly
namespace Ly
open PySem PySem.Spec L2
open PyProof.Rows hiding St
section
variable {G : Glo} {tab : Tb} {glo : List (Str × T)} {exn : List Str} {n k : Nat} {X : Cx} {Z : At0}
theorem ps_brk_of {pos : Pos} : PS X (.Break pos) (tS G Z (ex (callF tab.l n) .brk)) := PS.imp ps_break fun D σ H q => by
  obtain ⟨ρ, F, μ, S, s, p⟩ := q
  simp only [ex] at p
  exact p σ F H μ .refl s
theorem ps_cnt_of {pos : Pos} : PS X (.Continue pos) (tS G Z (ex (callF tab.l n) .cnt)) := PS.imp ps_continue fun D σ H q => by
  obtain ⟨ρ, F, μ, S, s, p⟩ := q
  simp only [ex] at p
  exact p σ F H μ .refl s
theorem ps_pass_of {pos : Pos} : PS X (.Pass pos) (tS G Z (ex (callF tab.l n) .pass)) := PS.imp ps_pass fun D σ H q => by
  obtain ⟨ρ, F, μ, S, s, p⟩ := q
  simp only [ex] at p
  exact p σ F H μ .refl s
theorem ps_raise_of (C : CxtS G tab glo exn n k X Z) {c : Nat} {x m : Str} {j : Nat} {p p2 p3 pos : Pos} (h1 : exn[c]? = some x) (hg : gloB X.env.scope x = true) (hd : x ≠ "__debug__") (hne : x ≠ "") :
    PS X (.Raise (some (.Call (.Name x p) [.Constant (.str m) j p2] [] p3)) none pos) (tS G Z (ex (callF tab.l n) (.raise c))) := by
  obtain ⟨e1, e2, e3, e4⟩ := C.exc c x h1 hne
  refine PS.imp (ps_raise C.c.calm C.c.tk (pmk_own PySem.F.excBase_ValueError e2 e1 e3 e4 (gloB_ok hg) (beq_eq_false_iff_ne.mpr hd))) fun D σ H q => ?_
  obtain ⟨ρ, F, μ, S, s, p⟩ := q
  simp only [ex] at p
  exact p σ F H μ .refl s
theorem ps_whl_of (C : CxtS G tab glo exn n k X Z) (Sd : Snd G tab glo n k) {d : Ex} {body : Sms} {c : Expr} {b : List Stmt} {pos : Pos} (h0 : noIf c = true) (ok : okE tab glo X.N X.env.scope d c = true) (hb : PSs X b (tS G Z (exs (callF tab.l n) body))) {lv : List (Nat × Bool)} {tmp : List Nat} :
    PS X (.While c b [] pos) (tS G Z (ex (callF tab.l n) (.whl d body lv tmp))) := by
  refine PS.imp (ps_while C.hp (((Sd.e d).run X Z.W Z.H₀ c C.c ok).2.2.1 h0) hb) fun D σ H q => ?_
  obtain ⟨ρ, F, μ, S, s, p⟩ := q
  simp only [ex, whlL] at p
  split at p
  · refine ⟨fun m σ H => ∃ ρ F μ S, StOk G Z F H μ ρ σ S ∧ PostS G Z F μ D (whlN (fun ρ S => bor ρ d S (ev (callF tab.l n) d ρ S)) (fun ρ S => (exs (callF tab.l n) body ρ S).fix lv tmp) m ρ S), ⟨_, _, F, μ, S, s.wipe tmp, p⟩, ?_⟩
    rintro m σ H ⟨ρ, F, μ, S, s, p⟩
    cases m with
    | zero => simp only [whlN] at p; exact p.elim
    | succ m =>
      simp only [whlN] at p
      refine ⟨ρ, F, μ, S, s.env, s.ok, ?_⟩
      dsimp only
      cases q : bor ρ d S (ev (callF tab.l n) d ρ S) with
      | stk => rw [q] at p; exact p
      | exc e S1 =>
        rw [q] at p
        exact fun F' H' μ' x k => p σ F' H' μ' x.grow ⟨s.ext.trans x, s.env.ext x, k⟩
      | ok t S1 =>
        rw [q] at p
        simp only [Out.st] at p
        simp only [Out.bind]
        cases ht : t.tru with
        | none => rw [ht] at p; exact p.elim
        | some v0 =>
          rw [ht] at p
          intro v F' H' μ' x k r
          have r : t.tru = some v := r
          rw [ht] at r
          cases r
          have s1 : StOk G Z F' H' μ' ρ σ S1 := ⟨s.ext.trans x, s.env.ext x, k⟩
          cases v0 with
          | false => exact p σ F' H' μ' x.grow s1
          | true =>
            simp only [if_true]
            dsimp only at p
            have p := PostS.later p x.grow
            refine ⟨fun σ' H' => ∃ ρ F μ S, StOk G Z F H' μ ρ σ' S ∧ PostS G Z F μ D (whlN (fun ρ S => bor ρ d S (ev (callF tab.l n) d ρ S)) (fun ρ S => (exs (callF tab.l n) body ρ S).fix lv tmp) m ρ S), fun σ' H' hw => ⟨m, by omega, hw⟩, ρ, F', μ', S1, s1, ?_⟩
            refine PostS.fix (lv := lv) (tmp := tmp) (D := { nx := fun σ' H' => ∃ ρ F μ S, StOk G Z F H' μ ρ σ' S ∧ PostS G Z F μ D (whlN (fun ρ S => bor ρ d S (ev (callF tab.l n) d ρ S)) (fun ρ S => (exs (callF tab.l n) body ρ S).fix lv tmp) m ρ S), rt := D.rt, bk := D.nx }) ?_ (fun _ _ h => h) (fun _ _ h => h) (fun _ _ h => h) (fun _ _ h => h)
            cases q2 : (exs (callF tab.l n) body ρ S1).fix lv tmp with
            | stk => rw [q2] at p; exact p
            | nx ρ3 S3 =>
              rw [q2] at p
              exact fun σ4 F4 H4 μ4 g4 s4 => ⟨ρ3, F4, μ4, S3, s4, PostS.later p g4⟩
            | ct ρ3 S3 =>
              cases q0 : exs (callF tab.l n) body ρ S1 <;> rw [q0] at q2 <;> simp only [OutS.fix] at q2 <;> first | (cases q2; done) | (split at q2 <;> cases q2)
            | bk ρ3 S3 => rw [q2] at p; exact p
            | rt t S3 => rw [q2] at p; exact p
            | ex c ρ3 S3 => rw [q2] at p; exact p
  · exact p.elim
end
end Ly
namespace Ly
open PySem PySem.Spec L2
open PyProof.Rows hiding St

/-! ### enumerate and zip over a list, a tuple, a text -/
inductive Bk where | l (a : Addr) | t (a : Addr) | s (x : Str)
def Bk.has (K : PySem.W.Frag) (H : Hp) : Bk → List V → Prop
  | .l a, xs => SqL K H a xs
  | .t a, xs => SqT K H a xs
  | .s x, xs => xs = x.cps.toList.map fun c => V.str ⟨#[c]⟩
def Bk.ad : Bk → List Addr
  | .l a => [a]
  | .t a => [a]
  | .s _ => []
def Bk.tn : Bk → Addr → Nat → Heap → Prop
  | .l a, it, i, h => h.IsListIter it a i
  | .t a, it, i, h => h.IsTupleIter it a i
  | .s x, it, i, h => ∃ t, h.IsStrIter it (strIterType x) x t i
def Bk.v : Bk → V
  | .l a => .ref a
  | .t a => .ref a
  | .s x => .str x
theorem Vals.back {xs : List V} {us : List Value} (r : Vals xs us) {j : Nat} {u : Value} (h : us[j]? = some u) : ∃ v, xs[j]? = some v ∧ RelV v u := by
  have hj : j < us.length := (List.getElem?_eq_some_iff.mp h).1
  have hx : xs[j]? = some (xs[j]'(by rw [r.length]; exact hj)) := List.getElem?_eq_getElem _
  obtain ⟨u', hu, rv⟩ := r.get hx
  rw [h] at hu
  cases hu
  exact ⟨_, hx, rv⟩
theorem Bk.obj {b : Bk} {it : Addr} {i : Nat} {h : Heap} (st : b.tn it i h) : ∃ o, h.get? it = some o ∧ ∀ v, o.data ≠ .cell v := by
  cases b with
  | l a => obtain ⟨o, ho, _, hd⟩ := st; exact ⟨o, ho, fun v q => by rw [hd] at q; cases q⟩
  | t a => obtain ⟨o, ho, _, hd⟩ := st; exact ⟨o, ho, fun v q => by rw [hd] at q; cases q⟩
  | s x => obtain ⟨t, o, ho, _, hd⟩ := st; exact ⟨o, ho, fun v q => by rw [hd] at q; cases q⟩
theorem Bk.at {b : Bk} {it : Addr} {i : Nat} {h h' : Heap} (st : b.tn it i h) (k : ∀ o, h.get? it = some o → h'.get? it = some o) : b.tn it i h' := by
  cases b with
  | l a => exact st.at k
  | t a => exact st.at k
  | s x => obtain ⟨t, o, ho, hc, hd⟩ := st; exact ⟨t, o, k _ ho, hc, hd⟩
section
variable {X : Cx} {pins : List (Addr × Obj)} {s : Shared} {σ : St} {H : Hp} {A : Around}
theorem Bk.draw (I : Inv X pins σ H s) (hh : A.handled = none) (b : Bk) {it : Addr} {i : Nat} {xs : List V} (hq : b.has X.K H xs) (st : b.tn it i s.heap) (hne : it ∉ b.ad) :
    ∃ P Tn, Draws X.prog X.w A it (it :: b.ad) xs.length P Tn ∧ Tn i s.heap ∧ (∀ j u, P j u → ∃ v, xs[j]? = some v ∧ RelV v u) ∧ ∀ j h, Tn j h → b.tn it j h := by
  cases b with
  | l a =>
    obtain ⟨its, rv, p, _⟩ := I.list hq
    have e : its.toArray.size = xs.length := by simp [rv.length]
    have D := Draws.list (prog := X.prog) (w := X.w) hh it a (fun q => hne (by simp [Bk.ad, q])) its.toArray
    rw [e] at D
    exact ⟨_, _, D, ⟨st, p.isList⟩, fun j u h => Vals.back rv (by simpa using h), fun j h q => q.1⟩
  | t a =>
    obtain ⟨its, rv, p, _⟩ := I.tuple hq
    have e : its.toArray.size = xs.length := by simp [rv.length]
    have D := Draws.tuple (prog := X.prog) (w := X.w) hh it a (fun q => hne (by simp [Bk.ad, q])) its.toArray
    rw [e] at D
    exact ⟨_, _, D, ⟨st, p⟩, fun j u h => Vals.back rv (by simpa using h), fun j h q => q.1⟩
  | s x =>
    obtain ⟨t, st⟩ := st
    have hq : xs = x.cps.toList.map fun c => V.str ⟨#[c]⟩ := hq
    have e : x.cps.size = xs.length := by rw [hq]; simp
    have D := Draws.text (prog := X.prog) (w := X.w) hh it x t
    rw [e] at D
    refine ⟨_, _, D, st, fun j u h => ?_, fun j h q => ⟨t, q⟩⟩
    obtain ⟨c, tk, h1, rfl⟩ := h
    exact ⟨.str ⟨#[c]⟩, by rw [hq]; simp [h1], tk, rfl⟩
theorem Bk.inj (I : Inv X pins σ H s) {b : Bk} {xs ys : List V} (h : b.has X.K H xs) (h' : b.has X.K H ys) : xs = ys := by
  cases b with
  | l a => exact I.list_inj h h'
  | t a => exact I.tuple_inj h h'
  | s x => exact Eq.trans h (Eq.symm h')
end
/-- index and item in a new pair -/
def ItE (K : PySem.W.Frag) (b : Bk) : It :=
  ⟨fun i H => ∃ xs, b.has K H xs ∧ i < xs.length, fun i H v H' => ∃ T x, v = .ref T ∧ H T = none ∧ H' = upd H T (.tup [.int (i : Nat), x]) ∧ ∀ xs, b.has K H xs → xs[i]? = some x, fun i H => ∃ xs, b.has K H xs ∧ xs.length = i⟩
theorem turn_en {P : Program} {w : World} {K : PySem.W.Frag} {elts : List Expr} {kk : Nat} {tpos : Pos} (b : Bk) (e it : Addr) :
    Turn P w K (.Tuple elts kk tpos) (ItE K b) [e, it] e (fun i h => (∃ old, IsEnum h e it ((i : Nat) : Int) old) ∧ b.tn it i h ∧ e ≠ it ∧ it ∉ b.ad ∧ e ∉ b.ad) where
  mem := List.mem_cons_self
  obj := fun i h st c hc => by
    obtain ⟨⟨old, he⟩, hi, _⟩ := st
    rcases (show c = e ∨ c = it by simpa using hc) with rfl | rfl
    · exact ⟨_, he, fun v q => nomatch q⟩
    · exact Bk.obj hi
  keep := fun i h h' st k => by
    obtain ⟨⟨old, he⟩, hi, r⟩ := st
    exact ⟨⟨old, k e (by simp) _ he⟩, Bk.at hi (fun o q => k it (by simp) o q), r⟩
  item := by
    intro X hP hw hK hc i pins s σ H E I hf st hg
    subst hP hw hK
    obtain ⟨⟨old, he⟩, hit, hne, n1, n2⟩ := st
    obtain ⟨xs, hq, hx⟩ := hg
    obtain ⟨Pd, Tn, D, h0, hPd, hTn⟩ := Bk.draw (A := X.A.in1) I (I.ok.hd hc) b hq hit n1
    have hel : e < s.heap.objs.size := Heap.lt_size he
    have hil : it < s.heap.objs.size := by obtain ⟨_, q, _⟩ := Bk.obj hit; exact Heap.lt_size q
    have hef : e ∉ it :: b.ad := fun q => by
      rcases List.mem_cons.mp q with q | q
      · exact hne q
      · exact n2 q
    refine wpAny_pyNext_enum_itemC D he h0 hx hne hef fun u h' tk hP ho hit' hT hsz hk => ?_
    obtain ⟨x, hxi, ru⟩ := hPd _ _ hP
    refine ⟨_, rfl, wpAny_letOwnedTupleGo_enum (s := { s with heap := h', toks := tk + 1 }) ho fun h'' he' sb => ?_⟩
    have hT2 := (sb.2 _ (Nat.ne_of_gt hel)).trans hT
    have new : ObjOk X.prog X.w (upd H s.heap.objs.size (.tup [.int (i : Nat), x])) h'' s.heap.objs.size (.tup [.int (i : Nat), x]) :=
      ⟨by show 2 ≤ sizeLine; decide, [.int i tk, u], .cons ⟨_, rfl⟩ (.cons ru .nil), ⟨_, hT2, rfl, _, rfl⟩⟩
    have I1 : Inv X pins σ (upd H s.heap.objs.size (.tup [.int (i : Nat), x])) { s with heap := h'', toks := tk + 1 } :=
      I.turnedNew (ch := [e, it]) (fun c oc hb q => (sb.2 c (fun z => hb (by simp [z]))).trans (hk c oc (fun z => hb (by simp [z])) (fun z => hb (by simp [z])) q)) hf (Nat.le_refl _) new
    refine ⟨.ref s.heap.objs.size, _, I1, rfl, ⟨_, x, rfl, I.hok.fresh (Nat.le_refl _), rfl, fun ys hy => by rw [Bk.inj I hy hq]; exact hxi⟩, ⟨⟨u, ?_⟩, Bk.at (hTn _ _ hit') (fun o q => (sb.2 it (Ne.symm hne)).trans q), hne, n1, n2⟩, fun c hb => ?_⟩
    · rw [show ((i + 1 : Nat) : Int) = (i : Int) + 1 by omega]
      exact he'
    · have hb' : c < s.heap.objs.size := by
        rcases (show c = e ∨ c = it by simpa using hb) with rfl | rfl
        · exact hel
        · exact hil
      rw [upd_ne (Nat.ne_of_lt hb')]
      exact (hf c hb).1
  done := by
    intro X hP hw hK hc i pins s σ H E I hf st hg
    subst hP hw hK
    obtain ⟨⟨old, he⟩, hit, hne, n1, n2⟩ := st
    obtain ⟨xs, hq, rfl⟩ := hg
    obtain ⟨Pd, Tn, D, h0, hPd, hTn⟩ := Bk.draw (A := X.A.in1) I (I.ok.hd hc) b hq hit n1
    obtain ⟨f0, f1, f2, f3, f4, f5⟩ := hf it (by simp)
    exact wpAny_pyNext_enum_endD D he h0 fun h' eb => ⟨rfl, I.turned (t' := s.toks) (fun c o hb q => eb c o hb q) f0 f1 f3 f4 f5⟩
  self := fun A i s Q E st h => by
    obtain ⟨⟨_, he⟩, _⟩ := st
    exact wpAny_pyIter_enum he h
/-! its start -/
theorem meets_en1 {v : Value} {o : Obj} {Hh : Heap → Prop} (B : Begins v o Hh) :
    Meets (Builtin.«enumerate.__new__» ⟨[.type "enumerate", v], []⟩) (fun _ R s => Hh s.heap ∧ R (.ok (.ret (.ref (s.heap.push o).objs.size))) { s with heap := (s.heap.push o).push { cls := .type "enumerate", data := .fields #[.none, .bool false, .ref s.heap.objs.size, rawInt 0, .none, .none] } }) := .of_wp fun prog w A R s h => by
  obtain ⟨hp, g, d, tk, os⟩ := s
  obtain ⟨h1, h⟩ := h
  have hsub := sub_enumerate
  have q1 : ∀ {A' : Around} {E : Value → Shared → Prop} {Q : Value → Shared → Prop}, Q (.ref hp.objs.size) ⟨hp.push o, g, d, tk, os⟩ → wpAny (model prog w) A' (pyIter v) Q E ⟨hp, g, d, tk, os⟩ := fun q => B.iter prog w _ _ ⟨hp, g, d, tk, os⟩ _ h1 q
  wp_walk using q1
  first
    | exact ⟨_, rfl, h⟩
    | (refine wpAny_stack_any fun st => wpAny_pure ?_
       split
       · rename_i c _ _ _ _ _
         cases (c == Value.type "enumerate") <;> (wp_walk using q1; exact ⟨_, rfl, h⟩)
       · wp_walk using q1
         exact ⟨_, rfl, h⟩)
theorem en_begins {prog : Program} {w : World} {A : Around} {E : Value → Shared → Prop} {s : Shared} {v : Value} {o : Obj} {Hh : Heap → Prop} {Q : Value → Shared → Prop} (B : Begins v o Hh) (h1 : Hh s.heap)
    (h : ∀ h', IsEnum h' (s.heap.objs.size + 1) s.heap.objs.size 0 .none → h'.get? s.heap.objs.size = some o → (∀ b o, s.heap.get? b = some o → h'.get? b = some o) → Q (.ref (s.heap.objs.size + 1)) { s with heap := h' }) :
    wpAny (model prog w) A (call (.type "enumerate") [v]) Q E s := by
  refine callType_new F.called_enumerate (by decide) (F.typeCall_enumerate_1 _) (F.newCall_enumerate_1 _) (fun obj => F.args_object_init_2 obj _) F.entry_enumerate_new (meets_en1 B) ⟨h1, ?_⟩
  have hz : (s.heap.push o).objs.size = s.heap.objs.size + 1 := Heap.size_push ..
  show _ ∧ _
  rw [hz]
  have he : IsEnum ((s.heap.push o).push { cls := .type "enumerate", data := .fields #[.none, .bool false, .ref s.heap.objs.size, rawInt 0, .none, .none] }) (s.heap.objs.size + 1) s.heap.objs.size 0 .none := by
    have z := Heap.get?_push_size (s.heap.push o) (o := { cls := .type "enumerate", data := .fields #[.none, .bool false, .ref s.heap.objs.size, rawInt 0, .none, .none] }) rfl
    rw [hz] at z
    exact z
  exact ⟨⟨_, he, rfl⟩, h _ he (Heap.get?_push_of_some _ (Heap.get?_push_size _ B.free)) fun b o x => Heap.get?_push_of_some _ (Heap.get?_push_of_some _ x)⟩
section
variable {X : Cx} {pins : List (Addr × Obj)} {s : Shared} {σ : St} {H : Hp}
/-- what an iterator over b is at its start -/
theorem Bk.begin (I : Inv X pins σ H s) (b : Bk) {xs : List V} {u : Value} (hq : b.has X.K H xs) (r : RelV b.v u) : ∃ o Hh, Begins u o Hh ∧ Hh s.heap ∧ (∀ (h' : Heap) (it : Addr), h'.get? it = some o → b.tn it 0 h') ∧ ∀ a ∈ b.ad, a < s.heap.objs.size := by
  cases b with
  | l a =>
    have r : u = .ref a := r
    subst r
    obtain ⟨its, rv, p, _⟩ := I.list hq
    exact ⟨_, _, begins_list a its.toArray, p.isList, fun h' it e => ⟨_, e, rfl, rfl⟩, fun c hc => by simp [Bk.ad] at hc; subst hc; exact p.lt⟩
  | t a =>
    have r : u = .ref a := r
    subst r
    obtain ⟨its, rv, p, _⟩ := I.tuple hq
    exact ⟨_, _, begins_tuple a its.toArray, p, fun h' it e => ⟨_, e, rfl, rfl⟩, fun c hc => by simp [Bk.ad] at hc; subst hc; obtain ⟨o1, ho1, _⟩ := id p; exact Heap.lt_size ho1⟩
  | s x =>
    obtain ⟨t, rfl⟩ := r
    exact ⟨_, _, begins_text x t, trivial, fun h' it e => ⟨t, _, e, rfl, rfl⟩, fun c hc => by simp [Bk.ad] at hc⟩
end
def iEn (K : PySem.W.Frag) (ta : TA) : TI := fun σ H R => ta σ H fun vs H1 => ∃ b xs, vs = [Bk.v b] ∧ b.has K H1 xs ∧ R (ItE K b) H1
theorem pi_en {X : Cx} {e : Expr} {ta : TA} {p pos tpos : Pos} {elts : List Expr} {kk : Nat} (hg : Gl X "enumerate") (hm : X.mg "enumerate" = none) (ha : PA X [e] ta) (hs : starEach [e] X.env = [(false, eval e X.env)]) :
    PI X (.Tuple elts kk tpos) (.Call (.Name "enumerate" p) [e] [] pos) (iEn X.K ta) := by
  refine ⟨fun pins s σ H R I h => ?_⟩
  refine Call_ (ld_blt I hg hm boot_enumerate (PyProof.Rows.callWith_type1 (thn (ha.run pos pins s σ H _ I h) fun us s1 ⟨vs, H1, I1, r1, q1⟩ => ?_) hs rfl))
  obtain ⟨b, xs, ex, hq, q⟩ := q1
  subst ex
  cases r1 with
  | cons r rr =>
    cases rr
    obtain ⟨o, Hh, B, hb, ht, hlt⟩ := Bk.begin I1 b hq r
    refine en_begins B hb fun h' he hit hk => wpAny_pyIter_enum he ?_
    have I2 : Inv X pins σ H1 { s1 with heap := h' } := I1.kept (t' := s1.toks) hk
    refine ⟨s1.heap.objs.size + 1, [s1.heap.objs.size + 1, s1.heap.objs.size], _, _, H1, rfl, I2, turn_en b (s1.heap.objs.size + 1) s1.heap.objs.size, ⟨⟨.none, he⟩, ht _ _ hit, Nat.succ_ne_self _, fun q => Nat.lt_irrefl _ (hlt _ q), fun q => by have := hlt _ q; exact absurd this (Nat.not_lt.mpr (Nat.le_succ _))⟩, fun c hc => ?_, q⟩
    have hle : s1.heap.objs.size ≤ c := by
      rcases (show c = s1.heap.objs.size + 1 ∨ c = s1.heap.objs.size by simpa using hc) with z | z
      · rw [z]; exact Nat.le_add_right _ _
      · rw [z]; exact Nat.le_refl _
    exact I1.fpOk hle (I1.hok.fresh hle)
end Ly
namespace Ly
open PySem PySem.Spec L2
open PyProof.Rows hiding St
/-- items side by side in a new pair -/
def ItZ (K : PySem.W.Frag) (b d : Bk) : It :=
  ⟨fun i H => ∃ xs ys, b.has K H xs ∧ d.has K H ys ∧ i < xs.length ∧ i < ys.length, fun i H v H' => ∃ T x y, v = .ref T ∧ H T = none ∧ H' = upd H T (.tup [x, y]) ∧ (∀ xs, b.has K H xs → xs[i]? = some x) ∧ ∀ ys, d.has K H ys → ys[i]? = some y,
   fun i H => ∃ xs ys, b.has K H xs ∧ d.has K H ys ∧ min xs.length ys.length = i⟩
theorem turn_zp {P : Program} {w : World} {K : PySem.W.Frag} {elts : List Expr} {kk : Nat} {tpos : Pos} (b d : Bk) {z TI TO i1 i2 : Addr} (D : ZipSep2 z TI TO i1 i2 (i1 :: b.ad) (i2 :: d.ad)) (n1 : i1 ∉ b.ad) (n2 : i2 ∉ d.ad) :
    Turn P w K (.Tuple elts kk tpos) (ItZ K b d) [z, TI, TO, i1, i2] z (fun i h => IsZip h z TI TO .none ∧ IsTupOf2 h TI (.ref i1) (.ref i2) ∧ (∃ x y, IsTupOf2 h TO x y) ∧ b.tn i1 i h ∧ d.tn i2 i h) where
  mem := List.mem_cons_self
  obj := fun i h st c hc => by
    obtain ⟨hz, hTI, ⟨x, y, hTO⟩, h1, h2⟩ := st
    rcases (show c = z ∨ c = TI ∨ c = TO ∨ c = i1 ∨ c = i2 by simpa using hc) with rfl | rfl | rfl | rfl | rfl
    · exact ⟨_, hz, fun v q => nomatch q⟩
    · exact ⟨_, hTI, fun v q => nomatch q⟩
    · exact ⟨_, hTO, fun v q => nomatch q⟩
    · exact Bk.obj h1
    · exact Bk.obj h2
  keep := fun i h h' st k => by
    obtain ⟨hz, hTI, ⟨x, y, hTO⟩, h1, h2⟩ := st
    exact ⟨k z (by simp) _ hz, k TI (by simp) _ hTI, ⟨x, y, k TO (by simp) _ hTO⟩, Bk.at h1 (fun o q => k i1 (by simp) o q), Bk.at h2 (fun o q => k i2 (by simp) o q)⟩
  item := by
    intro X hP hw hK hc i pins s σ H E I hf st hg
    subst hP hw hK
    obtain ⟨hz, hTI, ⟨x0, y0, hTO⟩, h1, h2⟩ := st
    obtain ⟨xs, ys, hqx, hqy, hx, hy⟩ := hg
    obtain ⟨P1, T1, D1, s1, hP1, hT1⟩ := Bk.draw (A := X.A.in1) I (I.ok.hd hc) b hqx h1 n1
    obtain ⟨P2, T2, D2, s2, hP2, hT2⟩ := Bk.draw (A := X.A.in1) I (I.ok.hd hc) d hqy h2 n2
    have hzl : z < s.heap.objs.size := Heap.lt_size hz
    refine wpAny_pyNext_zipD2_item D D1 D2 hz hTI hTO s1 s2 hx hy fun u1 u2 h' tk p1 p2 z' TO' t1 t2 hT hsz hk => ?_
    obtain ⟨x, hxi, ru⟩ := hP1 _ _ p1
    obtain ⟨y, hyi, ru2⟩ := hP2 _ _ p2
    refine ⟨_, rfl, wpAny_letOwnedTupleGo_zip (s := { s with heap := h', toks := tk }) z' fun h'' z'' sb => ?_⟩
    have hTn : h''.get? s.heap.objs.size = some { cls := .type "tuple", data := .seq #[u1, u2] } := (sb.2 _ (Nat.ne_of_gt hzl)).trans hT
    have new : ObjOk X.prog X.w (upd H s.heap.objs.size (.tup [x, y])) h'' s.heap.objs.size (.tup [x, y]) := ⟨by show 2 ≤ sizeLine; decide, [u1, u2], .cons ru (.cons ru2 .nil), ⟨_, hTn, rfl, _, rfl⟩⟩
    have I1 : Inv X pins σ (upd H s.heap.objs.size (.tup [x, y])) { s with heap := h'', toks := tk } :=
      I.turnedNew (t' := tk) (ch := [z, TI, TO, i1, i2]) (fun c o hb q => (sb.2 c (fun e => hb (by simp [e]))).trans (hk c o (fun e => hb (by simp [e])) (fun e => hb (by simp [e])) (fun e => hb (by simp [e])) (fun e => hb (by simp [e])) q)) hf (Nat.le_refl _) new
    refine ⟨.ref s.heap.objs.size, _, I1, rfl, ⟨_, x, y, rfl, I.hok.fresh (Nat.le_refl _), rfl, fun l hl => by rw [Bk.inj I hl hqx]; exact hxi, fun l hl => by rw [Bk.inj I hl hqy]; exact hyi⟩, ⟨z'', ?_, ⟨u1, u2, ?_⟩, Bk.at (hT1 _ _ t1) fun o q => (sb.2 _ (Ne.symm D.zi1)).trans q, Bk.at (hT2 _ _ t2) fun o q => (sb.2 _ (Ne.symm D.zi2)).trans q⟩, fun c hcm => ?_⟩
    · exact (sb.2 _ D.TIz).trans (hk _ _ D.TIz D.TITO D.TIi1 D.TIi2 hTI)
    · exact (sb.2 _ D.TOz).trans TO'
    · have hlt : c < s.heap.objs.size := by
        rcases (show c = z ∨ c = TI ∨ c = TO ∨ c = i1 ∨ c = i2 by simpa using hcm) with rfl | rfl | rfl | rfl | rfl
        · exact hzl
        · exact Heap.lt_size hTI
        · exact Heap.lt_size hTO
        · obtain ⟨_, e1, _⟩ := Bk.obj h1; exact Heap.lt_size e1
        · obtain ⟨_, e2, _⟩ := Bk.obj h2; exact Heap.lt_size e2
      rw [upd_ne (Nat.ne_of_lt hlt)]
      exact (hf c hcm).1
  done := by
    intro X hP hw hK hc i pins s σ H E I hf st hg
    subst hP hw hK
    obtain ⟨hz, hTI, ⟨x0, y0, hTO⟩, h1, h2⟩ := st
    obtain ⟨xs, ys, hqx, hqy, hend⟩ := hg
    obtain ⟨P1, T1, D1, s1, hP1, hT1⟩ := Bk.draw (A := X.A.in1) I (I.ok.hd hc) b hqx h1 n1
    obtain ⟨P2, T2, D2, s2, hP2, hT2⟩ := Bk.draw (A := X.A.in1) I (I.ok.hd hc) d hqy h2 n2
    exact wpAny_pyNext_zipD2_end D D1 D2 hz hTI hTO s1 s2 (by omega) (by omega) (by omega) fun h' tk hk => ⟨rfl, I.turnedL (t' := tk) (ch := [z, TI, TO, i1, i2]) (fun c o hb q =>
      hk c o (fun e => hb (by simp [e])) (fun e => hb (by simp [e])) (fun e => hb (by simp [e])) (fun e => hb (by simp [e])) q) hf⟩
  self := fun A i s Q E st h => wpAny_pyIter_zip st.1 h
def iZp (K : PySem.W.Frag) (ta : TA) : TI := fun σ H R => ta σ H fun vs H1 => ∃ b d xs ys, vs = [Bk.v b, Bk.v d] ∧ b.has K H1 xs ∧ d.has K H1 ys ∧ R (ItZ K b d) H1
theorem pi_zp {X : Cx} {e e2 : Expr} {ta : TA} {p pos tpos : Pos} {elts : List Expr} {kk : Nat} (hg : Gl X "zip") (hm : X.mg "zip" = none) (ha : PA X [e, e2] ta)
    (hs : starEach [e, e2] X.env = (false, eval e X.env) :: starEach [e2] X.env) (hpl : (backTo pos (starEach [e2] X.env)).any (·.1) = false) :
    PI X (.Tuple elts kk tpos) (.Call (.Name "zip" p) [e, e2] [] pos) (iZp X.K ta) := by
  refine ⟨fun pins s σ H R I h => ?_⟩
  refine Call_ (ld_blt I hg hm PyProof.Rows.boot_zip (PyProof.Rows.callWith_type1 (thn (ha.run pos pins s σ H _ I h) fun us s1 ⟨vs, H1, I1, r1, q1⟩ => ?_) hs hpl))
  obtain ⟨b, d, xs, ys, ex, hqx, hqy, q⟩ := q1
  subst ex
  cases r1 with
  | cons r rr =>
    cases rr with
    | cons r' rr =>
      cases rr
      obtain ⟨o1, Hh1, B1, hb1, ht1, hl1⟩ := Bk.begin I1 b hqx r
      obtain ⟨o2, Hh2, B2, hb2, ht2, hl2⟩ := Bk.begin I1 d hqy r'
      have fr : ∀ c, c ∈ [s1.heap.objs.size + 4, s1.heap.objs.size + 2, s1.heap.objs.size + 3, s1.heap.objs.size, s1.heap.objs.size + 1] → FpOk X pins H1 c := fun c hcm => by
        have hle : s1.heap.objs.size ≤ c := by
          rcases (show c = s1.heap.objs.size + 4 ∨ c = s1.heap.objs.size + 2 ∨ c = s1.heap.objs.size + 3 ∨ c = s1.heap.objs.size ∨ c = s1.heap.objs.size + 1 by simpa using hcm) with e | e | e | e | e <;> rw [e] <;> first | exact Nat.le_add_right _ _ | exact Nat.le_refl _
        exact I1.fpOk hle (I1.hok.fresh hle)
      refine zip_begins2 B1 B2 hb1 hb2 fun h' hz hTI hTO g1 g2 hsz hk => wpAny_pyIter_zip hz ?_
      have I2 : Inv X pins σ H1 { s1 with heap := h' } := I1.kept (t' := s1.toks) hk
      exact ⟨s1.heap.objs.size + 4, [s1.heap.objs.size + 4, s1.heap.objs.size + 2, s1.heap.objs.size + 3, s1.heap.objs.size, s1.heap.objs.size + 1], _, _, H1, rfl, I2,
        turn_zp b d (zip_sep2 hl1 hl2) (fun q => Nat.lt_irrefl _ (hl1 _ q)) (fun q => absurd (hl2 _ q) (Nat.not_lt.mpr (Nat.le_succ _))), ⟨hz, hTI, ⟨_, _, hTO⟩, ht1 _ _ g1, ht2 _ _ g2⟩, fr, q⟩
end Ly
namespace Ly
open PySem PySem.Spec L2
open PyProof.Rows hiding St
/-- what is walked, as long as it stands -/
structure BkOk (G : Glo) (F H : Hp) (μ : List Addr) (bw : Bool) (b : Bk) (l : List T) (vs : List V) : Prop where
  now : b.has G.K H vs
  per : ∀ F' H' μ', (bw = true → Ext F H μ F' H' μ') → Same F F' → Same F' H' → b.has G.K H' vs
  rep : Reps G.K F μ l vs
  len : l.length ≤ sizeLine
section
variable {G : Glo} {F H : Hp} {μ : List Addr}
theorem Reps.chars : ∀ {x : List Nat}, (∀ c ∈ x, c < 1114112) → Reps G.K F μ (x.map fun c => T.str [c]) (x.map fun c => V.str ⟨#[c]⟩)
  | [], _ => by simp [Reps]
  | c :: x, h => by
    rw [List.map_cons, List.map_cons]
    refine Reps.cons ?_ (Reps.chars fun d hd => h d (List.mem_cons_of_mem _ hd))
    have : (1 : Nat) ≤ sizeLine := by decide
    simp only [Rep]
    exact ⟨by simp [tx], by simpa using this, fun d hd => by
      rw [List.mem_singleton] at hd
      subst hd
      exact h _ List.mem_cons_self⟩
theorem bk_of {bw : Bool} {t : T} {v : V} {l : List T} {S : Store} (k : Ok G F H μ S) (r1 : RepB G F H μ t v) (r0 : bw = false → Rep G.K F μ t v) (e : t.items = some l) : ∃ b vs, v = Bk.v b ∧ BkOk G F H μ bw b l vs := by
  cases t with
  | tup l' =>
    simp only [T.items, Option.some.injEq] at e
    subst e
    have r : Rep G.K F μ (.tup l') v := by
      rcases r1 with h | ⟨_, _, _, e, _⟩
      · exact h
      · cases e
    simp only [Rep] at r
    obtain ⟨a, vs, rfl, q, z, rs⟩ := r
    exact ⟨.t a, vs, rfl, Same.seqT k.fh q, fun F' H' μ' x sf s' => Same.seqT s' (Same.seqT sf q), rs, z⟩
  | lst l' =>
    simp only [T.items, Option.some.injEq] at e
    subst e
    rcases r1 with r | ⟨a, l2, vs, e, rfl, h1, h2, h3, h4⟩
    · simp only [Rep] at r
      obtain ⟨a, vs, rfl, q, z, rs⟩ := r
      exact ⟨.l a, vs, rfl, SqL.of (k.fh _ _ q), fun F' H' μ' x sf s' => SqL.of (s' _ _ (sf _ _ q)), rs, z⟩
    · cases e
      cases bw with
      | false =>
        have r := r0 rfl
        simp only [Rep] at r
        obtain ⟨a', vs', e, q, z, rs⟩ := r
        cases e
        exact ⟨.l a, vs', rfl, SqL.of (k.fh _ _ q), fun F' H' μ' x sf s' => SqL.of (s' _ _ (sf _ _ q)), rs, z⟩
      | true => exact ⟨.l a, vs, rfl, SqL.of h1, fun F' H' μ' x sf s' => SqL.of ((x rfl).hh a _ h1 h4), h3, h2⟩
  | str x =>
    simp only [T.items, Option.some.injEq] at e
    subst e
    obtain ⟨rfl, z, cs⟩ := r1.str
    have q : (tx x).cps.toList = x := tx_cps x
    exact ⟨.s (tx x), x.map fun c => V.str ⟨#[c]⟩, rfl, by show _ = _; rw [q], fun _ _ _ _ _ _ => by show _ = _; rw [q], Reps.chars cs, by simpa using z⟩
  | _ => simp [T.items] at e
theorem rep_pair {F' H' : Hp} {p : Addr} {t1 t2 : T} {v1 v2 : V} {S : Store} (k : Ok G F' H' μ S) (hp : H' p = none) (r1 : Rep G.K F' μ t1 v1) (r2 : Rep G.K F' μ t2 v2) : ∃ F'', Ext F' H' μ F'' (upd H' p (.tup [v1, v2])) μ ∧ Ok G F'' (upd H' p (.tup [v1, v2])) μ S ∧ Rep G.K F'' μ (.tup [t1, t2]) (.ref p) := by
  have x : Ext F' H' μ (upd F' p (.tup [v1, v2])) (upd H' p (.tup [v1, v2])) μ := Ext.new k.fh hp
  refine ⟨_, x, k.new hp, ?_⟩
  have : (2 : Nat) ≤ sizeLine := by decide
  simp only [Rep]
  exact ⟨p, [v1, v2], rfl, SqT.of upd_same, by simpa using this, Reps.cons (x.rep r1) (Reps.cons (x.rep r2) Reps.nil)⟩
theorem walk_en {bw : Bool} {b : Bk} {l : List T} {vs : List V} (B : BkOk G F H μ bw b l vs) : WalkOk G F H μ bw (ItE G.K b) (l.zipIdx.map fun p => T.tup [.int (p.2 : Nat), p.1]) (fun H' => b.has G.K H' vs) where
  now := B.now
  per := B.per
  go := fun i H' hi p => ⟨vs, p, by have := B.rep.length; simp at hi; omega⟩
  stop := fun H' p => ⟨vs, p, by have := B.rep.length; simp; omega⟩
  yld := fun i t x F' H' H'' μ' S e p sf m k y => by
    obtain ⟨p2, v2, rfl, hp, rfl, hx⟩ := y
    have hx := hx vs p
    have e' : ∃ u, l[i]? = some u ∧ t = .tup [.int (i : Nat), u] := by
      rw [List.getElem?_map, List.getElem?_zipIdx] at e
      cases q : l[i]? with
      | none => rw [q] at e; simp at e
      | some u => rw [q] at e; simp at e; exact ⟨u, rfl, e.symm⟩
    obtain ⟨u, hu, rfl⟩ := e'
    obtain ⟨v, h1, h2⟩ := (B.rep.mono' sf m).get hu
    rw [hx] at h1
    cases h1
    exact rep_pair k hp Rep.int' h2
  len := by simpa using B.len
theorem walk_zp {bw : Bool} {b d : Bk} {l m : List T} {vs ws : List V} (B : BkOk G F H μ bw b l vs) (D : BkOk G F H μ bw d m ws) : WalkOk G F H μ bw (ItZ G.K b d) ((l.zip m).map fun p => T.tup [p.1, p.2]) (fun H' => b.has G.K H' vs ∧ d.has G.K H' ws) where
  now := ⟨B.now, D.now⟩
  per := fun F' H' μ' x s s' => ⟨B.per F' H' μ' x s s', D.per F' H' μ' x s s'⟩
  go := fun i H' hi p => ⟨vs, ws, p.1, p.2, by have := B.rep.length; have := D.rep.length; simp at hi; omega, by have := B.rep.length; have := D.rep.length; simp at hi; omega⟩
  stop := fun H' p => ⟨vs, ws, p.1, p.2, by have := B.rep.length; have := D.rep.length; simp; omega⟩
  yld := fun i t x F' H' H'' μ' S e p sf mm k y => by
    obtain ⟨p2, v1, v2, rfl, hp, rfl, hx, hy⟩ := y
    have hx := hx vs p.1
    have hy := hy ws p.2
    have e' : ∃ u w, l[i]? = some u ∧ m[i]? = some w ∧ t = .tup [u, w] := by
      rw [List.getElem?_map] at e
      cases q : (l.zip m)[i]? with
      | none => rw [q] at e; simp at e
      | some u =>
        rw [q] at e
        obtain ⟨a1, a2⟩ := List.getElem?_zip_eq_some.mp q
        simp at e
        exact ⟨u.1, u.2, a1, a2, e.symm⟩
    obtain ⟨u, w, hu, hw, rfl⟩ := e'
    obtain ⟨v, h1, h2⟩ := (B.rep.mono' sf mm).get hu
    obtain ⟨v', h1', h2'⟩ := (D.rep.mono' sf mm).get hw
    rw [hx] at h1
    rw [hy] at h1'
    cases h1
    cases h1'
    exact rep_pair k hp h2 h2'
  len := by have := B.len; simp; omega
end
section
variable {tab : Tb} {glo : List (Str × T)} {G : Glo} {n k : Nat}
/-- the argument list's reading, as values and what may be borrowed -/
theorem src_args {H₀ : Hp} {W : WX} {bw : Bool} {X : Cx} {o : Lenv → Store → Out (List T)} {es : List Expr} (hp : PA X es (if bw then tAb G H₀ W o else tA G H₀ W o)) :
    PA X es (fun σ H Q => ∃ ρ F μ S, EnvR G H₀ F H μ ρ σ ∧ Ok G F H μ S ∧ PostO G F H μ (exK G W σ) (fun F' H' μ' (ts : List T) vs => RepBs G F' H' μ' ts vs ∧ (bw = false → Reps G.K F' μ' ts vs)) Q (o ρ S)) := by
  refine PA.imp hp fun σ H Q q => ?_
  obtain ⟨ρ, F, μ, S, en, k, p⟩ := q
  cases bw with
  | true =>
    refine ⟨ρ, F, μ, S, en, k, ?_⟩
    cases e : o ρ S with
    | stk => rw [e] at p; exact p
    | exc c S => rw [e] at p; exact p
    | ok l S1 => rw [e] at p; exact fun v F' H' μ' x k r => p v F' H' μ' x k ⟨r, fun h => by cases h⟩
  | false =>
    refine ⟨ρ, F, μ, S, en, k, ?_⟩
    cases e : o ρ S with
    | stk => rw [e] at p; exact p
    | exc c S => rw [e] at p; exact p
    | ok l S1 => rw [e] at p; exact fun v F' H' μ' x k r => p v F' H' μ' x k ⟨RepBs.of r, fun _ => r⟩
theorem src_en {H₀ : Hp} {W : WX} {X : Cx} (c : Cxt G tab glo n k X W) {es : List Expr} {elts : List Expr} {kt : Nat} {tpos : Pos} {p pos : Pos} {o : Lenv → Store → Out (List T)} (bw : Bool) (hp : PA X es (if bw then tAb G H₀ W o else tA G H₀ W o)) (pl : ∀ e ∈ es, plainX e = true) (hg : gloB X.env.scope "enumerate" = true)
    (ho : ∀ ρ S l S', o ρ S = .ok l S' → l.length = es.length) (hl : es.length = 1) :
    PI X (.Tuple elts kt tpos) (.Call (.Name "enumerate" p) es [] pos) (iSrc G H₀ W bw .enm o) := by
  have gl := gloB_ok hg
  have mn : X.mg "enumerate" = none := c.blt _ (by simp [bltNames])
  match es, hl with
  | [e], _ =>
    have hs : starEach [e] X.env = [(false, eval e X.env)] := star_cons (pl e (by simp))
    refine PI.imp (pi_en gl mn (src_args hp) hs) fun σ H R q => ?_
    obtain ⟨ρ, F, μ, S, en, k, p⟩ := q
    refine ⟨ρ, F, μ, S, en, k, p.bind.imp fun v H1 hv => ?_⟩
    obtain ⟨F1, μ1, S1, t, x1, k1, ⟨r1, r0⟩, eo, p1⟩ := hv
    have hlen := ho _ _ _ _ eo
    obtain ⟨l, e, p2⟩ := p1.opt
    match t, hlen with
    | [t], _ =>
      simp only [itemsF, Option.map_eq_some_iff] at e
      obtain ⟨l0, e0, rfl⟩ := e
      obtain ⟨w, rfl, h⟩ := r1.one
      have r0 : bw = false → Rep G.K F1 μ1 t w := fun hb => by
        have := r0 hb
        simp only [Reps] at this
        obtain ⟨_, _, e, h, rfl⟩ := this
        cases e
        exact h
      obtain ⟨b, vs, rfl, B⟩ := bk_of k1 h r0 e0
      refine ⟨b, vs, rfl, c.hG ▸ B.now, ?_⟩
      rw [← c.hG]
      exact p2 _ F1 H1 μ1 .refl k1 ⟨_, walk_en B⟩
theorem src_zp {H₀ : Hp} {W : WX} {X : Cx} (c : Cxt G tab glo n k X W) {es : List Expr} {elts : List Expr} {kt : Nat} {tpos : Pos} {p pos : Pos} {o : Lenv → Store → Out (List T)} (bw : Bool) (hp : PA X es (if bw then tAb G H₀ W o else tA G H₀ W o)) (pl : ∀ e ∈ es, plainX e = true) (hg : gloB X.env.scope "zip" = true)
    (ho : ∀ ρ S l S', o ρ S = .ok l S' → l.length = es.length) (hl : es.length = 2) :
    PI X (.Tuple elts kt tpos) (.Call (.Name "zip" p) es [] pos) (iSrc G H₀ W bw .zip o) := by
  have gl := gloB_ok hg
  have mn : X.mg "zip" = none := c.blt _ (by simp [bltNames])
  match es, hl with
  | [e, e2], _ =>
    have hs2 : starEach [e2] X.env = [(false, eval e2 X.env)] := star_cons (pl e2 (by simp))
    have hs : starEach [e, e2] X.env = (false, eval e X.env) :: starEach [e2] X.env := star_cons (pl e (by simp))
    refine PI.imp (pi_zp gl mn (src_args hp) hs (by rw [hs2]; rfl)) fun σ H R q => ?_
    obtain ⟨ρ, F, μ, S, en, k, p⟩ := q
    refine ⟨ρ, F, μ, S, en, k, p.bind.imp fun v H1 hv => ?_⟩
    obtain ⟨F1, μ1, S1, t, x1, k1, ⟨r1, r0⟩, eo, p1⟩ := hv
    have hlen := ho _ _ _ _ eo
    obtain ⟨l, e, p2⟩ := p1.opt
    match t, hlen with
    | [t, t'], _ =>
      simp only [itemsF] at e
      split at e
      · rename_i l1 l2 e1 e2
        cases e
        obtain ⟨w, w2, rfl, h, h2⟩ := r1.two
        have r0 : bw = false → Rep G.K F1 μ1 t w ∧ Rep G.K F1 μ1 t' w2 := fun hb => by
          have := r0 hb
          simp only [Reps] at this
          obtain ⟨_, _, e, h, _, _, e', h', rfl⟩ := this
          cases e
          cases e'
          exact ⟨h, h'⟩
        obtain ⟨b, vs, rfl, B⟩ := bk_of k1 h (fun hb => (r0 hb).1) e1
        obtain ⟨d, ws, rfl, D⟩ := bk_of k1 h2 (fun hb => (r0 hb).2) e2
        refine ⟨b, d, vs, ws, rfl, c.hG ▸ B.now, c.hG ▸ D.now, ?_⟩
        rw [← c.hG]
        exact p2 _ F1 H1 μ1 .refl k1 ⟨_, walk_zp B D⟩
      · cases e
end
end Ly
namespace Ly
open PySem PySem.Spec L2
open PyProof.Rows hiding St
theorem tx_sub (x : List Nat) (i j : Nat) : PySem.Builtin.Str.strSub (tx x) i j = tx ((x.drop i).take (j - i)) := by
  unfold PySem.Builtin.Str.strSub tx
  congr 1
  rw [← Array.toList_inj]
  simp [Array.toList_extract, List.drop_take]
theorem dw_drop {α : Type} (p : α → Bool) (l : List α) : l.drop (l.takeWhile p).length = l.dropWhile p := by
  induction l with
  | nil => rfl
  | cons a l ih => cases h : p a <;> simp [List.takeWhile_cons, List.dropWhile_cons, h, ih]
theorem rdw_take {α : Type} (p : α → Bool) (l : List α) : l.take (l.length - (l.reverse.takeWhile p).length) = (l.reverse.dropWhile p).reverse := by
  rw [← dw_drop, List.drop_reverse, List.reverse_reverse]
theorem contains_tx (y : List Nat) : (tx y).cps.contains = fun c => y.contains c := by
  funext c; simp [tx]
theorem size_tx (x : List Nat) : (tx x).length = x.length := tx_len x
theorem strip_tx (p : Nat → Bool) (l r : Bool) (x : List Nat) : PySem.Txt.stripBy p l r (tx x) = tx ((if r then fun z : List Nat => (z.reverse.dropWhile p).reverse else id) ((if l then fun z : List Nat => z.dropWhile p else id) x)) := by
  have e0 : (tx x).cps.toList = x := tx_cps x
  have main : ∀ lo t : Nat, lo ≤ x.length → t ≤ x.length - lo → (x.drop lo).take (x.length - t - lo) = (x.drop lo).take ((x.drop lo).length - t) := fun lo t h1 h2 => by
    rw [List.length_drop]; congr 1; omega
  have tw : ∀ z : List Nat, (z.takeWhile p).length ≤ z.length := fun z => (List.takeWhile_sublist p).length_le
  unfold PySem.Txt.stripBy PySem.stripped PySem.stripSame PySem.stripHi PySem.stripLo
  simp only [e0, tx_len]
  cases l <;> cases r
  · simp
  · simp only [Bool.false_eq_true, if_false, if_true, List.drop_zero, id]
    have := tw x.reverse
    rw [List.length_reverse] at this
    split
    · rename_i h
      simp only [Bool.and_eq_true, beq_iff_eq] at h
      rw [← rdw_take]
      have : (x.reverse.takeWhile p).length = 0 := by omega
      rw [this]; simp
    · rw [tx_sub, List.drop_zero, Nat.sub_zero, rdw_take]
  · simp only [Bool.false_eq_true, if_false, if_true, id]
    have := tw x
    split
    · rename_i h
      simp only [Bool.and_eq_true, beq_iff_eq] at h
      rw [← dw_drop, h.1, List.drop_zero]
    · rw [tx_sub, dw_drop, List.take_of_length_le (by rw [← dw_drop, List.length_drop]; omega)]
  · simp only [if_true]
    have h1 := tw x
    have h2 := tw (x.drop (x.takeWhile p).length).reverse
    rw [List.length_reverse, List.length_drop] at h2
    split
    · rename_i h
      simp only [Bool.and_eq_true, beq_iff_eq] at h
      have hd : x.dropWhile p = x := by rw [← dw_drop, h.1, List.drop_zero]
      have h3 := h.2
      rw [h.1, List.drop_zero] at h3 h2
      have : (x.reverse.takeWhile p).length = 0 := by omega
      rw [hd, ← rdw_take, this]; simp
    · rw [tx_sub, main _ _ h1 h2, rdw_take, dw_drop]
theorem fold_tx (s : List Nat) : ∀ (r : List (List Nat)) (a : List Nat), (r.map tx).foldl (fun acc p => acc ++ (tx s).cps ++ p.cps) a.toArray = (a ++ (r.map (s ++ ·)).flatten).toArray
  | [], a => by simp
  | x :: r, a => by
    rw [List.map_cons, List.foldl_cons]
    have : a.toArray ++ (tx s).cps ++ (tx x).cps = (a ++ s ++ x).toArray := by simp [tx]
    rw [this, fold_tx s r]
    simp
theorem joinL_eq (s : List Nat) : ∀ (r : List (List Nat)) (x : List Nat), joinL s (x :: r) = x ++ (r.map (s ++ ·)).flatten
  | [], x => by simp [joinL]
  | y :: r, x => by
    rw [joinL]
    rw [joinL_eq s r y]
    simp
    intro h; cases h
theorem join_tx (s : List Nat) (xs : List (List Nat)) : PySem.Txt.join (tx s) (xs.map tx) = tx (joinL s xs) := by
  unfold PySem.Txt.join PySem.Builtin.Str.glued
  cases xs with
  | nil => rfl
  | cons x r =>
    rw [joinL_eq, List.map_cons, List.headD_cons]
    show (⟨_⟩ : Str) = tx _
    have := fold_tx s r x
    simp only [List.drop_succ_cons, List.drop_zero]
    unfold tx at this ⊢
    rw [this]
theorem joinL_len (s : List Nat) (xs : List (List Nat)) : (joinL s xs).length ≤ (xs.map (·.length)).sum + xs.length * s.length := by
  cases xs with
  | nil => simp [joinL]
  | cons x r =>
    rw [joinL_eq]
    have : ∀ r : List (List Nat), (r.map (s ++ ·)).flatten.length = (r.map (·.length)).sum + r.length * s.length := fun r => by
      induction r with
      | nil => simp
      | cons a r ih => simp only [List.map_cons, List.flatten_cons, List.length_append, ih, List.sum_cons, List.length_cons, Nat.add_mul]; omega
    simp only [List.length_append, this, List.map_cons, List.sum_cons, List.length_cons, Nat.add_mul]
    omega
theorem joinL_mem (s : List Nat) : ∀ (xs : List (List Nat)) {c : Nat}, c ∈ joinL s xs → c ∈ s ∨ ∃ x ∈ xs, c ∈ x
  | [], c, h => by simp [joinL] at h
  | x :: r, c, h => by
    rw [joinL_eq] at h
    rcases List.mem_append.mp h with h | h
    · exact .inr ⟨x, List.mem_cons_self, h⟩
    · obtain ⟨l, h1, h2⟩ := List.mem_flatten.mp h
      obtain ⟨y, hy, rfl⟩ := List.mem_map.mp h1
      rcases List.mem_append.mp h2 with h | h
      · exact .inl h
      · exact .inr ⟨y, List.mem_cons_of_mem _ hy, h⟩
theorem cutA_sub {y x : List Nat} : ∀ c ∈ cutA y x, c ∈ x := fun c h => (List.dropWhile_sublist _).mem h
theorem cutB_sub {y x : List Nat} : ∀ c ∈ cutB y x, c ∈ x := fun c h => by
  have := (List.dropWhile_sublist _).mem (List.mem_reverse.mp h)
  exact List.mem_reverse.mp this
theorem cutA_le {y x : List Nat} : (cutA y x).length ≤ x.length := (List.dropWhile_sublist _).length_le
theorem cutB_le {y x : List Nat} : (cutB y x).length ≤ x.length := by
  have := (List.dropWhile_sublist (fun c => y.contains c) (l := x.reverse)).length_le
  simpa [cutB] using this
/-! ### split at a sign -/
theorem splitL_ne (c : Nat) (x : List Nat) : splitL c x ≠ [] := by
  cases x with
  | nil => simp [splitL]
  | cons a l => simp only [splitL]; split; · simp
                split <;> simp
theorem splitL_free {c : Nat} : ∀ {z : List Nat}, c ∉ z → splitL c z = [z]
  | [], _ => rfl
  | a :: z, h => by
    simp only [List.mem_cons, not_or] at h
    rw [splitL, if_neg (Ne.symm h.1), splitL_free h.2]
theorem splitL_cut {c : Nat} {L : List Nat} : ∀ {z : List Nat}, c ∉ z → splitL c (z ++ c :: L) = z :: splitL c L
  | [], _ => by rw [List.nil_append, splitL, if_pos rfl]
  | a :: z, h => by
    simp only [List.mem_cons, not_or] at h
    rw [List.cons_append, splitL, if_neg (Ne.symm h.1), splitL_cut h.2]
theorem splitL_join {c : Nat} : ∀ {P : List (List Nat)}, P ≠ [] → (∀ z ∈ P, c ∉ z) → splitL c (joinL [c] P) = P
  | [], h, _ => absurd rfl h
  | [z], _, f => by rw [joinL]; exact splitL_free (f z List.mem_cons_self)
  | z :: w :: r, _, f => by
    rw [joinL, List.append_assoc, List.singleton_append, splitL_cut (f z List.mem_cons_self), splitL_join (by simp) fun y hy => f y (List.mem_cons_of_mem _ hy)]
    simp
theorem split_tx (x : List Nat) (c : Nat) : PySem.Txt.split (tx x) (tx [c]) = (splitL c x).map tx := by
  have e1 : tx [c] = (⟨#[c]⟩ : Str) := rfl
  have hj := PySem.StrLaws.join_split (tx x) (tx [c])
  have hf := PySem.StrLaws.split_free (tx x) c
  have hp := PyProof.Rows.split_pos (tx x) (tx [c])
  rw [← e1] at hf
  generalize PySem.Txt.split (tx x) (tx [c]) = P at *
  have eP : P = (P.map fun z => z.cps.toList).map tx := by
    rw [List.map_map]
    refine Eq.symm ((List.map_congr_left fun z _ => ?_).trans (List.map_id P))
    exact tx_list z
  have ej : ∀ xs : List (List Nat), Str.join (tx [c]) (xs.map tx) = tx (joinL [c] xs) := fun xs => by
    rw [← PySem.StrLaws.glued_eq_join]
    exact join_tx [c] xs
  rw [eP, ej] at hj
  have hj := tx_inj hj
  rw [← hj, splitL_join (by intro q; rw [List.map_eq_nil_iff] at q; rw [q] at hp; simp at hp) fun z hz => ?_]
  · exact eP
  · obtain ⟨y, hy, rfl⟩ := List.mem_map.mp hz
    exact hf y hy
theorem splitL_len (c : Nat) : ∀ x : List Nat, (splitL c x).length ≤ x.length + 1
  | [] => by simp [splitL]
  | a :: l => by
    have := splitL_len c l
    rw [splitL]
    split
    · simp only [List.length_cons]; omega
    · split
      · simp only [List.length_cons, List.length_nil]; omega
      · rename_i p ps q
        rw [q] at this
        simp only [List.length_cons] at *; omega
theorem splitL_mem (c : Nat) : ∀ (x : List Nat), ∀ p ∈ splitL c x, p.length ≤ x.length ∧ ∀ d ∈ p, d ∈ x
  | [], p, h => by simp [splitL] at h; subst h; simp
  | a :: l, p, h => by
    have ih := splitL_mem c l
    rw [splitL] at h
    split at h
    · rcases List.mem_cons.mp h with rfl | h
      · simp
      · have := ih p h
        exact ⟨by simp only [List.length_cons]; omega, fun d hd => List.mem_cons_of_mem _ (this.2 d hd)⟩
    · split at h
      · rw [List.mem_singleton] at h
        subst h
        simp
      · rename_i q qs e
        have hq := ih q (by rw [e]; exact List.mem_cons_self)
        rcases List.mem_cons.mp h with rfl | h
        · refine ⟨by simp only [List.length_cons]; omega, fun d hd => ?_⟩
          rcases List.mem_cons.mp hd with rfl | hd
          · exact List.mem_cons_self
          · exact List.mem_cons_of_mem _ (hq.2 d hd)
        · have := ih p (by rw [e]; exact List.mem_cons_of_mem _ h)
          exact ⟨by simp only [List.length_cons]; omega, fun d hd => List.mem_cons_of_mem _ (this.2 d hd)⟩
theorem Reps.strsOf {G : Glo} {F : Hp} {μ : List Addr} : ∀ {ps : List (List Nat)}, (∀ p ∈ ps, p.length ≤ sizeLine ∧ ∀ c ∈ p, c < 1114112) → Reps G.K F μ (ps.map T.str) ((ps.map tx).map V.str)
  | [], _ => by simp [Reps]
  | p :: ps, h => by
    have := h p List.mem_cons_self
    exact Reps.cons (Rep.str' this.1 this.2) (Reps.strsOf fun q hq => h q (List.mem_cons_of_mem _ hq))
/-- what a method of a text tells -/
def RMT (G : Glo) (m : Mt) : V → List V → Hp → VK → Prop := fun x xs H Q => ∃ F μ t l u, Same F H ∧ Rep G.K F μ t x ∧ RepBs G F H μ l xs ∧ mtF m t l = some u ∧ Res G F H μ u Q
section
variable {X : Cx} {G : Glo}
theorem RepB.strA {F H : Hp} {μ : List Addr} {x : List Nat} {v : V} (h : RepB G F H μ (.str x) v) : v = .str (tx x) ∧ x.length ≤ sizeLine ∧ ∀ c ∈ x, c < 1114112 := by
  rcases h with h | ⟨_, _, _, e, _⟩
  · simpa only [Rep] using h
  · cases e
theorem o_join (hG : G.K = X.K) : MtR X "str.join" (RMT G .join) := by
  intro pins s σ H x xs v us Q I rx rs h
  obtain ⟨F, μ, t, l, u, sf, rt, rl, e, r⟩ := h
  unfold mtF at e
  split at e <;> first | (cases ‹Mt.join = _›; done) | (cases e; done) | skip
  split at e
  · rename_i ys hq
    split at e
    · cases e
      rename_i hz
      obtain ⟨v, rfl, h⟩ := rl.one
      obtain ⟨a, vs, rfl, q, z, rr⟩ := h.lst sf
      rw [h_allStr_map hq] at rr
      obtain ⟨rs1, rs2⟩ := rr.strs
      subst rs1
      simp only [Rep] at rt
      obtain ⟨rfl, t1, t2⟩ := rt
      refine mt_join pins s σ H _ _ _ us Q I rx rs ⟨_, a, ys.map tx, rfl, rfl, .inl (SqL.of q), ?_, ?_⟩
      · rw [List.map_map, List.length_map]
        have : (ys.map (List.length ·)) = ys.map ((fun x : Str => x.length) ∘ tx) := List.map_congr_left fun y _ => (tx_len y).symm
        rw [← this, tx_len]
        exact hz
      · rw [join_tx]
        refine r.now ?_
        simp only [Rep]
        have := joinL_len ‹List Nat› ys
        refine ⟨trivial, by omega, fun c hc => ?_⟩
        rcases joinL_mem _ _ hc with h | ⟨y, hy, h⟩
        · exact t2 c h
        · exact (rs2 y hy).2 c h
    · cases e
  · cases e
theorem o_strips {id : String} {m : Mt} {f : Str → Str → Str} {g : List Nat → List Nat → List Nat} (mt : MtR X id (fun x xs H Q => ∃ a b, x = .str a ∧ xs = [.str b] ∧ a.length ≤ sizeLine ∧ Q (.str (f a b)) H)) (hf : ∀ x y, f (tx x) (tx y) = tx (g y x)) (hg : ∀ y x, (g y x).length ≤ x.length ∧ ∀ c ∈ g y x, c ∈ x)
    (hm : ∀ t l u, mtF m t l = some u → ∃ x y, t = .str x ∧ l = [.str y] ∧ u = .str (g y x)) : MtR X id (RMT G m) := by
  intro pins s σ H x xs v us Q I rx rs h
  obtain ⟨F, μ, t, l, u, sf, rt, rl, e, r⟩ := h
  obtain ⟨x, y, rfl, rfl, rfl⟩ := hm _ _ _ e
  obtain ⟨v, rfl, h⟩ := rl.one
  obtain ⟨rfl, h1, h2⟩ := h.strA
  simp only [Rep] at rt
  obtain ⟨rfl, t1, t2⟩ := rt
  refine mt pins s σ H _ _ _ us Q I rx rs ⟨_, _, rfl, rfl, by rw [tx_len]; exact t1, ?_⟩
  rw [hf]
  refine r.now ?_
  simp only [Rep]
  have := hg y x
  exact ⟨trivial, by omega, fun c hc => t2 c (this.2 c hc)⟩
theorem o_lstrip : MtR X "str.lstrip" (RMT G .lstrip) := o_strips mt_lstripChars (g := fun y x => cutA y x) (fun x y => by
  unfold PySem.Txt.lstripChars; rw [contains_tx, strip_tx]; rfl) (fun y x => ⟨cutA_le, cutA_sub⟩) fun t l u e => by
  unfold mtF at e
  split at e <;> first | (cases ‹Mt.lstrip = _›; done) | (cases e; done) | (cases e; exact ⟨_, _, rfl, rfl, rfl⟩)
theorem o_split : MtR X "str.split" (RMT G .split) := by
  intro pins s σ H x xs v us Q I rx rs h
  obtain ⟨F, μ, t, l, u, sf, rt, rl, e, r⟩ := h
  unfold mtF at e
  split at e <;> first | (cases ‹Mt.split = _›; done) | (cases e; done) | skip
  split at e
  · cases e
    rename_i z c _ hz
    obtain ⟨v, rfl, h⟩ := rl.one
    obtain ⟨rfl, _, _⟩ := h.strA
    simp only [Rep] at rt
    obtain ⟨rfl, t1, t2⟩ := rt
    refine mt_split pins s σ H _ _ _ us Q I rx rs ⟨_, _, rfl, rfl, rfl, by rw [tx_len]; exact hz, ?_⟩
    rw [split_tx]
    intro p hp
    refine r.lst sf hp ?_ (Reps.strsOf fun q hq => ?_)
    · rw [List.length_map]
      have := splitL_len c z
      omega
    · have := splitL_mem c z q hq
      exact ⟨by omega, fun d hd => t2 d (this.2 d hd)⟩
  · cases e
theorem o_rstrip : MtR X "str.rstrip" (RMT G .rstrip) := o_strips mt_rstripChars (g := fun y x => cutB y x) (fun x y => by
  unfold PySem.Txt.rstripChars; rw [contains_tx, strip_tx]; rfl) (fun y x => ⟨cutB_le, cutB_sub⟩) fun t l u e => by
  unfold mtF at e
  split at e <;> first | (cases ‹Mt.rstrip = _›; done) | (cases e; done) | (cases e; exact ⟨_, _, rfl, rfl, rfl⟩)
theorem o_strip : MtR X "str.strip" (RMT G .strip) := o_strips mt_stripChars (g := fun y x => cutB y (cutA y x)) (fun x y => by
  unfold PySem.Txt.stripChars; rw [contains_tx, strip_tx]; rfl) (fun y x => ⟨Nat.le_trans cutB_le cutA_le, fun c h => cutA_sub c (cutB_sub c h)⟩) fun t l u e => by
  unfold mtF at e
  split at e <;> first | (cases ‹Mt.strip = _›; done) | (cases e; done) | (cases e; exact ⟨_, _, rfl, rfl, rfl⟩)
end
section
variable {G : Glo} {tab : Tb} {glo : List (Str × T)} {n k : Nat}
theorem attr_base {sc : Scope} {N : List Str} {E : Ex} {e : Expr} {m : Str} {env : Env} {w : Sem Value} (h : okE tab glo N sc E e = true) : attributeBase e m env w = w := by
  cases e <;> first | rfl | skip
  rename_i f xs ks pos
  cases f <;> first | rfl | skip
  cases xs <;> first | rfl | skip
  cases ks <;> first | rfl | skip
  cases E <;> simp [okE, litB] at h
  rename_i o es
  obtain ⟨_, h⟩ := h
  cases o <;> simp [okOp] at h
theorem snd_mth (m : Mt) {a : Ex} {Es : Exs} (ha : SndE G tab glo n k a) (hs : ∀ E, Es = .cons E .nil → SndE G tab glo n k E) : SndE G tab glo n k (.mth m a Es) := .val (fun i => by simp) fun X W H₀ e c ok => by
  cases Es with
  | nil => simp [okE] at ok
  | cons E Er =>
    cases Er with
    | cons _ _ => simp [okE] at ok
    | nil =>
      unfold okE at ok
      split at ok
      all_goals first | (rename_i q; cases q; done) | (rename_i q _; cases q; done) | skip
      · rename_i heq
        cases heq
        simp only [Bool.and_eq_true, decide_eq_true_eq] at ok
        obtain ⟨⟨⟨rfl, k1⟩, k2⟩, k3⟩ := ok
        rename_i x apos y cpos
        refine ⟨?_, fun _ _ _ => rfl, by simp⟩
        have pa := (ha.run X W H₀ _ c k2).1
        have pe := ((hs E rfl).run X W H₀ _ c k3).2.1
        have hst : starEach [y] X.env = [(false, eval y X.env)] := star_cons (okE_plain k3)
        have fin : ∀ {r : V → List V → Hp → VK → Prop}, PE X (.Call (.Attribute x (mtName m) apos) [y] [] cpos) (tM1 (RMT G m) (tE G H₀ W fun ρ S => ev (callF tab.l n) a ρ S) (tEb G H₀ W fun ρ S => bor ρ E S (ev (callF tab.l n) E ρ S))) → PE X (.Call (.Attribute x (mtName m) apos) [y] [] cpos) (tE G H₀ W fun ρ S => ev (callF tab.l n) (.mth m a (.cons E .nil)) ρ S) := fun {_} h => PE.imp h fun σ H Q q => by
          obtain ⟨ρ, F, μ, S, en, k, p⟩ := q
          simp only [ev, evb] at p
          refine ⟨ρ, F, μ, S, en, k, p.bind.imp fun v H1 hv => ?_⟩
          obtain ⟨F1, μ1, S1, t, x1, k1, r1, he, p1⟩ := hv
          clear he
          cases t <;> first | exact p1.elim | skip
          rename_i z
          have r1' := r1
          simp only [Rep] at r1'
          refine ⟨⟨_, r1'.1⟩, ρ, F1, μ1, S1, en.ext x1, k1, ?_⟩
          dsimp only at p1
          have p2 : PostO G F1 H1 μ1 (exK G W σ) (rP G) Q ((bor ρ E S1 (ev (callF tab.l n) E ρ S1)).bind fun x S2 => Out.of (mtF m (.str z) [x]) S2) := by
            revert p1
            cases bor ρ E S1 (ev (callF tab.l n) E ρ S1) <;> exact id
          refine p2.bind.imp fun w H2 hw => ?_
          obtain ⟨F2, μ2, S2, u, x2, k2, r2, _, p3⟩ := hw
          obtain ⟨uu, eu, p4⟩ := p3.of
          refine ⟨F2, μ2, .str z, [u], uu, k2.fh, x2.rep r1, ?_, eu, fun v F' H' x k r => p4 v F' H' μ2 x (k S2 k2) r⟩
          simp only [RepBs]
          exact ⟨w, [], rfl, r2, rfl⟩
        cases m with
        | join => exact fin (r := RMT G .join) (pe_m1 F.slot_str_join F.type_str_join (o_join c.hG) pa pe hst (attr_base k2) k1)
        | strip => exact fin (r := RMT G .strip) (pe_m1 F.slot_str_strip F.type_str_strip o_strip pa pe hst (attr_base k2) k1)
        | rstrip => exact fin (r := RMT G .rstrip) (pe_m1 F.slot_str_rstrip F.type_str_rstrip o_rstrip pa pe hst (attr_base k2) k1)
        | split => exact fin (r := RMT G .split) (pe_m1 F.slot_str_split F.type_str_split o_split pa pe hst (attr_base k2) k1)
        | lstrip => exact fin (r := RMT G .lstrip) (pe_m1 F.slot_str_lstrip F.type_str_lstrip o_lstrip pa pe hst (attr_base k2) k1)
      all_goals simp at ok
end
end Ly
namespace Ly
open PySem PySem.Spec L2
open PyProof.Rows hiding St
section
variable {prog : Program} {w : World} {A : Around} {E : Value → Shared → Prop} {s : Shared}
theorem adj_rev (n : Nat) : Builtin.Slice.sliceAdjust none none (-1) (n : Int) = ((n : Int) - 1, -1) := by
  unfold Builtin.Slice.sliceAdjust
  have h1 : ((-1 : Int) < 0) := by omega
  simp only [h1, if_true]
theorem places_rev (n : Nat) : Builtin.Slice.slicePlaces ((n : Int) - 1) (-1) (-1) = n := by
  unfold Builtin.Slice.slicePlaces
  have h1 : ¬ ((-1 : Int) > 0) := by omega
  have h2 : (-(-1 : Int)) = 1 := by decide
  simp only [h1, if_false, h2, Int.ediv_one]
  split <;> omega
theorem pick_rev (xs : Array Value) : ((List.range xs.size).filterMap fun (m : Nat) => xs[(((xs.size : Int) - 1) + (m : Int) * (-1)).toNat]?).toArray = xs.toList.reverse.toArray := by
  refine congrArg List.toArray ?_
  have e : ∀ k, k ≤ xs.size → ((List.range k).filterMap fun (m : Nat) => xs[(((xs.size : Int) - 1) + (m : Int) * (-1)).toNat]?) = xs.toList.reverse.take k := by
    intro k
    induction k with
    | zero => intro _; simp
    | succ k ih =>
      intro hk
      rw [List.range_succ, List.filterMap_append, ih (by omega)]
      have h1 : (((xs.size : Int) - 1) + (k : Int) * (-1)).toNat = xs.size - 1 - k := by omega
      have h2 : k < xs.toList.reverse.length := by simp; omega
      rw [List.take_succ, List.getElem?_eq_getElem h2]
      simp only [List.filterMap_cons, List.filterMap_nil, h1]
      rw [Array.getElem?_eq_getElem (by omega)]
      simp
  rw [e xs.size (Nat.le_refl _), List.take_of_length_le (by simp)]
theorem applied_rev {sl : Addr} {vk : Value} {n : Nat} {Q : Int × Int × Nat → Shared → Prop} (hs : s.heap.IsSliceOf sl .none .none vk) (pk : IsPart vk (some (-1))) (h : Q ((n : Int) - 1, -1, n) s) :
    wpAny (model prog w) A (Builtin.Slice.sliceApplied (.ref sl) (pure (n : Int))) Q E s := by
  obtain ⟨os, hos, hcs, hds⟩ := id hs
  unfold Builtin.Slice.sliceApplied Builtin.Slice.sliceFields
  refine wpAny_bind (wpAny_bind (wpAny_field hos hds (x := .none) rfl (wpAny_bind (wpAny_field hos hds (x := .none) rfl (wpAny_bind (wpAny_field hos hds (x := vk) rfl (wpAny_pure ?_)))))))
  refine wpAny_bind (HT.slicePart_ pk ?_)
  show wpAny _ _ (if ((-1 : Int) == 0) = true then _ else _) _ _ s
  rw [if_neg (by decide)]
  refine wpAny_bind (HT.slicePart_ .none (wpAny_bind (HT.slicePart_ .none (wpAny_bind (wpAny_pure ?_)))))
  show wpAny _ _ (match Builtin.Slice.sliceAdjust none none (-1) (n : Int) with | (lo, hi) => pure (lo, (-1 : Int), Builtin.Slice.slicePlaces lo hi (-1))) _ _ s
  rw [adj_rev]
  show wpAny _ _ (pure ((n : Int) - 1, (-1 : Int), Builtin.Slice.slicePlaces ((n : Int) - 1) (-1) (-1))) _ _ s
  rw [places_rev]
  exact wpAny_pure h
theorem getItem_rev {t sl : Addr} {items : Array Value} {vk : Value} {Q : Value → Shared → Prop} (ht : IsTup s.heap t items) (hs : s.heap.IsSliceOf sl .none .none vk) (pk : IsPart vk (some (-1)))
    (h : Q (.ref s.heap.objs.size) { s with heap := s.heap.push { cls := .type "tuple", data := .seq items.toList.reverse.toArray } }) (hsz : items.size ≤ sizeLine) : wpAny (model prog w) A (getItem (.ref t) (.ref sl)) Q E s := by
  have hz : sizeOk (.seq items.toList.reverse.toArray) := by
    show items.toList.reverse.toArray.size ≤ sizeLine
    simpa using hsz
  obtain ⟨os, hos, hcs, hds⟩ := id hs
  have hTs : s.TypeIs (.ref sl) "slice" := ⟨os, hos, hcs⟩
  unfold getItem
  try with_reducible refine wpAny_holding ?_
  first | refine wpAny_bind (wpAny_pure ?_) | skip
  refine wpAny_bind (wpAny_sequenceKey ht.typeIs (by decide) ?_)
  refine wpAny_bind (wpAny_callSpecial?_slot (name := Str.ofString "__getitem__") ht.typeIs PyProof.Rows.slot_tuple_getitem
    (wpAny_call_entry PyProof.Rows.slot_tuple_getitem ht.typeIs entry_tuple_getitem ?_ (args_tuple_getitem _ _)))
  show wpAny _ _ (Builtin.Tuple.tupleItemsOf (.ref t) >>= _) _ _ s
  refine wpAny_bind (tupleItemsOf_ ht ?_)
  refine wpAny_bind (wpAny_typeOf hTs ?_)
  rw [if_pos (by decide)]
  refine wpAny_bind (applied_rev hs pk ?_)
  have hno : ¬ (((((items.size : Int) - 1 : Int)) == 0 && (-1 : Int) == 1 && items.size == items.size) = true) := by
    intro q
    rw [Bool.and_eq_true, Bool.and_eq_true] at q
    exact absurd q.1.2 (by decide)
  show wpAny _ _ (if ((((items.size : Int) - 1 : Int)) == 0 && (-1 : Int) == 1 && items.size == items.size) = true then _ else _) _ _ s
  rw [if_neg hno, pick_rev]
  first
    | exact wpAny_bind (m := Builtin.Tuple.tupleExact _) (wpAny_newObj_type (wpAny_pure ⟨_, rfl, wpAny_pure h⟩) hz)
    | exact wpAny_bind (m := Builtin.Tuple.tupleExact _) (wpAny_newObj_type (wpAny_bind (wpAny_pure (wpAny_pure ⟨_, rfl, wpAny_pure h⟩))) hz)
    | exact wpAny_bind (wpAny_bind (m := Builtin.Tuple.tupleExact _) (wpAny_newObj_type (wpAny_pure (wpAny_pure ⟨_, rfl, wpAny_pure h⟩)) hz))
    | exact wpAny_bind (wpAny_bind (m := Builtin.Tuple.tupleExact _) (wpAny_newObj_type (wpAny_pure ⟨_, rfl, wpAny_pure h⟩) hz))
end
end Ly
namespace Ly
open PySem PySem.Spec L2
open PyProof.Rows hiding St
/-- e[::-1] of a list or a tuple -/
def tRevA (K : PySem.W.Frag) (te : TE) : TE := fun σ H Q => te σ H fun x H1 => ∃ a xs, x = .ref a ∧ ((SqL K H1 a xs ∧ ∀ p, H1 p = none → Q (.ref p) (upd H1 p (.lst xs.reverse))) ∨ (SqT K H1 a xs ∧ ∀ p, H1 p = none → Q (.ref p) (upd H1 p (.tup xs.reverse))))
theorem pe_revA {X : Cx} {e : Expr} {te : TE} {k : Nat} {p1 p2 p3 pos : Pos} (he : PE X e te) : PE X (.Subscript e (.Slice none none (some (.UnaryOp .USub (.Constant (.int 1) k p1) p2)) p3) pos) (tRevA X.K te) := ⟨fun pins s σ H Q I h => by
  refine Subscript_ (thn (he.run pins s σ H _ I h) fun v s1 ⟨x, H1, I1, r1, a, xs, ex, q⟩ => ?_)
  subst ex
  cases r1
  have hst : PO X (some (.UnaryOp .USub (.Constant (.int 1) k p1) p2)) (tPart (tUn (rU fun i => .int (-i)) (tC (.int 1)))) := po_some (pe_un un_neg pe_int)
  refine wpAny_Slice (thn (po_none.run pins s1 σ H1 (fun o Hx => o = none ∧ Hx = H1) I1 ⟨rfl, rfl⟩) fun vl s2 ⟨_, H2, I2, pl, e1, e2⟩ => ?_)
  subst e1 e2
  refine thn (po_none.run pins s2 σ H2 (fun o Hx => o = none ∧ Hx = H2) I2 ⟨rfl, rfl⟩) fun vu s3 ⟨_, H3, I3, pu, e1, e2⟩ => ?_
  subst e1 e2
  refine thn (hst.run pins s3 σ H3 (fun o Hx => o = some (-1) ∧ Hx = H3) I3 ⟨1, rfl, -1, rfl, rfl, rfl⟩) fun vs s4 ⟨_, H4, I4, ps, e1, e2⟩ => ?_
  subst e1 e2
  cases pl
  cases pu
  have I5 : Inv X pins σ H4 { s4 with heap := s4.heap.push { cls := .type "slice", data := .fields #[.none, .none, vs] } } := I4.kept (t' := s4.toks) fun b ob q => Heap.get?_push_of_some _ q
  show wpAny (model X.prog X.w) X.A (subscriptTail e (.Slice none none (some (.UnaryOp .USub (.Constant (.int 1) k p1) p2)) p3) (.ref a) (.ref s4.heap.objs.size)) (EP X pins σ Q) X.xe { s4 with heap := s4.heap.push { cls := .type "slice", data := .fields #[.none, .none, vs] } }
  rcases q with ⟨hx, q⟩ | ⟨hx, q⟩
  · obtain ⟨its, r, ht, hz⟩ := I5.list hx
    have hlen := r.length
    refine tail_any (ops := [.ref a, .ref s4.heap.objs.size]) ht.isList.typeIs (PySem.slot_list_getitem.lookup) ?_ (by with_unfolding_all rfl)
    refine wpAny_getItem_list_slice ht.isList (Heap.IsSliceOf.new _ .none .none vs) .none .none ps (by decide) ?_ (by rw [List.size_toArray]; omega)
    rw [PySem.W.krv_pick]
    exact ⟨.ref _, _, I5.laid (t' := s4.toks) (o := .lst xs.reverse) (fun b ob q => Heap.get?_push_of_some _ q) (Nat.le_refl _) ⟨by rw [List.length_reverse]; exact hz, _, 0, r.reverse, Heap.get?_push_size _ rfl⟩, rfl, q _ (I5.hok.fresh (Nat.le_refl _))⟩
  · obtain ⟨its, r, ht, hz⟩ := I5.tuple hx
    have hlen := r.length
    refine tail_any (ops := [.ref a, .ref s4.heap.objs.size]) ht.typeIs (PyProof.Rows.slot_tuple_getitem.lookup) ?_ (by with_unfolding_all rfl)
    refine getItem_rev ht (Heap.IsSliceOf.new _ .none .none vs) ps ?_ (by rw [List.size_toArray]; omega)
    exact ⟨.ref _, _, I5.laid (t' := s4.toks) (o := .tup xs.reverse) (fun b ob q => Heap.get?_push_of_some _ q) (Nat.le_refl _) ⟨by rw [List.length_reverse]; exact hz, _, r.reverse, IsTup.new _ _⟩, rfl, q _ (I5.hok.fresh (Nat.le_refl _))⟩⟩
theorem Reps.rev {K : PySem.W.Frag} {F : Hp} {μ : List Addr} : ∀ {ts : List T} {vs : List V}, Reps K F μ ts vs → Reps K F μ ts.reverse vs.reverse
  | [], vs, h => by simp only [Reps] at h; subst h; simp [Reps]
  | t :: ts, vs, h => by
    simp only [Reps] at h
    obtain ⟨v, r, rfl, h1, h2⟩ := h
    rw [List.reverse_cons, List.reverse_cons]
    exact (Reps.rev h2).append (Reps.cons h1 (by simp [Reps]))
section
variable {G : Glo} {tab : Tb} {glo : List (Str × T)} {n k : Nat}
theorem snd_rev {a : Ex} (ha : SndE G tab glo n k a) : SndE G tab glo n k (.rev a) := .val (fun i => by simp) fun X W H₀ e c ok => by
  cases e <;> first | (simp only [okE, Bool.false_eq_true] at ok; done) | skip
  rename_i x y pos
  cases y <;> first | (simp only [okE, Bool.false_eq_true] at ok; done) | skip
  rename_i l h s pos2
  cases l <;> first | (simp only [okE, Bool.false_eq_true] at ok; done) | skip
  cases h <;> first | (simp only [okE, Bool.false_eq_true] at ok; done) | skip
  cases s <;> first | (simp only [okE, Bool.false_eq_true] at ok; done) | skip
  rename_i s
  cases s <;> first | (simp only [okE, Bool.false_eq_true] at ok; done) | skip
  rename_i op u pos3
  cases op <;> first | (simp only [okE, Bool.false_eq_true] at ok; done) | skip
  cases u <;> first | (simp only [okE, Bool.false_eq_true] at ok; done) | skip
  rename_i cc kk pos4
  cases cc <;> first | (simp only [okE, Bool.false_eq_true] at ok; done) | skip
  rename_i i
  have hi : i = 1 := by
    by_cases q : i = 1
    · exact q
    · exfalso
      revert ok
      simp [okE, q]
  subst hi
  simp only [okE] at ok
  refine ⟨?_, fun _ _ _ => rfl, by simp⟩
  refine PE.imp (pe_revA (ha.run X W H₀ _ c ok).2.1) fun σ H Q h => ?_
  obtain ⟨ρ, F, μ, S, en, k, p⟩ := h
  simp only [ev] at p
  refine ⟨ρ, F, μ, S, en, k, p.bind.imp fun v H1 hv => ?_⟩
  obtain ⟨F1, μ1, S1, t, x1, k1, r1, _, p1⟩ := hv
  obtain ⟨u, eu, p2⟩ := p1.of
  have r : Res G F1 H1 μ1 u Q := fun v F' H' x k r => p2 v F' H' μ1 x (k S1 k1) r
  unfold revF at eu
  split at eu
  · cases eu
    obtain ⟨a, vs, rfl, q, z, rs⟩ := r1.tup k1.fh
    exact ⟨a, vs, rfl, .inr ⟨c.hG ▸ q, fun p hp => r.tup k1.fh hp (by rw [List.length_reverse]; exact z) rs.rev⟩⟩
  · cases eu
    obtain ⟨a, vs, rfl, q, z, rs⟩ := r1.lst k1.fh
    exact ⟨a, vs, rfl, .inl ⟨SqL.of q, fun p hp => r.lst k1.fh hp (by rw [List.length_reverse]; exact z) rs.rev⟩⟩
  · cases eu
end
end Ly
namespace Ly
open PySem PySem.Spec L2
open PyProof.Rows hiding St
/-! ### further operations -/
theorem foldl_maxI : ∀ (l : List Int) (n : Int), l.foldl max n = maxI (n :: l)
  | [], n => rfl
  | b :: l, n => by
    rw [List.foldl_cons, foldl_maxI l (max n b)]
    cases l with
    | nil => simp [maxI]
    | cons c l => simp only [maxI]; omega
theorem foldl_minI : ∀ (l : List Int) (n : Int), l.foldl min n = minI (n :: l)
  | [], n => rfl
  | b :: l, n => by
    rw [List.foldl_cons, foldl_minI l (min n b)]
    cases l with
    | nil => simp [minI]
    | cons c l => simp only [minI]; omega
theorem toDs_intsM (l : List Int) : T.toDs (l.map T.int) = l.map PyData.int := by rw [toDs_map, List.map_map]; rfl
theorem deps_intsM : ∀ l : List Int, T.deps (l.map T.int) = 0
  | [] => rfl
  | i :: l => by rw [List.map_cons, T.deps, deps_intsM l]; rfl
theorem ints_all (ns : List Int) : PySem.W.AlikeAll (ns.map PyData.int) := by
  refine ⟨fun x hx y hy => ?_, fun x hx => ?_⟩
  · obtain ⟨a, _, rfl⟩ := List.mem_map.mp hx
    obtain ⟨b, _, rfl⟩ := List.mem_map.mp hy
    rfl
  · obtain ⟨a, _, rfl⟩ := List.mem_map.mp hx
    simp
section
variable {X : Cx} {G : Glo}
/-- max(l, default=k), min(l, default=k), l of numbers -/
def rMx (G : Glo) (f : Int → List Int → Int) : List V → List V → Hp → VK → Prop := fun xs zs H Q => ∃ F μ l ns k, Same F H ∧ RepBs G F H μ [.lst l] xs ∧ zs = [.int k] ∧ allInt l = some ns ∧ Q (.int (f k ns)) H
theorem int_value {u : Value} {i : Int} (h : RelV (V.int i) u) : ∃ t, u = .int i t := h
theorem o_mxd (hc : X.calm = true) (hu : X.A.units + 128 < cLine) (hG : G.K = X.K) : CallRK X (.builtin "max") ["default"] (rMx G maxD0) := by
  intro pins s σ H xs zs us ws Q I rx rz h
  obtain ⟨F, μ, l, ns, k, sf, rb, rfl, hl, q⟩ := h
  obtain ⟨v, rfl, h⟩ := rb.one
  obtain ⟨a, vs, rfl, ql, z, rs⟩ := h.lst sf
  cases rz with
  | cons rk rz =>
    cases rz
    obtain ⟨tk, rfl⟩ := int_value rk
    rw [h_allInt_map hl] at rs
    have D : DpAll X.K H vs (ns.map PyData.int) := by
      rw [← toDs_intsM, ← hG]
      exact Reps.dp sf _ rs (by rw [deps_intsM]; omega)
    obtain ⟨its, rv2, hil, _⟩ := I.list (SqL.of ql)
    obtain ⟨as, R⟩ := Dp.readsAll I _ _ _ D rv2
    rw [Vals.ref1 rx]
    refine PySem.W.max_list_default (I.ok.hd hc) hil.isList (by simpa using R) (ints_all ns) ?_ (fun h0 h' tk' hk => ?_) fun y ys i w h' tk' bs he hw hr hk => ?_
    · have := T.toDs_dep (ns.map T.int)
      rw [toDs_intsM, deps_intsM] at this
      omega
    · have : ns = [] := by simpa using h0
      subst this
      exact ⟨.int k, H, I.kept hk, ⟨tk, rfl⟩, q⟩
    · cases ns with
      | nil => cases he
      | cons n ns =>
        simp only [List.map_cons, List.cons.injEq] at he
        obtain ⟨rfl, rfl⟩ := he
        rw [PySem.W.maxD_ints, foldl_maxI] at hr
        cases hr
        exact ⟨.int _, H, I.kept hk, ⟨_, rfl⟩, q⟩
theorem o_mnd (hc : X.calm = true) (hu : X.A.units + 128 < cLine) (hG : G.K = X.K) : CallRK X (.builtin "min") ["default"] (rMx G minD0) := by
  intro pins s σ H xs zs us ws Q I rx rz h
  obtain ⟨F, μ, l, ns, k, sf, rb, rfl, hl, q⟩ := h
  obtain ⟨v, rfl, h⟩ := rb.one
  obtain ⟨a, vs, rfl, ql, z, rs⟩ := h.lst sf
  cases rz with
  | cons rk rz =>
    cases rz
    obtain ⟨tk, rfl⟩ := int_value rk
    rw [h_allInt_map hl] at rs
    have D : DpAll X.K H vs (ns.map PyData.int) := by
      rw [← toDs_intsM, ← hG]
      exact Reps.dp sf _ rs (by rw [deps_intsM]; omega)
    obtain ⟨its, rv2, hil, _⟩ := I.list (SqL.of ql)
    obtain ⟨as, R⟩ := Dp.readsAll I _ _ _ D rv2
    rw [Vals.ref1 rx]
    refine PySem.W.min_list_default (I.ok.hd hc) hil.isList (by simpa using R) (ints_all ns) ?_ (fun h0 h' tk' hk => ?_) fun y ys i w h' tk' bs he hw hr hk => ?_
    · have := T.toDs_dep (ns.map T.int)
      rw [toDs_intsM, deps_intsM] at this
      omega
    · have : ns = [] := by simpa using h0
      subst this
      exact ⟨.int k, H, I.kept hk, ⟨tk, rfl⟩, q⟩
    · cases ns with
      | nil => cases he
      | cons n ns =>
        simp only [List.map_cons, List.cons.injEq] at he
        obtain ⟨rfl, rfl⟩ := he
        rw [PySem.W.minD_ints, foldl_minI] at hr
        cases hr
        exact ⟨.int _, H, I.kept hk, ⟨_, rfl⟩, q⟩
/-- int(a truth) -/
theorem o_toI : CallR X (.type "int") (fun xs H Q => ∃ b, xs = [.bl b] ∧ Q (.int (if b then 1 else 0)) H) := fun pins s σ H xs us Q I rv h => by
  obtain ⟨b, rfl, q⟩ := h
  exact call_int1 pins s σ H _ us Q I rv (.inr ⟨b, rfl, q⟩)
/-- len(set(l)), l of numbers -/
def tLenS (G : Glo) (ta : TE) : TE := fun σ H Q => ta σ H fun x H1 => ∃ F μ l ns, Same F H1 ∧ RepB G F H1 μ (.lst l) x ∧ allInt l = some ns ∧ ns.length + 1 < scanBound ∧ Q (.int (unlike ns : Nat)) H1
theorem pe_lenS {a : Expr} {ta : TE} {p p2 q pos : Pos} (hc : X.calm = true) (hG : G.K = X.K) (hg : Gl X "len") (hm : X.mg "len" = none) (hg2 : Gl X "set") (hm2 : X.mg "set" = none) (ha : PE X a ta)
    (na : starEach [a] X.env = (false, eval a X.env) :: starEach [] X.env) : PE X (.Call (.Name "len" p) [.Call (.Name "set" p2) [a] [] q] [] pos) (tLenS G ta) := by
  refine ⟨fun pins s σ H Q I h => ?_⟩
  refine Call_ (ld_blt I hg hm PySem.boot_len ?_)
  refine PyProof.Rows.callWith_builtin1 (PyProof.Rows.args_cons ?_ rfl) rfl rfl
  refine Call_ (ld_blt I hg2 hm2 PyProof.Rows.boot_set ?_)
  refine PyProof.Rows.callWith_type1 (PyProof.Rows.args_cons (thn (ha.run pins s σ H _ I h) fun v s1 ⟨x, H1, I1, r1, q1⟩ => PyProof.Rows.args_nil ?_) na) na rfl
  obtain ⟨F, μ, l, ns, sf, rb, hl, hb, q1⟩ := q1
  obtain ⟨a, vs, rfl, ql, z, rs⟩ := rb.lst sf
  cases r1
  rw [h_allInt_map hl] at rs
  rw [rs.ints] at ql
  obtain ⟨its, r, pl, hz⟩ := I1.list (SqL.of ql)
  have hlen : its.toArray.size = ns.length := by rw [List.size_toArray, ← r.length, List.length_map]
  refine call_set_list (I1.ok.hd hc) pl.isList (ns := ns) (by simpa using r.ints) (by rw [hlen]; exact hb) fun h' tk hS hk => ?_
  rw [hlen] at hS
  refine PyProof.Rows.args_nil ?_
  have hle : (firstMet (fun i => ns.getD i 0) ns.length).length ≤ ns.length := firstMet_length_le _ _
  have h4 : scanBound = 4096 := rfl
  obtain ⟨o, es, ep, t, ho, hex, hd, _, _, _, hf, hn⟩ := hS
  have I2 : Inv X pins σ H1 { s1 with heap := h', toks := tk } := I1.kept fun b o e => hk b o (Heap.lt_size e) e
  exact call_len_set ho hex hd hf (by rw [hn]; omega) ⟨.int (unlike ns : Nat), H1, I2.tok _, ⟨_, by rw [hn]; rfl⟩, q1⟩
end
section
variable {X : Cx} {G : Glo}
/-! sorted -/
theorem each_rep {K : PySem.W.Frag} {F : Hp} {μ : List Addr} : ∀ {l : List T} {vs : List V} {us : List Value}, Reps K F μ l vs → Vals vs us → PySem.W.EachIs (fun u t => ∃ w, RelV w u ∧ Rep K F μ t w) us l
  | [], _, _, h, r => by
    simp only [Reps] at h
    subst h
    cases r
    exact .nil
  | t :: l, _, _, h, r => by
    simp only [Reps] at h
    obtain ⟨v, vs, rfl, h1, h2⟩ := h
    cases r with
    | cons r1 r2 => exact .cons ⟨v, r1, h1⟩ (each_rep h2 r2)
theorem rep_each {K : PySem.W.Frag} {F : Hp} {μ : List Addr} : ∀ {l : List T} {us : List Value}, PySem.W.EachIs (fun u t => ∃ w, RelV w u ∧ Rep K F μ t w) us l → ∃ vs, Reps K F μ l vs ∧ Vals vs us
  | _, _, .nil => ⟨[], by simp [Reps], .nil⟩
  | _, _, .cons ⟨w, r, h⟩ e => by
    obtain ⟨vs, a, b⟩ := rep_each e
    exact ⟨w :: vs, Reps.cons h a, .cons r b⟩
theorem each_reads {h : Heap} : ∀ {l : List T} {us : List Value} {as : List Addr}, ReadsAll h us (l.map T.toD) as → PySem.W.EachIs (fun u t => ∃ as, Reads h u (T.toD t) as) us l
  | [], _, _, .nil => .nil
  | _ :: l, _, _, .cons r rs => .cons ⟨_, r⟩ (each_reads rs)
theorem sortable_ok {l : List T} (al : alikeL l = true) (h : sortableL l = true) : PySem.W.Sortable (l.map T.toD) := by
  obtain ⟨_, h2, h3⟩ := alikeL_parts al
  simp only [sortableL, Bool.or_eq_true, List.all_eq_true] at h
  rcases h with h | h
  · refine .inl fun d hd => ?_
    obtain ⟨t, ht, rfl⟩ := List.mem_map.mp hd
    have := h t ht
    revert this
    cases t with
    | tup xs =>
      cases xs with
      | nil => simp
      | cons x r => exact fun _ => ⟨x.toD, T.toDs r, rfl⟩
    | _ => simp
  · refine .inr fun d hd => ?_
    obtain ⟨t, ht, rfl⟩ := List.mem_map.mp hd
    have := h t ht
    refine ⟨toD_ne (h3 t ht) (by have := h2 t ht; omega), fun xs e => ?_⟩
    revert this e
    cases t <;> simp [T.toD]
theorem o_srt (hu : X.A.units + 128 < cLine) (hG : G.K = X.K) : CallR X (.builtin "sorted") (fun xs H Q => ∃ F μ l, Same F H ∧ RepBs G F H μ [.lst l] xs ∧ alikeL l = true ∧ sortableL l = true ∧
    ∀ p vs, H p = none → Reps G.K F μ (l.mergeSort fun a b => PySem.W.dataLe false T.toD a b) vs → Q (.ref p) (upd H p (.lst vs))) := by
  intro pins s σ H xs us Q I rx h
  obtain ⟨F, μ, l, sf, rb, al, so, q⟩ := h
  obtain ⟨v, rfl, h⟩ := rb.one
  obtain ⟨a, vs, rfl, ql, z, rs⟩ := h.lst sf
  obtain ⟨_, h2, _⟩ := alikeL_parts al
  have dp := h_deps_of h2
  have D : DpAll X.K H vs (l.map T.toD) := by
    rw [← toDs_map, ← hG]
    exact Reps.dp sf _ rs (by omega)
  obtain ⟨its, rv2, hil, hz⟩ := I.list (SqL.of ql)
  obtain ⟨as, R⟩ := Dp.readsAll I _ _ _ D rv2
  rw [Vals.ref1 rx]
  refine PySem.W.sorted_data (enc := T.toD) (R := fun u t => ∃ w, RelV w u ∧ Rep G.K F μ t w) hil.isList (each_rep rs rv2) (each_reads R) (alikeL_all al).1 (sortable_ok al so) z (fun t ht => ?_) fun out ho eo => ?_
  · have := T.toD_dep t
    have := h2 t ht
    omega
  · obtain ⟨ws, r1, r2⟩ := rep_each eo
    obtain ⟨ep, he'⟩ := PyProof.Rows.sortedAll_at s.heap its out.toArray
    have hlen : ws.length ≤ sizeLine := by
      rw [r1.length, List.length_mergeSort]
      exact z
    exact ⟨.ref _, upd H (s.heap.objs.size + 1) (.lst ws), I.laid (t' := s.toks) (fun _ _ => PyProof.Rows.sortedAll_old) (Nat.le_succ _) ⟨hlen, out, ep, r2, he'⟩, rfl, q _ ws (I.hok.fresh (Nat.le_succ _)) r1⟩
end
section
variable {tab : Tb} {glo : List (Str × T)} {G : Glo} {n k : Nat}
theorem PostO.opO {α β : Type} {G : Glo} {F H : Hp} {μ : List Addr} {E : Nat → Hp → Prop} {R : Hp → Hp → List Addr → T → β → Prop} {Q : β → Hp → Prop} {S : Store} {o : Option (T × Store)} (h : PostO G F H μ E R Q (opO S o)) : ∃ t S', o = some (t, S') ∧ PostO G F H μ E R Q (.ok t S') := by
  cases o with
  | none => exact h.elim
  | some p => exact ⟨p.1, p.2, rfl, h⟩
theorem ev_op1 (c : Call) (o : Op) (E : Ex) (ρ : Lenv) (S : Store) : ev c (.op o (.cons E .nil)) ρ S = (bor ρ E S (ev c E ρ S)).bind fun x S1 => opO S1 (opF o [x] S1) := by
  simp only [ev, evb]
  cases bor ρ E S (ev c E ρ S) <;> rfl
theorem okEs_one {N : List Str} {sc : Scope} {Es : Exs} {y : Expr} (h : okEs tab glo N sc Es [y] = true) : ∃ E, Es = .cons E .nil ∧ okE tab glo N sc E y = true := by
  match Es, h with
  | .cons E .nil, h => simp only [okEs, Bool.and_true] at h; exact ⟨E, rfl, h⟩
  | .nil, h => simp [okEs] at h
  | .cons _ (.cons _ _), h => simp [okEs] at h
theorem RepBs.mk1 {F H : Hp} {μ : List Addr} {t : T} {v : V} (h : RepB G F H μ t v) : RepBs G F H μ [t] [v] := by
  simp only [RepBs]
  exact ⟨v, [], rfl, h, rfl⟩
theorem fresh_back {F H F1 H1 : Hp} {μ μ1 : List Addr} (x : Ext F H μ F1 H1 μ1) {q : Addr} (hq : H1 q = none) : H q = none := by
  cases z : H q with
  | none => rfl
  | some u =>
    obtain ⟨u', e⟩ := x.hs q u z
    rw [hq] at e; cases e
theorem snd_op (o : Op) {Es : Exs} (M : ∀ E ∈ Es.toL, SndE G tab glo n k E) : SndE G tab glo n k (.op o Es) := .val (fun i => by simp) fun X W H₀ e c ok => by
  simp only [okE, Bool.and_eq_true] at ok
  obtain ⟨⟨k1, k2⟩, ok⟩ := ok
  cases hq : okOp X.env.scope o e with
  | none => rw [hq] at ok; cases ok
  | some xs =>
    rw [hq] at ok
    simp only at ok
    unfold okOp at hq
    split at hq
    · split at hq
      · rename_i hc
        cases hq
        simp only [Bool.and_eq_true, decide_eq_true_eq, beq_iff_eq] at hc
        obtain ⟨⟨⟨rfl, hg⟩, rfl⟩, rfl⟩ := hc
        obtain ⟨E, rfl, ok1⟩ := okEs_one ok
        replace ok := ok1
        have pe := ((M E (by simp [Exs.toL])).run X W H₀ _ c ok).2.1
        have hs : ∀ y, plainX y = true → starEach (y :: []) X.env = (false, eval y X.env) :: starEach [] X.env := fun y h => star_cons h
        have hs := hs _ (okE_plain ok)
        refine ⟨PE.imp (pe_callBK (o_mxd (G := G) c.calm c.hu c.hG) (gloB_ok hg) (c.blt _ (by simp [bltNames])) PyProof.Rows.boot_max (pa_cons pe pa_nil hs) (pk_cons pe_int pk_nil) (by decide +kernel) (by decide +kernel) (by rw [hs]; rfl) (by rw [hs]; rfl)) fun σ H Q q => ?_, fun _ _ _ => rfl, by simp⟩
        obtain ⟨ρ, F, μ, S, en, kk, p⟩ := q
        dsimp only at p
        rw [ev_op1] at p
        refine ⟨ρ, F, μ, S, en, kk, p.bind.imp fun v H1 hv => ?_⟩
        obtain ⟨F1, μ1, S1, t, x1, k1, r1, _, p1⟩ := hv
        obtain ⟨u, S2, eu, p2⟩ := PostO.opO (α := T) p1
        cases t <;> simp only [opF, reduceCtorEq] at eu
        rename_i l _
        simp only [Option.map_eq_some_iff, Prod.mk.injEq] at eu
        obtain ⟨ns, hl, rfl, rfl⟩ := eu
        exact ⟨F1, μ1, l, ns, _, k1.fh, RepBs.mk1 r1, rfl, hl, p2 _ F1 H1 μ1 .refl k1 Rep.int'⟩
      · cases hq
    · split at hq
      · rename_i hc
        cases hq
        simp only [Bool.and_eq_true, decide_eq_true_eq, beq_iff_eq] at hc
        obtain ⟨⟨⟨rfl, hg⟩, rfl⟩, rfl⟩ := hc
        obtain ⟨E, rfl, ok1⟩ := okEs_one ok
        replace ok := ok1
        have pe := ((M E (by simp [Exs.toL])).run X W H₀ _ c ok).2.1
        have hs : ∀ y, plainX y = true → starEach (y :: []) X.env = (false, eval y X.env) :: starEach [] X.env := fun y h => star_cons h
        have hs := hs _ (okE_plain ok)
        refine ⟨PE.imp (pe_callBK (o_mnd (G := G) c.calm c.hu c.hG) (gloB_ok hg) (c.blt _ (by simp [bltNames])) PyProof.Rows.boot_min (pa_cons pe pa_nil hs) (pk_cons pe_int pk_nil) (by decide +kernel) (by decide +kernel) (by rw [hs]; rfl) (by rw [hs]; rfl)) fun σ H Q q => ?_, fun _ _ _ => rfl, by simp⟩
        obtain ⟨ρ, F, μ, S, en, kk, p⟩ := q
        dsimp only at p
        rw [ev_op1] at p
        refine ⟨ρ, F, μ, S, en, kk, p.bind.imp fun v H1 hv => ?_⟩
        obtain ⟨F1, μ1, S1, t, x1, k1, r1, _, p1⟩ := hv
        obtain ⟨u, S2, eu, p2⟩ := PostO.opO (α := T) p1
        cases t <;> simp only [opF, reduceCtorEq] at eu
        rename_i l _
        simp only [Option.map_eq_some_iff, Prod.mk.injEq] at eu
        obtain ⟨ns, hl, rfl, rfl⟩ := eu
        exact ⟨F1, μ1, l, ns, _, k1.fh, RepBs.mk1 r1, rfl, hl, p2 _ F1 H1 μ1 .refl k1 Rep.int'⟩
      · cases hq
    · split at hq
      · rename_i hc
        cases hq
        simp only [Bool.and_eq_true, decide_eq_true_eq] at hc
        obtain ⟨rfl, hg⟩ := hc
        obtain ⟨E, rfl, ok1⟩ := okEs_one ok
        replace ok := ok1
        have pe := ((M E (by simp [Exs.toL])).run X W H₀ _ c ok).2.1
        have hs := star_cons (es := []) (env := X.env) (okE_plain ok)
        refine ⟨PE.imp (pe_callB (o_srt (G := G) c.hu c.hG) (gloB_ok hg) (c.blt _ (by simp [bltNames])) PyProof.Rows.boot_sorted (pa_cons pe pa_nil hs) (by decide +kernel) (by decide +kernel) hs rfl) fun σ H Q q => ?_, fun _ _ _ => rfl, by simp⟩
        obtain ⟨ρ, F, μ, S, en, kk, p⟩ := q
        dsimp only at p
        rw [ev_op1] at p
        refine ⟨ρ, F, μ, S, en, kk, p.bind.imp fun v H1 hv => ?_⟩
        obtain ⟨F1, μ1, S1, t, x1, k1, r1, _, p1⟩ := hv
        obtain ⟨u, S2, eu, p2⟩ := PostO.opO (α := T) p1
        cases t <;> simp only [opF, reduceCtorEq] at eu
        rename_i l _
        split at eu
        · rename_i hal
          simp only [Bool.and_eq_true] at hal
          cases eu
          refine ⟨F1, μ1, l, k1.fh, RepBs.mk1 r1, hal.1, hal.2, fun q vs hq rs => ?_⟩
          have : Res G F1 H1 μ1 (.lst (l.mergeSort fun a b => PySem.W.dataLe false T.toD a b)) Q := fun v F' H' x k r => p2 v F' H' μ1 x (k _ k1) r
          obtain ⟨a, vs0, rfl, ql, z, _⟩ := r1.lst k1.fh
          exact this.lst k1.fh hq (by rw [List.length_mergeSort]; exact z) rs
        · cases eu
      · cases hq
    · split at hq
      · rename_i hc
        cases hq
        simp only [Bool.and_eq_true, decide_eq_true_eq] at hc
        obtain ⟨⟨⟨rfl, hg⟩, rfl⟩, hg2⟩ := hc
        obtain ⟨E, rfl, ok1⟩ := okEs_one ok
        replace ok := ok1
        have pe := ((M E (by simp [Exs.toL])).run X W H₀ _ c ok).2.1
        have hs := star_cons (es := []) (env := X.env) (okE_plain ok)
        refine ⟨PE.imp (pe_lenS c.calm c.hG (gloB_ok hg) (c.blt _ (by simp [bltNames])) (gloB_ok hg2) (c.blt _ (by simp [bltNames])) pe hs) fun σ H Q q => ?_, fun _ _ _ => rfl, by simp⟩
        obtain ⟨ρ, F, μ, S, en, kk, p⟩ := q
        dsimp only at p
        rw [ev_op1] at p
        refine ⟨ρ, F, μ, S, en, kk, p.bind.imp fun v H1 hv => ?_⟩
        obtain ⟨F1, μ1, S1, t, x1, k1, r1, _, p1⟩ := hv
        obtain ⟨u, S2, eu, p2⟩ := PostO.opO (α := T) p1
        cases t <;> simp only [opF, reduceCtorEq] at eu
        rename_i l _
        simp only [Option.bind_eq_some_iff] at eu
        obtain ⟨ns, hl, eu⟩ := eu
        split at eu
        · cases eu
          exact ⟨F1, μ1, l, ns, k1.fh, r1, hl, ‹_›, p2 _ F1 H1 μ1 .refl k1 Rep.int'⟩
        · cases eu
      · cases hq
    · split at hq
      · rename_i hc
        cases hq
        simp only [Bool.and_eq_true, decide_eq_true_eq] at hc
        obtain ⟨rfl, hg⟩ := hc
        obtain ⟨E, rfl, ok1⟩ := okEs_one ok
        replace ok := ok1
        have pe := ((M E (by simp [Exs.toL])).run X W H₀ _ c ok).2.1
        have hs := star_cons (es := []) (env := X.env) (okE_plain ok)
        refine ⟨PE.imp (pe_callTy o_toI (gloB_ok hg) (c.blt _ (by simp [bltNames])) PyProof.Rows.boot_int (pa_cons pe pa_nil hs) (by decide +kernel) (by decide +kernel) hs rfl) fun σ H Q q => ?_, fun _ _ _ => rfl, by simp⟩
        obtain ⟨ρ, F, μ, S, en, kk, p⟩ := q
        dsimp only at p
        rw [ev_op1] at p
        refine ⟨ρ, F, μ, S, en, kk, p.bind.imp fun v H1 hv => ?_⟩
        obtain ⟨F1, μ1, S1, t, x1, k1, r1, _, p1⟩ := hv
        obtain ⟨u, S2, eu, p2⟩ := PostO.opO (α := T) p1
        cases t <;> simp only [opF, reduceCtorEq] at eu
        cases eu
        have := r1.bl
        subst this
        exact ⟨_, rfl, p2 _ F1 H1 μ1 .refl k1 Rep.int'⟩
      · cases hq
    · cases hq
end
end Ly
namespace Ly
open PySem PySem.Spec L2
open PyProof.Rows hiding St
section
variable {G : Glo} {tab : Tb} {glo : List (Str × T)} {n k : Nat}
theorem srcArgs_call {sc : Scope} {kk : SK} {e : Expr} {es : List Expr} (h : srcArgs sc kk e = some es) (hk : kk ≠ .val) : ∃ x p pos, e = .Call (.Name x p) es [] pos ∧ x = srcName kk ∧ gloB sc x = true ∧ srcLen kk es = true := by
  unfold srcArgs at h
  split at h
  · exact absurd rfl hk
  · split at h
    · rename_i hh
      simp only [Bool.and_eq_true, decide_eq_true_eq] at hh
      cases h
      exact ⟨_, _, _, rfl, hh.1.1, hh.1.2, hh.2⟩
    · cases h
  · cases h
theorem src_ok {Es : Exs} (h : SndA G tab glo n k Es) (h1 : ∀ E, Es = .cons E .nil → SndE G tab glo n k E) (kk : SK) : SrcOk G tab glo n k kk Es := fun X W H₀ g e c ⟨es, ha, ok⟩ ⟨hp, ht⟩ => by
  cases kk with
  | val =>
    simp only [srcArgs, Option.some.injEq] at ha
    subst ha
    match Es, ok with
    | .cons E .nil, ok =>
      simp only [okEs, Bool.and_true] at ok
      have r := (h1 E rfl).run X W H₀ e c ok
      refine ⟨PI.imp (src_val c (o := fun ρ S => bor ρ E S (ev (callF tab.l n) E ρ S)) true (by simpa using r.2.1)) fun σ H R q => ?_, PI.imp (src_val c (o := fun ρ S => ev (callF tab.l n) E ρ S) false (by simpa using r.1)) fun σ H R q => ?_⟩
      · simpa only [evb, Out.bind] using q
      · simpa only [evs, Out.bind] using q
    | .nil, ok => simp [okEs] at ok
    | .cons E (.cons _ _), ok => simp [okEs] at ok
  | rng =>
    obtain ⟨x, p, pos, rfl, rfl, hg, hl⟩ := srcArgs_call ha (by simp)
    have r := h.run X W H₀ es c ok
    have hl : es.length = 1 ∨ es.length = 2 ∨ es.length = 3 := by simpa [srcLen, or_assoc] using hl
    exact ⟨src_rng c true (by simpa using r.2) (okEs_plain ok) hg (fun ρ S l S' q => evb_len ok q) hl, src_rng c false (by simpa using r.1) (okEs_plain ok) hg (fun ρ S l S' q => evs_len ok q) hl⟩
  | enm =>
    obtain ⟨x, p, pos, rfl, rfl, hg, hl⟩ := srcArgs_call ha (by simp)
    obtain ⟨gs, gk, gp, rfl⟩ := ht (.inl rfl)
    have r := h.run X W H₀ es c ok
    have hl : es.length = 1 := by simpa [srcLen] using hl
    exact ⟨src_en c true (by simpa using r.2) (okEs_plain ok) hg (fun ρ S l S' q => evb_len ok q) hl, src_en c false (by simpa using r.1) (okEs_plain ok) hg (fun ρ S l S' q => evs_len ok q) hl⟩
  | zip =>
    obtain ⟨x, p, pos, rfl, rfl, hg, hl⟩ := srcArgs_call ha (by simp)
    obtain ⟨gs, gk, gp, rfl⟩ := ht (.inr rfl)
    have r := h.run X W H₀ es c ok
    have hl : es.length = 2 := by simpa [srcLen] using hl
    exact ⟨src_zp c true (by simpa using r.2) (okEs_plain ok) hg (fun ρ S l S' q => evb_len ok q) hl, src_zp c false (by simpa using r.1) (okEs_plain ok) hg (fun ρ S l S' q => evs_len ok q) hl⟩
  | rev =>
    obtain ⟨x, p, pos, rfl, rfl, hg, hl⟩ := srcArgs_call ha (by simp)
    simp [srcLen] at hl
theorem toL_one {P : Ex → Prop} {Es : Exs} (h : ∀ e ∈ Es.toL, P e) : ∀ e, Es = .cons e .nil → P e := fun e q => h e (by rw [q]; simp [Exs.toL])
mutual
theorem snd : ∀ E : Ex, SndE G tab glo n k E
  | .lit t => snd_lit t
  | .glb x t => snd_glb x t
  | .var i => snd_var i
  | .bor i => snd_bor i
  | .bin o a b => snd_bin o (snd a) (snd b)
  | .neg i => snd_neg i
  | .cmp o a b => snd_cmp o (snd a) (snd b)
  | .chn o o' a b d => snd_chn o o' (snd a) (snd b) (snd d)
  | .and a b => snd_and (snd a) (snd b)
  | .or a b => snd_or (snd a) (snd b)
  | .one a => snd_one (snd a)
  | .not a => snd_not (snd a)
  | .ife d a b => snd_ife (snd d) (snd a) (snd b)
  | .tup es => snd_tup (snds es).1
  | .lst es => snd_lst (snds es).1
  | .sub a i => snd_sub (snd a) (snd i)
  | .slc a lo hi => snd_slc (snd a) (snd lo) (snd hi)
  | .nop => snd_nop
  | .call f es => snd_call f (snds es).1
  | .bi b es => snd_bi b (snds es).1 (toL_one (snds es).2)
  | .mth m a es => snd_mth m (snd a) (toL_one (snds es).2)
  | .isIS a => snd_isIS (snd a)
  | .rev a => snd_rev (snd a)
  | .op o es => snd_op o (snds es).2
  | .lc elt tg kk src cond => snd_lc (snd elt) (toL_one (snds cond).2) (src_ok (snds src).1 (toL_one (snds src).2) kk)
theorem snds : ∀ Es : Exs, SndA G tab glo n k Es ∧ ∀ e ∈ Es.toL, SndE G tab glo n k e
  | .nil => ⟨snd_nil, fun e h => by simp [Exs.toL] at h⟩
  | .cons e es => ⟨snd_cons (snd e) (snds es).1, fun e' h => by
    have h1 := snd e
    have h2 := (snds es).2
    simp only [Exs.toL, List.mem_cons] at h
    rcases h with rfl | h
    · exact h1
    · exact h2 e' h⟩
end
theorem sndAll : Snd G tab glo n k := ⟨snd, fun E => (snds E).1, fun kk src => src_ok (snds src).1 (toL_one (snds src).2) kk⟩
end
end Ly
namespace Ly
open PySem PySem.Spec L2
open PyProof.Rows hiding St
section
variable {G : Glo} {tab : Tb} {glo : List (Str × T)} {exn : List Str} {n k : Nat} {X : Cx} {Z : At0}
/-- but for one cell -/
def hide (H : Hp) (a : Addr) : Hp := fun b => if b = a then none else H b
theorem hide_ne {H : Hp} {a b : Addr} (h : b ≠ a) : hide H a b = H b := if_neg h
theorem hide_some {H : Hp} {a b : Addr} {u : HO} (h : hide H a b = some u) : b ≠ a ∧ H b = some u := by
  unfold hide at h
  split at h
  · cases h
  · exact ⟨‹_›, h⟩
theorem Ext.hideL {F H F' H' : Hp} {μ μ' : List Addr} {a : Addr} (x : Ext F H μ F' H' μ') : Ext F (hide H a) μ F' H' μ' where
  ff := x.ff
  hh := fun b u e m => x.hh b u (hide_some e).2 m
  hs := fun b u e => x.hs b u (hide_some e).2
  nf := fun b u e m => x.nf b u (hide_some e).2 m
  mm := x.mm
  nw := fun b m1 m2 => by
    by_cases q : b = a
    · exact if_pos q
    · rw [hide_ne q]; exact x.nw b m1 m2
theorem Ext.hideR {F H F' H' : Hp} {μ μ' : List Addr} {a : Addr} (x : Ext F H μ F' H' μ') (h : H a = none) : Ext F H μ F' (hide H' a) μ' where
  ff := x.ff
  hh := fun b u e m => by
    have : b ≠ a := fun q => by rw [q, h] at e; cases e
    rw [hide_ne this]; exact x.hh b u e m
  hs := fun b u e => by
    have : b ≠ a := fun q => by rw [q, h] at e; cases e
    rw [hide_ne this]; exact x.hs b u e
  nf := x.nf
  mm := x.mm
  nw := x.nw
theorem EnvR.hide {H₀ F H : Hp} {μ : List Addr} {ρ : Lenv} {σ : St} {i : Nat} {l : List T} {a : Addr} (e : EnvR G H₀ F H μ ρ σ) (hl : ρ[i]? = some (Sl.own l)) (ha : σ[i]? = some (some (.ref a))) : EnvR G H₀ F (hide H a) μ (ρ.set i .un) σ := by
  have u := e.un1 i
  have hi : i < ρ.length := (List.getElem?_eq_some_iff.mp hl).1
  refine ⟨u.len, u.val, fun j m h => ?_, u.ne⟩
  obtain ⟨b, vs, h1, h2, h3, h4, h5, h6, h7⟩ := u.own j m h
  have : b ≠ a := fun q => by
    subst q
    by_cases hj : i = j
    · subst hj; rw [List.getElem?_set_self hi] at h; cases h
    · rw [List.getElem?_set_ne hj] at h
      exact hj (e.ne i j l m hl h (by rw [ha, h1]))
  exact ⟨b, vs, h1, by rw [hide_ne this]; exact h2, h3, h4, h5, h6, h7⟩
theorem Ext.setN {F H F' H' : Hp} {μ μ' : List Addr} {b : Addr} {u : HO} (x : Ext F H μ F' H' μ') (h : H b = none) : Ext F H μ F' (upd H' b u) μ' where
  ff := x.ff
  hh := fun c w e m => by
    have : c ≠ b := fun q => by rw [q, h] at e; cases e
    rw [upd_ne this]; exact x.hh c w e m
  hs := fun c w e => by
    have : c ≠ b := fun q => by rw [q, h] at e; cases e
    rw [upd_ne this]; exact x.hs c w e
  nf := x.nf
  mm := x.mm
  nw := x.nw
theorem ps_retPop_of (C : CxtS G tab glo exn n k X Z) (Sd : Snd G tab glo n k) {w src : Ex} {v i : Nat} {ew cc g it : Expr} {ln : Str} {kt : Nat} {j1 j2 : Nat} {pt p1 p2 p3 p4 p5 p6 p7 p8 apos cpos pos : Pos} {scope : Scope}
    (k3 : gloB X.env.scope "tuple" = true) (k5 : okE tab glo X.N X.env.scope w ew = true) (k6 : okE tab glo X.N X.env.scope src it = true) (k7 : okT X.N (relS scope X.env.scope) (.nm v) g = true) (k8 : okT X.N scope (.nm v) g = true) (k9 : blkC X.N X.env.scope scope ((Tg.nm v).own X.N) = true)
    (k10 : okE tab glo X.N (relS scope X.env.scope) (.cmp .is (.var v) (.lit .non)) cc = true) (k11 : noIf cc = true) (k12 : X.N[i]? = some ln) (k13 : visB (relS scope X.env.scope) ln = true) (k14 : ln ≠ "__debug__") (k15 : ln ≠ "__classdict__") (k17 : (apos.endLine == cpos.line) = true) (k18 : v ≠ i) :
    PS X (.Return (some (.BinOp (.Tuple [ew] kt pt) .Add (.Call (.Name "tuple" p1) [.ListComp (.IfExp cc (.Constant .none j1 p2) (.Call (.Attribute (.Name ln p3) "pop" apos) [.Constant (.int 0) j2 p4] [] cpos) p5) [⟨g, it, [], 0⟩] scope p6] [] p7) p8)) pos) (tS G Z (ex (callF tab.l n) (.retPop w v i src))) := by
  have c := C.c
  have pw := pe_tup (x1 := kt) (pos := pt) (pa_cons ((Sd.e w).run X Z.W Z.H₀ ew c k5).1 pa_nil (star_cons (okE_plain k5)))
  have hsrc : ∃ es, srcArgs X.env.scope .val it = some es ∧ okEs tab glo X.N X.env.scope (.cons src .nil) es = true := ⟨[it], rfl, by simp [okEs, k6]⟩
  have hi := (Sd.s .val (.cons src .nil) X Z.W Z.H₀ g it c hsrc ⟨okE_plain k6, fun h => by rcases h with h | h <;> cases h⟩).2
  have cb := fun s H cenv fp => c.blk s H scope cenv fp
  have hg : ∀ (s : Shared) (H : Hp) (C : Addr) (cl : List (Str × Addr)) (fp : List Addr), PG (X.blk s H scope (compEnvC scope cl C X.env) fp) g (gOf G Z.H₀ (.nm v)) := fun s H C cl fp =>
    snd_tg (X := X.blk s H scope (compEnvC scope cl C X.env) fp) c.hG c.calm c.nd scope fnLoc_blk (.nm v) g k7 k8
  have hel : ∀ (s : Shared) (H : Hp) (C : Addr) (cl : List (Str × Addr)) (fp : List Addr), PE (X.blk s H scope (compEnvC scope cl C X.env) fp) (.IfExp cc (.Constant .none j1 p2) (.Call (.Attribute (.Name ln p3) "pop" apos) [.Constant (.int 0) j2 p4] [] cpos) p5)
      (tIf (tT G Z.H₀ (fun _ _ _ _ => False) fun ρ S => bor ρ (.cmp .is (.var v) (.lit .non)) S (ev (callF tab.l n) (.cmp .is (.var v) (.lit .non)) ρ S)) (tC .non) (tBM X.K "list" rPopAt (tVar i) (tCons (tC (.int 0)) tNil))) := fun (s : Shared) (H : Hp) (C : Addr) (cl : List (Str × Addr)) (fp : List Addr) =>
    pe_ifExp (pos := p5) (((Sd.e (.cmp .is (.var v) (.lit .non))).run (X.blk s H scope (compEnvC scope cl C X.env) fp) (fun _ _ _ _ => False) Z.H₀ cc (cb s H (compEnvC scope cl C X.env) fp) k10).2.2.1 k11)
      (pe_non (X := X.blk s H scope (compEnvC scope cl C X.env) fp) (j := j1) (pos := p2))
      (pe_bm (X := X.blk s H scope (compEnvC scope cl C X.env) fp) (cpos := cpos) PySem.F.plainAttrs_list PySem.F.slot_list_pop PySem.F.type_list_pop mt_popAt (pe_var (pos := p3) k12 (visB_ok k13) (beq_eq_false_iff_ne.mpr k14) (beq_eq_false_iff_ne.mpr k15)) (pa_cons (pe_int (i := 0) (j := j2) (pos := p4)) pa_nil rfl) rfl rfl k17 rfl rfl)
  have plc := pe_lc (pos := p6) c.calm c.nd hi (blkOk_by k9) hg (fun _ _ _ _ _ => pts_nil) hel (folded_no (okE_plain k6))
  have gl := gloB_ok k3
  have mn := c.blt _ (show ("tuple" : Str) ∈ bltNames by simp [bltNames])
  have pcall := pe_callTy (p := p1) (pos := p7) (o_tup c.hG) gl mn PyProof.Rows.boot_tuple (pa_cons plc pa_nil rfl) (by decide +kernel) (by decide +kernel) rfl rfl
  refine PS.imp (ps_ret (pe_op (pos := p8) (o_add c.hG) pw pcall)) fun D σ H q => ?_
  obtain ⟨ρ, F, μ, S, s, p⟩ := q
  simp only [ex] at p
  have sl : (1 : Nat) ≤ sizeLine := by decide
  refine ⟨ρ, F, μ, S, s.env, s.ok, (p.st s).imp fun wv H1 hv => ?_⟩
  obtain ⟨F1, μ1, S1, wt, x1, s1, r1, _, p1⟩ := hv
  refine ⟨by simpa using sl, fun q hq => ?_⟩
  have xn := Ext.new (μ := μ1) (o := .tup [wv]) s1.ok.fh hq
  have s2 : StOk G Z (upd F1 q (.tup [wv])) (upd H1 q (.tup [wv])) μ1 ρ σ S1 := ⟨s1.ext.trans xn, s1.env.ext xn, s1.ok.new hq⟩
  have rp : Rep G.K (upd F1 q (.tup [wv])) μ1 (.tup [wt]) (.ref q) := by
    simp only [Rep]
    exact ⟨q, [wv], rfl, .inl (.inl upd_same), by simpa using sl, Reps.cons (xn.rep r1) Reps.nil⟩
  have p2 := PostS.later (o := (ev (callF tab.l n) src ρ S1).st ρ fun st S => ownAt ρ i fun l => optS st.items fun ts => optS (popL ts l) fun r => if r.length + 1 ≤ sizeLine ∧ v < ρ.length then OutS.rt (.tup (wt :: r)) S else .stk) p1 xn.grow
  clear p1
  have p3 : PostS G Z (upd F1 q (.tup [wv])) μ1 D (((evs (callF tab.l n) (.cons src .nil) ρ S1).bind fun ts S => Out.opt (itemsF .val ts) fun l => .ok l S).st ρ fun ts S => ownAt ρ i fun l => optS (popL ts l) fun r => if r.length + 1 ≤ sizeLine ∧ v < ρ.length then OutS.rt (.tup (wt :: r)) S else .stk) := by
    revert p2
    rw [evs]
    cases ev (callF tab.l n) src ρ S1 with
    | stk => exact id
    | exc e S2 => exact id
    | ok t S2 =>
      simp only [Out.st, Out.bind, evs, itemsF]
      intro p2
      cases ht : t.items with
      | none =>
        rw [ht] at p2
        unfold ownAt at p2
        split at p2 <;> exact p2.elim
      | some ts => rw [ht] at p2; exact p2
  clear p2
  refine ⟨ρ, _, μ1, S1, s2.env, s2.ok, (p3.st s2).imp fun J H3 hv => ?_⟩
  obtain ⟨F3, μ3, S3, l, x3, s3, ⟨P, wk⟩, _, p4⟩ := hv
  unfold ownAt at p4
  split at p4
  case h_2 => exact p4.elim
  rename_i ml hl
  dsimp only at p4
  obtain ⟨a, vs, w1, w2, w3, w4, w5, w6, w7⟩ := s3.env.own i ml hl
  cases hr : popL l ml with
  | none => rw [hr] at p4; exact p4.elim
  | some r =>
  rw [hr] at p4
  simp only [optS] at p4
  split at p4
  case isFalse => exact p4.elim
  rename_i hz
  intro Dd hD
  have aD : a ≠ Dd := fun q => by rw [q, hD] at w2; cases w2
  have env0 := s3.env.hide hl w1
  have fD : F3 Dd = none := Same.free s3.ok.fh hD
  have mD : Dd ∉ μ3 := s3.ok.notin hD
  have hDh : hide H3 a Dd = none := by rw [hide_ne (Ne.symm aD)]; exact hD
  have hah : hide H3 a a = none := if_pos rfl
  have w' : Walk J l.length P (fun i H x H' => J.yld i H x H') := ⟨wk.go, wk.stop, fun _ _ _ _ _ _ y => y⟩
  refine lc_it w' (Pv := fun m H' => ∃ F' μ' accT accV restT restV, Ext F3 (hide H3 a) μ3 F' H' μ' ∧ Ok G F' H' μ' S3 ∧ (F' Dd = none ∧ Dd ∉ μ' ∧ H' Dd = some (.lst accV) ∧ accT.length ≤ m ∧ Reps G.K F' μ' accT accV) ∧
    (F' a = none ∧ a ∉ μ' ∧ H' a = some (.lst restV) ∧ Reps G.K F' μ' restT restV) ∧ popL l ml = (popL (l.drop m) restT).map (accT ++ ·)) ?_ (fun m H' _ hp => ?_) (fun m x' H4 H5 hm hp y => ?_) (fun H' hp => ?_)
  · refine ⟨F3, μ3, [], [], ml, vs, (Ext.newH hD).hideL, s3.ok.newH hD, ⟨fD, mD, upd_same, Nat.le_refl _, Reps.nil⟩, ⟨w4, w5, by rw [upd_ne aD]; exact w2, w7⟩, ?_⟩
    rw [List.drop_zero, hr]; rfl
  · obtain ⟨F', μ', accT, accV, restT, restV, xx, kx, _⟩ := hp
    exact wk.per F' H' μ' (fun h => by cases h) xx.ff kx.fh
  · obtain ⟨F', μ', accT, accV, restT, restV, xx, kx, ⟨d1, d2, d3, d4, d5⟩, ⟨e1, e2, e3, e4⟩, q1⟩ := hp
    have hw := wk.per F' H4 μ' (fun h => by cases h) xx.ff kx.fh
    have hi' : l[m]? = some (l[m]) := List.getElem?_eq_getElem hm
    obtain ⟨F2, x2, k2, rx⟩ := wk.yld m l[m] x' F' H4 H5 μ' S3 hi' hw xx.ff xx.mm kx y
    have hdrop : l.drop m = l[m] :: l.drop (m + 1) := List.drop_eq_getElem_cons hm
    rw [hdrop] at q1
    have en2 : EnvR G Z.H₀ F2 H5 μ' (wipeR (ρ.set i .un) [v]) (L2.wipe σ [v]) := ((env0.ext xx).ext x2).wipe [v]
    have hvl : v < (wipeR (ρ.set i .un) [v]).length := by simp [wipeR]; exact hz.2
    refine ⟨_, F2, μ', l[m], en2, k2.fh, rx, (wipeR (ρ.set i .un) [v]).set v (.val l[m]), rfl, fun σ2 en3 sb => ?_⟩
    have hwp : L2.wipe σ2 [v] = L2.wipe σ [v] := by
      have : L2.wipe (L2.wipe σ [v]) [v] = L2.wipe σ [v] := by
        apply List.ext_getElem?
        intro j
        rw [wipe_get, wipe_get, L2.wipe_length]
        by_cases hj : j ∈ [v] <;> simp [hj]
      have z : L2.wipe σ2 [v] = L2.wipe (L2.wipe σ [v]) [v] := sb.wipe
      rw [z, this]
    refine ⟨hwp, ?_⟩
    have hs2 : σ2[i]? = some (some (.ref a)) := by
      have ni : i ∉ [v] := by simp [Ne.symm k18]
      have : (L2.wipe σ2 [v])[i]? = (L2.wipe σ [v])[i]? := by rw [hwp]
      rw [wipe_get, wipe_get, if_neg ni, if_neg ni] at this
      rw [this]; exact w1
    dsimp only [tYes]
    rw [if_pos rfl]
    have hev : bor ((wipeR (ρ.set i .un) [v]).set v (.val l[m])) (.cmp .is (.var v) (.lit .non)) S3 (ev (callF tab.l n) (.cmp .is (.var v) (.lit .non)) ((wipeR (ρ.set i .un) [v]).set v (.val l[m])) S3) = .ok (.bl l[m].isNon) S3 := by
      simp only [bor, ev, List.getElem?_set_self hvl, Out.bind, cmpF, Out.of]
    refine ⟨_, F2, μ', S3, en3, k2, ?_⟩
    dsimp only
    rw [hev]
    simp only [Out.bind, T.tru, Option.isSome_some, if_true]
    intro b F6 H6' μ6 x6 k6' rb
    have rb : some l[m].isNon = some b := rb
    have hD6 := x6.hh Dd _ (x2.hh Dd _ d3 d2) d2
    have ha6 := x6.hh a _ (x2.hh a _ e3 e2) e2
    have fD6 := x6.nf Dd _ (x2.hh Dd _ d3 d2) (x2.nf Dd _ d3 d1)
    have fa6 := x6.nf a _ (x2.hh a _ e3 e2) (x2.nf a _ e3 e1)
    have mD6 : Dd ∉ μ6 := fun hm => by
      have := x6.nw Dd hm d2
      rw [x2.hh Dd _ d3 d2] at this; cases this
    have ma6 : a ∉ μ6 := fun hm => by
      have := x6.nw a hm e2
      rw [x2.hh a _ e3 e2] at this; cases this
    have xx6 := (xx.trans x2).trans x6
    have hlen := d5.length
    have wl := wk.len
    simp only [popL] at q1
    cases hb : l[m].isNon with
    | true =>
      rw [hb] at rb q1
      cases rb
      simp only [if_true] at q1 ⊢
      refine ⟨accV, hD6, by omega, F6, μ6, accT ++ [.non], accV ++ [.non], restT, restV, xx6.setN hDh, k6'.setH hD6 fD6 mD6 (fun _ q => by cases q), ⟨fD6, mD6, upd_same, by simp; omega, ((x2.trans x6).reps d5).append (Reps.cons Rep.non' Reps.nil)⟩, ⟨fa6, ma6, by rw [upd_ne aD]; exact ha6, (x2.trans x6).reps e4⟩, ?_⟩
      rw [q1]
      cases popL (l.drop (m + 1)) restT <;> simp
    | false =>
      rw [hb] at rb q1
      cases rb
      simp only [Bool.false_eq_true, if_false] at q1 ⊢
      refine ⟨_, hs2, .inl ⟨rfl, restV, SqL.of ha6⟩, ?_⟩
      cases restT with
      | nil => rw [hr] at q1; cases q1
      | cons t0 rt =>
        obtain ⟨v0, rv, rfl, r0, r0'⟩ : ∃ v0 rv, restV = v0 :: rv ∧ Rep G.K F' μ' t0 v0 ∧ Reps G.K F' μ' rt rv := by simpa only [Reps] using e4
        refine ⟨a, v0 :: rv, 0, 0, v0, rfl, rfl, ha6, by decide, by decide, ?_, rfl, ?_⟩
        · simp [seqIndex?]
        · have hD7 : (upd H6' a (.lst rv)) Dd = some (.lst accV) := by rw [upd_ne (Ne.symm aD)]; exact hD6
          refine ⟨accV, hD7, by omega, F6, μ6, accT ++ [t0], accV ++ [v0], rt, rv, (xx6.setN hah).setN hDh, (k6'.setH ha6 fa6 ma6 (fun _ q => by cases q)).setH hD7 fD6 mD6 (fun _ q => by cases q), ⟨fD6, mD6, upd_same, by simp; omega, ((x2.trans x6).reps d5).append (Reps.cons ((x2.trans x6).rep r0) Reps.nil)⟩, ⟨fa6, ma6, by rw [upd_ne aD, upd_same]; rfl, (x2.trans x6).reps r0'⟩, ?_⟩
          dsimp only at q1
          rw [q1]
          cases popL (l.drop (m + 1)) rt <;> simp
  · obtain ⟨F', μ', accT, accV, restT, restV, xx, kx, ⟨d1, d2, d3, d4, d5⟩, _, q1⟩ := hp
    rw [List.drop_length] at q1
    simp only [popL, Option.map_some, List.append_nil] at q1
    rw [hr] at q1
    cases q1
    have hl5 := d5.length
    refine ⟨F', μ', [.lst r], .tup r, kx.fh, ?_, rfl, fun z F7 H7 x7 k7' r7 => ?_⟩
    · simp only [RepBs]
      exact ⟨_, [], rfl, .inr ⟨Dd, r, accV, rfl, rfl, d3, by omega, d5, d2⟩, rfl⟩
    · refine ⟨F7, μ', .tup [wt], .tup r, .tup (wt :: r), (k7' _ kx).fh, .inl (x7.rep (xx.rep (x3.rep rp))), .inl r7, ?_, fun v' F8 H8 x8 k8' r8 => ?_⟩
      · simp only [T.add, List.length_cons, List.length_nil]
        rw [if_pos (by omega)]; rfl
      · exact p4 v' _ _ μ' (((s3.ext.hideR w3).trans xx).trans (x7.trans x8)) (k8' _ (k7' _ kx)) r8
end
end Ly
namespace Ly
open PySem PySem.Spec L2
open PyProof.Rows hiding St
def Sm.subs : Sm → List Sms
  | .iff _ a b => [a, b]
  | .for_ _ _ _ b _ _ => [b]
  | .whl _ b _ _ => [b]
  | .try_ a _ b => [a, b]
  | _ => []
section
variable {G : Glo} {tab : Tb} {glo : List (Str × T)} {exn : List Str} {n k : Nat} {X : Cx} {Z : At0}
theorem or_fr {o q : Bool} (h : o = false ∨ q = true) : o = true → q = true := fun e => h.resolve_left (by rw [e]; simp)
theorem st_step (C : CxtS G tab glo exn n k X Z) (s : Sm) (st : Stmt) (ok : okS tab glo X.N exn X.env.scope s st = true) (IH : ∀ ss ∈ s.subs, ∀ sts, okSs tab glo X.N exn X.env.scope ss sts = true → PSs X sts (tS G Z (exs (callF tab.l n) ss))) : PS X st (tS G Z (ex (callF tab.l n) s)) := by
  unfold okS at ok
  split at ok
  · exact ps_ret_of C sndAll ok
  · exact ps_retN_of
  · simp only [Bool.and_eq_true] at ok
    exact ps_expr_of C sndAll ok.1 ok.2
  · simp only [Bool.and_eq_true, Bool.or_eq_true, decide_eq_true_eq] at ok
    exact ps_asg_of C sndAll ok.1.1 ok.1.2 ok.2
  · simp only [Bool.and_eq_true, Bool.or_eq_true, decide_eq_true_eq] at ok
    obtain ⟨⟨⟨⟨⟨k1, k2⟩, k3⟩, k4⟩, k5⟩, k6⟩ := ok
    exact (ps_asgC_all C sndAll k1 k2 k3 k5 k6).1
  · simp only [Bool.and_eq_true, Bool.or_eq_true, decide_eq_true_eq] at ok
    obtain ⟨⟨⟨k1, k2⟩, k3⟩, k4⟩ := ok
    exact ps_own_of C sndAll k1 k2 k3 k4
  · simp only [Bool.and_eq_true, Bool.or_eq_true, decide_eq_true_eq] at ok
    obtain ⟨⟨⟨⟨⟨k1, k2⟩, k3⟩, k4⟩, k5⟩, k6⟩ := ok
    exact (ps_asgC_all C sndAll k1 k2 k3 k5 k6).2
  · simp only [Bool.and_eq_true, Bool.or_eq_true, decide_eq_true_eq] at ok
    obtain ⟨⟨⟨⟨⟨⟨k1, k2⟩, k3⟩, k4⟩, k5⟩, k6⟩, k7⟩ := ok
    subst k5
    exact ps_app_of C sndAll k1 (visB_ok k2) k3 k4 k6 k7
  · simp only [Bool.and_eq_true, Bool.or_eq_true, decide_eq_true_eq] at ok
    obtain ⟨⟨⟨⟨⟨⟨k1, k2⟩, k3⟩, k4⟩, k5⟩, k6⟩, k7⟩ := ok
    subst k5
    exact ps_ext_of C sndAll k1 (visB_ok k2) k3 k4 k6 k7
  · simp only [Bool.and_eq_true, Bool.or_eq_true, decide_eq_true_eq] at ok
    obtain ⟨⟨⟨⟨⟨⟨⟨⟨k1, k2⟩, k3⟩, k4⟩, k5⟩, k6⟩, k7⟩, k8⟩, k9⟩ := ok
    exact ps_par2_of C sndAll k1 k2 k3 k4 k5 k6 k7 k8 k9
  · simp only [Bool.and_eq_true, Bool.or_eq_true, decide_eq_true_eq] at ok
    obtain ⟨⟨⟨⟨⟨⟨⟨⟨⟨⟨⟨⟨⟨k1, k2⟩, k3⟩, k4⟩, k5⟩, k6⟩, k7⟩, k8⟩, k9⟩, k10⟩, k11⟩, k12⟩, k13⟩, k14⟩ := ok
    exact ps_par3_of C sndAll k1 k2 k3 k4 k5 k6 k7 k8 k9 k10 k11 k12 k13 k14
  · simp only [Bool.and_eq_true, Bool.or_eq_true, decide_eq_true_eq, Bool.not_eq_true'] at ok
    obtain ⟨⟨⟨⟨⟨⟨⟨⟨⟨⟨k1, k2⟩, k3⟩, k4⟩, k5⟩, k6⟩, k7⟩, k8⟩, k9⟩, k10⟩, k11⟩ := ok
    exact ps_par2o_of C sndAll k1 k2 k3 k4 k5 k6 k7 k8 k9 (or_fr k10) (or_fr k11)
  · simp only [Bool.and_eq_true, Bool.or_eq_true, decide_eq_true_eq, Bool.not_eq_true'] at ok
    obtain ⟨⟨⟨⟨⟨⟨⟨⟨⟨⟨⟨⟨⟨⟨⟨⟨k1, k2⟩, k3⟩, k4⟩, k5⟩, k6⟩, k7⟩, k8⟩, k9⟩, k10⟩, k11⟩, k12⟩, k13⟩, k14⟩, k15⟩, k16⟩, k17⟩ := ok
    exact ps_par3o_of C sndAll k1 k2 k3 k4 k5 k6 k7 k8 k9 k10 k11 k12 k13 k14 (or_fr k15) (or_fr k16) (or_fr k17)
  · simp only [Bool.and_eq_true] at ok
    exact ps_unp_of C sndAll ok.1.1 ok.1.2 ok.2
  · simp only [Bool.and_eq_true] at ok
    exact ps_if_of C sndAll ok.1.1.1 ok.1.1.2 (IH _ (by simp [Sm.subs]) _ ok.1.2) (IH _ (by simp [Sm.subs]) _ ok.2)
  · simp only [Bool.and_eq_true] at ok
    obtain ⟨⟨⟨⟨k1, k2⟩, k3⟩, k4⟩, k5⟩ := ok
    refine ps_for_of C sndAll k1 k2 k3 ?_ (IH _ (by simp [Sm.subs]) _ k5)
    split at k4
    · exact ⟨_, ‹_›, k4⟩
    · cases k4
  · simp only [Bool.and_eq_true] at ok
    exact ps_whl_of C sndAll ok.1.1 ok.1.2 (IH _ (by simp [Sm.subs]) _ ok.2)
  · simp only [Bool.and_eq_true, decide_eq_true_eq] at ok
    obtain ⟨⟨⟨⟨⟨⟨⟨⟨⟨⟨⟨⟨⟨⟨⟨⟨⟨k1, k2⟩, k3⟩, k4⟩, k5⟩, k6⟩, k7⟩, k8⟩, k9⟩, k10⟩, k11⟩, k12⟩, k13⟩, k14⟩, k15⟩, k16⟩, k17⟩, k18⟩ := ok
    subst k1 k2 k4 k16
    exact ps_retPop_of C sndAll k3 k5 k6 k7 k8 k9 k10 k11 k12 k13 k14 k15 k17 k18
  · exact ps_brk_of
  · exact ps_cnt_of
  · exact ps_pass_of
  · simp only [Bool.and_eq_true, decide_eq_true_eq] at ok
    exact ps_raise_of C ok.1.1.1 ok.1.1.2 ok.1.2 ok.2
  · cases ok
theorem sts_cons_inv {N : List Str} {sc : Scope} {s : Sm} {ss : Sms} {sts : List Stmt} (ok : okSs tab glo N exn sc (.cons s ss) sts = true) : (∃ i, s = .rel i ∧ okSs tab glo N exn sc ss sts = true) ∨ ∃ st r, sts = st :: r ∧ okS tab glo N exn sc s st = true ∧ okSs tab glo N exn sc ss r = true := by
  by_cases h : ∃ i, s = .rel i
  · obtain ⟨i, rfl⟩ := h
    exact .inl ⟨i, rfl, by simpa only [okSs] using ok⟩
  · cases sts with
    | nil => cases s <;> first | (exact absurd ⟨_, rfl⟩ h) | (simp only [okSs, Bool.false_eq_true] at ok)
    | cons st r =>
      refine .inr ⟨st, r, rfl, ?_⟩
      cases s <;> first | (exact absurd ⟨_, rfl⟩ h) | (simpa only [okSs, Bool.and_eq_true] using ok)
mutual
theorem st_ok (C : CxtS G tab glo exn n k X Z) : ∀ (s : Sm) (st : Stmt), okS tab glo X.N exn X.env.scope s st = true → PS X st (tS G Z (ex (callF tab.l n) s))
  | .iff d a b, st, ok => by
    have h1 := sts_ok C a
    have h2 := sts_ok C b
    exact st_step C _ st ok fun ss h => by
      simp only [Sm.subs, List.mem_cons, List.not_mem_nil, or_false] at h
      rcases h with rfl | rfl
      · exact h1
      · exact h2
  | .for_ tg kk src b lv tmp, st, ok => by
    have h1 := sts_ok C b
    exact st_step C _ st ok fun ss h => by
      simp only [Sm.subs, List.mem_cons, List.not_mem_nil, or_false] at h
      subst h
      exact h1
  | .whl d b lv tmp, st, ok => by
    have h1 := sts_ok C b
    exact st_step C _ st ok fun ss h => by
      simp only [Sm.subs, List.mem_cons, List.not_mem_nil, or_false] at h
      subst h
      exact h1
  | .try_ a c b, st, ok => by
    have h1 := sts_ok C a
    have h2 := sts_ok C b
    exact st_step C _ st ok fun ss h => by
      simp only [Sm.subs, List.mem_cons, List.not_mem_nil, or_false] at h
      rcases h with rfl | rfl
      · exact h1
      · exact h2
  | .ret E, st, ok => st_step C _ st ok fun ss h => by simp [Sm.subs] at h
  | .retN, st, ok => st_step C _ st ok fun ss h => by simp [Sm.subs] at h
  | .expr E, st, ok => st_step C _ st ok fun ss h => by simp [Sm.subs] at h
  | .asg i E, st, ok => st_step C _ st ok fun ss h => by simp [Sm.subs] at h
  | .asgC i E, st, ok => st_step C _ st ok fun ss h => by simp [Sm.subs] at h
  | .own i E, st, ok => st_step C _ st ok fun ss h => by simp [Sm.subs] at h
  | .ownC i E, st, ok => st_step C _ st ok fun ss h => by simp [Sm.subs] at h
  | .rel i, st, ok => st_step C _ st ok fun ss h => by simp [Sm.subs] at h
  | .app i E, st, ok => st_step C _ st ok fun ss h => by simp [Sm.subs] at h
  | .ext i E, st, ok => st_step C _ st ok fun ss h => by simp [Sm.subs] at h
  | .par2 i j a b, st, ok => st_step C _ st ok fun ss h => by simp [Sm.subs] at h
  | .par3 i j l a b d, st, ok => st_step C _ st ok fun ss h => by simp [Sm.subs] at h
  | .par2o i j oi oj a b, st, ok => st_step C _ st ok fun ss h => by simp [Sm.subs] at h
  | .par3o i j l oi oj ol a b d, st, ok => st_step C _ st ok fun ss h => by simp [Sm.subs] at h
  | .unp g E, st, ok => st_step C _ st ok fun ss h => by simp [Sm.subs] at h
  | .retPop w v i src, st, ok => st_step C _ st ok fun ss h => by simp [Sm.subs] at h
  | .brk, st, ok => st_step C _ st ok fun ss h => by simp [Sm.subs] at h
  | .cnt, st, ok => st_step C _ st ok fun ss h => by simp [Sm.subs] at h
  | .pass, st, ok => st_step C _ st ok fun ss h => by simp [Sm.subs] at h
  | .raise c, st, ok => st_step C _ st ok fun ss h => by simp [Sm.subs] at h
theorem sts_ok (C : CxtS G tab glo exn n k X Z) : ∀ (ss : Sms) (sts : List Stmt), okSs tab glo X.N exn X.env.scope ss sts = true → PSs X sts (tS G Z (exs (callF tab.l n) ss))
  | .nil, sts, ok => by
    cases sts with
    | nil => exact pss_nil_of
    | cons _ _ => simp only [okSs, Bool.false_eq_true] at ok
  | .cons s ss, sts, ok => by
    have h1 := st_ok C s
    have h2 := sts_ok C ss
    rcases sts_cons_inv ok with ⟨i, rfl, k⟩ | ⟨st, r, rfl, k1, k2⟩
    · exact pss_rel_of (h2 sts k)
    · exact pss_cons_of (h1 st k1) (h2 r k2)
end
end
end Ly
namespace Ly
open PySem PySem.Spec L2
open PyProof.Rows hiding St

theorem Tb.at_l {t : Tb} {f : Nat} {fi : FnI × FnH} (h : t.at f = some fi) : t.l[f]? = some fi.1 := by
  unfold Tb.at at h
  split at h
  · cases h; assumption
  · cases h
def BindOk (fi : FnI × FnH) (d : He.DefD) : Prop := ∀ (kV doc pm : Value) (an : Option Addr) (cdv ct : Value) (us : List Value), us.length = (fi.2.N.take fi.1.np).length → bindArgs (PySem.W.fnOf d.name d.qual d.params d.body d.scope .none kV doc pm an cdv ct) ⟨us, []⟩ = pure ((fi.2.N.take fi.1.np).zip us)
def BindAll : List FnI → List (Option FnH) → List He.DefD → Prop
  | fi :: t, some fh :: h, d :: ds => BindOk (fi, fh) d ∧ BindAll t h ds
  | _ :: t, none :: h, ds => BindAll t h ds
  | [], [], [] => True
  | _, _, _ => False
def scB (N P : List Str) (sc : Scope) : Bool := decide (sc.kind = .function) && !sc.isCoroutine && !sc.isGenerator && decide N.Nodup && decide (N.take P.length = P) && P.all (fun x => decide (sc.names.lookup x = some .local) || decide (sc.names.lookup x = some .cell)) && sc.names.all (fun y => decide (y.2 ≠ .free))
theorem scB_ok {N P : List Str} {sc : Scope} (h : scB N P sc = true) : FnScope N P sc := by
  unfold scB at h
  simp only [Bool.and_eq_true, decide_eq_true_eq, Bool.not_eq_true', List.all_eq_true, Bool.or_eq_true] at h
  obtain ⟨⟨⟨⟨⟨⟨h1, h2⟩, h3⟩, h4⟩, h5⟩, h6⟩, h7⟩ := h
  exact ⟨h1, h2, h3, h4, h5, h6, h7⟩
def okF (tab : Tb) (glo : List (Str × T)) (exn : List Str) (fi : FnI × FnH) (d : He.DefD) : Bool := decide (d.name = fi.2.name) && decide (d.at_ = (fi.2.name, none)) && d.dfl.isEmpty && d.kwd.isEmpty && scB fi.2.N (fi.2.N.take fi.1.np) d.scope && decide (fi.1.np ≤ fi.2.N.length) && decide (fi.2.N.length = fi.1.ns) && okSs tab glo fi.2.N exn d.scope fi.1.body d.body
def okAll (tab : Tb) (glo : List (Str × T)) (exn : List Str) : List FnI → List (Option FnH) → List He.DefD → Bool
  | fi :: t, some fh :: h, d :: ds => okF tab glo exn (fi, fh) d && okAll tab glo exn t h ds
  | _ :: t, none :: h, ds => okAll tab glo exn t h ds
  | [], [], [] => true
  | _, _, _ => false
structure FnS (K : PySem.W.Frag) (mg : Str → Option Value) (tab : Tb) (glo : List (Str × T)) (exn : List Str) (fi : FnI × FnH) (a : Addr) (fd : FuncData) : Prop where
  ex : ∃ d : He.DefD, FunD K fi.2.name d.qual d.params d.body d.scope [] [] a fd ∧ FnScope fi.2.N (fi.2.N.take fi.1.np) d.scope ∧ okSs tab glo fi.2.N exn d.scope fi.1.body d.body = true ∧ Binds K fd (fi.2.N.take fi.1.np) []
  bd : ∀ (s : Shared) (us : List Value), us.length = (fi.2.N.take fi.1.np).length → BindsTo s fd ⟨us, []⟩ ((fi.2.N.take fi.1.np).zip us)
  np : fi.1.np ≤ fi.2.N.length
  ns : fi.2.N.length = fi.1.ns
  mg : mg fi.2.name = some (.ref a)
/-- what is known of the module -/
structure ModS (G : Glo) (K : PySem.W.Frag) (mg : Str → Option Value) (tab : Tb) (glo : List (Str × T)) (exn : List Str) : Prop where
  hG : G.K = K
  fns : ∀ (f : Nat) fi, tab.at f = some fi → ∃ a fd, FnS K mg tab glo exn fi a fd
  blt : ∀ x ∈ bltNames, mg x = none
  glo : ∀ x t, glo.lookup x = some t → ∃ u v, mg x = some u ∧ RelV v u ∧ ∀ F μ, Rep K F μ t v
  exc : ∀ (j : Nat) x, exn[j]? = some x → x ≠ "" → mg x = some (.ref (G.exc j)) ∧ PySem.W.excIn K (G.exc j) He.veBase "ValueError.__new__" = true ∧ PySem.W.keepIn K (.ref (G.exc j)) = true ∧ PySem.W.subIn K (.ref (G.exc j)) (.type "BaseException") = some true ∧ PySem.W.typeIn K (.ref (G.exc j)) = some (.type "type")

section
variable {G : Glo} {K : PySem.W.Frag} {mg : Str → Option Value} {tab : Tb} {glo : List (Str × T)} {exn : List Str} {P : Program} {w : World} {base : Heap}
theorem env_start {F H : Hp} {μ : List Addr} {ts : List T} {vs : List V} {N : List Str} {np : Nat} (r : Reps K F μ ts vs) (hG : G.K = K) (hl : ts.length = np) (hn : np ≤ N.length) :
    EnvR G H F H μ (ts.map Sl.val ++ List.replicate (N.length - np) Sl.un) (L2.start N vs) := by
  have e := r.length
  have own0 : ∀ (i : Nat) l, (ts.map Sl.val ++ List.replicate (N.length - np) Sl.un)[i]? ≠ some (Sl.own l) := fun i l h => by
    have := List.mem_of_getElem? h
    simp at this
  refine ⟨by unfold L2.start; simp; omega, fun i t h => ?_, fun i l h => absurd h (own0 i l), fun i j l l' h => absurd h (own0 i l)⟩
  by_cases hi : i < ts.length
  · rw [List.getElem?_append_left (by simpa using hi), List.getElem?_map] at h
    cases q : ts[i]? with
    | none => rw [q] at h; cases h
    | some u =>
      rw [q] at h
      cases h
      obtain ⟨v, hv, rv⟩ := r.get q
      refine ⟨v, ?_, hG ▸ rv⟩
      unfold L2.start
      rw [List.getElem?_append_left (by simpa [← e] using hi), List.getElem?_map, hv]
      rfl
  · rw [List.getElem?_append_right (by simpa using hi)] at h
    have := List.mem_of_getElem? h
    simp at this
theorem post_fin {F H : Hp} {μ : List Addr} {Q : VK} {E : XK} {o : OutS} (h : PostF G F H μ E Q o.fin) : PostS G ⟨F, H, μ, fun cls d _ H' => E cls d H'⟩ F μ { nx := fun _ H' => Q .non H', rt := Q } o := by
  cases o with
  | stk => exact h
  | nx ρ S => exact fun σ' F' H' μ' g s => h .non F' H' μ' s.ext s.ok Rep.non'
  | rt t S => exact fun v F' H' μ' x k r => h v F' H' μ' x k r
  | bk ρ S => exact h.elim
  | ct ρ S => exact h.elim
  | ex c ρ S => exact fun σ' F' H' μ' g s => h F' H' μ' s.ext s.ok
theorem fn_ok (M : ModS G K mg tab glo exn) : ∀ (n : Nat) (f : Nat) (fi : FnI × FnH) (a : Addr) (fd : FuncData), tab.at f = some fi → FnS K mg tab glo exn fi a fd → FnOk P w K mg base (L2.CX P w) n a fd (fi.2.N.take fi.1.np) (spF G tab n f)
  | 0, f, fi, a, fd, h, S => ⟨fun vs H Q E q => by
      obtain ⟨ts, F, μ, St, _, _, p⟩ := q
      exact p.elim, fun A outer s H args us vs Q E _ _ _ _ q => by
      obtain ⟨ts, F, μ, St, _, _, p⟩ := q
      exact p.elim⟩
  | n + 1, f, fi, a, fd, h, S => by
    have IH := fn_ok M n
    obtain ⟨d, FD, sc, oks, bd⟩ := S.ex
    have red : ∀ ts St, callF tab.l (n + 1) f ts St = run1 (callF tab.l n) fi.1 ts St := fun ts St => by simp only [callF, Tb.at_l h]
    have hlen : ∀ {H Q E F μ ts St}, PostF G F H μ E Q (callF tab.l (n + 1) f ts St) → ts.length = fi.1.np := fun {H Q E F μ ts St} p => by
      rw [red] at p
      unfold run1 at p
      split at p
      · assumption
      · exact p.elim
    refine FD.ok sc (fun vs H Q E q => ?_) fun cdv A outer s H vs Q E hr q => ?_
    · obtain ⟨ts, F, μ, St, r, _, p⟩ := q
      rw [List.length_take]
      have e1 := r.length
      have e2 := hlen p
      have := S.np
      omega
    · obtain ⟨ts, F, μ, St, r, k, p⟩ := q
      have hl := hlen p
      rw [red] at p
      unfold run1 at p
      rw [if_pos hl] at p
      have C : CxtS G tab glo exn n n (cxOf (L2.CX P w) P w K mg base fi.2.N d.qual d.scope a cdv A outer s H E) ⟨F, H, μ, fun cls dd _ H' => E cls dd H'⟩ :=
        { c := { hG := M.hG, calm := rfl, nd := sc.nd, room := hr, fns := fun f' fi' h' => by
                  obtain ⟨a', fd', S'⟩ := M.fns f' fi' h'
                  obtain ⟨d', FD', _, _, bd'⟩ := S'.ex
                  exact ⟨a', fd', _, S'.mg, FD'.kp, bd', IH f' fi' a' fd' h' S'⟩
                 blt := M.blt, glo := fun x t h => by
                  obtain ⟨u, v, h1, h2, h3⟩ := M.glo x t h
                  exact ⟨u, v, h1, h2, fun F μ => M.hG ▸ h3 F μ⟩
                 tk := takes_of rfl rfl rfl rfl }
          hp := passes_of rfl, fn := fun _ => rfl, kind := sc.kind, exc := fun j x h hne => by
            obtain ⟨e1, e2, e3, e4, e5⟩ := M.exc j x h hne
            exact ⟨e1, e2, e3, raises_own e4 e5⟩ }
      exact ⟨_, sts_ok C fi.1.body d.body oks, _, F, μ, St, ⟨.refl, S.ns ▸ env_start (M.hG ▸ r) M.hG hl S.np, k⟩, post_fin p⟩
end
end Ly
namespace Ly
open PySem PySem.Spec L2
open PyProof.Rows hiding St

def gloFa : Str × T → He.Fa
  | (x, .int i) => .int x i
  | (x, .str z) => .str x (tx z)
  | (x, _) => .glo x
/-- texts in a tuple -/
def dvs : List T → Option (List He.Dv)
  | [] => some []
  | .str z :: l => if z.length ≤ 1000 ∧ (z.all fun c => decide (c < 1114112)) = true then (dvs l).map (.str (tx z) :: ·) else none
  | _ :: _ => none
theorem dvs_ok {K : PySem.W.Frag} {F : Hp} {μ : List Addr} : ∀ {l : List T} {vs : List He.Dv}, dvs l = some vs → Reps K F μ l (vs.map (He.Dv.v K))
  | [], vs, h => by simp only [dvs, Option.some.injEq] at h; subst h; simp [Reps]
  | t :: l, vs, h => by
    cases t <;> simp only [dvs] at h <;> first | (cases h; done) | skip
    split at h
    · rename_i z hz
      cases q : dvs l with
      | none => rw [q] at h; cases h
      | some ws =>
        rw [q] at h
        cases h
        have : (1000 : Nat) ≤ sizeLine := by decide
        refine Reps.cons ?_ (dvs_ok q)
        simp only [Rep, He.Dv.v]
        simp only [List.all_eq_true, decide_eq_true_eq] at hz
        exact ⟨trivial, by omega, hz.2⟩
    · cases h
def tupGlo (glo : List (Str × T)) (K : PySem.W.Frag) : Bool := glo.all fun p => match p.2 with
  | .tup l => (match dvs l with
    | some vs => He.tupB K p.1 vs
    | none => false)
  | _ => true
abbrev AlY : Type := He.AlD × Bool
def obsYG (n : Nat) (fa : List He.Fa) (fn : List He.DefD) (glo : List (Str × T)) (g : Addr → Option Obj) : AlY := (He.obsD fa fn (He.frG g (He.asD g n)), tupGlo glo (He.frG g (He.asD g n)))
def hookY (n : Nat) (fa : List He.Fa) (fn : List He.DefD) (glo : List (Str × T)) : PySem.W.Hook where
  α := AlY
  obs := fun s => obsYG n fa fn glo s.heap.get?
  val := fun _ => (He.valD fn, true)
  says := fun _ h => ∃ K : PySem.W.Frag, K.In h ∧ He.SaysD fa fn K ∧ tupGlo glo K = true
  of := fun _ _ e => ⟨_, He.frG_in, congrArg (fun z : AlY => z.1) e, congrArg (fun z : AlY => z.2) e⟩
  keeps := fun _ _ _ ⟨K, hK, c⟩ k => ⟨K, PySem.W.Frag.In.keeps hK k, c⟩
theorem obsYG_eq {n : Nat} {fa : List He.Fa} {fn : List He.DefD} {glo : List (Str × T)} {g : Addr → Option Obj} {s : Shared} (h : ∀ a, g a = s.heap.get? a) : obsYG n fa fn glo g = (hookY n fa fn glo).obs s := by
  have e : g = s.heap.get? := funext h
  rw [e] <;> rfl
def gloOk : Str × T → Bool
  | (_, .int _) => true
  | (_, .str z) => decide (z.length ≤ 1000) && z.all (fun c => decide (c < 1114112))
  | (_, .tup l) => (dvs l).isSome && decide (l.length ≤ 1000)
  | _ => false
def faOf (tab : Tb) (glo : List (Str × T)) (exn : List Str) : List He.Fa :=
  tab.h.filterMap (·.map fun fh => .glo fh.name) ++ (bltNames.map He.Fa.free ++ (glo.map gloFa ++ ((exn.filter (fun x : Str => decide (x ≠ ""))).map He.Fa.exc ++ (exn.filter (fun x : Str => decide (x ≠ ""))).map He.Fa.glo)))
theorem okAll_get {tab0 : Tb} {glo : List (Str × T)} {exn : List Str} : ∀ {tab : List FnI} {h : List (Option FnH)} {ds : List He.DefD}, okAll tab0 glo exn tab h ds = true → BindAll tab h ds → ∀ {i : Nat} {fi : FnI × FnH}, (⟨tab, h⟩ : Tb).at i = some fi → ∃ (j : Nat) (d : He.DefD), ds[j]? = some d ∧ okF tab0 glo exn fi d = true ∧ BindOk fi d
  | [], _, _, _, _, i, fi, h => by simp [Tb.at] at h
  | _ :: _, [], _, _, b, _, _, _ => by simp [BindAll] at b
  | f0 :: t, some h0 :: hs, [], o, b, i, fi, h => by simp [BindAll] at b
  | f0 :: t, some h0 :: hs, d0 :: ds, o, b, i, fi, h => by
    simp only [okAll, Bool.and_eq_true] at o
    simp only [BindAll] at b
    cases i with
    | zero => simp [Tb.at] at h; subst h; exact ⟨0, d0, rfl, o.1, b.1⟩
    | succ i =>
      obtain ⟨j, d, h1, h2, h3⟩ := okAll_get o.2 b.2 (i := i) (fi := fi) (by simpa [Tb.at] using h)
      exact ⟨j + 1, d, by simpa using h1, h2, h3⟩
  | f0 :: t, none :: hs, ds, o, b, i, fi, h => by
    simp only [okAll] at o
    simp only [BindAll] at b
    cases i with
    | zero => simp [Tb.at] at h
    | succ i => exact okAll_get o b (i := i) (fi := fi) (by simpa [Tb.at] using h)
theorem Tb.at_h {t : Tb} {f : Nat} {fi : FnI × FnH} (h : t.at f = some fi) : He.Fa.glo fi.2.name ∈ t.h.filterMap (·.map fun fh => He.Fa.glo fh.name) := by
  unfold Tb.at at h
  split at h
  · rename_i h1 h2
    cases h
    exact List.mem_filterMap.mpr ⟨_, List.mem_of_getElem? h2, rfl⟩
  · cases h
theorem lookup_mem {x : Str} {t : T} : ∀ {l : List (Str × T)}, l.lookup x = some t → (x, t) ∈ l
  | [], h => by simp at h
  | (y, u) :: l, h => by
    rw [List.lookup_cons] at h
    split at h
    · rename_i q
      cases h
      rw [beq_iff_eq] at q
      subst q
      exact List.mem_cons_self
    · exact List.mem_cons_of_mem _ (lookup_mem h)
section
variable {K : PySem.W.Frag} {h : Heap} {mg : Str → Option Value} {tab : Tb} {glo : List (Str × T)} {exn : List Str} {ds : List He.DefD}
abbrev glOf (K : PySem.W.Frag) (exn : List Str) : Glo := ⟨K, fun _ => 0, fun j => He.ga K (exn.getD j "")⟩
theorem mod_ok (X : K.In h) (N : h.Ns mainGlobals mg) (c : He.SaysD (faOf tab glo exn) ds K) (ct : tupGlo glo K = true) (ok : okAll tab glo exn tab.l tab.h ds = true) (b : BindAll tab.l tab.h ds) (g : glo.all gloOk = true) : ModS (glOf K exn) K mg tab glo exn where
  hG := rfl
  fns := fun f fi hf => by
    obtain ⟨j, d, h1, h2, h3⟩ := okAll_get ok b hf
    unfold okF at h2
    simp only [Bool.and_eq_true, decide_eq_true_eq, List.isEmpty_iff] at h2
    obtain ⟨⟨⟨⟨⟨⟨⟨e1, e2⟩, e3⟩, e4⟩, e5⟩, e6⟩, e8⟩, e7⟩ := h2
    obtain ⟨fd, FD⟩ := c.def_ j h1
    have k1 : d.dvs K = [] := by unfold He.DefD.dvs; rw [e3]; rfl
    have k2 : d.kws K = [] := by unfold He.DefD.kws; rw [e4]; rfl
    rw [k1, k2, e2] at FD
    have m : mg fi.2.name = some (.ref (He.ga K fi.2.name)) := He.glo_ok X N (c.facts (f := .glo fi.2.name) (by unfold faOf; exact List.mem_append_left _ (Tb.at_h hf)))
    have FD2 := FD
    rw [e1] at FD2
    exact ⟨_, fd, ⟨d, FD2, scB_ok e5, e7, FD.bindsN h3⟩, fun s us hl => FD.bindsA h3 s us hl, e6, e8, m⟩
  blt := fun x hx => He.free_ok X N (c.facts (f := .free x) (by unfold faOf; exact List.mem_append_right _ (List.mem_append_left _ (List.mem_map_of_mem hx))))
  glo := fun x t ht => by
    have mem := lookup_mem ht
    have gk := List.all_eq_true.mp g _ mem
    have fk := c.facts (f := gloFa (x, t)) (by unfold faOf; exact List.mem_append_right _ (List.mem_append_right _ (List.mem_append_left _ (List.mem_map_of_mem mem))))
    cases t <;> simp only [gloOk, Bool.false_eq_true] at gk
    · obtain ⟨u, hu⟩ := He.int_ok X N fk
      exact ⟨_, .int _, hu, ⟨u, rfl⟩, fun F μ => by simp [Rep]⟩
    · obtain ⟨u, hu⟩ := He.str_ok X N fk
      simp only [Bool.and_eq_true, decide_eq_true_eq, List.all_eq_true] at gk
      have : (1000 : Nat) ≤ sizeLine := by decide
      refine ⟨_, .str _, hu, ⟨u, rfl⟩, fun F μ => ?_⟩
      simp only [Rep]
      exact ⟨trivial, by omega, gk.2⟩
    · rename_i l
      have hu := He.glo_ok X N fk
      simp only [Bool.and_eq_true, decide_eq_true_eq] at gk
      have q := List.all_eq_true.mp ct _ mem
      dsimp only at q
      cases hv : dvs l with
      | none => rw [hv] at q; cases q
      | some vs =>
        rw [hv] at q
        have : (1000 : Nat) ≤ sizeLine := by decide
        refine ⟨_, .ref (He.ga K x), hu, rfl, fun F μ => ?_⟩
        simp only [Rep]
        exact ⟨_, _, rfl, He.tupB_ok q F, by omega, dvs_ok hv⟩
  exc := fun j x hj hne => by
    have mem : x ∈ exn.filter (fun x : Str => decide (x ≠ "")) := List.mem_filter.mpr ⟨List.mem_of_getElem? hj, by simpa using hne⟩
    have m := He.glo_ok X N (c.facts (f := .glo x) (by unfold faOf; exact List.mem_append_right _ (List.mem_append_right _ (List.mem_append_right _ (List.mem_append_right _ (List.mem_map_of_mem mem))))))
    have q := He.exc_ok (c.facts (f := .exc x) (by unfold faOf; exact List.mem_append_right _ (List.mem_append_right _ (List.mem_append_right _ (List.mem_append_left _ (List.mem_map_of_mem mem))))))
    have e : exn.getD j "" = x := by rw [List.getD_eq_getElem?_getD, hj]; rfl
    show mg x = some (.ref (He.ga K (exn.getD j ""))) ∧ PySem.W.excIn K (He.ga K (exn.getD j "")) He.veBase "ValueError.__new__" = true ∧ PySem.W.keepIn K (.ref (He.ga K (exn.getD j ""))) = true ∧ PySem.W.subIn K (.ref (He.ga K (exn.getD j ""))) (.type "BaseException") = some true ∧ PySem.W.typeIn K (.ref (He.ga K (exn.getD j ""))) = some (.type "type")
    rw [e]
    exact ⟨m, q⟩
/-- a law over the module: its def, from the plain law -/
theorem law_def {P : Program} {w : World} {n li : Nat} {fi : FnI × FnH} {x : Str} {f : Addr} (X : K.In h) (N : h.Ns mainGlobals mg) (c : He.SaysD (faOf tab glo exn) ds K) (ct : tupGlo glo K = true) (ok : okAll tab glo exn tab.l tab.h ds = true) (b : BindAll tab.l tab.h ds) (g : glo.all gloOk = true)
    (hf : tab.at li = some fi) (hx : fi.2.N.take fi.1.np = [x]) (hm : mg fi.2.name = some (.ref f)) (law : ∀ ns : List Int, ns.length ≤ 63 → ∃ S', callF tab.l n li [.scr ns] [] = .ok (.bl true) S') :
    ∃ (fd : FuncData) (sp : Sp), (∀ (s : Shared) (v : Value), BindsTo s fd ⟨[v], []⟩ [(x, v)]) ∧ (∀ (H : Hp) (a : Addr) (ns : List Int), ns.length ≤ 63 → SqL K H a (ns.map V.int) → sp [.ref a] H (fun v _ => v = .bl true) fun _ _ _ => False) ∧
      ∀ base : Heap, FnOk P w K mg base (L2.CX P w) n f fd [x] sp := by
  have M := mod_ok (tab := tab) X N c ct ok b g
  obtain ⟨a, fd, S⟩ := M.fns li fi hf
  have e : a = f := by
    have := S.mg.symm.trans hm
    cases this; rfl
  subst e
  obtain ⟨d', FD, _, _, _⟩ := S.ex
  refine ⟨fd, spF (glOf K exn) tab n li, ?_, fun H a ns hl sq => ?_, fun base => ?_⟩
  · intro s v
    have q := S.bd s [v] (by rw [hx]; rfl)
    rw [hx] at q
    exact q
  · obtain ⟨S', hS⟩ := law ns hl
    have : (63 : Nat) ≤ sizeLine := by decide
    refine ⟨[.scr ns], H, [], [], ?_, ⟨Same.refl _, rfl, List.nodup_nil, by simp, fun i c a h => by simp [Store.at] at h⟩, ?_⟩
    · simp only [Reps, Rep]
      exact ⟨_, _, rfl, ⟨a, rfl, sq, by omega⟩, rfl⟩
    · rw [hS]
      intro v F' H' μ' _ _ r
      simpa only [Rep] using r
  · have := fn_ok (P := P) (w := w) (base := base) M n li fi a fd hf S
    rw [hx] at this
    exact this
end
theorem walk_ofW {l : PySem.W.OpenLaw} {n k : Nat} {q : Program} {loose : List Str} {XP : (Str → Option Value) → Heap → Prop} {YP : World → Heap → Prop} {d : DefRec} {x : Str}
    (hn : l.most = some n) (hn2 : n ≤ sizeLine) (hdf : d.params.defaults = []) (hr : Room k callerA)
    (F : ∀ (w : World) (mg : Str → Option Value) (fa : Addr) (h : Heap), YP w h → h.Ns mainGlobals mg → mg d.name = some (.ref fa) →
      ∃ K : PySem.W.Frag, K.In h ∧ ∃ (fd : FuncData) (sp : Sp), (∀ (s : Shared) (u : Value), BindsTo s fd ⟨[u], []⟩ [(x, u)]) ∧
        (∀ (H : Hp) (a : Addr) (ns : List Int), ns.length ≤ n → SqL K H a (ns.map V.int) → sp [.ref a] H (fun v _ => v = .bl true) fun _ _ _ => False) ∧
        ∀ base : Heap, FnOk l.prog w K mg base (L2.CX l.prog w) k fa fd [x] sp) :
    PySem.W.WalkO q loose XP YP l.row.toRowW d [] (fun f vs => PySem.call f vs) := by
  refine Att.attach_call hn hdf fun w s₀ s₁ mg mb fa o pm cd doc a vs ns G Y ho hd hcd hmg hobj hints hlen hg => ?_
  obtain ⟨K, KX, fd, sp, hb, hsp, hF⟩ := F w mg fa _ Y G.T.g hmg
  exact law_call KX G.T.g G.T.b G.T.builtins G.T.nolimit hg hobj hints (Nat.le_trans hlen hn2) hr (fun base _ _ => hF base) hb (fun H _ hS => hsp H a ns hlen hS) fun H e s' z => by
    obtain ⟨_, _, _, _, _, _, _, _, _, _, _, _, z⟩ := z
    exact z
end Ly
namespace Ly
open PySem PySem.Spec
/-! ### reckoning by rewriting: what follows is no lambda, so it is not looked into ahead of its time -/
/-- no step of reckoning, but a rewriting -/
theorem prf {α : Sort _} {a b : α} (h : a = b) : a = b := h
structure K (α β : Type) where
  run : α → Store → Out β
def bnd {α β : Type} (o : Out α) (k : K α β) : Out β := o.bind k.run
structure KS (α : Type) where
  run : α → Store → OutS
def bst {α : Type} (ρ : Lenv) (o : Out α) (k : KS α) : OutS := o.st ρ k.run
section
variable {α β : Type} {S : Store} {ρ : Lenv}
theorem bnd_ok {a : α} {k : K α β} : bnd (.ok a S) k = k.run a S := prf rfl
theorem bnd_exc {e : Nat} {k : K α β} : bnd (.exc e S) k = .exc e S := prf rfl
theorem bnd_cond {p : Bool} {a b : Out α} {k : K α β} : bnd (cond p a b) k = cond p (bnd a k) (bnd b k) := by cases p <;> rfl
theorem bst_ok {a : α} {k : KS α} : bst ρ (.ok a S) k = k.run a S := prf rfl
theorem bst_exc {e : Nat} {k : KS α} : bst ρ (.exc e S) k = .ex e ρ S := prf rfl
theorem bst_cond {p : Bool} {a b : Out α} {k : KS α} : bst ρ (cond p a b) k = cond p (bst ρ a k) (bst ρ b k) := by cases p <;> rfl
theorem of_some {a : α} : Out.of (some a) S = .ok a S := prf rfl
theorem of_cond {p : Bool} {a b : Option α} : Out.of (cond p a b) S = cond p (Out.of a S) (Out.of b S) := by cases p <;> rfl
theorem cond_same {p : Bool} {a : α} : cond p a a = a := by cases p <;> rfl
theorem cond_and {p q : Bool} : (cond p (.ok (.bl q) S) (.ok (.bl false) S) : Out T) = .ok (.bl (p && q)) S := by cases p <;> rfl
theorem cond_or {p q : Bool} : (cond p (.ok (.bl true) S) (.ok (.bl q) S) : Out T) = .ok (.bl (p || q)) S := by cases p <;> rfl
theorem cond_t {a b : α} : cond true a b = a := prf rfl
theorem cond_f {a b : α} : cond false a b = b := prf rfl
end
/-! expressions -/
def evo (c : Call) (a : Ex) (ρ : Lenv) (S : Store) : Out T := bor ρ a S (ev c a ρ S)
def kBin2 (o : BOp) (x : T) : K T T := ⟨fun y S => .of (binF o x y) S⟩
def kBin1 (c : Call) (o : BOp) (b : Ex) (ρ : Lenv) : K T T := ⟨fun x S => bnd (evo c b ρ S) (kBin2 o x)⟩
def kCmp2 (o : COp) (x : T) : K T T := ⟨fun y S => .of (cmpF o x y) S⟩
def kCmp1 (c : Call) (o : COp) (b : Ex) (ρ : Lenv) : K T T := ⟨fun x S => bnd (evo c b ρ S) (kCmp2 o x)⟩
/-- the right side of and, or, of a chain's second -/
def andK (c : Call) (b : Ex) (ρ : Lenv) (S : Store) : T → Out T
  | .bl true => ev c b ρ S
  | .bl false => .ok (.bl false) S
  | _ => .stk
def orK (c : Call) (b : Ex) (ρ : Lenv) (S : Store) : T → Out T
  | .bl true => .ok (.bl true) S
  | .bl false => ev c b ρ S
  | _ => .stk
def chnK (c : Call) (o : COp) (d : Ex) (ρ : Lenv) (y : T) (S : Store) : T → Out T
  | .bl true => bnd (ev c d ρ S) (kCmp2 o y)
  | .bl false => .ok (.bl false) S
  | _ => .stk
def kAnd (c : Call) (b : Ex) (ρ : Lenv) : K T T := ⟨fun x S => andK c b ρ S x⟩
def kOr (c : Call) (b : Ex) (ρ : Lenv) : K T T := ⟨fun x S => orK c b ρ S x⟩
def kChn3 (c : Call) (o : COp) (d : Ex) (ρ : Lenv) (y : T) : K T T := ⟨fun r S => chnK c o d ρ y S r⟩
def kChn2 (c : Call) (o o' : COp) (d : Ex) (ρ : Lenv) (x : T) : K T T := ⟨fun y S => bnd (.of (cmpF o x y) S) (kChn3 c o' d ρ y)⟩
def kChn1 (c : Call) (o o' : COp) (b d : Ex) (ρ : Lenv) : K T T := ⟨fun x S => bnd (ev c b ρ S) (kChn2 c o o' d ρ x)⟩
def kNot : K T T := ⟨fun x S => .of (x.tru.map fun k => T.bl (!k)) S⟩
def ifE (c : Call) (a b : Ex) (ρ : Lenv) (S : Store) : Option Bool → Out T
  | some true => ev c a ρ S
  | some false => ev c b ρ S
  | none => .stk
def kIfe (c : Call) (a b : Ex) (ρ : Lenv) : K T T := ⟨fun x S => ifE c a b ρ S x.tru⟩
def kTup : K (List T) T := ⟨fun l S => if l.length ≤ 1000 then .ok (.tup l) S else .stk⟩
def kLit : K (List T) T := ⟨fun l S => if l.length ≤ 1000 then .ok (.lst l) S else .stk⟩
def kCons2 (x : T) : K (List T) (List T) := ⟨fun l S => .ok (x :: l) S⟩
def kCons (c : Call) (es : Exs) (ρ : Lenv) : K T (List T) := ⟨fun x S => bnd (evs c es ρ S) (kCons2 x)⟩
def kConsB (c : Call) (es : Exs) (ρ : Lenv) : K T (List T) := ⟨fun x S => bnd (evb c es ρ S) (kCons2 x)⟩
def kSub2 (x : T) : K T T := ⟨fun y S => .of (T.sub? x y) S⟩
def kSub1 (c : Call) (i : Ex) (ρ : Lenv) : K T T := ⟨fun x S => bnd (ev c i ρ S) (kSub2 x)⟩
def slc3 (x : T) (l : Option Int) (S : Store) : Option (Option Int) → Out T
  | some h => .of (T.slc x l h) S
  | none => .stk
def kSlc3 (x : T) (l : Option Int) (hi : Ex) : K T T := ⟨fun h S => slc3 x l S (optI hi h)⟩
def slc2 (c : Call) (x : T) (hi : Ex) (ρ : Lenv) (S : Store) : Option (Option Int) → Out T
  | some l => bnd (ev c hi ρ S) (kSlc3 x l hi)
  | none => .stk
def kSlc2 (c : Call) (x : T) (lo hi : Ex) (ρ : Lenv) : K T T := ⟨fun l S => slc2 c x hi ρ S (optI lo l)⟩
def kSlc1 (c : Call) (lo hi : Ex) (ρ : Lenv) : K T T := ⟨fun x S => bnd (ev c lo ρ S) (kSlc2 c x lo hi ρ)⟩
def kCall (c : Call) (f : Nat) : K (List T) T := ⟨fun l S => c f l S⟩
def kBi (b : Bi) : K (List T) T := ⟨fun l S => .of (biF b l) S⟩
def kMth2 (m : Mt) (x : T) : K (List T) T := ⟨fun l S => .of (mtF m x l) S⟩
def mthK (c : Call) (m : Mt) (es : Exs) (ρ : Lenv) (S : Store) : T → Out T
  | .str s => bnd (evb c es ρ S) (kMth2 m (.str s))
  | _ => .stk
def kMth1 (c : Call) (m : Mt) (es : Exs) (ρ : Lenv) : K T T := ⟨fun x S => mthK c m es ρ S x⟩
def kRev : K T T := ⟨fun x S => .of (revF x) S⟩
def kOp (o : Op) : K (List T) T := ⟨fun l S => opO S (opF o l S)⟩
def kIsIS : K T T := ⟨fun x S => .of (isISf x) S⟩
def kSome : K T (Option T) := ⟨fun y S => .ok (some y) S⟩
def kLst : K (List T) T := ⟨fun r S => .ok (.lst r) S⟩
def lcIf (c : Call) (elt : Ex) (ρ : Lenv) (S : Store) : Option Bool → Out (Option T)
  | some true => bnd (ev c elt ρ S) kSome
  | some false => .ok none S
  | none => .stk
def kLcC (c : Call) (elt : Ex) (ρ : Lenv) : K T (Option T) := ⟨fun x S => lcIf c elt ρ S x.tru⟩
def lcN (c : Call) (elt : Ex) (S : Store) : Option Lenv → Out (Option T)
  | some ρ => (bnd (ev c elt ρ S) kSome).noX
  | none => .stk
def lcC (c : Call) (elt d : Ex) (S : Store) : Option Lenv → Out (Option T)
  | some ρ => (bnd (ev c d ρ S) (kLcC c elt ρ)).noX
  | none => .stk
def lcF (c : Call) (elt : Ex) (tg : Tg) (ρ : Lenv) (x : T) (S : Store) : Out (Option T) := lcN c elt S (tg.put x (wipeR ρ tg.slots))
def lcG (c : Call) (elt : Ex) (tg : Tg) (d : Ex) (ρ : Lenv) (x : T) (S : Store) : Out (Option T) := lcC c elt d S (tg.put x (wipeR ρ tg.slots))
def lcI (f : T → Store → Out (Option T)) (S : Store) : Option (List T) → Out T
  | some l => bnd (compL f l S) kLst
  | none => .stk
def kLc (f : T → Store → Out (Option T)) (k : SK) : K (List T) T := ⟨fun ts S => lcI f S (itemsF k ts)⟩
def varO (S : Store) : Option Sl → Out T
  | some (.val t) => .ok t S
  | _ => .stk
def borO (S : Store) : Option Sl → Out T
  | some (.own l) => .ok (.lst l) S
  | _ => .stk
section
variable {c : Call} {ρ : Lenv} {S : Store} {o o' : BOp} {q q' : COp} {a b d e : Ex} {es : Exs} {x y : T} {l : List T} {p : Bool}
theorem ev_lit' {t : T} : ev c (.lit t) ρ S = .ok t S := by rw [ev]
theorem ev_glb' {x : Str} {t : T} : ev c (.glb x t) ρ S = .ok t S := by rw [ev]
theorem ev_var' {i : Nat} : ev c (.var i) ρ S = varO S ρ[i]? := by rw [ev]; rfl
theorem varO_v {t : T} : varO S (some (.val t)) = .ok t S := prf rfl
theorem ev_neg' {i : Int} : ev c (.neg i) ρ S = .ok (.int (-i)) S := by rw [ev]
theorem ev_nop' : ev c .nop ρ S = .ok .non S := by rw [ev]
theorem ev_bin' : ev c (.bin o a b) ρ S = bnd (evo c a ρ S) (kBin1 c o b ρ) := by rw [ev]; rfl
theorem kBin1_r : (kBin1 c o b ρ).run x S = bnd (evo c b ρ S) (kBin2 o x) := prf rfl
theorem kBin2_r : (kBin2 o x).run y S = .of (binF o x y) S := prf rfl
theorem ev_cmp' : ev c (.cmp q a b) ρ S = bnd (evo c a ρ S) (kCmp1 c q b ρ) := by rw [ev]; rfl
theorem kCmp1_r : (kCmp1 c q b ρ).run x S = bnd (evo c b ρ S) (kCmp2 q x) := prf rfl
theorem kCmp2_r : (kCmp2 q x).run y S = .of (cmpF q x y) S := prf rfl
theorem ev_chn' : ev c (.chn q q' a b d) ρ S = bnd (ev c a ρ S) (kChn1 c q q' b d ρ) := by
  rw [ev]; rfl
theorem kChn1_r : (kChn1 c q q' b d ρ).run x S = bnd (ev c b ρ S) (kChn2 c q q' d ρ x) := prf rfl
theorem kChn2_r : (kChn2 c q q' d ρ x).run y S = bnd (.of (cmpF q x y) S) (kChn3 c q' d ρ y) := prf rfl
theorem kChn3_t : (kChn3 c q d ρ y).run (.bl true) S = bnd (ev c d ρ S) (kCmp2 q y) := prf rfl
theorem kChn3_f : (kChn3 c q d ρ y).run (.bl false) S = .ok (.bl false) S := prf rfl
theorem kChn3_b : (kChn3 c q d ρ y).run (.bl p) S = cond p (bnd (ev c d ρ S) (kCmp2 q y)) (.ok (.bl false) S) := by cases p <;> rfl
theorem ev_and' : ev c (.and a b) ρ S = bnd (ev c a ρ S) (kAnd c b ρ) := by
  rw [ev]; rfl
theorem kAnd_t : (kAnd c b ρ).run (.bl true) S = ev c b ρ S := prf rfl
theorem kAnd_f : (kAnd c b ρ).run (.bl false) S = .ok (.bl false) S := prf rfl
theorem kAnd_b : (kAnd c b ρ).run (.bl p) S = cond p (ev c b ρ S) (.ok (.bl false) S) := by cases p <;> rfl
theorem ev_or' : ev c (.or a b) ρ S = bnd (ev c a ρ S) (kOr c b ρ) := by
  rw [ev]; rfl
theorem kOr_t : (kOr c b ρ).run (.bl true) S = .ok (.bl true) S := prf rfl
theorem kOr_f : (kOr c b ρ).run (.bl false) S = ev c b ρ S := prf rfl
theorem kOr_b : (kOr c b ρ).run (.bl p) S = cond p (.ok (.bl true) S) (ev c b ρ S) := by cases p <;> rfl
theorem ev_one' : ev c (.one a) ρ S = ev c a ρ S := by rw [ev]
theorem ev_not' : ev c (.not a) ρ S = bnd (evo c a ρ S) kNot := by rw [ev]; rfl
theorem kNot_r : kNot.run x S = .of (x.tru.map fun k => T.bl (!k)) S := prf rfl
theorem ev_ife' : ev c (.ife d a b) ρ S = bnd (ev c d ρ S) (kIfe c a b ρ) := by
  rw [ev]; rfl
theorem kIfe_r : (kIfe c a b ρ).run x S = ifE c a b ρ S x.tru := prf rfl
theorem ifE_t : ifE c a b ρ S (some true) = ev c a ρ S := prf rfl
theorem ifE_f : ifE c a b ρ S (some false) = ev c b ρ S := prf rfl
theorem ifE_b : ifE c a b ρ S (some p) = cond p (ev c a ρ S) (ev c b ρ S) := by cases p <;> rfl
theorem ev_tup' : ev c (.tup es) ρ S = bnd (evs c es ρ S) kTup := by rw [ev]; rfl
theorem kTup_r : kTup.run l S = if l.length ≤ 1000 then .ok (.tup l) S else .stk := prf rfl
theorem ev_lst' : ev c (.lst es) ρ S = bnd (evs c es ρ S) kLit := by rw [ev]; rfl
theorem kLit_r : kLit.run l S = if l.length ≤ 1000 then .ok (.lst l) S else .stk := prf rfl
theorem evs_nil : evs c .nil ρ S = .ok [] S := by rw [evs]
theorem evs_cons : evs c (.cons e es) ρ S = bnd (ev c e ρ S) (kCons c es ρ) := by rw [evs]; rfl
theorem kCons_r : (kCons c es ρ).run x S = bnd (evs c es ρ S) (kCons2 x) := prf rfl
theorem kCons2_r : (kCons2 x).run l S = .ok (x :: l) S := prf rfl
theorem evb_nil : evb c .nil ρ S = .ok [] S := by rw [evb]
theorem evb_cons : evb c (.cons e es) ρ S = bnd (evo c e ρ S) (kConsB c es ρ) := by rw [evb]; rfl
theorem kConsB_r : (kConsB c es ρ).run x S = bnd (evb c es ρ S) (kCons2 x) := prf rfl
theorem ev_sub' : ev c (.sub a b) ρ S = bnd (evo c a ρ S) (kSub1 c b ρ) := by rw [ev]; rfl
theorem kSub1_r : (kSub1 c b ρ).run x S = bnd (ev c b ρ S) (kSub2 x) := prf rfl
theorem kSub2_r : (kSub2 x).run y S = .of (T.sub? x y) S := prf rfl
theorem ev_slc' : ev c (.slc a b d) ρ S = bnd (evo c a ρ S) (kSlc1 c b d ρ) := by
  rw [ev]
  show Out.bind _ _ = Out.bind _ _
  refine congrArg _ (funext fun x => funext fun S1 => ?_)
  show Out.bind _ _ = Out.bind _ _
  refine congrArg _ (funext fun l => funext fun S2 => ?_)
  show Out.opt _ _ = slc2 _ _ _ _ _ _
  cases optI b l with
  | none => rfl
  | some l =>
    show Out.bind _ _ = Out.bind _ _
    refine congrArg _ (funext fun h => funext fun S3 => ?_)
    show Out.opt _ _ = slc3 _ _ _ _
    cases optI d h <;> rfl
theorem kSlc1_r : (kSlc1 c b d ρ).run x S = bnd (ev c b ρ S) (kSlc2 c x b d ρ) := prf rfl
theorem kSlc2_r : (kSlc2 c x b d ρ).run y S = slc2 c x d ρ S (optI b y) := prf rfl
theorem slc2_r {l : Option Int} : slc2 c x d ρ S (some l) = bnd (ev c d ρ S) (kSlc3 x l d) := prf rfl
theorem kSlc3_r {l : Option Int} : (kSlc3 x l d).run y S = slc3 x l S (optI d y) := prf rfl
theorem slc3_r {l h : Option Int} : slc3 x l S (some h) = .of (T.slc x l h) S := prf rfl
theorem optI_nop {t : T} : optI .nop t = some none := prf rfl
theorem optI_lit {u : T} {i : Int} : optI (.lit u) (.int i) = some (some i) := prf rfl
theorem optI_var {j : Nat} {i : Int} : optI (.var j) (.int i) = some (some i) := prf rfl
theorem optI_neg {j : Int} {i : Int} : optI (.neg j) (.int i) = some (some i) := prf rfl
theorem optI_bin {i : Int} : optI (.bin o a b) (.int i) = some (some i) := prf rfl
theorem optI_sub {i : Int} : optI (.sub a b) (.int i) = some (some i) := prf rfl
theorem optI_bi {i : Int} {f : Bi} : optI (.bi f es) (.int i) = some (some i) := prf rfl
theorem optI_call {i : Int} {f : Nat} : optI (.call f es) (.int i) = some (some i) := prf rfl
theorem optI_glb {i : Int} {u : Str} {t : T} : optI (.glb u t) (.int i) = some (some i) := prf rfl
theorem ev_call' {f : Nat} : ev c (.call f es) ρ S = bnd (evs c es ρ S) (kCall c f) := by rw [ev]; rfl
theorem kCall_r {f : Nat} : (kCall c f).run l S = c f l S := prf rfl
theorem ev_bi' {f : Bi} : ev c (.bi f es) ρ S = bnd (evb c es ρ S) (kBi f) := by rw [ev]; rfl
theorem kBi_r {f : Bi} : (kBi f).run l S = .of (biF f l) S := prf rfl
theorem ev_mth' {m : Mt} : ev c (.mth m a es) ρ S = bnd (ev c a ρ S) (kMth1 c m es ρ) := by rw [ev]; refine congrArg _ (funext fun x => funext fun S => ?_); cases x <;> rfl
theorem kMth1_r {m : Mt} {z : List Nat} : (kMth1 c m es ρ).run (.str z) S = bnd (evb c es ρ S) (kMth2 m (.str z)) := prf rfl
theorem kMth2_r {m : Mt} : (kMth2 m x).run l S = .of (mtF m x l) S := prf rfl
theorem ev_isIS' : ev c (.isIS a) ρ S = bnd (evo c a ρ S) kIsIS := by rw [ev]; rfl
theorem ev_rev' : ev c (.rev a) ρ S = bnd (evo c a ρ S) kRev := by rw [ev]; rfl
theorem kRev_r : kRev.run x S = .of (revF x) S := prf rfl
theorem ev_op' {o : Op} : ev c (.op o es) ρ S = bnd (evb c es ρ S) (kOp o) := by rw [ev]; rfl
theorem kOp_r {o : Op} : (kOp o).run l S = opO S (opF o l S) := prf rfl
theorem opO_s {t : T} {S' : Store} : opO S (some (t, S')) = .ok t S' := prf rfl
theorem kIsIS_r : kIsIS.run x S = .of (isISf x) S := prf rfl
theorem ev_lc0' {tg : Tg} {k : SK} : ev c (.lc e tg k es .nil) ρ S = bnd (evb c es ρ S) (kLc (lcF c e tg ρ) k) := by
  rw [ev]; unfold bnd kLc; congr 1; funext ts S1; show _ = lcI _ _ _; cases itemsF k ts with
  | none => rfl
  | some l =>
    show Out.bind _ _ = Out.bind _ _
    have : (fun x S => Out.opt (tg.put x (wipeR ρ tg.slots)) fun ρ' => ((evs c .nil ρ' S).bind fun bs S1 => Out.opt (allTru bs) fun b => if b then (ev c e ρ' S1).bind fun y S2 => .ok (some y) S2 else .ok none S1).noX) = lcF c e tg ρ := by
      funext x S; unfold lcF; cases tg.put x (wipeR ρ tg.slots) with
      | none => rfl
      | some ρ' => show Out.noX _ = Out.noX _; rw [evs]; rfl
    rw [this]; rfl
theorem ev_lc1' {tg : Tg} {k : SK} : ev c (.lc e tg k es (.cons d .nil)) ρ S = bnd (evb c es ρ S) (kLc (lcG c e tg d ρ) k) := by
  rw [ev]; unfold bnd kLc; congr 1; funext ts S1; show _ = lcI _ _ _; cases itemsF k ts with
  | none => rfl
  | some l =>
    show Out.bind _ _ = Out.bind _ _
    have : (fun x S => Out.opt (tg.put x (wipeR ρ tg.slots)) fun ρ' => ((evs c (.cons d .nil) ρ' S).bind fun bs S1 => Out.opt (allTru bs) fun b => if b then (ev c e ρ' S1).bind fun y S2 => .ok (some y) S2 else .ok none S1).noX) = lcG c e tg d ρ := by
      funext x S; unfold lcG; cases tg.put x (wipeR ρ tg.slots) with
      | none => rfl
      | some ρ' =>
        show Out.noX _ = Out.noX _
        congr 1
        rw [evs]
        unfold bnd kLcC
        cases ev c d ρ' S with
        | stk => rfl
        | exc => rfl
        | ok t S1 =>
          simp only [Out.bind, evs, allTru]
          cases t.tru with
          | none => rfl
          | some b => cases b <;> rfl
    rw [this]; rfl
theorem kLc_r {f : T → Store → Out (Option T)} {k : SK} : (kLc f k).run l S = lcI f S (itemsF k l) := prf rfl
theorem lcI_r {f : T → Store → Out (Option T)} : lcI f S (some l) = bnd (compL f l S) kLst := prf rfl
theorem kLst_r : kLst.run l S = .ok (.lst l) S := prf rfl
theorem kSome_r : kSome.run x S = .ok (some x) S := prf rfl
theorem lcF_r {tg : Tg} : lcF c e tg ρ x S = lcN c e S (tg.put x (wipeR ρ tg.slots)) := prf rfl
theorem lcG_r {tg : Tg} : lcG c e tg d ρ x S = lcC c e d S (tg.put x (wipeR ρ tg.slots)) := prf rfl
theorem lcN_r : lcN c e S (some ρ) = (bnd (ev c e ρ S) kSome).noX := prf rfl
theorem lcC_r : lcC c e d S (some ρ) = (bnd (ev c d ρ S) (kLcC c e ρ)).noX := prf rfl
theorem kLcC_r : (kLcC c e ρ).run x S = lcIf c e ρ S x.tru := prf rfl
theorem lcIf_t : lcIf c e ρ S (some true) = bnd (ev c e ρ S) kSome := prf rfl
theorem lcIf_f : lcIf c e ρ S (some false) = .ok none S := prf rfl
theorem lcIf_b : lcIf c e ρ S (some p) = cond p (bnd (ev c e ρ S) kSome) (.ok none S) := by cases p <;> rfl
theorem noX_ok {α : Type} {a : α} : (Out.ok a S).noX = .ok a S := prf rfl
theorem noX_cond {α : Type} {a b : Out α} : (cond p a b).noX = cond p a.noX b.noX := by cases p <;> rfl
end
section
variable {c : Call} {ρ : Lenv} {S : Store}
theorem evo_lit {t : T} : evo c (.lit t) ρ S = ev c (.lit t) ρ S := prf rfl
theorem evo_glb {x : Str} {t : T} : evo c (.glb x t) ρ S = ev c (.glb x t) ρ S := prf rfl
theorem evo_var {i : Nat} : evo c (.var i) ρ S = ev c (.var i) ρ S := prf rfl
theorem evo_bin {o : BOp} {a b : Ex} : evo c (.bin o a b) ρ S = ev c (.bin o a b) ρ S := prf rfl
theorem evo_neg {i : Int} : evo c (.neg i) ρ S = ev c (.neg i) ρ S := prf rfl
theorem evo_cmp {o : COp} {a b : Ex} : evo c (.cmp o a b) ρ S = ev c (.cmp o a b) ρ S := prf rfl
theorem evo_chn {o o2 : COp} {a b d : Ex} : evo c (.chn o o2 a b d) ρ S = ev c (.chn o o2 a b d) ρ S := prf rfl
theorem evo_and {a b : Ex} : evo c (.and a b) ρ S = ev c (.and a b) ρ S := prf rfl
theorem evo_or {a b : Ex} : evo c (.or a b) ρ S = ev c (.or a b) ρ S := prf rfl
theorem evo_one {a : Ex} : evo c (.one a) ρ S = ev c (.one a) ρ S := prf rfl
theorem evo_not {a : Ex} : evo c (.not a) ρ S = ev c (.not a) ρ S := prf rfl
theorem evo_ife {d a b : Ex} : evo c (.ife d a b) ρ S = ev c (.ife d a b) ρ S := prf rfl
theorem evo_tup {es : Exs} : evo c (.tup es) ρ S = ev c (.tup es) ρ S := prf rfl
theorem evo_lst {es : Exs} : evo c (.lst es) ρ S = ev c (.lst es) ρ S := prf rfl
theorem evo_sub {a i : Ex} : evo c (.sub a i) ρ S = ev c (.sub a i) ρ S := prf rfl
theorem evo_slc {a i j : Ex} : evo c (.slc a i j) ρ S = ev c (.slc a i j) ρ S := prf rfl
theorem evo_call {f : Nat} {es : Exs} : evo c (.call f es) ρ S = ev c (.call f es) ρ S := prf rfl
theorem evo_bi {b : Bi} {es : Exs} : evo c (.bi b es) ρ S = ev c (.bi b es) ρ S := prf rfl
theorem evo_mth {m : Mt} {a : Ex} {es : Exs} : evo c (.mth m a es) ρ S = ev c (.mth m a es) ρ S := prf rfl
theorem evo_rev {a : Ex} : evo c (.rev a) ρ S = ev c (.rev a) ρ S := prf rfl
theorem evo_op {o : Op} {es : Exs} : evo c (.op o es) ρ S = ev c (.op o es) ρ S := prf rfl
theorem evo_isIS {a : Ex} : evo c (.isIS a) ρ S = ev c (.isIS a) ρ S := prf rfl
theorem evo_lc {e : Ex} {g : Tg} {k : SK} {s d : Exs} : evo c (.lc e g k s d) ρ S = ev c (.lc e g k s d) ρ S := prf rfl
theorem evo_bor {i : Nat} : evo c (.bor i) ρ S = borO S ρ[i]? := prf rfl
theorem borO_o {l : List T} : borO S (some (.own l)) = .ok (.lst l) S := prf rfl
end
/-! comprehensions over what is known -/
def compG {α : Type} (f : α → Store → Out (Option T)) : List α → Store → Out (List T)
  | [], S => .ok [] S
  | x :: l, S => (f x S).bind fun o S1 => (compG f l S1).bind fun r S2 => .ok (match o with | some y => y :: r | none => r) S2
section
variable {α : Type} {f : T → Store → Out (Option T)} {h : α → T}
theorem compL_mem {g : α → Store → Out (Option T)} : ∀ {l : List α} {S : Store}, (∀ a ∈ l, ∀ S, f (h a) S = g a S) → compL f (l.map h) S = compG g l S
  | [], _, _ => rfl
  | a :: l, S, H => by
    rw [List.map_cons, compL, compG, H a List.mem_cons_self S]
    cases g a S with
    | stk => rfl
    | exc => rfl
    | ok o S1 =>
      simp only [Out.bind]
      rw [compL_mem fun b hb => H b (List.mem_cons_of_mem _ hb)]
      first | done | rfl
theorem compL_all {l : List α} {S : Store} : compL f (l.map h) S = compG (fun a S => f (h a) S) l S := compL_mem fun _ _ _ => rfl
def kCL2 (o : Option T) : K (List T) (List T) := ⟨fun r S => .ok (match o with | some y => y :: r | none => r) S⟩
def kCL (f : T → Store → Out (Option T)) (l : List T) : K (Option T) (List T) := ⟨fun o S => bnd (compL f l S) (kCL2 o)⟩
theorem compL_nil {S : Store} : compL f [] S = .ok [] S := prf rfl
theorem compL_cons {x : T} {l : List T} {S : Store} : compL f (x :: l) S = bnd (f x S) (kCL f l) := prf rfl
theorem kCL_r {l : List T} {o : Option T} {S : Store} : (kCL f l).run o S = bnd (compL f l S) (kCL2 o) := prf rfl
theorem kCL2_s {l : List T} {y : T} {S : Store} : (kCL2 (some y)).run l S = .ok (y :: l) S := prf rfl
theorem kCL2_n {l : List T} {S : Store} : (kCL2 none).run l S = .ok l S := prf rfl
theorem compG_ok {g : α → T} {l : List α} {S : Store} : compG (fun a S => .ok (some (g a)) S) l S = .ok (l.map g) S := by
  induction l with
  | nil => rfl
  | cons a l ih => simp only [compG, Out.bind, ih, List.map_cons]
theorem compG_fil {g : α → T} {p : α → Bool} {l : List α} {S : Store} : compG (fun a S => cond (p a) (.ok (some (g a)) S) (.ok none S)) l S = .ok ((l.filter p).map g) S := by
  induction l with
  | nil => rfl
  | cons a l ih => 
    simp only [compG]
    cases h : p a <;> simp [Out.bind, ih, List.filter_cons, h]
theorem compG_mem {g g' : α → Store → Out (Option T)} : ∀ {l : List α} {S : Store}, (∀ a ∈ l, ∀ S, g a S = g' a S) → compG g l S = compG g' l S
  | [], _, _ => rfl
  | a :: l, S, H => by
    rw [compG, compG, H a List.mem_cons_self S]
    cases g' a S with
    | stk => rfl
    | exc => rfl
    | ok o S1 =>
      simp only [Out.bind]
      rw [compG_mem fun b hb => H b (List.mem_cons_of_mem _ hb)]
end
end Ly
namespace Ly
open PySem PySem.Spec
/-! ### statements -/
noncomputable def nxS (c : Call) (ss : Sms) (o : OutS) : OutS := o.nxt fun ρ S => exs c ss ρ S
noncomputable def ifS (c : Call) (a b : Sms) (ρ : Lenv) (S : Store) : Option Bool → OutS
  | none => .stk
  | some true => exs c a ρ S
  | some false => exs c b ρ S
noncomputable def kIf (c : Call) (a b : Sms) (ρ : Lenv) : KS T := ⟨fun t S => ifS c a b ρ S t.tru⟩
def kRet : KS T := ⟨fun t S => .rt t S⟩
def kExpr (ρ : Lenv) : KS T := ⟨fun _ S => .nx ρ S⟩
def kAsg (ρ : Lenv) (i : Nat) : KS T := ⟨fun t S => .nx (ρ.set i (.val t)) S⟩
def ownK (ρ : Lenv) (i : Nat) (S : Store) (b : Bool) : T → OutS
  | .lst l => if b then .nx (ρ.set i (.own l)) S else .stk
  | _ => .stk
def kOwn (ρ : Lenv) (i : Nat) (e : Ex) : KS T := ⟨fun t S => ownK ρ i S (fresh e) t⟩
def relK (ρ : Lenv) (i : Nat) (S : Store) : Option Sl → OutS
  | some (.own l) => .nx (ρ.set i (.val (.lst l))) S
  | some (.val _) => .nx ρ S
  | _ => .stk
def kApp (ρ : Lenv) (i : Nat) (l : List T) : KS T := ⟨fun t S => if l.length < sizeLine then .nx (ρ.set i (.own (l ++ [t]))) S else .stk⟩
def appK (c : Call) (ρ : Lenv) (i : Nat) (e : Ex) (S : Store) : Option Sl → OutS
  | some (.own l) => bst ρ (ev c e ρ S) (kApp ρ i l)
  | _ => .stk
def extK (ρ : Lenv) (i : Nat) (l : List T) (S : Store) : T → OutS
  | .lst m => if l.length + m.length ≤ sizeLine then .nx (ρ.set i (.own (l ++ m))) S else .stk
  | _ => .stk
def kExt (ρ : Lenv) (i : Nat) (l : List T) : KS T := ⟨fun t S => extK ρ i l S t⟩
def extO (c : Call) (ρ : Lenv) (i : Nat) (e : Ex) (S : Store) : Option Sl → OutS
  | some (.own l) => bst ρ (ev c e ρ S) (kExt ρ i l)
  | _ => .stk
def kPar2b (ρ : Lenv) (i j : Nat) (x : T) : KS T := ⟨fun y S => .nx ((ρ.set i (.val x)).set j (.val y)) S⟩
def kPar2a (c : Call) (ρ : Lenv) (i j : Nat) (b : Ex) : KS T := ⟨fun x S => bst ρ (ev c b ρ S) (kPar2b ρ i j x)⟩
def kPar3c (ρ : Lenv) (i j k : Nat) (x y : T) : KS T := ⟨fun z S => .nx (((ρ.set i (.val x)).set j (.val y)).set k (.val z)) S⟩
def kPar3b (c : Call) (ρ : Lenv) (i j k : Nat) (d : Ex) (x : T) : KS T := ⟨fun y S => bst ρ (ev c d ρ S) (kPar3c ρ i j k x y)⟩
def kPar3a (c : Call) (ρ : Lenv) (i j k : Nat) (b d : Ex) : KS T := ⟨fun x S => bst ρ (ev c b ρ S) (kPar3b c ρ i j k d x)⟩
def unpK (S : Store) : Option Lenv → OutS
  | some ρ => .nx ρ S
  | none => .stk
def kPar2ob (ρ : Lenv) (i j : Nat) (oi oj : Bool) (a b : Ex) (x : T) : KS T := ⟨fun y S => unpK S ((putO ρ i a oi x).bind fun ρ => putO ρ j b oj y)⟩
def kPar2oa (c : Call) (ρ : Lenv) (i j : Nat) (oi oj : Bool) (a b : Ex) : KS T := ⟨fun x S => bst ρ (ev c b ρ S) (kPar2ob ρ i j oi oj a b x)⟩
def kPar3oc (ρ : Lenv) (i j k : Nat) (oi oj ok : Bool) (a b d : Ex) (x y : T) : KS T := ⟨fun z S => unpK S ((putO ρ i a oi x).bind fun ρ => (putO ρ j b oj y).bind fun ρ => putO ρ k d ok z)⟩
def kPar3ob (c : Call) (ρ : Lenv) (i j k : Nat) (oi oj ok : Bool) (a b d : Ex) (x : T) : KS T := ⟨fun y S => bst ρ (ev c d ρ S) (kPar3oc ρ i j k oi oj ok a b d x y)⟩
def kPar3oa (c : Call) (ρ : Lenv) (i j k : Nat) (oi oj ok : Bool) (a b d : Ex) : KS T := ⟨fun x S => bst ρ (ev c b ρ S) (kPar3ob c ρ i j k oi oj ok a b d x)⟩
def kUnp (tg : Tgs) (ρ : Lenv) : KS T := ⟨fun t S => unpK S ((Tg.tp tg).put t ρ)⟩
def forN (c : Call) (body : Sms) (S : Store) : Option Lenv → OutS → OutS
  | some _, o => o
  | none, _ => .stk
noncomputable def forB (c : Call) (body : Sms) (lv : List (Nat × Bool)) (tmp : List Nat) (S : Store) : Option Lenv → OutS
  | some ρ => (exs c body ρ S).fix lv tmp
  | none => .stk
noncomputable def forF (c : Call) (tg : Tg) (body : Sms) (lv : List (Nat × Bool)) (tmp : List Nat) (x : T) (ρ : Lenv) (S : Store) : OutS := forB c body lv tmp S (tg.put x ρ)
noncomputable def forI (c : Call) (tg : Tg) (body : Sms) (lv : List (Nat × Bool)) (tmp : List Nat) (ρ : Lenv) (S : Store) : Option (List T) → OutS
  | some l => forL (forF c tg body lv tmp) l (wipeR ρ tmp) S
  | none => .stk
noncomputable def kFor (c : Call) (tg : Tg) (k : SK) (body : Sms) (lv : List (Nat × Bool)) (tmp : List Nat) (ρ : Lenv) : KS (List T) := ⟨fun ts S => forI c tg body lv tmp ρ S (itemsF k ts)⟩
def tryS (c : Call) (e : Nat) (h : Lenv → Store → OutS) : OutS → OutS
  | .ex k ρ S => if isSub k e then h ρ S else .ex k ρ S
  | o => o
section
variable {c : Call} {ρ : Lenv} {S : Store} {ss a b : Sms} {t : T} {e d d2 : Ex} {i j k : Nat} {p : Bool} {l m : List T}
theorem exs_nil' : exs c .nil ρ S = .nx ρ S := by rw [exs]
theorem exs_cons' {s : Sm} : exs c (.cons s ss) ρ S = nxS c ss (ex c s ρ S) := by rw [exs]; rfl
theorem nxS_nx : nxS c ss (.nx ρ S) = exs c ss ρ S := prf rfl
theorem nxS_rt : nxS c ss (.rt t S) = .rt t S := prf rfl
theorem nxS_bk : nxS c ss (.bk ρ S) = .bk ρ S := prf rfl
theorem nxS_ct : nxS c ss (.ct ρ S) = .ct ρ S := prf rfl
theorem nxS_ex : nxS c ss (.ex k ρ S) = .ex k ρ S := prf rfl
theorem nxS_cond {x y : OutS} : nxS c ss (cond p x y) = cond p (nxS c ss x) (nxS c ss y) := by cases p <;> rfl
theorem fin_rt : (OutS.rt t S).fin = .ok t S := prf rfl
theorem fin_nx : (OutS.nx ρ S).fin = .ok .non S := prf rfl
theorem fin_ex : (OutS.ex k ρ S).fin = .exc k S := prf rfl
theorem fin_cond {x y : OutS} : (cond p x y).fin = cond p x.fin y.fin := by cases p <;> rfl
theorem ifS_t : ifS c a b ρ S (some true) = exs c a ρ S := prf rfl
theorem ifS_f : ifS c a b ρ S (some false) = exs c b ρ S := prf rfl
theorem ifS_b : ifS c a b ρ S (some p) = cond p (exs c a ρ S) (exs c b ρ S) := by cases p <;> rfl
theorem ex_iff' : ex c (.iff e a b) ρ S = bst ρ (evo c e ρ S) (kIf c a b ρ) := by rw [ex]; rfl
theorem kIf_r : (kIf c a b ρ).run t S = ifS c a b ρ S t.tru := prf rfl
theorem ex_ret' : ex c (.ret e) ρ S = bst ρ (ev c e ρ S) kRet := by rw [ex]; rfl
theorem kRet_r : kRet.run t S = .rt t S := prf rfl
theorem ex_retN' : ex c .retN ρ S = .rt .non S := by rw [ex]
theorem ex_expr' : ex c (.expr e) ρ S = bst ρ (ev c e ρ S) (kExpr ρ) := by rw [ex]; rfl
theorem kExpr_r : (kExpr ρ).run t S = .nx ρ S := prf rfl
theorem ex_asg' : ex c (.asg i e) ρ S = bst ρ (ev c e ρ S) (kAsg ρ i) := by rw [ex]; rfl
theorem ex_asgC' : ex c (.asgC i e) ρ S = bst ρ (ev c e ρ S) (kAsg ρ i) := by rw [ex]; rfl
theorem kAsg_r : (kAsg ρ i).run t S = .nx (ρ.set i (.val t)) S := prf rfl
theorem ex_own' : ex c (.own i e) ρ S = bst ρ (ev c e ρ S) (kOwn ρ i e) := by rw [ex]; refine congrArg _ (funext fun t => funext fun S => ?_); cases t <;> rfl
theorem ex_ownC' : ex c (.ownC i e) ρ S = bst ρ (ev c e ρ S) (kOwn ρ i e) := by rw [ex]; refine congrArg _ (funext fun t => funext fun S => ?_); cases t <;> rfl
theorem kOwn_r : (kOwn ρ i e).run t S = ownK ρ i S (fresh e) t := prf rfl
theorem ownK_l : ownK ρ i S true (.lst l) = .nx (ρ.set i (.own l)) S := prf rfl
theorem ex_rel' : ex c (.rel i) ρ S = relK ρ i S ρ[i]? := by rw [ex]; rfl
theorem relK_o : relK ρ i S (some (.own l)) = .nx (ρ.set i (.val (.lst l))) S := prf rfl
theorem relK_v : relK ρ i S (some (.val t)) = .nx ρ S := prf rfl
theorem ex_app' : ex c (.app i e) ρ S = appK c ρ i e S ρ[i]? := by
  rw [ex]; unfold ownAt
  cases ρ[i]? with
  | none => rfl
  | some x => cases x <;> rfl
theorem appK_o : appK c ρ i e S (some (.own l)) = bst ρ (ev c e ρ S) (kApp ρ i l) := prf rfl
theorem kApp_r : (kApp ρ i l).run t S = if l.length < sizeLine then .nx (ρ.set i (.own (l ++ [t]))) S else .stk := prf rfl
theorem ex_ext' : ex c (.ext i e) ρ S = extO c ρ i e S ρ[i]? := by
  rw [ex]; unfold ownAt
  cases ρ[i]? with
  | none => rfl
  | some x =>
    cases x with
    | own l => exact congrArg ((ev c e ρ S).st ρ) (by funext t S; cases t <;> rfl)
    | _ => rfl
theorem extO_o : extO c ρ i e S (some (.own l)) = bst ρ (ev c e ρ S) (kExt ρ i l) := prf rfl
theorem kExt_r : (kExt ρ i l).run t S = extK ρ i l S t := prf rfl
theorem extK_l : extK ρ i l S (.lst m) = if l.length + m.length ≤ sizeLine then .nx (ρ.set i (.own (l ++ m))) S else .stk := prf rfl
theorem ex_par2' : ex c (.par2 i j d e) ρ S = bst ρ (ev c d ρ S) (kPar2a c ρ i j e) := by rw [ex]; rfl
theorem kPar2a_r : (kPar2a c ρ i j e).run t S = bst ρ (ev c e ρ S) (kPar2b ρ i j t) := prf rfl
theorem kPar2b_r {x : T} : (kPar2b ρ i j x).run t S = .nx ((ρ.set i (.val x)).set j (.val t)) S := prf rfl
theorem ex_par3' : ex c (.par3 i j k d e d2) ρ S = bst ρ (ev c d ρ S) (kPar3a c ρ i j k e d2) := by rw [ex]; rfl
theorem kPar3a_r : (kPar3a c ρ i j k d e).run t S = bst ρ (ev c d ρ S) (kPar3b c ρ i j k e t) := prf rfl
theorem kPar3b_r {x : T} : (kPar3b c ρ i j k e x).run t S = bst ρ (ev c e ρ S) (kPar3c ρ i j k x t) := prf rfl
theorem kPar3c_r {x y : T} : (kPar3c ρ i j k x y).run t S = .nx (((ρ.set i (.val x)).set j (.val y)).set k (.val t)) S := prf rfl
theorem putO_v : putO ρ i e false t = some (ρ.set i (.val t)) := prf rfl
theorem putO_o : putO ρ i e true (.lst l) = cond (fresh e) (some (ρ.set i (.own l))) none := by
  rw [putO]; cases fresh e <;> rfl
theorem ex_par2o' {oi oj : Bool} : ex c (.par2o i j oi oj d e) ρ S = bst ρ (ev c d ρ S) (kPar2oa c ρ i j oi oj d e) := by
  rw [ex]
  refine congrArg _ (funext fun x => funext fun S => ?_)
  show Out.st _ _ _ = bst _ _ _
  refine congrArg _ (funext fun y => funext fun S => ?_)
  show optS _ _ = unpK _ _
  cases (putO ρ i d oi x).bind fun ρ => putO ρ j e oj y <;> rfl
theorem kPar2oa_r {oi oj : Bool} {x : T} : (kPar2oa c ρ i j oi oj d e).run x S = bst ρ (ev c e ρ S) (kPar2ob ρ i j oi oj d e x) := prf rfl
theorem kPar2ob_r {oi oj : Bool} {x y : T} : (kPar2ob ρ i j oi oj d e x).run y S = unpK S ((putO ρ i d oi x).bind fun ρ => putO ρ j e oj y) := prf rfl
theorem ex_par3o' {oi oj ol : Bool} : ex c (.par3o i j k oi oj ol d e d2) ρ S = bst ρ (ev c d ρ S) (kPar3oa c ρ i j k oi oj ol d e d2) := by
  rw [ex]
  refine congrArg _ (funext fun x => funext fun S => ?_)
  show Out.st _ _ _ = bst _ _ _
  refine congrArg _ (funext fun y => funext fun S => ?_)
  show Out.st _ _ _ = bst _ _ _
  refine congrArg _ (funext fun z => funext fun S => ?_)
  show optS _ _ = unpK _ _
  cases (putO ρ i d oi x).bind fun ρ => (putO ρ j e oj y).bind fun ρ => putO ρ k d2 ol z <;> rfl
theorem kPar3oa_r {oi oj ol : Bool} {x : T} : (kPar3oa c ρ i j k oi oj ol d e d2).run x S = bst ρ (ev c e ρ S) (kPar3ob c ρ i j k oi oj ol d e d2 x) := prf rfl
theorem kPar3ob_r {oi oj ol : Bool} {x y : T} : (kPar3ob c ρ i j k oi oj ol d e d2 x).run y S = bst ρ (ev c d2 ρ S) (kPar3oc ρ i j k oi oj ol d e d2 x y) := prf rfl
theorem kPar3oc_r {oi oj ol : Bool} {x y z : T} : (kPar3oc ρ i j k oi oj ol d e d2 x y).run z S = unpK S ((putO ρ i d oi x).bind fun ρ => (putO ρ j e oj y).bind fun ρ => putO ρ k d2 ol z) := prf rfl
theorem ex_unp' {tg : Tgs} : ex c (.unp tg e) ρ S = bst ρ (ev c e ρ S) (kUnp tg ρ) := by
  rw [ex]; refine congrArg _ (funext fun t => funext fun S => ?_); show optS _ _ = unpK _ _; cases (Tg.tp tg).put t ρ <;> rfl
theorem kUnp_r {tg : Tgs} : (kUnp tg ρ).run t S = unpK S ((Tg.tp tg).put t ρ) := prf rfl
theorem unpK_s : unpK S (some ρ) = .nx ρ S := prf rfl
def popK (v : Nat) (ρ : Lenv) (S : Store) (w : T) : Option (List T) → OutS
  | some r => if r.length + 1 ≤ sizeLine ∧ v < ρ.length then .rt (.tup (w :: r)) S else .stk
  | none => .stk
def popI (v : Nat) (ρ : Lenv) (S : Store) (w : T) (l : List T) : Option (List T) → OutS
  | some ts => popK v ρ S w (popL ts l)
  | none => .stk
def popO (v : Nat) (ρ : Lenv) (S : Store) (w st : T) : Option Sl → OutS
  | some (.own l) => popI v ρ S w l st.items
  | _ => .stk
def kPop2 (v : Nat) (ρ : Lenv) (i : Nat) (w : T) : KS T := ⟨fun st S => popO v ρ S w st ρ[i]?⟩
def kPop1 (c : Call) (v : Nat) (ρ : Lenv) (i : Nat) (src : Ex) : KS T := ⟨fun w S => bst ρ (ev c src ρ S) (kPop2 v ρ i w)⟩
theorem ex_retPop' {v : Nat} : ex c (.retPop d v i e) ρ S = bst ρ (ev c d ρ S) (kPop1 c v ρ i e) := by
  rw [ex]; refine congrArg _ (funext fun w => funext fun S => ?_)
  show Out.st _ _ _ = bst _ _ _
  refine congrArg _ (funext fun st => funext fun S => ?_)
  show ownAt _ _ _ = popO _ _ _ _ _ _
  unfold ownAt
  cases ρ[i]? with
  | none => rfl
  | some x =>
    cases x with
    | own l =>
      show optS _ _ = popI _ _ _ _ _ _
      cases st.items with
      | none => rfl
      | some ts =>
        show optS (popL ts l) _ = popK _ _ _ _ (popL ts l)
        cases popL ts l <;> rfl
    | _ => rfl
theorem kPop1_r {w : T} {v : Nat} : (kPop1 c v ρ i e).run w S = bst ρ (ev c e ρ S) (kPop2 v ρ i w) := prf rfl
theorem kPop2_r {w st : T} {v : Nat} : (kPop2 v ρ i w).run st S = popO v ρ S w st ρ[i]? := prf rfl
theorem popO_o {w st : T} {v : Nat} : popO v ρ S w st (some (.own l)) = popI v ρ S w l st.items := prf rfl
theorem popI_s {w : T} {ts : List T} {v : Nat} : popI v ρ S w l (some ts) = popK v ρ S w (popL ts l) := prf rfl
theorem popK_s {w : T} {r : List T} {v : Nat} : popK v ρ S w (some r) = if r.length + 1 ≤ sizeLine ∧ v < ρ.length then .rt (.tup (w :: r)) S else .stk := prf rfl
theorem ex_brk' : ex c .brk ρ S = .bk ρ S := by rw [ex]
theorem ex_cnt' : ex c .cnt ρ S = .ct ρ S := by rw [ex]
theorem ex_pass' : ex c .pass ρ S = .nx ρ S := by rw [ex]
theorem ex_raise' : ex c (.raise k) ρ S = .ex k ρ S := by rw [ex]
theorem ex_try' : ex c (.try_ a k b) ρ S = tryS c k (fun ρ S => exs c b ρ S) (exs c a ρ S) := by rw [ex]; cases exs c a ρ S <;> rfl
theorem ex_for' {tg : Tg} {kk : SK} {src : Exs} {lv : List (Nat × Bool)} {tmp : List Nat} : ex c (.for_ tg kk src a lv tmp) ρ S = bst ρ (evs c src ρ S) (kFor c tg kk a lv tmp ρ) := by
  rw [ex]; refine congrArg _ (funext fun ts => funext fun S => ?_)
  show optS _ _ = forI _ _ _ _ _ _ _ _
  cases itemsF kk ts with
  | none => rfl
  | some l =>
    show forL _ _ _ _ = forL _ _ _ _
    refine congrFun (congrFun (congrFun (congrArg forL (funext fun x => funext fun ρ => funext fun S => ?_)) _) _) _
    show optS _ _ = forB _ _ _ _ _ _
    cases tg.put x ρ <;> rfl
theorem kFor_r {tg : Tg} {kk : SK} {lv : List (Nat × Bool)} {tmp : List Nat} {ts : List T} : (kFor c tg kk a lv tmp ρ).run ts S = forI c tg a lv tmp ρ S (itemsF kk ts) := prf rfl
theorem forF_r {tg : Tg} {lv : List (Nat × Bool)} {tmp : List Nat} {x : T} : forF c tg a lv tmp x ρ S = forB c a lv tmp S (tg.put x ρ) := prf rfl
theorem forB_r {lv : List (Nat × Bool)} {tmp : List Nat} : forB c a lv tmp S (some ρ) = (exs c a ρ S).fix lv tmp := prf rfl
/-! a turn's end -/
def fx (b : Bool) (o : OutS) : OutS := cond b o .stk
theorem fx_t {o : OutS} : fx true o = o := prf rfl
theorem fix_nx {lv : List (Nat × Bool)} {tmp : List Nat} : (OutS.nx ρ S).fix lv tmp = fx (okL lv (wipeR ρ tmp)) (.nx (wipeR ρ tmp) S) := by
  show ite _ _ _ = _; cases okL lv (wipeR ρ tmp) <;> rfl
theorem fix_ct {lv : List (Nat × Bool)} {tmp : List Nat} : (OutS.ct ρ S).fix lv tmp = fx (okL lv (wipeR ρ tmp)) (.nx (wipeR ρ tmp) S) := by
  show ite _ _ _ = _; cases okL lv (wipeR ρ tmp) <;> rfl
theorem fix_bk {lv : List (Nat × Bool)} {tmp : List Nat} : (OutS.bk ρ S).fix lv tmp = fx (okL lv (wipeR ρ tmp)) (.bk (wipeR ρ tmp) S) := by
  show ite _ _ _ = _; cases okL lv (wipeR ρ tmp) <;> rfl
theorem fix_ex {lv : List (Nat × Bool)} {tmp : List Nat} : (OutS.ex k ρ S).fix lv tmp = .ex k (wipeR (wipeR ρ tmp) (lv.map (·.1))) S := prf rfl
theorem fix_rt {lv : List (Nat × Bool)} {tmp : List Nat} : (OutS.rt t S).fix lv tmp = .rt t S := prf rfl
theorem fix_cond {lv : List (Nat × Bool)} {tmp : List Nat} {x y : OutS} : (cond p x y).fix lv tmp = cond p (x.fix lv tmp) (y.fix lv tmp) := by cases p <;> rfl
def okK (k : Bool) : Option Sl → Bool
  | some (.val _) => !k
  | some (.own _) => k
  | _ => false
theorem okL_nil : okL [] ρ = true := prf rfl
theorem okL_cons {lv : List (Nat × Bool)} {q : Bool} : okL ((i, q) :: lv) ρ = (okK q ρ[i]? && okL lv ρ) := prf rfl
theorem okK_v : okK false (some (.val t)) = true := prf rfl
theorem okK_o : okK true (some (.own l)) = true := prf rfl
/-! a loop over what is written out -/
def forJ (F : T → Lenv → Store → OutS) (l : List T) : OutS → OutS
  | .nx ρ S => forL F l ρ S
  | .ct ρ S => forL F l ρ S
  | .bk ρ S => .nx ρ S
  | o => o
variable {F : T → Lenv → Store → OutS}
theorem forI_r {tg : Tg} {lv : List (Nat × Bool)} {tmp : List Nat} : forI c tg a lv tmp ρ S (some l) = forL (forF c tg a lv tmp) l (wipeR ρ tmp) S := prf rfl
theorem forL_nil : forL F [] ρ S = .nx ρ S := prf rfl
theorem forL_cons {x : T} : forL F (x :: l) ρ S = forJ F l (F x ρ S) := by rw [forL]; cases F x ρ S <;> rfl
theorem forJ_nx : forJ F l (.nx ρ S) = forL F l ρ S := prf rfl
theorem forJ_bk : forJ F l (.bk ρ S) = .nx ρ S := prf rfl
theorem forJ_rt : forJ F l (.rt t S) = .rt t S := prf rfl
theorem forJ_ex : forJ F l (.ex k ρ S) = .ex k ρ S := prf rfl
theorem forJ_cond {x y : OutS} : forJ F l (cond p x y) = cond p (forJ F l x) (forJ F l y) := by cases p <;> rfl
end
/-! ### what a statement may set -/
mutual
def Tg.sl : Tg → List Nat
  | .nm i => [i]
  | .tp ts => Tgs.sl ts
def Tgs.sl : Tgs → List Nat
  | .nil => []
  | .cons g gs => Tg.sl g ++ Tgs.sl gs
end
mutual
def Sm.as : Sm → List Nat
  | .asg i _ => [i] | .asgC i _ => [i] | .own i _ => [i] | .ownC i _ => [i] | .rel i => [i] | .app i _ => [i] | .ext i _ => [i]
  | .par2 i j _ _ => [i, j] | .par3 i j k _ _ _ => [i, j, k] | .par2o i j _ _ _ _ => [i, j] | .par3o i j k _ _ _ _ _ _ => [i, j, k] | .unp tg _ => tg.sl
  | .iff _ a b => a.as ++ b.as
  | .for_ tg _ _ body lv tmp => tg.sl ++ (body.as ++ (tmp ++ lv.map (·.1)))
  | .whl _ body lv tmp => body.as ++ (tmp ++ lv.map (·.1))
  | .try_ a _ b => a.as ++ b.as
  | _ => []
def Sms.as : Sms → List Nat
  | .nil => []
  | .cons s ss => s.as ++ ss.as
end
/-- but for these slots they are the same -/
def Agr (s : List Nat) (ρ ρ' : Lenv) : Prop := ρ'.length = ρ.length ∧ ∀ i, i ∉ s → ρ'[i]? = ρ[i]?
theorem Agr.refl {s : List Nat} {ρ : Lenv} : Agr s ρ ρ := ⟨rfl, fun _ _ => rfl⟩
theorem Agr.trans {s : List Nat} {ρ ρ1 ρ2 : Lenv} (h : Agr s ρ ρ1) (k : Agr s ρ1 ρ2) : Agr s ρ ρ2 := ⟨k.1.trans h.1, fun i n => (k.2 i n).trans (h.2 i n)⟩
theorem Agr.more {s s' : List Nat} {ρ ρ' : Lenv} (h : Agr s ρ ρ') (k : ∀ i ∈ s, i ∈ s') : Agr s' ρ ρ' := ⟨h.1, fun i n => h.2 i fun m => n (k i m)⟩
theorem Agr.set {i : Nat} {x : Sl} {ρ : Lenv} {s : List Nat} (h : i ∈ s) : Agr s ρ (ρ.set i x) := ⟨List.length_set, fun j n => List.getElem?_set_ne fun q => n (by rw [← q]; exact h)⟩
theorem Agr.wipe {ρ : Lenv} {s : List Nat} : ∀ {l : List Nat}, (∀ i ∈ l, i ∈ s) → Agr s ρ (wipeR ρ l)
  | [], _ => .refl
  | i :: l, h => (Agr.wipe fun j m => h j (List.mem_cons_of_mem _ m)).trans (.set (h i List.mem_cons_self))
mutual
theorem Tg.agr : ∀ (g : Tg) {t : T} {ρ ρ' : Lenv}, g.put t ρ = some ρ' → Agr g.sl ρ ρ'
  | .nm i, t, ρ, ρ', h => by simp only [Tg.put, Option.some.injEq] at h; subst h; exact .set (by simp [Tg.sl])
  | .tp ts, t, ρ, ρ', h => by
    simp only [Tg.put] at h
    cases q : t.seq with
    | none => rw [q] at h; cases h
    | some l => rw [q] at h; exact (Tgs.agr ts h).more fun i m => by simpa [Tg.sl] using m
theorem Tgs.agr : ∀ (g : Tgs) {t : List T} {ρ ρ' : Lenv}, g.put t ρ = some ρ' → Agr g.sl ρ ρ'
  | .nil, [], ρ, ρ', h => by simp only [Tgs.put, Option.some.injEq] at h; subst h; exact .refl
  | .nil, _ :: _, ρ, ρ', h => by simp [Tgs.put] at h
  | .cons g gs, [], ρ, ρ', h => by simp [Tgs.put] at h
  | .cons g gs, t :: l, ρ, ρ', h => by
    simp only [Tgs.put] at h
    cases q : g.put t ρ with
    | none => rw [q] at h; cases h
    | some ρ1 =>
      rw [q] at h
      exact ((Tg.agr g q).more fun i m => by simp [Tgs.sl, m]).trans ((Tgs.agr gs h).more fun i m => by simp [Tgs.sl, m])
end
/-- the slots behind a statement -/
def AgS (s : List Nat) (ρ : Lenv) : OutS → Prop
  | .nx ρ' _ => Agr s ρ ρ'
  | .bk ρ' _ => Agr s ρ ρ'
  | .ct ρ' _ => Agr s ρ ρ'
  | .ex _ ρ' _ => Agr s ρ ρ'
  | _ => True
theorem putO_agr {ρ ρ' : Lenv} {i : Nat} {e : Ex} {o : Bool} {t : T} {s : List Nat} (h : putO ρ i e o t = some ρ') (hi : i ∈ s) : Agr s ρ ρ' := by
  unfold putO at h
  split at h
  · split at h
    · cases h; exact .set hi
    · cases h
  · cases h; exact .set hi
  · cases h
theorem AgS.st {α : Type} {s : List Nat} {ρ : Lenv} {o : Out α} {f : α → Store → OutS} (h : ∀ a S, AgS s ρ (f a S)) : AgS s ρ (o.st ρ f) := by
  cases o with
  | stk => trivial
  | ok a S => exact h a S
  | exc k S => exact .refl
theorem AgS.more {s s' : List Nat} {ρ : Lenv} {o : OutS} (h : AgS s ρ o) (k : ∀ i ∈ s, i ∈ s') : AgS s' ρ o := by
  cases o <;> first | trivial | exact Agr.more h k
theorem AgS.pre {s : List Nat} {ρ ρ1 : Lenv} {o : OutS} (h : AgS s ρ1 o) (k : Agr s ρ ρ1) : AgS s ρ o := by
  cases o <;> first | trivial | exact k.trans h
theorem AgS.fix {s : List Nat} {ρ : Lenv} {o : OutS} {lv : List (Nat × Bool)} {tmp : List Nat} (h : AgS s ρ o) (k : ∀ i ∈ tmp, i ∈ s) (k2 : ∀ i ∈ lv.map (·.1), i ∈ s) : AgS s ρ (o.fix lv tmp) := by
  cases o <;> simp only [OutS.fix] <;> first | trivial | exact (Agr.trans h (Agr.wipe k)).trans (Agr.wipe k2) | (split <;> first | trivial | exact Agr.trans h (Agr.wipe k))
theorem AgS.opt {α : Type} {s : List Nat} {ρ : Lenv} {o : Option α} {f : α → OutS} (h : ∀ a, o = some a → AgS s ρ (f a)) : AgS s ρ (optS o f) := by
  cases o with
  | none => trivial
  | some a => exact h a rfl
theorem AgS.forL {s : List Nat} {f : T → Lenv → Store → OutS} (h : ∀ x ρ S, AgS s ρ (f x ρ S)) : ∀ {l : List T} {ρ : Lenv} {S : Store}, AgS s ρ (forL f l ρ S)
  | [], _, _ => .refl
  | x :: l, ρ, S => by
    have := h x ρ S
    rw [Ly.forL]
    cases q : f x ρ S <;> rw [q] at this <;> first | trivial | exact this | exact (AgS.forL h).pre this
theorem AgS.whlN {s : List Nat} {d : Lenv → Store → Out T} {f : Lenv → Store → OutS} (h : ∀ ρ S, AgS s ρ (f ρ S)) : ∀ {n : Nat} {ρ : Lenv} {S : Store}, AgS s ρ (whlN d f n ρ S)
  | 0, _, _ => trivial
  | n + 1, ρ, S => by
    rw [Ly.whlN]
    refine AgS.st fun t S => ?_
    split
    · trivial
    · exact .refl
    · have := h ρ S
      cases q : f ρ S <;> rw [q] at this <;> first | trivial | exact this | exact (AgS.whlN h).pre this
mutual
theorem Sm.agr (c : Call) : ∀ (s : Sm) (ρ : Lenv) (S : Store), AgS s.as ρ (ex c s ρ S)
  | .ret e, ρ, S => by rw [ex]; exact AgS.st fun _ _ => trivial
  | .retN, ρ, S => by rw [ex]; trivial
  | .expr e, ρ, S => by rw [ex]; exact AgS.st fun _ _ => .refl
  | .asg i e, ρ, S => by rw [ex]; exact AgS.st fun _ _ => Agr.set (by simp [Sm.as])
  | .asgC i e, ρ, S => by rw [ex]; exact AgS.st fun _ _ => Agr.set (by simp [Sm.as])
  | .own i e, ρ, S => by rw [ex]; exact AgS.st fun t S => by cases t <;> first | trivial | (dsimp only; split <;> first | trivial | exact Agr.set (by simp [Sm.as]))
  | .ownC i e, ρ, S => by rw [ex]; exact AgS.st fun t S => by cases t <;> first | trivial | (dsimp only; split <;> first | trivial | exact Agr.set (by simp [Sm.as]))
  | .rel i, ρ, S => by rw [ex]; split <;> first | trivial | exact Agr.set (by simp [Sm.as]) | exact Agr.refl
  | .app i e, ρ, S => by
    rw [ex]; unfold ownAt; split
    · exact AgS.st fun t S => by split <;> first | trivial | exact Agr.set (by simp [Sm.as])
    · trivial
  | .ext i e, ρ, S => by
    rw [ex]; unfold ownAt; split
    · exact AgS.st fun t S => by cases t <;> first | trivial | (dsimp only; split <;> first | trivial | exact Agr.set (by simp [Sm.as]))
    · trivial
  | .par2 i j a b, ρ, S => by rw [ex]; exact AgS.st fun _ _ => AgS.st fun _ _ => (Agr.set (by simp [Sm.as])).trans (Agr.set (by simp [Sm.as]))
  | .par3 i j k a b d, ρ, S => by rw [ex]; exact AgS.st fun _ _ => AgS.st fun _ _ => AgS.st fun _ _ => ((Agr.set (by simp [Sm.as])).trans (Agr.set (by simp [Sm.as]))).trans (Agr.set (by simp [Sm.as]))
  | .par2o i j oi oj a b, ρ, S => by
    rw [ex]
    refine AgS.st fun _ _ => AgS.st fun _ _ => AgS.opt fun ρ' h => ?_
    obtain ⟨ρ1, h1, h2⟩ := Option.bind_eq_some_iff.mp h
    exact (putO_agr h1 (by simp [Sm.as])).trans (putO_agr h2 (by simp [Sm.as]))
  | .par3o i j k oi oj ol a b d, ρ, S => by
    rw [ex]
    refine AgS.st fun _ _ => AgS.st fun _ _ => AgS.st fun _ _ => AgS.opt fun ρ' h => ?_
    obtain ⟨ρ1, h1, h⟩ := Option.bind_eq_some_iff.mp h
    obtain ⟨ρ2, h2, h3⟩ := Option.bind_eq_some_iff.mp h
    exact ((putO_agr h1 (by simp [Sm.as])).trans (putO_agr h2 (by simp [Sm.as]))).trans (putO_agr h3 (by simp [Sm.as]))
  | .unp tg e, ρ, S => by rw [ex]; exact AgS.st fun t S => AgS.opt fun ρ' h => (Tg.agr (.tp tg) h).more fun i m => by simpa [Sm.as, Tg.sl] using m
  | .iff d a b, ρ, S => by
    rw [ex]
    refine AgS.st fun t S => ?_
    split
    · trivial
    · exact (Sms.agr c a ρ S).more fun i m => by simp [Sm.as, m]
    · exact (Sms.agr c b ρ S).more fun i m => by simp [Sm.as, m]
  | .for_ tg k src body lv tmp, ρ, S => by
    rw [ex]
    refine AgS.st fun ts S => AgS.opt fun l _ => AgS.pre (AgS.forL fun x ρ S => AgS.opt fun ρ' h => ?_) (Agr.wipe fun i m => by simp [Sm.as, m])
    exact AgS.fix (((Sms.agr c body ρ' S).more fun i m => by simp [Sm.as, m]).pre ((Tg.agr tg h).more fun i m => by simp [Sm.as, m])) (fun i m => by simp [Sm.as, m]) fun i m => List.mem_append_right _ (List.mem_append_right _ (List.mem_append_right _ m))
  | .whl d body lv tmp, ρ, S => by
    rw [ex, whlL]
    split
    · refine AgS.pre (AgS.whlN fun ρ S => ?_) (Agr.wipe fun i m => by simp [Sm.as, m])
      exact AgS.fix ((Sms.agr c body ρ S).more fun i m => by simp [Sm.as, m]) (fun i m => by simp [Sm.as, m]) fun i m => List.mem_append_right _ (List.mem_append_right _ m)
    · trivial
  | .retPop w v i src, ρ, S => by
    rw [ex]; refine AgS.st fun _ _ => AgS.st fun _ _ => ?_
    unfold ownAt; split
    · exact AgS.opt fun _ _ => AgS.opt fun _ _ => by split <;> trivial
    · trivial
  | .brk, ρ, S => by rw [ex]; exact Agr.refl
  | .cnt, ρ, S => by rw [ex]; exact Agr.refl
  | .pass, ρ, S => by rw [ex]; exact Agr.refl
  | .raise k, ρ, S => by rw [ex]; exact Agr.refl
  | .try_ a k b, ρ, S => by
    rw [ex]
    have h := (Sms.agr c a ρ S).more (s' := (Sm.try_ a k b).as) fun i m => by simp [Sm.as, m]
    cases q : exs c a ρ S <;> rw [q] at h <;> first | trivial | exact h | skip
    dsimp only
    split
    · exact ((Sms.agr c b _ _).more fun i m => by simp [Sm.as, m]).pre h
    · exact h
theorem Sms.agr (c : Call) : ∀ (s : Sms) (ρ : Lenv) (S : Store), AgS s.as ρ (exs c s ρ S)
  | .nil, ρ, S => by rw [exs]; exact Agr.refl
  | .cons s ss, ρ, S => by
    rw [exs]
    have h := (Sm.agr c s ρ S).more (s' := (Sms.cons s ss).as) fun i m => by simp [Sms.as, m]
    cases q : ex c s ρ S <;> rw [q] at h <;> first | trivial | exact h | skip
    exact ((Sms.agr c ss _ _).more fun i m => by simp [Sms.as, m]).pre h
end
/-! ### a loop by what it carries -/
/-- the slots that a loop carries, as one value -/
structure Lens (lv : List (Nat × Bool)) (β : Type) where
  put : β → Lenv → Lenv
  get : Lenv → Option β
  pg : ∀ {ρ b}, get ρ = some b → put b ρ = ρ
  ok : ∀ {ρ}, okL lv ρ = true → ∃ b, get ρ = some b
  loc : ∀ {s ρ ρ'}, Agr (lv.map (·.1) ++ s) ρ ρ' → ∀ b, Agr s (put b ρ) (put b ρ')
  ag : ∀ {ρ} b, Agr (lv.map (·.1)) ρ (put b ρ)
def Lens.n : Lens [] Unit where
  put _ ρ := ρ
  get _ := some ()
  pg _ := rfl
  ok _ := ⟨(), rfl⟩
  loc h _ := h
  ag _ := .refl
def getV : Option Sl → Option T
  | some (.val t) => some t
  | _ => none
def getO : Option Sl → Option (List T)
  | some (.own t) => some t
  | _ => none
theorem set_same {ρ : Lenv} {i : Nat} {x : Sl} (h : ρ[i]? = some x) : ρ.set i x = ρ := by
  refine List.ext_getElem? fun j => ?_
  by_cases q : i = j
  · subst q; rw [List.getElem?_set_self (List.getElem?_eq_some_iff.mp h).1, h]
  · rw [List.getElem?_set_ne q]
theorem Agr.set2 {i : Nat} {x : Sl} {s : List Nat} {ρ ρ' : Lenv} (h : Agr (i :: s) ρ ρ') : Agr s (ρ.set i x) (ρ'.set i x) := by
  refine ⟨by simp [h.1], fun j n => ?_⟩
  by_cases q : i = j
  · subst q; simp [List.getElem?_set, h.1]
  · rw [List.getElem?_set_ne q, List.getElem?_set_ne q]; exact h.2 j (by simp [n, Ne.symm q])
def Lens.v (i : Nat) : Lens [(i, false)] T where
  put b ρ := ρ.set i (.val b)
  get ρ := getV ρ[i]?
  pg {ρ b} h := by
    cases q : ρ[i]? with
    | none => rw [q] at h; cases h
    | some x =>
      rw [q] at h
      cases x <;> cases h
      exact set_same q
  ok {ρ} h := by
    simp only [okL, Bool.and_true] at h
    cases q : ρ[i]? with
    | none => rw [q] at h; cases h
    | some x => rw [q] at h; cases x <;> first | (cases h; done) | exact ⟨_, rfl⟩
  loc h b := h.set2
  ag b := .set (by simp)
def Lens.o (i : Nat) : Lens [(i, true)] (List T) where
  put b ρ := ρ.set i (.own b)
  get ρ := getO ρ[i]?
  pg {ρ b} h := by
    cases q : ρ[i]? with
    | none => rw [q] at h; cases h
    | some x =>
      rw [q] at h
      cases x <;> cases h
      exact set_same q
  ok {ρ} h := by
    simp only [okL, Bool.and_true] at h
    cases q : ρ[i]? with
    | none => rw [q] at h; cases h
    | some x => rw [q] at h; cases x <;> first | (cases h; done) | exact ⟨_, rfl⟩
  loc h b := h.set2
  ag b := .set (by simp)
def pairO {α β : Type} : Option α → Option β → Option (α × β)
  | some a, some b => some (a, b)
  | _, _ => none
theorem okL_app {ρ : Lenv} : ∀ {l m : List (Nat × Bool)}, okL (l ++ m) ρ = (okL l ρ && okL m ρ)
  | [], m => by simp [okL]
  | (i, k) :: l, m => by simp only [List.cons_append, okL, okL_app, Bool.and_assoc]
def Lens.p {l m : List (Nat × Bool)} {α β : Type} (A : Lens l α) (B : Lens m β) : Lens (l ++ m) (α × β) where
  put b ρ := B.put b.2 (A.put b.1 ρ)
  get ρ := pairO (A.get ρ) (B.get ρ)
  pg {ρ b} h := by
    cases q : A.get ρ with
    | none => rw [q] at h; cases h
    | some x =>
      cases q2 : B.get ρ with
      | none => rw [q, q2] at h; cases h
      | some y =>
        rw [q, q2] at h
        cases h
        show B.put y (A.put x ρ) = ρ
        rw [A.pg q, B.pg q2]
  ok {ρ} h := by
    rw [okL_app, Bool.and_eq_true] at h
    obtain ⟨a, ha⟩ := A.ok h.1
    obtain ⟨b, hb⟩ := B.ok h.2
    exact ⟨(a, b), by rw [ha, hb]; rfl⟩
  loc h b := B.loc (A.loc (by simpa [List.append_assoc] using h) b.1) b.2
  ag b := ((A.ag b.1).more fun i m => by rw [List.map_append]; exact List.mem_append_left _ m).trans ((B.ag b.2).more fun i m => by rw [List.map_append]; exact List.mem_append_right _ m)
/-- how a turn, or a loop, ends -/
inductive LR (β : Type) where
  | stk | nx (b : β) (S : Store) | bk (b : β) (S : Store) | rt (t : T) (S : Store) | ex (k : Nat) (S : Store)
def LR.inj {β : Type} (put : β → Lenv) (ρx : Lenv) : LR β → OutS
  | .stk => .stk
  | .nx b S => .nx (put b) S
  | .bk b S => .bk (put b) S
  | .rt t S => .rt t S
  | .ex k S => .ex k ρx S
def lrN {β : Type} (S : Store) : Option β → LR β
  | some b => .nx b S
  | none => .stk
def lrB {β : Type} (S : Store) : Option β → LR β
  | some b => .bk b S
  | none => .stk
def toLR {β : Type} (get : Lenv → Option β) : OutS → LR β
  | .stk => .stk
  | .nx ρ S => lrN S (get ρ)
  | .ct ρ S => .stk
  | .bk ρ S => lrB S (get ρ)
  | .rt t S => .rt t S
  | .ex k ρ S => .ex k S
def forG {α β : Type} (f : α → β → Store → LR β) : List α → β → Store → LR β
  | [], b, S => .nx b S
  | a :: l, b, S => match f a b S with
    | .nx b S => forG f l b S
    | .bk b S => .nx b S
    | o => o
theorem Agr.eq {ρ ρ' : Lenv} (h : Agr [] ρ ρ') : ρ' = ρ := List.ext_getElem? fun i => h.2 i (by simp)
theorem Lens.key {β : Type} {lv : List (Nat × Bool)} (L : Lens lv β) {ρ ρ' : Lenv} {b0 : β} (a : Agr (lv.map (·.1)) (L.put b0 ρ) ρ') (k : okL lv ρ' = true) : ∃ b, L.get ρ' = some b ∧ ρ' = L.put b ρ := by
  obtain ⟨b, hb⟩ := L.ok k
  exact ⟨b, hb, (L.pg hb).symm.trans (Agr.eq (L.loc (s := []) (by simpa using (L.ag b0).trans a) b))⟩
theorem wipe_wipe {tmp : List Nat} {ρ : Lenv} : wipeR (wipeR ρ tmp) tmp = wipeR ρ tmp := by
  have un : ∀ (l : List Nat) (ρ : Lenv), (∀ i ∈ l, ρ.set i .un = ρ) → wipeR ρ l = ρ := fun l ρ => by
    induction l with
    | nil => intro _; rfl
    | cons i l ih =>
      intro h
      simp only [wipeR]
      rw [ih fun j m => h j (List.mem_cons_of_mem _ m)]
      exact h i List.mem_cons_self
  refine un tmp _ fun i m => ?_
  induction tmp with
  | nil => simp at m
  | cons j l ih =>
    simp only [wipeR]
    by_cases q : j = i
    · subst q; rw [List.set_set]
    · rcases List.mem_cons.mp m with h | h
      · exact absurd h.symm q
      · rw [List.set_comm _ _ (Ne.symm (Ne.symm q)), ih h]
theorem wipe_agr {s : List Nat} {ρ ρ' : Lenv} (h : Agr s ρ ρ') : wipeR ρ' s = wipeR ρ s := by
  have un : ∀ (l : List Nat) (ρ : Lenv) (i : Nat), i ∈ l → (wipeR ρ l)[i]? = if i < ρ.length then some .un else none := fun l ρ i => by
    induction l with
    | nil => intro h; simp at h
    | cons j l ih =>
      intro hi
      have hle : (wipeR ρ l).length = ρ.length := (Agr.wipe (s := l) fun _ h => h).1
      simp only [wipeR]
      by_cases q : j = i
      · subst q; rw [List.getElem?_set, if_pos rfl, hle]
      · rw [List.getElem?_set_ne q]
        exact ih (by rcases List.mem_cons.mp hi with h | h; exact absurd h.symm q; exact h)
  refine List.ext_getElem? fun i => ?_
  by_cases q : i ∈ s
  · rw [un s ρ' i q, un s ρ i q, h.1]
  · rw [(Agr.wipe (ρ := ρ') (s := s) fun _ h => h).2 i q, (Agr.wipe (ρ := ρ) (s := s) fun _ h => h).2 i q, h.2 i q]
/-- what fix has looked at -/
def Fixed (lv : List (Nat × Bool)) : OutS → Prop
  | .nx ρ _ => okL lv ρ = true
  | .bk ρ _ => okL lv ρ = true
  | .ex _ ρ _ => wipeR ρ (lv.map (·.1)) = ρ
  | .ct _ _ => False
  | _ => True
theorem OutS.fixed {lv : List (Nat × Bool)} {tmp : List Nat} {o : OutS} : Fixed lv (o.fix lv tmp) := by
  cases o <;> simp only [OutS.fix] <;> first | trivial | exact wipe_wipe | (split <;> first | trivial | assumption)
theorem AgS.inj {β : Type} {lv : List (Nat × Bool)} (L : Lens lv β) {ρ : Lenv} {b0 : β} {o : OutS} (h : AgS (lv.map (·.1)) (L.put b0 ρ) o) (k : Fixed lv o) : o = (toLR L.get o).inj (fun b => L.put b ρ) (wipeR ρ (lv.map (·.1))) := by
  cases o with
  | stk => rfl
  | rt t S => rfl
  | ct ρ' S => exact k.elim
  | nx ρ' S => obtain ⟨b, e1, e2⟩ := L.key h k; simp only [toLR, e1, lrN, LR.inj]; rw [← e2]
  | bk ρ' S => obtain ⟨b, e1, e2⟩ := L.key h k; simp only [toLR, e1, lrB, LR.inj]; rw [← e2]
  | ex j ρ' S => simp only [toLR, LR.inj]; rw [← wipe_agr ((L.ag b0).trans h), k]
def subB (l m : List Nat) : Bool := l.all fun i => m.contains i
theorem subB_ok {l m : List Nat} (h : subB l m = true) : ∀ i ∈ l, i ∈ m := fun i q => by
  have := List.all_eq_true.mp h i q
  simpa using this
theorem Agr.back {s tmp : List Nat} {ρ ρ' : Lenv} (h : Agr (s ++ tmp) ρ ρ') (e : wipeR ρ tmp = ρ) (e' : wipeR ρ' tmp = ρ') : Agr s ρ ρ' := by
  have un : ∀ (l : List Nat) (ρ : Lenv) (i : Nat), i ∈ l → i < ρ.length → (wipeR ρ l)[i]? = some .un := fun l ρ i => by
    induction l with
    | nil => intro h; simp at h
    | cons j l ih =>
      intro hi hl
      have hle : (wipeR ρ l).length = ρ.length := (Agr.wipe (s := l) fun _ h => h).1
      simp only [wipeR]
      by_cases q : j = i
      · subst q; rw [List.getElem?_set_self (by omega)]
      · rw [List.getElem?_set_ne q]
        exact ih (by rcases List.mem_cons.mp hi with h | h; exact absurd h.symm q; exact h) hl
  refine ⟨h.1, fun i n => ?_⟩
  by_cases q : i ∈ tmp
  · by_cases hl : i < ρ.length
    · have a := un tmp ρ i q hl
      have b := un tmp ρ' i q (by rw [h.1]; exact hl)
      rw [e] at a; rw [e'] at b; rw [a, b]
    · have hle := h.1; rw [List.getElem?_eq_none (l := ρ') (by omega), List.getElem?_eq_none (l := ρ) (by omega)]
  · exact h.2 i (by simp [n, q])
def Wiped (tmp : List Nat) : OutS → Prop
  | .nx ρ _ => wipeR ρ tmp = ρ
  | .bk ρ _ => wipeR ρ tmp = ρ
  | .ex _ ρ _ => wipeR ρ tmp = ρ
  | _ => True
theorem wipe_swap {a b : List Nat} {ρ : Lenv} : wipeR (wipeR (wipeR ρ a) b) a = wipeR (wipeR ρ a) b := by
  have sw : ∀ (l : List Nat) (i : Nat) (ρ : Lenv), wipeR (ρ.set i .un) l = (wipeR ρ l).set i .un := fun l i ρ => by
    induction l with
    | nil => rfl
    | cons j l ih =>
      simp only [wipeR]
      rw [ih]
      by_cases q : i = j
      · subst q; rw [List.set_set]
      · rw [List.set_comm _ _ q]
  have sw2 : ∀ (l m : List Nat) (ρ : Lenv), wipeR (wipeR ρ l) m = wipeR (wipeR ρ m) l := fun l m ρ => by
    induction l with
    | nil => rfl
    | cons j l ih => simp only [wipeR]; rw [sw, ih]
  rw [sw2 b a, wipe_wipe]
theorem fix_wiped {lv : List (Nat × Bool)} {tmp : List Nat} {o : OutS} : Wiped tmp (o.fix lv tmp) := by
  cases o <;> simp only [OutS.fix] <;> first | trivial | exact wipe_swap | (split <;> first | trivial | exact wipe_wipe)
/-- what a loop may set -/
def lvOk (tg : Tg) (body : Sms) (lv : List (Nat × Bool)) (tmp : List Nat) : Bool := subB (tg.sl ++ body.as) (lv.map (·.1) ++ tmp) && lv.all fun q => !tmp.contains q.1
theorem put_wiped {β : Type} {lv : List (Nat × Bool)} (L : Lens lv β) {tmp : List Nat} (hd : (lv.all fun q => !tmp.contains q.1) = true) {ρ : Lenv} {b : β} (e : wipeR ρ tmp = ρ) : wipeR (L.put b ρ) tmp = L.put b ρ := by
  refine List.ext_getElem? fun i => ?_
  have a : Agr tmp (L.put b ρ) (wipeR (L.put b ρ) tmp) := Agr.wipe fun _ h => h
  by_cases q : i ∈ tmp
  · have a1 := L.ag (ρ := ρ) b
    have ni : i ∉ lv.map (·.1) := fun h => by
      obtain ⟨p, hp, rfl⟩ := List.mem_map.mp h
      have := List.all_eq_true.mp hd p hp
      simp [q] at this
    have h1 := a1.2 i ni
    have h2 : ∀ ρ' : Lenv, ρ'.length = ρ.length → (wipeR ρ' tmp)[i]? = (wipeR ρ tmp)[i]? := fun ρ' hl => by
      clear e a a1 h1 ni hd
      induction tmp with
      | nil => simp at q
      | cons j l ih =>
        simp only [wipeR]
        have l1 : (wipeR ρ l).length = ρ.length := (Agr.wipe (s := l) fun _ h => h).1
        have l2 : (wipeR ρ' l).length = ρ'.length := (Agr.wipe (s := l) fun _ h => h).1
        by_cases hj : j = i
        · subst hj; simp [List.getElem?_set, l1, l2, hl]
        · rw [List.getElem?_set_ne hj, List.getElem?_set_ne hj]
          exact ih (by rcases List.mem_cons.mp q with h | h; exact absurd h.symm hj; exact h)
    rw [h2 _ a1.1, e, h1]
  · exact a.2 i q
section
variable {β α : Type} {lv : List (Nat × Bool)} {tmp : List Nat} {c : Call} {tg : Tg} {body : Sms}
theorem forF_lens (L : Lens lv β) (h : lvOk tg body lv tmp = true) {x : T} {ρ : Lenv} {b0 : β} {S : Store} (e : wipeR ρ tmp = ρ) : forF c tg body lv tmp x (L.put b0 ρ) S = (toLR L.get (forF c tg body lv tmp x (L.put b0 ρ) S)).inj (fun b => L.put b ρ) (wipeR ρ (lv.map (·.1))) := by
  simp only [lvOk, Bool.and_eq_true] at h
  obtain ⟨h1, h2⟩ := h
  have sb := subB_ok h1
  have ep := put_wiped L h2 (b := b0) e
  refine AgS.inj L (b0 := b0) ?_ ?_
  · have : AgS (lv.map (·.1) ++ tmp) (L.put b0 ρ) (forF c tg body lv tmp x (L.put b0 ρ) S) := by
      unfold forF forB
      cases q : tg.put x (L.put b0 ρ) with
      | none => trivial
      | some ρ' => exact AgS.fix (((Sms.agr c body ρ' S).more fun i m => sb i (by simp [m])).pre ((Tg.agr tg q).more fun i m => sb i (by simp [m]))) (fun i m => by simp [m]) fun i m => List.mem_append_left _ m
    have w : Wiped tmp (forF c tg body lv tmp x (L.put b0 ρ) S) := by
      unfold forF forB
      cases q : tg.put x (L.put b0 ρ) with
      | none => trivial
      | some ρ' => exact fix_wiped
    have ct : Fixed lv (forF c tg body lv tmp x (L.put b0 ρ) S) := by
      unfold forF forB
      cases q : tg.put x (L.put b0 ρ) with
      | none => trivial
      | some ρ' => exact OutS.fixed
    revert this w ct
    generalize forF c tg body lv tmp x (L.put b0 ρ) S = o
    cases o <;> intro this w ct <;> first | trivial | exact Agr.back this ep w | exact ct.elim
  · unfold forF forB
    cases q : tg.put x (L.put b0 ρ) with
    | none => trivial
    | some ρ' => exact OutS.fixed
theorem forL_lens (L : Lens lv β) (h : lvOk tg body lv tmp = true) {ρ : Lenv} (e : wipeR ρ tmp = ρ) {f : α → T} : ∀ {l : List α} {b0 : β} {S : Store}, forL (forF c tg body lv tmp) (l.map f) (L.put b0 ρ) S = (forG (fun a b S => toLR L.get (forF c tg body lv tmp (f a) (L.put b ρ) S)) l b0 S).inj (fun b => L.put b ρ) (wipeR ρ (lv.map (·.1)))
  | [], b0, S => rfl
  | a :: l, b0, S => by
    have k := forF_lens (c := c) L h (x := f a) (b0 := b0) (S := S) e
    rw [List.map_cons, forL_cons, forG]
    generalize toLR L.get (forF c tg body lv tmp (f a) (L.put b0 ρ) S) = r at k
    rw [k]
    cases r with
    | stk => rfl
    | nx b S1 => exact forL_lens L h e
    | bk b S1 => rfl
    | rt t S1 => rfl
    | ex j S1 => rfl
/-- a loop, by what it carries -/
theorem forI_lens (L : Lens lv β) (h : lvOk tg body lv tmp = true) {ρ : Lenv} {S : Store} {f : α → T} {l : List α} {b0 : β} (g : L.get (wipeR ρ tmp) = some b0) :
    forI c tg body lv tmp ρ S (some (l.map f)) = (forG (fun a b S => toLR L.get (forF c tg body lv tmp (f a) (L.put b (wipeR ρ tmp)) S)) l b0 S).inj (fun b => L.put b (wipeR ρ tmp)) (wipeR (wipeR ρ tmp) (lv.map (·.1))) := by
  rw [forI_r]
  have := forL_lens (c := c) L h (ρ := wipeR ρ tmp) wipe_wipe (f := f) (l := l) (b0 := b0) (S := S)
  rw [L.pg g] at this
  exact this
end
end Ly
namespace Ly
/-- a sum: the rest of a chain and a table's parts by their numbers -/
inductive Tr where
  | word (x : List Nat) | held (a : Tr) | root (a : Tr) | over (a b : Tr)
  | scU (a u : Tr) | scD (a d : Tr) | scB (a u d : Tr)
  | chain (a : Tr) (n : Nat) (g : Fin n → Nat) (p : Fin n → Tr)
  | table (h w : Nat) (m : Fin h → Fin w → Tr)
/-- all of a family -/
abbrev fl {α : Type} (n : Nat) (f : Fin n → α) : List α := (List.finRange n).map f
def Tr.toT : Tr → T
  | .word x => .tup [.str ([119, 111, 114, 100] : List Nat), .str x]
  | .held a => .tup [.str ([104, 101, 108, 100] : List Nat), a.toT]
  | .root a => .tup [.str ([114, 111, 111, 116] : List Nat), a.toT]
  | .over a b => .tup [.str ([111, 118, 101, 114] : List Nat), a.toT, b.toT]
  | .scU a u => .tup [.str ([115, 99, 114, 105, 112, 116] : List Nat), a.toT, u.toT, .non]
  | .scD a d => .tup [.str ([115, 99, 114, 105, 112, 116] : List Nat), a.toT, .non, d.toT]
  | .scB a u d => .tup [.str ([115, 99, 114, 105, 112, 116] : List Nat), a.toT, u.toT, d.toT]
  | .chain a n g p => .tup [.str ([99, 104, 97, 105, 110] : List Nat), a.toT, .tup (fl n fun i => .tup [.str [g i], (p i).toT])]
  | .table h w m => .tup [.str ([116, 97, 98, 108, 101] : List Nat), .tup (fl h fun i => .tup (fl w fun j => (m i j).toT))]
def Tr.kids : Tr → List Tr
  | .word _ => []
  | .held a => [a]
  | .root a => [a]
  | .over a b => [a, b]
  | .scU a u => [a, u]
  | .scD a d => [a, d]
  | .scB a u d => [a, u, d]
  | .chain a n g p => a :: fl n p
  | .table h w m => (fl h fun i => fl w fun j => m i j).flatten
def maxN (l : List Nat) : Nat := l.foldr max 0
theorem maxN_le {l : List Nat} {x : Nat} (h : x ∈ l) : x ≤ maxN l := by
  induction l with
  | nil => simp at h
  | cons a l ih =>
    simp only [maxN, List.foldr_cons]
    rcases List.mem_cons.mp h with rfl | h
    · exact Nat.le_max_left _ _
    · exact Nat.le_trans (ih h) (Nat.le_max_right _ _)
theorem maxN_of {l : List Nat} {M : Nat} (h : ∀ x ∈ l, x ≤ M) : maxN l ≤ M := by
  induction l with
  | nil => simp [maxN]
  | cons a l ih =>
    simp only [maxN, List.foldr_cons]
    exact Nat.max_le.mpr ⟨h a List.mem_cons_self, ih fun x m => h x (List.mem_cons_of_mem _ m)⟩
theorem maxN_fl {n : Nat} {f : Fin n → Nat} (i : Fin n) : f i ≤ maxN (fl n f) := maxN_le (List.mem_map_of_mem (List.mem_finRange i))
theorem maxN_flo {n M : Nat} {f : Fin n → Nat} (h : ∀ i, f i ≤ M) : maxN (fl n f) ≤ M := maxN_of fun x m => by
  obtain ⟨i, _, rfl⟩ := List.mem_map.mp m
  exact h i
def Tr.ht : Tr → Nat
  | .word _ => 1
  | .held a => 1 + a.ht
  | .root a => 1 + a.ht
  | .over a b => 1 + max a.ht b.ht
  | .scU a u => 1 + max a.ht u.ht
  | .scD a d => 1 + max a.ht d.ht
  | .scB a u d => 1 + max a.ht (max u.ht d.ht)
  | .chain a n g p => 1 + max a.ht (maxN (fl n fun i => (p i).ht))
  | .table h w m => 1 + maxN (fl h fun i => maxN (fl w fun j => (m i j).ht))
theorem Tr.ht_pos (s : Tr) : 1 ≤ s.ht := by cases s <;> simp [Tr.ht] <;> omega
theorem Tr.ht_p {a : Tr} {n : Nat} {g : Fin n → Nat} {p : Fin n → Tr} (i : Fin n) : (p i).ht + 1 ≤ (Tr.chain a n g p).ht := by
  have := maxN_fl (f := fun i => (p i).ht) i
  simp only [Tr.ht]; omega
theorem Tr.ht_m {h w : Nat} {m : Fin h → Fin w → Tr} (i : Fin h) (j : Fin w) : (m i j).ht + 1 ≤ (Tr.table h w m).ht := by
  have := maxN_fl (f := fun j => (m i j).ht) j
  have := maxN_fl (f := fun i => maxN (fl w fun j => (m i j).ht)) i
  simp only [Tr.ht] at *; omega
theorem Tr.ht_chain {a : Tr} {n : Nat} {g : Fin n → Nat} {p : Fin n → Tr} : a.ht + 1 ≤ (Tr.chain a n g p).ht := by
  simp only [Tr.ht]; omega
theorem Tr.kids_ht {s p : Tr} (h : p ∈ s.kids) : p.ht + 1 ≤ s.ht := by
  cases s <;> simp only [Tr.kids, List.mem_cons, List.not_mem_nil, or_false] at h
  · subst h; simp only [Tr.ht]; omega
  · subst h; simp only [Tr.ht]; omega
  · rcases h with rfl | rfl <;> (simp only [Tr.ht]; omega)
  · rcases h with rfl | rfl <;> (simp only [Tr.ht]; omega)
  · rcases h with rfl | rfl <;> (simp only [Tr.ht]; omega)
  · rcases h with rfl | rfl | rfl <;> (simp only [Tr.ht]; omega)
  · rcases h with rfl | h
    · exact Tr.ht_chain
    · obtain ⟨i, _, rfl⟩ := List.mem_map.mp h
      exact Tr.ht_p i
  · obtain ⟨l, h1, h2⟩ := List.mem_flatten.mp h
    obtain ⟨i, _, rfl⟩ := List.mem_map.mp h1
    obtain ⟨j, _, rfl⟩ := List.mem_map.mp h2
    exact Tr.ht_m i j
/-- by the parts -/
theorem Tr.ind {P : Tr → Prop} (h : ∀ s, (∀ p ∈ s.kids, P p) → P s) (s : Tr) : P s := by
  have : ∀ n, ∀ s : Tr, s.ht ≤ n → P s := fun n => by
    induction n with
    | zero => intro s hs; have := s.ht_pos; omega
    | succ n ih => exact fun s hs => h s fun p hp => ih p (by have := Tr.kids_ht hp; omega)
  exact this s.ht s (Nat.le_refl _)
theorem Tr.tup (s : Tr) : ∃ l, s.toT = .tup l := by cases s <;> exact ⟨_, rfl⟩
theorem Tr.isNon (s : Tr) : s.toT.isNon = false := by obtain ⟨l, h⟩ := s.tup; rw [h]; rfl
/-- not too long, not too short -/
def Tr.Wf : Tr → Prop
  | .word x => 1 ≤ x.length ∧ x.length ≤ 1000
  | .held a => a.Wf
  | .root a => a.Wf
  | .over a b => a.Wf ∧ b.Wf
  | .scU a u => a.Wf ∧ u.Wf
  | .scD a d => a.Wf ∧ d.Wf
  | .scB a u d => a.Wf ∧ u.Wf ∧ d.Wf
  | .chain a n g p => (1 ≤ n ∧ n ≤ 1000) ∧ a.Wf ∧ ∀ i, (p i).Wf
  | .table h w m => (1 ≤ h ∧ h ≤ 1000) ∧ (1 ≤ w ∧ w ≤ 1000) ∧ ∀ i j, (m i j).Wf
theorem Tr.Wf.kid {s p : Tr} (h : s.Wf) (k : p ∈ s.kids) : p.Wf := by
  cases s <;> simp only [Tr.kids, List.mem_cons, List.not_mem_nil, or_false] at k <;> simp only [Tr.Wf] at h
  · subst k; exact h
  · subst k; exact h
  · rcases k with rfl | rfl <;> first | exact h.1 | exact h.2
  · rcases k with rfl | rfl <;> first | exact h.1 | exact h.2
  · rcases k with rfl | rfl <;> first | exact h.1 | exact h.2
  · rcases k with rfl | rfl | rfl <;> first | exact h.1 | exact h.2.1 | exact h.2.2
  · rcases k with rfl | k
    · exact h.2.1
    · obtain ⟨i, _, rfl⟩ := List.mem_map.mp k
      exact h.2.2 i
  · obtain ⟨l, h1, h2⟩ := List.mem_flatten.mp k
    obtain ⟨i, _, rfl⟩ := List.mem_map.mp h1
    obtain ⟨j, _, rfl⟩ := List.mem_map.mp h2
    exact h.2.2 i j
def Tr.isChain : Tr → Bool
  | .chain .. => true
  | _ => false
def Tr.isBase : Tr → Bool
  | .word _ => true
  | .held _ => true
  | .table .. => true
  | _ => false
theorem Tr.base_nc {s : Tr} (h : s.isBase = true) : s.isChain = false := by cases s <;> simp_all [isBase, isChain]
def atoms : List (List Nat) := [[97], [98], [120, 49], [108, 111, 110, 103], [55], [97, 98, 99, 100, 101, 102]]
def sgns : List Nat := [43, 45, 42, 61, 60]
/-- drawn sums -/
def Tr.Dr : Tr → Prop
  | .word x => x ∈ atoms
  | .held a => a.Dr
  | .root a => a.Dr
  | .over a b => a.Dr ∧ b.Dr
  | .scU a u => a.isBase = true ∧ a.Dr ∧ u.Dr
  | .scD a d => a.isBase = true ∧ a.Dr ∧ d.Dr
  | .scB a u d => a.isBase = true ∧ a.Dr ∧ u.Dr ∧ d.Dr
  | .chain a n g p => (1 ≤ n ∧ n ≤ 3) ∧ (a.isChain = false ∧ a.Dr) ∧ ∀ i, g i ∈ sgns ∧ (p i).isChain = false ∧ (p i).Dr
  | .table h w m => (1 ≤ h ∧ h ≤ 3) ∧ (1 ≤ w ∧ w ≤ 3) ∧ ∀ i j, (m i j).Dr
theorem Tr.Dr.kid {s p : Tr} (h : s.Dr) (k : p ∈ s.kids) : p.Dr := by
  cases s <;> simp only [Tr.kids, List.mem_cons, List.not_mem_nil, or_false] at k <;> simp only [Tr.Dr] at h
  · subst k; exact h
  · subst k; exact h
  · rcases k with rfl | rfl <;> first | exact h.1 | exact h.2
  · rcases k with rfl | rfl <;> first | exact h.2.1 | exact h.2.2
  · rcases k with rfl | rfl <;> first | exact h.2.1 | exact h.2.2
  · rcases k with rfl | rfl | rfl <;> first | exact h.2.1 | exact h.2.2.1 | exact h.2.2.2
  · rcases k with rfl | k
    · exact h.2.1.2
    · obtain ⟨i, _, rfl⟩ := List.mem_map.mp k
      exact (h.2.2 i).2.2
  · obtain ⟨l, h1, h2⟩ := List.mem_flatten.mp k
    obtain ⟨i, _, rfl⟩ := List.mem_map.mp h1
    obtain ⟨j, _, rfl⟩ := List.mem_map.mp h2
    exact h.2.2 i j
theorem atoms_len {x : List Nat} (h : x ∈ atoms) : 1 ≤ x.length ∧ x.length ≤ 6 := by
  simp only [atoms, List.mem_cons, List.not_mem_nil, or_false] at h
  rcases h with rfl | rfl | rfl | rfl | rfl | rfl <;> simp
theorem Tr.Dr.wf : ∀ {s : Tr}, s.Dr → s.Wf := fun {s} => by
  induction s with
  | word x => intro h; have := atoms_len h; simp only [Tr.Wf]; omega
  | held a ih => exact ih
  | root a ih => exact ih
  | over a b i1 i2 => exact fun h => ⟨i1 h.1, i2 h.2⟩
  | scU a u i1 i2 => exact fun h => ⟨i1 h.2.1, i2 h.2.2⟩
  | scD a d i1 i2 => exact fun h => ⟨i1 h.2.1, i2 h.2.2⟩
  | scB a u d i1 i2 i3 => exact fun h => ⟨i1 h.2.1, i2 h.2.2.1, i3 h.2.2.2⟩
  | chain a n g p i1 i2 => exact fun h => ⟨⟨h.1.1, by have := h.1.2; omega⟩, i1 h.2.1.2, fun i => i2 i (h.2.2 i).2.2⟩
  | table h w m i1 => exact fun k => ⟨⟨k.1.1, by have := k.1.2; omega⟩, ⟨k.2.1.1, by have := k.2.1.2; omega⟩, fun i j => i1 i j (k.2.2 i j)⟩
/-! ### boxes -/
abbrev Bx := Int × Int × Int
def Bx.high (b : Bx) : Int := b.2.1 + b.2.2 + 1
def boxT (b : Bx) : T := .tup [.int b.1, .int b.2.1, .int b.2.2]
/-- how wide a column is; how much of a row is up, down -/
def colW {h w : Nat} (b : Fin h → Fin w → Bx) (j : Fin w) : Int := maxI (fl h fun i => (b i j).1)
def rowU {h w : Nat} (b : Fin h → Fin w → Bx) (i : Fin h) : Int := maxI (fl w fun j => (b i j).2.1)
def rowD {h w : Nat} (b : Fin h → Fin w → Bx) (i : Fin h) : Int := maxI (fl w fun j => (b i j).2.2)
def tabH {h w : Nat} (b : Fin h → Fin w → Bx) : Int := (fl h fun i => rowU b i + rowD b i + 1).sum + h - 1
def tabW {h w : Nat} (b : Fin h → Fin w → Bx) : Int := (fl w fun j => colW b j).sum + 2 * ((w : Int) - 1) + 2
def Tr.bx : Tr → Bx
  | .word x => (x.length, 0, 0)
  | .held a => ((bx a).1 + 2, (bx a).2.1, (bx a).2.2)
  | .root a => ((bx a).1 + 1, (bx a).2.1 + 1, (bx a).2.2)
  | .over a b => (max (bx a).1 (bx b).1 + 2, (bx a).high, (bx b).high)
  | .scU a u => ((bx a).1 + (bx u).1, (bx a).2.1 + (bx u).high, (bx a).2.2)
  | .scD a d => ((bx a).1 + (bx d).1, (bx a).2.1, (bx a).2.2 + (bx d).high)
  | .scB a u d => ((bx a).1 + max (bx u).1 (bx d).1, (bx a).2.1 + (bx u).high, (bx a).2.2 + (bx d).high)
  | .chain a n g p => ((bx a).1 + (fl n fun i => (bx (p i)).1).sum + 3 * n, maxI ((bx a).2.1 :: fl n fun i => (bx (p i)).2.1), maxI ((bx a).2.2 :: fl n fun i => (bx (p i)).2.2))
  | .table h w m => (tabW fun i j => bx (m i j), (tabH fun i j => bx (m i j)) / 2, (tabH fun i j => bx (m i j)) - 1 - (tabH fun i j => bx (m i j)) / 2)
theorem maxI_nn {l : List Int} (h : ∀ x ∈ l, 0 ≤ x) : 0 ≤ maxI l := by
  induction l with
  | nil => simp [maxI]
  | cons a l ih =>
    cases l with
    | nil => simpa [maxI] using h a (by simp)
    | cons b l => simp only [maxI]; have := h a (by simp); omega
theorem sum_nn {l : List Int} (h : ∀ x ∈ l, 0 ≤ x) : 0 ≤ l.sum := by
  induction l with
  | nil => simp
  | cons a l ih =>
    rw [List.sum_cons]
    have := h a (by simp)
    have := ih fun x hx => h x (by simp [hx])
    omega
theorem maxI_fl {n : Nat} {f : Fin n → Int} (h : ∀ i, 0 ≤ f i) : 0 ≤ maxI (fl n f) := maxI_nn fun x hx => by
  obtain ⟨i, _, rfl⟩ := List.mem_map.mp hx
  exact h i
theorem sum_fl {n : Nat} {f : Fin n → Int} (h : ∀ i, 0 ≤ f i) : 0 ≤ (fl n f).sum := sum_nn fun x hx => by
  obtain ⟨i, _, rfl⟩ := List.mem_map.mp hx
  exact h i
theorem sum_ge {n : Nat} {f : Fin n → Int} (h : ∀ i, 1 ≤ f i) : (n : Int) ≤ (fl n f).sum := by
  have : ∀ l : List (Fin n), (l.length : Int) ≤ (l.map f).sum := fun l => by
    induction l with
    | nil => simp
    | cons a l ih => rw [List.map_cons, List.sum_cons, List.length_cons]; have := h a; omega
  have := this (List.finRange n)
  rwa [List.length_finRange] at this
theorem Tr.bx_nn : ∀ s : Tr, s.Wf → 1 ≤ s.bx.1 ∧ 0 ≤ s.bx.2.1 ∧ 0 ≤ s.bx.2.2 := fun s => by
  induction s with
  | word x => intro W; simp only [Tr.Wf] at W; simp only [Tr.bx]; omega
  | held a ih => intro W; have := ih W; simp only [Tr.bx]; omega
  | root a ih => intro W; have := ih W; simp only [Tr.bx]; omega
  | over a b i1 i2 => intro W; have := i1 W.1; have := i2 W.2; simp only [Tr.bx, Bx.high]; omega
  | scU a u i1 i2 => intro W; have := i1 W.1; have := i2 W.2; simp only [Tr.bx, Bx.high]; omega
  | scD a d i1 i2 => intro W; have := i1 W.1; have := i2 W.2; simp only [Tr.bx, Bx.high]; omega
  | scB a u d i1 i2 i3 => intro W; have := i1 W.1; have := i2 W.2.1; have := i3 W.2.2; simp only [Tr.bx, Bx.high]; omega
  | chain a n g p i1 i2 =>
    intro W
    have k1 := i1 W.2.1
    have k2 := fun i => i2 i (W.2.2 i)
    simp only [Tr.bx]
    refine ⟨?_, maxI_nn fun x hx => ?_, maxI_nn fun x hx => ?_⟩
    · have := sum_fl (f := fun i => (p i).bx.1) fun i => by have := (k2 i).1; omega
      omega
    · rcases List.mem_cons.mp hx with rfl | hx
      · exact k1.2.1
      · obtain ⟨i, _, rfl⟩ := List.mem_map.mp hx
        exact (k2 i).2.1
    · rcases List.mem_cons.mp hx with rfl | hx
      · exact k1.2.2
      · obtain ⟨i, _, rfl⟩ := List.mem_map.mp hx
        exact (k2 i).2.2
  | table h w m i1 =>
    intro W
    have k := fun i j => i1 i j (W.2.2 i j)
    have e1 : (h : Int) ≤ _ := sum_ge (f := fun i => rowU (fun i j => (m i j).bx) i + rowD (fun i j => (m i j).bx) i + 1) fun i => by
      have := maxI_fl (f := fun j => (m i j).bx.2.1) fun j => (k i j).2.1
      have := maxI_fl (f := fun j => (m i j).bx.2.2) fun j => (k i j).2.2
      simp only [rowU, rowD]; omega
    have e2 := sum_fl (f := fun j => colW (fun i j => (m i j).bx) j) fun j => maxI_fl fun i => by have := (k i j).1; dsimp only; omega
    have h1 := W.1.1
    have h2 := W.2.1.1
    simp only [Tr.bx, tabW, tabH]
    omega
/-! ### parts by number -/
def Tr.nk : Tr → Nat
  | .word _ => 0
  | .held _ => 1
  | .root _ => 1
  | .over _ _ => 2
  | .scU _ _ => 2
  | .scD _ _ => 2
  | .scB _ _ _ => 3
  | .chain _ n _ _ => n + 1
  | .table h w _ => h * w
theorem fl_length {α : Type} {n : Nat} {f : Fin n → α} : (fl n f).length = n := by rw [List.length_map, List.length_finRange]
theorem fl_range {α : Type} {n : Nat} {f : Nat → α} : (fl n fun i => f i.1) = (List.range n).map f := by
  refine List.ext_getElem? fun i => ?_
  rw [List.getElem?_map, List.getElem?_map]
  by_cases h : i < n
  · rw [List.getElem?_range h, List.getElem?_eq_getElem (by rw [List.length_finRange]; exact h)]; simp
  · rw [List.getElem?_eq_none (by rw [List.length_finRange]; omega), List.getElem?_eq_none (by rw [List.length_range]; omega)]; rfl
theorem flatten_len {α β : Type} {l : List β} {w : Nat} {f : β → List α} (h : ∀ i, (f i).length = w) : (l.map f).flatten.length = l.length * w := by
  induction l with
  | nil => simp
  | cons a l ih => rw [List.map_cons, List.flatten_cons, List.length_append, ih, h, List.length_cons, Nat.add_mul]; omega
theorem Tr.kids_len (s : Tr) : s.kids.length = s.nk := by
  cases s <;> simp only [Tr.kids, Tr.nk, List.length_cons, List.length_nil, fl_length]
  rw [flatten_len (w := _) fun i => fl_length, List.length_finRange]
/-- with other parts -/
def Tr.withK : Tr → (Nat → Tr) → Tr
  | .word x, _ => .word x
  | .held _, f => .held (f 0)
  | .root _, f => .root (f 0)
  | .over _ _, f => .over (f 0) (f 1)
  | .scU _ _, f => .scU (f 0) (f 1)
  | .scD _ _, f => .scD (f 0) (f 1)
  | .scB _ _ _, f => .scB (f 0) (f 1) (f 2)
  | .chain _ n g _, f => .chain (f 0) n g fun i => f (i.1 + 1)
  | .table h w _, f => .table h w fun i j => f (i.1 * w + j.1)
theorem tab_flat {α : Type} (h w : Nat) (f : Nat → α) : (fl h fun i => fl w fun j => f (i.1 * w + j.1)).flatten = (List.range (h * w)).map f := by
  rw [fl_range (f := fun i => fl w fun j => f (i * w + j.1))]
  have : ∀ i, (fl w fun j => f (i * w + j.1)) = (List.range w).map fun j => f (i * w + j) := fun i => fl_range (f := fun j => f (i * w + j))
  simp only [this]
  induction h with
  | zero => simp
  | succ h ih =>
    rw [List.range_succ, List.map_append, List.flatten_append, ih, Nat.add_mul, Nat.one_mul, List.range_add, List.map_append, List.map_map]
    simp [Function.comp_def]
theorem Tr.withK_kids (s : Tr) (f : Nat → Tr) : (s.withK f).kids = (List.range s.nk).map f := by
  cases s <;> simp only [Tr.withK, Tr.kids, Tr.nk]
  · rfl
  · rfl
  · rfl
  · rfl
  · rfl
  · rfl
  · rfl
  · rw [fl_range (f := fun i => f (i + 1)), List.range_succ_eq_map, List.map_cons, List.map_map]; rfl
  · exact tab_flat _ _ f
def Tr.rebuild (s : Tr) (ks : List Tr) : Tr := s.withK fun k => ks.getD k s
theorem getD_range {α : Type} (ks : List α) (d : α) : (List.range ks.length).map (fun k => ks.getD k d) = ks := by
  refine List.ext_getElem? fun i => ?_
  rw [List.getElem?_map]
  by_cases h : i < ks.length
  · rw [List.getElem?_range h, List.getElem?_eq_getElem h]; simp [List.getD_eq_getElem?_getD, h]
  · rw [List.getElem?_eq_none (by rw [List.length_range]; omega), List.getElem?_eq_none (by omega)]; rfl
theorem Tr.rebuild_kids (s : Tr) {ks : List Tr} (h : ks.length = s.nk) : (s.rebuild ks).kids = ks := by
  rw [Tr.rebuild, Tr.withK_kids, ← h, getD_range]
theorem Tr.rebuild_nk (s : Tr) (ks : List Tr) : (s.rebuild ks).nk = s.nk := by cases s <;> rfl
end Ly
namespace Ly
open PySem PySem.Spec
theorem szL : sizeLine = 16777216 := by decide
theorem add_i {i j : Int} : T.add (.int i) (.int j) = some (.int (i + j)) := prf rfl
theorem add_s {x y : List Nat} : T.add (.str x) (.str y) = if x.length + y.length ≤ sizeLine then some (.str (x ++ y)) else none := prf rfl
theorem add_t {x y : List T} : T.add (.tup x) (.tup y) = if x.length + y.length ≤ sizeLine then some (.tup (x ++ y)) else none := prf rfl
theorem add_l {x y : List T} : T.add (.lst x) (.lst y) = if x.length + y.length ≤ sizeLine then some (.lst (x ++ y)) else none := prf rfl
theorem ixOf_nat {n k : Nat} (h : k < n) : ixOf n ((k : Nat) : Int) = some k := by
  unfold ixOf
  rw [if_pos (by omega), if_pos (by omega)]
  simp
theorem sub_i {i j : Int} : T.sub (.int i) (.int j) = some (.int (i - j)) := prf rfl
theorem mul_i {i j : Int} : T.mul (.int i) (.int j) = if mulOk i j then some (.int (i * j)) else none := prf rfl
theorem mul_il {i j : Int} (h : (decide (-18446744073709551616 < i) && decide (i < 18446744073709551616)) = true) : T.mul (.int i) (.int j) = some (.int (i * j)) := by
  rw [mul_i, if_pos]
  simp only [Bool.and_eq_true, decide_eq_true_eq] at h
  simp [mulOk]; omega
theorem mul_ir {i j : Int} (h : (decide (-18446744073709551616 < j) && decide (j < 18446744073709551616)) = true) : T.mul (.int i) (.int j) = some (.int (i * j)) := by
  rw [mul_i, if_pos]
  simp only [Bool.and_eq_true, decide_eq_true_eq] at h
  simp [mulOk]; omega
theorem mul_s {x : List Nat} {k : Int} : T.mul (.str x) (.int k) = if x.length * k.toNat ≤ sizeLine ∧ k < 2 ^ 62 ∧ -(2 ^ 62) < k then some (.str (reps x k)) else none := prf rfl
theorem fdv_i {i j : Int} : T.fdv (.int i) (.int j) = if 0 < j ∧ j < 1073741824 then some (.int (i / j)) else none := prf rfl
theorem mod_i {i j : Int} : T.mod (.int i) (.int j) = if 0 < j then some (.int (i % j)) else none := prf rfl
theorem lt_i {i j : Int} : T.lt (.int i) (.int j) = some (decide (i < j)) := prf rfl
theorem lt_s {i j : List Nat} : T.lt (.str i) (.str j) = some (strLt i j) := prf rfl
theorem le_i {i j : Int} : T.le (.int i) (.int j) = some (decide (i ≤ j)) := prf rfl
theorem le_s {i j : List Nat} : T.le (.str i) (.str j) = some (!strLt j i) := prf rfl
theorem ixOf_lt {n i : Nat} (h : i < n) : ixOf n (i : Nat) = some i := by
  unfold ixOf
  rw [if_pos (by omega), if_pos (by omega)]
  simp
theorem sub_tk {l : List T} {i : Nat} {t : T} (h : l[i]? = some t) : T.sub? (.tup l) (.int (i : Nat)) = some t := by
  have : i < l.length := (List.getElem?_eq_some_iff.mp h).1
  simp only [T.sub?, ixOf_lt this, Option.bind_some, h]
theorem sub_lk {l : List T} {i : Nat} {t : T} (h : l[i]? = some t) : T.sub? (.lst l) (.int (i : Nat)) = some t := by
  have : i < l.length := (List.getElem?_eq_some_iff.mp h).1
  simp only [T.sub?, ixOf_lt this, Option.bind_some, h]
theorem sub_sk {l : List Nat} {i : Nat} {t : Nat} (h : l[i]? = some t) : T.sub? (.str l) (.int (i : Nat)) = some (.str [t]) := by
  have : i < l.length := (List.getElem?_eq_some_iff.mp h).1
  simp only [T.sub?, ixOf_lt this, Option.bind_some, h, Option.map_some]
section
variable {a b d e : T} {l : List T}
theorem sub_t0 : T.sub? (.tup (a :: l)) (.int 0) = some a := sub_tk (i := 0) rfl
theorem sub_t1 : T.sub? (.tup (a :: b :: l)) (.int 1) = some b := sub_tk (i := 1) rfl
theorem sub_t2 : T.sub? (.tup (a :: b :: d :: l)) (.int 2) = some d := sub_tk (i := 2) rfl
theorem sub_t3 : T.sub? (.tup (a :: b :: d :: e :: l)) (.int 3) = some e := sub_tk (i := 3) rfl
theorem sub_l0 : T.sub? (.lst (a :: l)) (.int 0) = some a := sub_lk (i := 0) rfl
theorem sub_l1 : T.sub? (.lst (a :: b :: l)) (.int 1) = some b := sub_lk (i := 1) rfl
theorem sub_l2 : T.sub? (.lst (a :: b :: d :: l)) (.int 2) = some d := sub_lk (i := 2) rfl
theorem sub_l3 : T.sub? (.lst (a :: b :: d :: e :: l)) (.int 3) = some e := sub_lk (i := 3) rfl
theorem cut1 {α : Type} {a : α} {l : List α} : cutL (a :: l) (some 1) none = l := by
  unfold cutL clip
  simp
theorem cut2 {α : Type} {a b : α} {l : List α} : cutL (a :: b :: l) (some 2) none = l := by
  unfold cutL clip
  simp
theorem slc_t1 : T.slc (.tup (a :: l)) (some 1) none = some (.tup l) := by rw [T.slc, cut1]
theorem slc_t2 : T.slc (.tup (a :: b :: l)) (some 2) none = some (.tup l) := by rw [T.slc, cut2]
end
section
variable {a b : T} {l : List T} {x y : List Nat} {i j : Int}
theorem cmp_eq : cmpF .eq a b = if a.dep < 64 ∧ b.dep < 64 then some (.bl (T.eqv a b)) else none := prf rfl
theorem cmp_ne : cmpF .ne a b = if a.dep < 64 ∧ b.dep < 64 then some (.bl (!T.eqv a b)) else none := prf rfl
theorem cmp_lt : cmpF .lt a b = (T.lt a b).map T.bl := prf rfl
theorem cmp_le : cmpF .le a b = (T.le a b).map T.bl := prf rfl
theorem cmp_gt : cmpF .gt a b = (T.lt b a).map T.bl := prf rfl
theorem cmp_ge : cmpF .ge a b = (T.le b a).map T.bl := prf rfl
theorem cmp_inn : cmpF .inn a b = (T.inn a b).map T.bl := prf rfl
theorem cmp_nin : cmpF .nin a b = (T.inn a b).map fun k => T.bl (!k) := prf rfl
theorem cmp_is : cmpF .is a .non = some (.bl a.isNon) := by cases a <;> rfl
theorem cmp_isn : cmpF .isn a .non = some (.bl (!a.isNon)) := by cases a <;> rfl
theorem bi_len_s : biF .len [.str x] = some (.int x.length) := prf rfl
theorem bi_len_t : biF .len [.tup l] = some (.int l.length) := prf rfl
theorem bi_len_l : biF .len [.lst l] = some (.int l.length) := prf rfl
theorem bi_len_r {ns : List Int} : biF .len [.scr ns] = some (.int ns.length) := prf rfl
theorem bi_max2 : biF .max [.int i, .int j] = some (.int (max i j)) := prf rfl
theorem bi_min2 : biF .min [.int i, .int j] = some (.int (min i j)) := prf rfl
theorem bi_tup_l : biF .tup [.lst l] = some (.tup l) := prf rfl
theorem bi_tup_t : biF .tup [.tup l] = some (.tup l) := prf rfl
theorem bi_lst_l : biF .lst [.lst l] = some (.lst l) := prf rfl
theorem bi_lst_t : biF .lst [.tup l] = some (.lst l) := prf rfl
theorem bi_isT_t : biF .isT [.tup l] = some (.bl true) := prf rfl
theorem bi_isT_s : biF .isT [.str x] = some (.bl false) := prf rfl
theorem bi_isT_i : biF .isT [.int i] = some (.bl false) := prf rfl
theorem bi_isT_n : biF .isT [.non] = some (.bl false) := prf rfl
theorem bi_isT_b {k : Bool} : biF .isT [.bl k] = some (.bl false) := prf rfl
theorem bi_isT_l : biF .isT [.lst l] = some (.bl false) := prf rfl
theorem bi_isB_b {k : Bool} : biF .isB [.bl k] = some (.bl true) := prf rfl
theorem bi_isB_t : biF .isB [.tup l] = some (.bl false) := prf rfl
theorem bi_isB_s : biF .isB [.str x] = some (.bl false) := prf rfl
theorem bi_isB_i : biF .isB [.int i] = some (.bl false) := prf rfl
theorem bi_isB_n : biF .isB [.non] = some (.bl false) := prf rfl
theorem rev_t : revF (.tup l) = some (.tup l.reverse) := prf rfl
theorem rev_l : revF (.lst l) = some (.lst l.reverse) := prf rfl
theorem isIS_i : isISf (.int i) = some (.bl true) := prf rfl
theorem isIS_s : isISf (.str x) = some (.bl true) := prf rfl
theorem isIS_t : isISf (.tup l) = some (.bl false) := prf rfl
theorem isIS_n : isISf .non = some (.bl false) := prf rfl
theorem dep_n : T.dep .non = 0 := prf rfl
theorem dep_b {k : Bool} : T.dep (.bl k) = 0 := prf rfl
theorem dep_i : T.dep (.int i) = 0 := prf rfl
theorem dep_s : T.dep (.str x) = 0 := prf rfl
theorem dep_i3 {i j k : Int} : T.dep (.tup [.int i, .int j, .int k]) = 1 := prf rfl
theorem dep_i2 {i j : Int} : T.dep (.tup [.int i, .int j]) = 1 := prf rfl
theorem non_non : T.isNon .non = true := prf rfl
theorem non_tup : T.isNon (.tup l) = false := prf rfl
theorem non_lst : T.isNon (.lst l) = false := prf rfl
theorem non_int : T.isNon (.int i) = false := prf rfl
theorem non_str : T.isNon (.str x) = false := prf rfl
theorem tru_non : T.tru .non = some false := prf rfl
theorem tru_bl {k : Bool} : T.tru (.bl k) = some k := prf rfl
theorem tru_i : T.tru (.int i) = some (i != 0) := prf rfl
theorem tru_s : T.tru (.str x) = some (!x.isEmpty) := prf rfl
theorem tru_t : T.tru (.tup l) = some (!l.isEmpty) := prf rfl
theorem tru_l : T.tru (.lst l) = some (!l.isEmpty) := prf rfl
theorem items_t : T.items (.tup l) = some l := prf rfl
theorem items_l : T.items (.lst l) = some l := prf rfl
theorem items_s : T.items (.str x) = some (x.map fun c => T.str [c]) := prf rfl
theorem seq_t : T.seq (.tup l) = some l := prf rfl
theorem seq_l : T.seq (.lst l) = some l := prf rfl
theorem it_val : itemsF .val [a] = a.items := prf rfl
theorem it_zip {x y : List T} (h1 : a.items = some x) (h2 : b.items = some y) : itemsF .zip [a, b] = some ((x.zip y).map fun p => T.tup [p.1, p.2]) := by simp only [itemsF, h1, h2]
theorem it_enm {x : List T} (h1 : a.items = some x) : itemsF .enm [a] = some (x.zipIdx.map fun p => T.tup [.int (p.2 : Nat), p.1]) := by simp only [itemsF, h1, Option.map_some]
theorem it_zip_tt {x y : List T} : itemsF .zip [.tup x, .tup y] = some ((x.zip y).map fun p => T.tup [p.1, p.2]) := prf rfl
theorem it_zip_tl {x y : List T} : itemsF .zip [.tup x, .lst y] = some ((x.zip y).map fun p => T.tup [p.1, p.2]) := prf rfl
theorem it_zip_lt {x y : List T} : itemsF .zip [.lst x, .tup y] = some ((x.zip y).map fun p => T.tup [p.1, p.2]) := prf rfl
theorem it_zip_ll {x y : List T} : itemsF .zip [.lst x, .lst y] = some ((x.zip y).map fun p => T.tup [p.1, p.2]) := prf rfl
theorem zip_mm {α β γ : Type} {l : List α} {f : α → β} {g : α → γ} : (l.map f).zip (l.map g) = l.map fun a => (f a, g a) := by
  induction l with
  | nil => rfl
  | cons a l ih => simp only [List.map_cons, List.zip_cons_cons, ih]
theorem it_enm_t {x : List T} : itemsF .enm [.tup x] = some (x.zipIdx.map fun p => T.tup [.int (p.2 : Nat), p.1]) := prf rfl
theorem it_enm_l {x : List T} : itemsF .enm [.lst x] = some (x.zipIdx.map fun p => T.tup [.int (p.2 : Nat), p.1]) := prf rfl
theorem zidx_fin {α β : Type} {n : Nat} {f : Fin n → α} {g : α × Nat → β} : ((List.finRange n).map f).zipIdx.map g = (List.finRange n).map fun i => g (f i, i.1) := by
  refine List.ext_getElem? fun i => ?_
  rw [List.getElem?_map, List.getElem?_zipIdx, List.getElem?_map, List.getElem?_map]
  by_cases h : i < n
  · rw [List.getElem?_eq_getElem (by rw [List.length_finRange]; exact h)]; simp
  · rw [List.getElem?_eq_none (by rw [List.length_finRange]; omega)]; rfl
theorem it_rng3 {i j k : Int} (h : k ≠ 0 ∧ -1000000 ≤ i ∧ i ≤ 1000000 ∧ -1000000 ≤ j ∧ j ≤ 1000000 ∧ -1000000 ≤ k ∧ k ≤ 1000000) : itemsF .rng [.int i, .int j, .int k] = some ((List.range (rngSz i j k).toNat).map fun (m : Nat) => T.int (i + m * k)) := by rw [itemsF, if_pos h]
theorem it_rng2 {i j : Int} (h : j - i ≤ 1000000 ∧ -1000000 ≤ i ∧ i ≤ 1000000 ∧ -1000000 ≤ j ∧ j ≤ 1000000) : itemsF .rng [.int i, .int j] = some ((List.range (j - i).toNat).map fun (m : Nat) => T.int (i + m)) := by rw [itemsF, if_pos h]
theorem it_rng1 (h : -1000000 ≤ i ∧ i ≤ 1000000) : itemsF .rng [.int i] = some ((List.range i.toNat).map fun (k : Nat) => T.int k) := by rw [itemsF, if_pos h]
end

/-! loops by what they carry -/
section
variable {α β γ : Type} {lv lw : List (Nat × Bool)} {ρ ρx : Lenv} {S : Store} {p : Bool} {get : Lenv → Option β} {put : β → Lenv} {b : β} {t : T} {k : Nat}
/-- a loop's turn -/
noncomputable def lpG (L : Lens lv β) (c : Call) (tg : Tg) (body : Sms) (tmp : List Nat) (f : α → T) (ρ : Lenv) : α → β → Store → LR β := fun a b S => toLR L.get (forF c tg body lv tmp (f a) (L.put b ρ) S)
theorem lpG_r {L : Lens lv β} {c : Call} {tg : Tg} {body : Sms} {tmp : List Nat} {f : α → T} {a : α} : lpG L c tg body tmp f ρ a b S = toLR L.get (forF c tg body lv tmp (f a) (L.put b ρ) S) := prf rfl
theorem forI_lens' [Inhabited β] {tmp : List Nat} {c : Call} {tg : Tg} {body : Sms} (L : Lens lv β) (h : lvOk tg body lv tmp = true) {f : α → T} {l : List α} (g : (L.get (wipeR ρ tmp)).isSome = true) :
    forI c tg body lv tmp ρ S (some (l.map f)) = (forG (lpG L c tg body tmp f (wipeR ρ tmp)) l ((L.get (wipeR ρ tmp)).getD default) S).inj (fun b => L.put b (wipeR ρ tmp)) (wipeR (wipeR ρ tmp) (lv.map (·.1))) := by
  cases q : L.get (wipeR ρ tmp) with
  | none => rw [q] at g; cases g
  | some b0 => exact forI_lens L h q
theorem toLR_nx : toLR get (.nx ρ S) = lrN S (get ρ) := prf rfl
theorem toLR_bk : toLR get (.bk ρ S) = lrB S (get ρ) := prf rfl
theorem toLR_rt : toLR get (.rt t S) = .rt t S := prf rfl
theorem toLR_ex : toLR get (.ex k ρ S) = .ex k S := prf rfl
theorem toLR_cond {x y : OutS} : toLR get (cond p x y) = cond p (toLR get x) (toLR get y) := by cases p <;> rfl
theorem lrN_s : lrN S (some b) = .nx b S := prf rfl
theorem lrB_s : lrB S (some b) = .bk b S := prf rfl
theorem inj_nx : (LR.nx b S).inj put ρx = .nx (put b) S := prf rfl
theorem inj_bk : (LR.bk b S).inj put ρx = .bk (put b) S := prf rfl
theorem inj_rt : (LR.rt t S : LR β).inj put ρx = .rt t S := prf rfl
theorem inj_ex : (LR.ex k S : LR β).inj put ρx = .ex k ρx S := prf rfl
theorem inj_cond {x y : LR β} : (cond p x y).inj put ρx = cond p (x.inj put ρx) (y.inj put ρx) := by cases p <;> rfl
theorem Ln_get : Lens.n.get ρ = some () := prf rfl
theorem Lv_get {i : Nat} : (Lens.v i).get ρ = getV ρ[i]? := prf rfl
theorem Lo_get {i : Nat} : (Lens.o i).get ρ = getO ρ[i]? := prf rfl
theorem Lp_get {A : Lens lv β} {B : Lens lw γ} : (A.p B).get ρ = pairO (A.get ρ) (B.get ρ) := prf rfl
theorem Ln_put {b : Unit} : Lens.n.put b ρ = ρ := prf rfl
theorem Lv_put {i : Nat} {b : T} : (Lens.v i).put b ρ = ρ.set i (.val b) := prf rfl
theorem Lo_put {i : Nat} {b : List T} : (Lens.o i).put b ρ = ρ.set i (.own b) := prf rfl
theorem Lp_put {A : Lens lv β} {B : Lens lw γ} {b : β × γ} : (A.p B).put b ρ = B.put b.2 (A.put b.1 ρ) := prf rfl
theorem getV_v : getV (some (.val t)) = some t := prf rfl
theorem getO_o {l : List T} : getO (some (.own l)) = some l := prf rfl
theorem pairO_s {a : β} {b : γ} : pairO (some a) (some b) = some (a, b) := prf rfl
/-- a loop that goes on to its end -/
theorem forG_nx {f : α → β → Store → LR β} (st : List α → β) {l : List α} {b0 : β} (h0 : st [] = b0) (h : ∀ pre a post, l = pre ++ a :: post → f a (st pre) S = .nx (st (pre ++ [a])) S) : forG f l b0 S = .nx (st l) S := by
  have : ∀ (r pre : List α), l = pre ++ r → forG f r (st pre) S = .nx (st l) S := fun r => by
    induction r with
    | nil => intro pre e; rw [List.append_nil] at e; rw [e]; rfl
    | cons a r ih =>
      intro pre e
      rw [forG, h pre a r e]
      exact ih (pre ++ [a]) (by rw [e]; simp)
  rw [← h0]; exact this l [] rfl
/-- .. by a fold, under what stays true -/
theorem forG_fold {f : α → β → Store → LR β} (P : β → Prop) (g : β → α → β) {l : List α} {b0 : β} (h0 : P b0) (h : ∀ a ∈ l, ∀ b, P b → f a b S = .nx (g b a) S ∧ P (g b a)) : forG f l b0 S = .nx (l.foldl g b0) S := by
  induction l generalizing b0 with
  | nil => rfl
  | cons a l ih =>
    obtain ⟨h1, h2⟩ := h a List.mem_cons_self b0 h0
    rw [forG, h1]
    exact ih h2 fun a m => h a (List.mem_cons_of_mem _ m)
theorem forG_unit {f : α → Unit → Store → LR Unit} {l : List α} (h : ∀ a ∈ l, f a () S = .nx () S) : forG f l () S = .nx () S := by
  induction l with
  | nil => rfl
  | cons a l ih => rw [forG, h a List.mem_cons_self]; exact ih fun a m => h a (List.mem_cons_of_mem _ m)
/-- a loop whose store grows -/
theorem forG_any {f : α → Unit → Store → LR Unit} {l : List α} (h : ∀ a ∈ l, ∀ S, ∃ S', f a () S = .nx () S') : ∀ S, ∃ S', forG f l () S = .nx () S' := by
  induction l with
  | nil => exact fun S => ⟨S, rfl⟩
  | cons a l ih =>
    intro S
    obtain ⟨S1, h1⟩ := h a List.mem_cons_self S
    obtain ⟨S2, h2⟩ := ih (fun a m => h a (List.mem_cons_of_mem _ m)) S1
    exact ⟨S2, by rw [forG, h1]; exact h2⟩
end
/-- a loop whose turns may refuse -/
theorem op_toI {b : Bool} {S : Store} : opF .toI [.bl b] S = some (.int (if b then 1 else 0), S) := prf rfl
theorem op_mxd {l : List T} {ns : List Int} {k : Int} {S : Store} (h : allInt l = some ns) : opF (.mxd k) [.lst l] S = some (.int (maxD0 k ns), S) := by simp only [opF, h, Option.map_some]
theorem op_mnd {l : List T} {ns : List Int} {k : Int} {S : Store} (h : allInt l = some ns) : opF (.mnd k) [.lst l] S = some (.int (minD0 k ns), S) := by simp only [opF, h, Option.map_some]
theorem mt_split {s : List Nat} {c : Nat} (h : s.length + 2 ≤ sizeLine) : mtF .split (.str s) [.str [c]] = some (.lst ((splitL c s).map T.str)) := by rw [mtF, if_pos h]
def foldO {α γ : Type} (step : γ → α → Option γ) : γ → List α → Option γ
  | g, [] => some g
  | g, a :: l => (step g a).bind fun g' => foldO step g' l
def optR {β γ : Type} (rep : γ → β) (k : Nat) (S : Store) : Option γ → LR β
  | some g => .nx (rep g) S
  | none => .ex k S
theorem optR_s {β γ : Type} {rep : γ → β} {k : Nat} {S : Store} {g : γ} : optR rep k S (some g) = .nx (rep g) S := prf rfl
theorem optR_n {β γ : Type} {rep : γ → β} {k : Nat} {S : Store} : optR rep k S none = .ex k S := prf rfl
theorem forG_opt {α β γ : Type} {f : α → β → Store → LR β} (rep : γ → β) (k : Nat) (Q : γ → Prop) (step : γ → α → Option γ) {S : Store} {l : List α} {g : γ} (q : Q g) (h : ∀ a ∈ l, ∀ g, Q g → f a (rep g) S = optR rep k S (step g a) ∧ ∀ g', step g a = some g' → Q g') : forG f l (rep g) S = optR rep k S (foldO step g l) := by
  induction l generalizing g with
  | nil => rfl
  | cons a l ih =>
    obtain ⟨e, q'⟩ := h a List.mem_cons_self g q
    rw [forG, foldO, e]
    cases s : step g a with
    | none => rfl
    | some g' => exact ih (q' g' s) fun a m => h a (List.mem_cons_of_mem _ m)
/-! what a def answers -/
def Ev (tab : List FnI) (f : Nat) (args : List T) (r : T) (N : Nat) : Prop := ∀ n, N ≤ n → ∀ S, callF tab n f args S = .ok r S
theorem Ev.mono {tab : List FnI} {f : Nat} {args : List T} {r : T} {N M : Nat} (h : Ev tab f args r N) (l : N ≤ M) : Ev tab f args r M := fun n hn S => h n (Nat.le_trans l hn) S
/-! lists of numbers -/
section
variable {α : Type} {l : List α}
theorem allInt_map {f : α → Int} : allInt (l.map fun a => T.int (f a)) = some (l.map f) := by
  induction l with
  | nil => rfl
  | cons a l ih => simp only [List.map_cons, allInt, ih, Option.map_some]
theorem allBl_map {f : α → Bool} : allBl (l.map fun a => T.bl (f a)) = some (l.map f) := by
  induction l with
  | nil => rfl
  | cons a l ih => simp only [List.map_cons, allBl, ih, Option.map_some]
theorem allStr_map {f : α → List Nat} : allStr (l.map fun a => T.str (f a)) = some (l.map f) := by
  induction l with
  | nil => rfl
  | cons a l ih => simp only [List.map_cons, allStr, ih, Option.map_some]
theorem bi_sum_m {f : α → Int} : biF .sum [.lst (l.map fun a => T.int (f a))] = some (.int (l.map f).sum) := by simp only [biF, allInt_map, Option.map_some]
theorem bi_max_lc {i : Int} {r : List T} {m : List Int} (h : allInt r = some m) : biF .max [.lst (.int i :: r)] = some (.int (maxI (i :: m))) := by simp only [biF, allInt, h, Option.map_some]
theorem bi_min_lc {i : Int} {r : List T} {m : List Int} (h : allInt r = some m) : biF .min [.lst (.int i :: r)] = some (.int (minI (i :: m))) := by simp only [biF, allInt, h, Option.map_some]
theorem bi_max_l1 {i : Int} : biF .max [.lst [.int i]] = some (.int i) := prf rfl
theorem bi_max_l2 {i j : Int} : biF .max [.lst [.int i, .int j]] = some (.int (max i j)) := prf rfl
theorem bi_min_l1 {i : Int} : biF .min [.lst [.int i]] = some (.int i) := prf rfl
theorem bi_min_l2 {i j : Int} : biF .min [.lst [.int i, .int j]] = some (.int (min i j)) := prf rfl
theorem bi_all_m {f : α → Bool} : biF .all [.lst (l.map fun a => T.bl (f a))] = some (.bl ((l.map f).all id)) := by simp only [biF, allBl_map, Option.map_some]
theorem bi_any_m {f : α → Bool} : biF .any [.lst (l.map fun a => T.bl (f a))] = some (.bl ((l.map f).any id)) := by simp only [biF, allBl_map, Option.map_some]
theorem bi_sum_c {f : α → Int} {i : Int} : biF .sum [.lst (.int i :: l.map fun a => T.int (f a))] = some (.int (i + (l.map f).sum)) := by simp only [biF, allInt, allInt_map, Option.map_some, List.sum_cons]
theorem bi_max_c {f : α → Int} {i : Int} : biF .max [.lst (.int i :: l.map fun a => T.int (f a))] = some (.int (maxI (i :: l.map f))) := by simp only [biF, allInt, allInt_map, Option.map_some]
theorem bi_min_c {f : α → Int} {i : Int} : biF .min [.lst (.int i :: l.map fun a => T.int (f a))] = some (.int (minI (i :: l.map f))) := by simp only [biF, allInt, allInt_map, Option.map_some]
theorem bi_max_m {f : α → Int} (h : l ≠ []) : biF .max [.lst (l.map fun a => T.int (f a))] = some (.int (maxI (l.map f))) := by
  cases l with
  | nil => exact absurd rfl h
  | cons a l => simp only [biF]; rw [allInt_map]; rfl
theorem bi_min_m {f : α → Int} (h : l ≠ []) : biF .min [.lst (l.map fun a => T.int (f a))] = some (.int (minI (l.map f))) := by
  cases l with
  | nil => exact absurd rfl h
  | cons a l => simp only [biF]; rw [allInt_map]; rfl
end
instance : Inhabited T := ⟨.non⟩
theorem okE_len {α β : Type} {l : List α} {f : α → β} (h : l ≠ []) : l.map f ≠ [] := by simpa using h
end Ly
open Ly
open Lean.Parser.Tactic in
local macro_rules
  | `(tactic| simp! [$ls:simpLemma,*]) => `(tactic| simp only [szL, bnd_ok, bnd_exc, bnd_cond, bst_ok, bst_exc, bst_cond, of_some, of_cond, cond_same, cond_and, cond_or, cond_t, cond_f, ev_lit', ev_glb', ev_var', varO_v, ev_neg', ev_nop', ev_bin', kBin1_r, kBin2_r, ev_cmp', kCmp1_r, kCmp2_r, ev_chn', kChn1_r, kChn2_r, kChn3_t, kChn3_f, kChn3_b, ev_and', kAnd_t, kAnd_f, kAnd_b, ev_or', kOr_t, kOr_f, kOr_b, ev_one', ev_not', kNot_r, ev_ife', kIfe_r, ifE_t, ifE_f, ifE_b, ev_tup', kTup_r, ev_lst', kLit_r, evs_nil, evs_cons, kCons_r, kCons2_r, evb_nil, evb_cons, kConsB_r, ev_sub', kSub1_r, kSub2_r, ev_slc', kSlc1_r, kSlc2_r, slc2_r, kSlc3_r, slc3_r, optI_nop, optI_lit, optI_var, optI_neg, optI_bin, optI_sub, optI_bi, optI_call, optI_glb, ev_call', kCall_r, ev_bi', kBi_r, ev_mth', kMth1_r, kMth2_r, ev_isIS', kIsIS_r, ev_rev', kRev_r, evo_rev, rev_t, rev_l, ev_lc0', ev_lc1', kLc_r, lcI_r, kLst_r, kSome_r, lcF_r, lcG_r, lcN_r, lcC_r, kLcC_r, lcIf_t, lcIf_f, lcIf_b, noX_ok, noX_cond, evo_lit, evo_glb, evo_var, evo_bin, evo_neg, evo_cmp, evo_chn, evo_and, evo_or, evo_one, evo_not, evo_ife, evo_tup, evo_lst, evo_sub, evo_slc, evo_call, evo_bi, evo_mth, evo_isIS, evo_lc, evo_bor, borO_o, compL_all, compL_nil, compL_cons, kCL_r, kCL2_s, kCL2_n, compG_ok, compG_fil, exs_nil', exs_cons', nxS_nx, nxS_rt, nxS_bk, nxS_ct, nxS_ex, nxS_cond, fin_rt, fin_nx, fin_ex, fin_cond, ifS_t, ifS_f, ifS_b, ex_iff', kIf_r, ex_ret', kRet_r, ex_retN', ex_expr', kExpr_r, ex_asg', ex_asgC', kAsg_r, ex_own', ex_ownC', kOwn_r, ownK_l, ex_rel', relK_o, relK_v, ex_app', appK_o, kApp_r, ex_ext', extO_o, kExt_r, extK_l, ex_par2', kPar2a_r, kPar2b_r, ex_par2o', kPar2oa_r, kPar2ob_r, ex_par3o', kPar3oa_r, kPar3ob_r, kPar3oc_r, putO_v, putO_o, ev_op', kOp_r, opO_s, evo_op, ex_par3', kPar3a_r, kPar3b_r, kPar3c_r, ex_unp', kUnp_r, unpK_s, ex_retPop', kPop1_r, kPop2_r, popO_o, popI_s, popK_s, ex_brk', ex_cnt', ex_pass', ex_raise', ex_for', kFor_r, forF_r, forB_r, fx_t, lpG_r, optR_s, optR_n, fix_nx, fix_ct, fix_bk, fix_ex, fix_rt, fix_cond, okL_nil, okL_cons, okK_v, okK_o, forL_nil, forJ_nx, forJ_bk, forJ_rt, forJ_ex, forJ_cond, toLR_nx, toLR_bk, toLR_rt, toLR_ex, toLR_cond, lrN_s, lrB_s, inj_nx, inj_bk, inj_rt, inj_ex, inj_cond, Ln_get, Lv_get, Lo_get, Lp_get, Ln_put, Lv_put, Lo_put, Lp_put, getV_v, getO_o, pairO_s, Option.isSome_some, Option.getD_some, bi_max_l1, bi_max_l2, bi_min_l1, bi_min_l2, bi_sum_c, bi_max_c, bi_min_c, bi_sum_m, bi_all_m, bi_any_m, List.map_cons, List.map_nil, List.append, List.nil_append, List.cons_append, List.getElem?_cons_zero, List.getElem?_cons_succ, List.set_cons_zero, List.set_cons_succ, List.length_cons, List.length_nil, List.getElem?_nil, List.set_nil, List.length_map, binF, cmp_eq, cmp_ne, cmp_lt, cmp_le, cmp_gt, cmp_ge, cmp_inn, cmp_nin, cmp_is, cmp_isn, bi_len_s, bi_len_t, bi_len_l, bi_len_r, bi_max2, bi_min2, bi_tup_l, bi_tup_t, bi_lst_l, bi_lst_t, bi_isT_t, bi_isT_s, bi_isT_i, bi_isT_n, bi_isT_b, bi_isT_l, bi_isB_b, bi_isB_t, bi_isB_s, bi_isB_i, bi_isB_n, isIS_i, isIS_s, isIS_t, isIS_n, add_i, add_s, add_t, add_l, sub_i, mul_il, mul_ir, mul_s, fdv_i, mod_i, T.eqv, T.eqvs, dep_n, dep_b, dep_i, dep_s, dep_i3, dep_i2, non_non, non_tup, non_int, non_str, non_lst, Tr.isNon, lt_i, le_i, lt_s, le_s, tru_non, tru_bl, tru_i, tru_s, tru_t, tru_l, items_t, items_l, items_s, seq_t, seq_l, it_val, it_zip_tt, it_zip_tl, it_zip_lt, it_zip_ll, zip_mm, it_enm_t, it_enm_l, zidx_fin, List.map_map, Function.comp_def, sub_t0, sub_t1, sub_t2, sub_t3, sub_l0, sub_l1, sub_l2, sub_l3, slc_t1, slc_t2, Tg.put, Tgs.put, Tg.slots, Tgs.slots, wipeR, fresh, Option.map_some, Option.map_none, Option.bind_some, Option.bind_none, if_true, if_false, Bool.true_and, Bool.and_true, Bool.false_and, Bool.and_false, Bool.true_or, Bool.or_true, Bool.false_or, Bool.or_false, Bool.not_true, Bool.not_false, ite_true, ite_false, decide_true, decide_false, reduceCtorEq, Nat.reduceAdd, Nat.reduceLT, Nat.reduceLeDiff, Int.reduceLT, Int.reduceLE, Int.reduceBEq, Nat.reduceBEq, Int.reduceNeg, Int.reduceAdd, Int.reduceSub, Int.reduceMul, List.cons_beq_cons, and_true, true_and, and_self, Bool.false_eq_true, beq_self_eq_true, $ls,*])
namespace Ly
open PySem PySem.Spec
abbrev i_is_word : Nat := 0
abbrev i_is_kind : Nat := 1
abbrev i_is_rest : Nat := 2
abbrev i_are_rows : Nat := 3
abbrev i_is_script : Nat := 4
abbrev i_is_at : Nat := 5
abbrev i_is_sum : Nat := 6
abbrev i_kind : Nat := 7
abbrev i_parts : Nat := 8
abbrev i_with_parts : Nat := 9
abbrev i_size : Nat := 10
abbrev i_deep : Nat := 11
abbrev i_ways : Nat := 12
abbrev i_part_at : Nat := 13
abbrev i_may_be : Nat := 14
abbrev i_put_at : Nat := 15
abbrev i_rows_of : Nat := 16
abbrev i_box_or_none : Nat := 17
abbrev i_columns : Nat := 18
abbrev i_heights : Nat := 19
abbrev i_table_box : Nat := 20
abbrev i_box : Nat := 21
abbrev i_padded : Nat := 22
abbrev i_blanks : Nat := 23
abbrev i_raised : Nat := 24
abbrev i_beside : Nat := 25
abbrev i_chain_picture : Nat := 26
abbrev i_script_picture : Nat := 27
abbrev i_table_picture : Nat := 28
abbrev i_picture : Nat := 29
abbrev i_shown : Nat := 30
abbrev i_middle : Nat := 31
abbrev i_table_corners : Nat := 32
abbrev i_script_corners : Nat := 33
abbrev i_corners : Nat := 34
abbrev i_frame : Nat := 35
abbrev i_has_spot : Nat := 36
abbrev i_at_spot : Nat := 37
abbrev i_own_spots : Nat := 38
abbrev i_row_text : Nat := 39
abbrev i_sum_text : Nat := 40
abbrev i_rd_must : Nat := 41
abbrev i_read_text : Nat := 42
abbrev i_sn_must : Nat := 43
abbrev i_cut_out : Nat := 44
abbrev i_trimmed : Nat := 45
abbrev i_column : Nat := 46
abbrev i_rows_with : Nat := 47
abbrev i_end_of_held : Nat := 48
abbrev i_end_of_run : Nat := 49
abbrev i_inner_of_root : Nat := 50
abbrev i_line_row : Nat := 51
abbrev i_blank_runs : Nat := 52
abbrev i_middle_of : Nat := 53
abbrev i_covered : Nat := 54
abbrev i_seen_table : Nat := 55
abbrev i_seen_base : Nat := 56
abbrev i_is_sign_next : Nat := 57
abbrev i_seen_or_none : Nat := 58
abbrev i_seen_item : Nat := 59
abbrev i_seen : Nat := 60
abbrev i_read_picture : Nat := 61
abbrev i_line_wide : Nat := 62
abbrev i_chosen : Nat := 63
abbrev i_breaks : Nat := 64
abbrev i_line_rows : Nat := 65
abbrev i_broken : Nat := 66
abbrev i_sign_at : Nat := 67
abbrev i_lined : Nat := 68
abbrev i_fitted : Nat := 69
abbrev i_put_in : Nat := 70
abbrev i_opened : Nat := 71
abbrev i_freed : Nat := 72
abbrev i_freed_parts : Nat := 73
abbrev i_words : Nat := 74
abbrev i_longest : Nat := 75
abbrev i_lw_cell : Nat := 76
abbrev i_lw_mix : Nat := 77
abbrev i_lw_atom : Nat := 78
abbrev i_lw_base : Nat := 79
abbrev i_lw_item : Nat := 80
abbrev i_lw_draw : Nat := 81
abbrev i_lw_parts : Nat := 82
abbrev i_lw_ways : Nat := 83
abbrev i_lw_is_rest : Nat := 84
abbrev i_lw_is_table : Nat := 85
abbrev i_lw_is : Nat := 86
abbrev i_lw_same : Nat := 87
abbrev i_lw_part : Nat := 88
abbrev i_lw_word : Nat := 89
abbrev i_lw_rows : Nat := 90
abbrev i_lw_box : Nat := 91
abbrev i_lw_lay : Nat := 92
abbrev i_lw_lay_more : Nat := 93
abbrev i_lw_picture : Nat := 94
abbrev i_lw_text : Nat := 95
abbrev i_lw_room : Nat := 96
abbrev i_lw_is_base : Nat := 97
def b_is_word : Sms := (Sms.cons (Sm.ret (Ex.and (Ex.bi .isS (Exs.cons (Ex.var 0) Exs.nil)) (Ex.and (Ex.chn .le .le (Ex.lit (T.int 1)) (Ex.bi .len (Exs.cons (Ex.var 0) Exs.nil)) (Ex.glb ⟨#[]⟩ (T.int 6))) (Ex.one (Ex.bi .all (Exs.cons (Ex.lc (Ex.cmp .inn (Ex.var 1) (Ex.glb ⟨#[]⟩ (T.str [97, 98, 99, 100, 101, 102, 103, 104, 105, 106, 107, 108, 109, 110, 111, 112, 113, 114, 115, 116, 117, 118, 119, 120, 121, 122, 48, 49, 50, 51, 52, 53, 54, 55, 56, 57]))) (Tg.nm 1) .val (Exs.cons (Ex.var 0) Exs.nil) Exs.nil) Exs.nil)))))) Sms.nil)
def f_is_word : FnI := ⟨1, 2, b_is_word⟩
def b_is_kind : Sms := (Sms.cons (Sm.ret (Ex.and (Ex.bi .isT (Exs.cons (Ex.var 0) Exs.nil)) (Ex.and (Ex.cmp .gt (Ex.bi .len (Exs.cons (Ex.var 0) Exs.nil)) (Ex.lit (T.int 0))) (Ex.and (Ex.bi .isS (Exs.cons (Ex.sub (Ex.var 0) (Ex.lit (T.int 0))) Exs.nil)) (Ex.one (Ex.cmp .inn (Ex.sub (Ex.var 0) (Ex.lit (T.int 0))) (Ex.var 1))))))) Sms.nil)
def f_is_kind : FnI := ⟨2, 2, b_is_kind⟩
def l_is_rest_1 : Sms := (Sms.cons (Sm.iff (Ex.or (Ex.not (Ex.bi .isT (Exs.cons (Ex.var 2) Exs.nil))) (Ex.or (Ex.cmp .ne (Ex.bi .len (Exs.cons (Ex.var 2) Exs.nil)) (Ex.lit (T.int 2))) (Ex.one (Ex.not (Ex.bi .isS (Exs.cons (Ex.sub (Ex.var 2) (Ex.lit (T.int 0))) Exs.nil)))))) (Sms.cons (Sm.ret (Ex.lit (T.bl false))) Sms.nil) Sms.nil) (Sms.cons (Sm.iff (Ex.or (Ex.cmp .ne (Ex.bi .len (Exs.cons (Ex.sub (Ex.var 2) (Ex.lit (T.int 0))) Exs.nil)) (Ex.lit (T.int 1))) (Ex.or (Ex.cmp .nin (Ex.sub (Ex.var 2) (Ex.lit (T.int 0))) (Ex.glb ⟨#[]⟩ (T.str [43, 45, 42, 61, 60]))) (Ex.or (Ex.call i_is_kind (Exs.cons (Ex.sub (Ex.var 2) (Ex.lit (T.int 1))) (Exs.cons (Ex.tup (Exs.cons (Ex.lit (T.str [99, 104, 97, 105, 110])) Exs.nil)) Exs.nil))) (Ex.one (Ex.not (Ex.call i_is_at (Exs.cons (Ex.sub (Ex.var 2) (Ex.lit (T.int 1))) (Exs.cons (Ex.var 1) Exs.nil)))))))) (Sms.cons (Sm.ret (Ex.lit (T.bl false))) Sms.nil) Sms.nil) Sms.nil))
def b_is_rest : Sms := (Sms.cons (Sm.iff (Ex.or (Ex.not (Ex.bi .isT (Exs.cons (Ex.var 0) Exs.nil))) (Ex.one (Ex.not (Ex.chn .le .le (Ex.lit (T.int 1)) (Ex.bi .len (Exs.cons (Ex.var 0) Exs.nil)) (Ex.glb ⟨#[]⟩ (T.int 4)))))) (Sms.cons (Sm.ret (Ex.lit (T.bl false))) Sms.nil) Sms.nil) (Sms.cons (Sm.for_ (Tg.nm 2) .val (Exs.cons (Ex.var 0) Exs.nil) l_is_rest_1 [] [2]) (Sms.cons (Sm.ret (Ex.lit (T.bl true))) Sms.nil)))
def f_is_rest : FnI := ⟨2, 3, b_is_rest⟩
def l_are_rows_1 : Sms := (Sms.cons (Sm.iff (Ex.or (Ex.not (Ex.bi .isT (Exs.cons (Ex.var 2) Exs.nil))) (Ex.or (Ex.not (Ex.chn .le .le (Ex.lit (T.int 1)) (Ex.bi .len (Exs.cons (Ex.var 2) Exs.nil)) (Ex.glb ⟨#[]⟩ (T.int 3)))) (Ex.one (Ex.cmp .ne (Ex.bi .len (Exs.cons (Ex.var 2) Exs.nil)) (Ex.bi .len (Exs.cons (Ex.sub (Ex.var 0) (Ex.lit (T.int 0))) Exs.nil)))))) (Sms.cons (Sm.ret (Ex.lit (T.bl false))) Sms.nil) Sms.nil) (Sms.cons (Sm.iff (Ex.not (Ex.bi .all (Exs.cons (Ex.lc (Ex.call i_is_at (Exs.cons (Ex.var 3) (Exs.cons (Ex.var 1) Exs.nil))) (Tg.nm 3) .val (Exs.cons (Ex.var 2) Exs.nil) Exs.nil) Exs.nil))) (Sms.cons (Sm.ret (Ex.lit (T.bl false))) Sms.nil) Sms.nil) Sms.nil))
def b_are_rows : Sms := (Sms.cons (Sm.iff (Ex.or (Ex.not (Ex.bi .isT (Exs.cons (Ex.var 0) Exs.nil))) (Ex.one (Ex.not (Ex.chn .le .le (Ex.lit (T.int 1)) (Ex.bi .len (Exs.cons (Ex.var 0) Exs.nil)) (Ex.glb ⟨#[]⟩ (T.int 3)))))) (Sms.cons (Sm.ret (Ex.lit (T.bl false))) Sms.nil) Sms.nil) (Sms.cons (Sm.for_ (Tg.nm 2) .val (Exs.cons (Ex.var 0) Exs.nil) l_are_rows_1 [] [2]) (Sms.cons (Sm.ret (Ex.lit (T.bl true))) Sms.nil)))
def f_are_rows : FnI := ⟨2, 4, b_are_rows⟩
def b_is_script : Sms := (Sms.cons (Sm.unp (Tgs.cons (Tg.nm 2) (Tgs.cons (Tg.nm 3) (Tgs.cons (Tg.nm 4) Tgs.nil))) (Ex.slc (Ex.var 0) (Ex.lit (T.int 1)) Ex.nop)) (Sms.cons (Sm.iff (Ex.or (Ex.not (Ex.call i_is_kind (Exs.cons (Ex.var 2) (Exs.cons (Ex.glb ⟨#[]⟩ (T.tup [(T.str [119, 111, 114, 100]), (T.str [104, 101, 108, 100]), (T.str [116, 97, 98, 108, 101])])) Exs.nil)))) (Ex.or (Ex.not (Ex.call i_is_at (Exs.cons (Ex.var 2) (Exs.cons (Ex.var 1) Exs.nil)))) (Ex.one (Ex.and (Ex.cmp .is (Ex.var 3) (Ex.lit T.non)) (Ex.one (Ex.cmp .is (Ex.var 4) (Ex.lit T.non))))))) (Sms.cons (Sm.ret (Ex.lit (T.bl false))) Sms.nil) Sms.nil) (Sms.cons (Sm.ret (Ex.bi .all (Exs.cons (Ex.lc (Ex.or (Ex.cmp .is (Ex.var 5) (Ex.lit T.non)) (Ex.one (Ex.call i_is_at (Exs.cons (Ex.var 5) (Exs.cons (Ex.var 1) Exs.nil))))) (Tg.nm 5) .val (Exs.cons (Ex.tup (Exs.cons (Ex.var 3) (Exs.cons (Ex.var 4) Exs.nil))) Exs.nil) Exs.nil) Exs.nil))) Sms.nil)))
def f_is_script : FnI := ⟨2, 6, b_is_script⟩
def b_is_at : Sms := (Sms.cons (Sm.iff (Ex.or (Ex.cmp .eq (Ex.var 1) (Ex.lit (T.int 0))) (Ex.or (Ex.not (Ex.bi .isT (Exs.cons (Ex.var 0) Exs.nil))) (Ex.or (Ex.cmp .lt (Ex.bi .len (Exs.cons (Ex.var 0) Exs.nil)) (Ex.lit (T.int 2))) (Ex.one (Ex.not (Ex.bi .isS (Exs.cons (Ex.sub (Ex.var 0) (Ex.lit (T.int 0))) Exs.nil))))))) (Sms.cons (Sm.ret (Ex.lit (T.bl false))) Sms.nil) Sms.nil) (Sms.cons (Sm.par2 2 3 (Ex.sub (Ex.var 0) (Ex.lit (T.int 0))) (Ex.bi .len (Exs.cons (Ex.var 0) Exs.nil))) (Sms.cons (Sm.iff (Ex.cmp .eq (Ex.var 2) (Ex.lit (T.str [119, 111, 114, 100]))) (Sms.cons (Sm.ret (Ex.and (Ex.cmp .eq (Ex.var 3) (Ex.lit (T.int 2))) (Ex.one (Ex.call i_is_word (Exs.cons (Ex.sub (Ex.var 0) (Ex.lit (T.int 1))) Exs.nil))))) Sms.nil) Sms.nil) (Sms.cons (Sm.iff (Ex.cmp .eq (Ex.var 2) (Ex.lit (T.str [99, 104, 97, 105, 110]))) (Sms.cons (Sm.iff (Ex.or (Ex.cmp .ne (Ex.var 3) (Ex.lit (T.int 3))) (Ex.one (Ex.call i_is_kind (Exs.cons (Ex.sub (Ex.var 0) (Ex.lit (T.int 1))) (Exs.cons (Ex.tup (Exs.cons (Ex.lit (T.str [99, 104, 97, 105, 110])) Exs.nil)) Exs.nil))))) (Sms.cons (Sm.ret (Ex.lit (T.bl false))) Sms.nil) Sms.nil) (Sms.cons (Sm.ret (Ex.and (Ex.call i_is_at (Exs.cons (Ex.sub (Ex.var 0) (Ex.lit (T.int 1))) (Exs.cons (Ex.bin .sub (Ex.var 1) (Ex.lit (T.int 1))) Exs.nil))) (Ex.one (Ex.call i_is_rest (Exs.cons (Ex.sub (Ex.var 0) (Ex.lit (T.int 2))) (Exs.cons (Ex.bin .sub (Ex.var 1) (Ex.lit (T.int 1))) Exs.nil)))))) Sms.nil)) Sms.nil) (Sms.cons (Sm.iff (Ex.cmp .eq (Ex.var 2) (Ex.lit (T.str [111, 118, 101, 114]))) (Sms.cons (Sm.ret (Ex.and (Ex.cmp .eq (Ex.var 3) (Ex.lit (T.int 3))) (Ex.and (Ex.call i_is_at (Exs.cons (Ex.sub (Ex.var 0) (Ex.lit (T.int 1))) (Exs.cons (Ex.bin .sub (Ex.var 1) (Ex.lit (T.int 1))) Exs.nil))) (Ex.one (Ex.call i_is_at (Exs.cons (Ex.sub (Ex.var 0) (Ex.lit (T.int 2))) (Exs.cons (Ex.bin .sub (Ex.var 1) (Ex.lit (T.int 1))) Exs.nil))))))) Sms.nil) Sms.nil) (Sms.cons (Sm.iff (Ex.cmp .inn (Ex.var 2) (Ex.tup (Exs.cons (Ex.lit (T.str [114, 111, 111, 116])) (Exs.cons (Ex.lit (T.str [104, 101, 108, 100])) Exs.nil)))) (Sms.cons (Sm.ret (Ex.and (Ex.cmp .eq (Ex.var 3) (Ex.lit (T.int 2))) (Ex.one (Ex.call i_is_at (Exs.cons (Ex.sub (Ex.var 0) (Ex.lit (T.int 1))) (Exs.cons (Ex.bin .sub (Ex.var 1) (Ex.lit (T.int 1))) Exs.nil)))))) Sms.nil) Sms.nil) (Sms.cons (Sm.iff (Ex.cmp .eq (Ex.var 2) (Ex.lit (T.str [115, 99, 114, 105, 112, 116]))) (Sms.cons (Sm.ret (Ex.and (Ex.cmp .eq (Ex.var 3) (Ex.lit (T.int 4))) (Ex.one (Ex.call i_is_script (Exs.cons (Ex.var 0) (Exs.cons (Ex.bin .sub (Ex.var 1) (Ex.lit (T.int 1))) Exs.nil)))))) Sms.nil) Sms.nil) (Sms.cons (Sm.ret (Ex.and (Ex.cmp .eq (Ex.var 2) (Ex.lit (T.str [116, 97, 98, 108, 101]))) (Ex.and (Ex.cmp .eq (Ex.var 3) (Ex.lit (T.int 2))) (Ex.one (Ex.call i_are_rows (Exs.cons (Ex.sub (Ex.var 0) (Ex.lit (T.int 1))) (Exs.cons (Ex.bin .sub (Ex.var 1) (Ex.lit (T.int 1))) Exs.nil))))))) Sms.nil))))))))
def f_is_at : FnI := ⟨2, 4, b_is_at⟩
def b_is_sum : Sms := (Sms.cons (Sm.ret (Ex.call i_is_at (Exs.cons (Ex.var 0) (Exs.cons (Ex.glb ⟨#[]⟩ (T.int 5)) Exs.nil)))) Sms.nil)
def f_is_sum : FnI := ⟨1, 1, b_is_sum⟩
def b_kind : Sms := (Sms.cons (Sm.ret (Ex.sub (Ex.var 0) (Ex.lit (T.int 0)))) Sms.nil)
theorem u_kind {c : Call} {ρ : Lenv} {S : Store} : exs c b_kind ρ S = exs c (Sms.cons (Sm.ret (Ex.sub (Ex.var 0) (Ex.lit (T.int 0)))) Sms.nil) ρ S := prf rfl
def f_kind : FnI := ⟨1, 1, b_kind⟩
def l_parts_1 : Sms := (Sms.cons (Sm.asg 4 (Ex.bin .add (Ex.var 4) (Ex.var 5))) Sms.nil)
theorem u_parts_1 {c : Call} {ρ : Lenv} {S : Store} : exs c l_parts_1 ρ S = exs c (Sms.cons (Sm.asg 4 (Ex.bin .add (Ex.var 4) (Ex.var 5))) Sms.nil) ρ S := prf rfl
theorem L_parts_1 {c : Call} {ρ : Lenv} {S : Store} {α : Type} {f : α → T} {l : List α} (g : (((Lens.v 4)).get (wipeR ρ [5])).isSome = true) : forI c (Tg.nm 5) l_parts_1 [(4, false)] [5] ρ S (some (l.map f)) = (forG (lpG (lv := [(4, false)]) (Lens.v 4) c (Tg.nm 5) l_parts_1 [5] f (wipeR ρ [5])) l ((((Lens.v 4)).get (wipeR ρ [5])).getD default) S).inj (fun b => ((Lens.v 4)).put b (wipeR ρ [5])) (wipeR (wipeR ρ [5]) [4]) := forI_lens' (lv := [(4, false)]) (Lens.v 4) (by decide +kernel) g
def b_parts : Sms := (Sms.cons (Sm.asg 1 (Ex.call i_kind (Exs.cons (Ex.var 0) Exs.nil))) (Sms.cons (Sm.iff (Ex.cmp .eq (Ex.var 1) (Ex.lit (T.str [119, 111, 114, 100]))) (Sms.cons (Sm.ret (Ex.tup Exs.nil)) Sms.nil) Sms.nil) (Sms.cons (Sm.iff (Ex.cmp .eq (Ex.var 1) (Ex.lit (T.str [99, 104, 97, 105, 110]))) (Sms.cons (Sm.ret (Ex.bin .add (Ex.tup (Exs.cons (Ex.sub (Ex.var 0) (Ex.lit (T.int 1))) Exs.nil)) (Ex.bi .tup (Exs.cons (Ex.lc (Ex.var 3) (Tg.tp (Tgs.cons (Tg.nm 2) (Tgs.cons (Tg.nm 3) Tgs.nil))) .val (Exs.cons (Ex.sub (Ex.var 0) (Ex.lit (T.int 2))) Exs.nil) Exs.nil) Exs.nil)))) Sms.nil) Sms.nil) (Sms.cons (Sm.iff (Ex.cmp .eq (Ex.var 1) (Ex.lit (T.str [116, 97, 98, 108, 101]))) (Sms.cons (Sm.asg 4 (Ex.tup Exs.nil)) (Sms.cons (Sm.for_ (Tg.nm 5) .val (Exs.cons (Ex.sub (Ex.var 0) (Ex.lit (T.int 1))) Exs.nil) l_parts_1 [(4, false)] [5]) (Sms.cons (Sm.ret (Ex.var 4)) Sms.nil))) Sms.nil) (Sms.cons (Sm.ret (Ex.bi .tup (Exs.cons (Ex.lc (Ex.var 3) (Tg.nm 3) .val (Exs.cons (Ex.slc (Ex.var 0) (Ex.lit (T.int 1)) Ex.nop) Exs.nil) (Exs.cons (Ex.cmp .isn (Ex.var 3) (Ex.lit T.non)) Exs.nil)) Exs.nil))) Sms.nil)))))
theorem u_parts {c : Call} {ρ : Lenv} {S : Store} : exs c b_parts ρ S = exs c (Sms.cons (Sm.asg 1 (Ex.call i_kind (Exs.cons (Ex.var 0) Exs.nil))) (Sms.cons (Sm.iff (Ex.cmp .eq (Ex.var 1) (Ex.lit (T.str [119, 111, 114, 100]))) (Sms.cons (Sm.ret (Ex.tup Exs.nil)) Sms.nil) Sms.nil) (Sms.cons (Sm.iff (Ex.cmp .eq (Ex.var 1) (Ex.lit (T.str [99, 104, 97, 105, 110]))) (Sms.cons (Sm.ret (Ex.bin .add (Ex.tup (Exs.cons (Ex.sub (Ex.var 0) (Ex.lit (T.int 1))) Exs.nil)) (Ex.bi .tup (Exs.cons (Ex.lc (Ex.var 3) (Tg.tp (Tgs.cons (Tg.nm 2) (Tgs.cons (Tg.nm 3) Tgs.nil))) .val (Exs.cons (Ex.sub (Ex.var 0) (Ex.lit (T.int 2))) Exs.nil) Exs.nil) Exs.nil)))) Sms.nil) Sms.nil) (Sms.cons (Sm.iff (Ex.cmp .eq (Ex.var 1) (Ex.lit (T.str [116, 97, 98, 108, 101]))) (Sms.cons (Sm.asg 4 (Ex.tup Exs.nil)) (Sms.cons (Sm.for_ (Tg.nm 5) .val (Exs.cons (Ex.sub (Ex.var 0) (Ex.lit (T.int 1))) Exs.nil) l_parts_1 [(4, false)] [5]) (Sms.cons (Sm.ret (Ex.var 4)) Sms.nil))) Sms.nil) (Sms.cons (Sm.ret (Ex.bi .tup (Exs.cons (Ex.lc (Ex.var 3) (Tg.nm 3) .val (Exs.cons (Ex.slc (Ex.var 0) (Ex.lit (T.int 1)) Ex.nop) Exs.nil) (Exs.cons (Ex.cmp .isn (Ex.var 3) (Ex.lit T.non)) Exs.nil)) Exs.nil))) Sms.nil))))) ρ S := prf rfl
def f_parts : FnI := ⟨1, 6, b_parts⟩
def b_with_parts : Sms := (Sms.cons (Sm.asg 2 (Ex.call i_kind (Exs.cons (Ex.var 0) Exs.nil))) (Sms.cons (Sm.iff (Ex.cmp .eq (Ex.var 2) (Ex.lit (T.str [119, 111, 114, 100]))) (Sms.cons (Sm.ret (Ex.var 0)) Sms.nil) Sms.nil) (Sms.cons (Sm.iff (Ex.cmp .eq (Ex.var 2) (Ex.lit (T.str [99, 104, 97, 105, 110]))) (Sms.cons (Sm.ret (Ex.tup (Exs.cons (Ex.var 2) (Exs.cons (Ex.sub (Ex.var 1) (Ex.lit (T.int 0))) (Exs.cons (Ex.bi .tup (Exs.cons (Ex.lc (Ex.tup (Exs.cons (Ex.sub (Ex.var 3) (Ex.lit (T.int 0))) (Exs.cons (Ex.var 4) Exs.nil))) (Tg.tp (Tgs.cons (Tg.nm 3) (Tgs.cons (Tg.nm 4) Tgs.nil))) .zip (Exs.cons (Ex.sub (Ex.var 0) (Ex.lit (T.int 2))) (Exs.cons (Ex.slc (Ex.var 1) (Ex.lit (T.int 1)) Ex.nop) Exs.nil)) Exs.nil) Exs.nil)) Exs.nil))))) Sms.nil) Sms.nil) (Sms.cons (Sm.iff (Ex.cmp .eq (Ex.var 2) (Ex.lit (T.str [116, 97, 98, 108, 101]))) (Sms.cons (Sm.asg 5 (Ex.bi .len (Exs.cons (Ex.sub (Ex.sub (Ex.var 0) (Ex.lit (T.int 1))) (Ex.lit (T.int 0))) Exs.nil))) (Sms.cons (Sm.ret (Ex.tup (Exs.cons (Ex.var 2) (Exs.cons (Ex.bi .tup (Exs.cons (Ex.lc (Ex.bi .tup (Exs.cons (Ex.slc (Ex.var 1) (Ex.var 6) (Ex.bin .add (Ex.var 6) (Ex.var 5))) Exs.nil)) (Tg.nm 6) .rng (Exs.cons (Ex.lit (T.int 0)) (Exs.cons (Ex.bi .len (Exs.cons (Ex.var 1) Exs.nil)) (Exs.cons (Ex.var 5) Exs.nil))) Exs.nil) Exs.nil)) Exs.nil)))) Sms.nil)) Sms.nil) (Sms.cons (Sm.own 7 (Ex.bi .lst (Exs.cons (Ex.var 1) Exs.nil))) (Sms.cons (Sm.retPop (Ex.var 2) 4 7 (Ex.slc (Ex.var 0) (Ex.lit (T.int 1)) Ex.nop)) Sms.nil))))))
theorem u_with_parts {c : Call} {ρ : Lenv} {S : Store} : exs c b_with_parts ρ S = exs c (Sms.cons (Sm.asg 2 (Ex.call i_kind (Exs.cons (Ex.var 0) Exs.nil))) (Sms.cons (Sm.iff (Ex.cmp .eq (Ex.var 2) (Ex.lit (T.str [119, 111, 114, 100]))) (Sms.cons (Sm.ret (Ex.var 0)) Sms.nil) Sms.nil) (Sms.cons (Sm.iff (Ex.cmp .eq (Ex.var 2) (Ex.lit (T.str [99, 104, 97, 105, 110]))) (Sms.cons (Sm.ret (Ex.tup (Exs.cons (Ex.var 2) (Exs.cons (Ex.sub (Ex.var 1) (Ex.lit (T.int 0))) (Exs.cons (Ex.bi .tup (Exs.cons (Ex.lc (Ex.tup (Exs.cons (Ex.sub (Ex.var 3) (Ex.lit (T.int 0))) (Exs.cons (Ex.var 4) Exs.nil))) (Tg.tp (Tgs.cons (Tg.nm 3) (Tgs.cons (Tg.nm 4) Tgs.nil))) .zip (Exs.cons (Ex.sub (Ex.var 0) (Ex.lit (T.int 2))) (Exs.cons (Ex.slc (Ex.var 1) (Ex.lit (T.int 1)) Ex.nop) Exs.nil)) Exs.nil) Exs.nil)) Exs.nil))))) Sms.nil) Sms.nil) (Sms.cons (Sm.iff (Ex.cmp .eq (Ex.var 2) (Ex.lit (T.str [116, 97, 98, 108, 101]))) (Sms.cons (Sm.asg 5 (Ex.bi .len (Exs.cons (Ex.sub (Ex.sub (Ex.var 0) (Ex.lit (T.int 1))) (Ex.lit (T.int 0))) Exs.nil))) (Sms.cons (Sm.ret (Ex.tup (Exs.cons (Ex.var 2) (Exs.cons (Ex.bi .tup (Exs.cons (Ex.lc (Ex.bi .tup (Exs.cons (Ex.slc (Ex.var 1) (Ex.var 6) (Ex.bin .add (Ex.var 6) (Ex.var 5))) Exs.nil)) (Tg.nm 6) .rng (Exs.cons (Ex.lit (T.int 0)) (Exs.cons (Ex.bi .len (Exs.cons (Ex.var 1) Exs.nil)) (Exs.cons (Ex.var 5) Exs.nil))) Exs.nil) Exs.nil)) Exs.nil)))) Sms.nil)) Sms.nil) (Sms.cons (Sm.own 7 (Ex.bi .lst (Exs.cons (Ex.var 1) Exs.nil))) (Sms.cons (Sm.retPop (Ex.var 2) 4 7 (Ex.slc (Ex.var 0) (Ex.lit (T.int 1)) Ex.nop)) Sms.nil)))))) ρ S := prf rfl
def f_with_parts : FnI := ⟨2, 8, b_with_parts⟩
def b_size : Sms := (Sms.cons (Sm.ret (Ex.bin .add (Ex.lit (T.int 1)) (Ex.bi .sum (Exs.cons (Ex.lc (Ex.call i_size (Exs.cons (Ex.var 1) Exs.nil)) (Tg.nm 1) .val (Exs.cons (Ex.call i_parts (Exs.cons (Ex.var 0) Exs.nil)) Exs.nil) Exs.nil) Exs.nil)))) Sms.nil)
def f_size : FnI := ⟨1, 2, b_size⟩
def b_deep : Sms := (Sms.cons (Sm.ret (Ex.bin .add (Ex.lit (T.int 1)) (Ex.op (.mxd 0) (Exs.cons (Ex.lc (Ex.call i_deep (Exs.cons (Ex.var 1) Exs.nil)) (Tg.nm 1) .val (Exs.cons (Ex.call i_parts (Exs.cons (Ex.var 0) Exs.nil)) Exs.nil) Exs.nil) Exs.nil)))) Sms.nil)
def f_deep : FnI := ⟨1, 2, b_deep⟩
def l_ways_1 : Sms := (Sms.cons (Sm.ext 1 (Ex.lc (Ex.bin .add (Ex.tup (Exs.cons (Ex.var 2) Exs.nil)) (Ex.var 4)) (Tg.nm 4) .val (Exs.cons (Ex.call i_ways (Exs.cons (Ex.var 3) Exs.nil)) Exs.nil) Exs.nil)) Sms.nil)
theorem u_ways_1 {c : Call} {ρ : Lenv} {S : Store} : exs c l_ways_1 ρ S = exs c (Sms.cons (Sm.ext 1 (Ex.lc (Ex.bin .add (Ex.tup (Exs.cons (Ex.var 2) Exs.nil)) (Ex.var 4)) (Tg.nm 4) .val (Exs.cons (Ex.call i_ways (Exs.cons (Ex.var 3) Exs.nil)) Exs.nil) Exs.nil)) Sms.nil) ρ S := prf rfl
theorem L_ways_1 {c : Call} {ρ : Lenv} {S : Store} {α : Type} {f : α → T} {l : List α} (g : (((Lens.o 1)).get (wipeR ρ [2, 3])).isSome = true) : forI c (Tg.tp (Tgs.cons (Tg.nm 2) (Tgs.cons (Tg.nm 3) Tgs.nil))) l_ways_1 [(1, true)] [2, 3] ρ S (some (l.map f)) = (forG (lpG (lv := [(1, true)]) (Lens.o 1) c (Tg.tp (Tgs.cons (Tg.nm 2) (Tgs.cons (Tg.nm 3) Tgs.nil))) l_ways_1 [2, 3] f (wipeR ρ [2, 3])) l ((((Lens.o 1)).get (wipeR ρ [2, 3])).getD default) S).inj (fun b => ((Lens.o 1)).put b (wipeR ρ [2, 3])) (wipeR (wipeR ρ [2, 3]) [1]) := forI_lens' (lv := [(1, true)]) (Lens.o 1) (by decide +kernel) g
def b_ways : Sms := (Sms.cons (Sm.own 1 (Ex.lst (Exs.cons (Ex.tup Exs.nil) Exs.nil))) (Sms.cons (Sm.for_ (Tg.tp (Tgs.cons (Tg.nm 2) (Tgs.cons (Tg.nm 3) Tgs.nil))) .enm (Exs.cons (Ex.call i_parts (Exs.cons (Ex.var 0) Exs.nil)) Exs.nil) l_ways_1 [(1, true)] [2, 3]) (Sms.cons (Sm.ret (Ex.bi .tup (Exs.cons (Ex.bor 1) Exs.nil))) Sms.nil)))
theorem u_ways {c : Call} {ρ : Lenv} {S : Store} : exs c b_ways ρ S = exs c (Sms.cons (Sm.own 1 (Ex.lst (Exs.cons (Ex.tup Exs.nil) Exs.nil))) (Sms.cons (Sm.for_ (Tg.tp (Tgs.cons (Tg.nm 2) (Tgs.cons (Tg.nm 3) Tgs.nil))) .enm (Exs.cons (Ex.call i_parts (Exs.cons (Ex.var 0) Exs.nil)) Exs.nil) l_ways_1 [(1, true)] [2, 3]) (Sms.cons (Sm.ret (Ex.bi .tup (Exs.cons (Ex.bor 1) Exs.nil))) Sms.nil))) ρ S := prf rfl
def f_ways : FnI := ⟨1, 5, b_ways⟩
def l_part_at_1 : Sms := (Sms.cons (Sm.iff (Ex.not (Ex.chn .le .lt (Ex.lit (T.int 0)) (Ex.var 2) (Ex.bi .len (Exs.cons (Ex.call i_parts (Exs.cons (Ex.var 0) Exs.nil)) Exs.nil)))) (Sms.cons (Sm.raise 1) Sms.nil) Sms.nil) (Sms.cons (Sm.asg 0 (Ex.sub (Ex.call i_parts (Exs.cons (Ex.var 0) Exs.nil)) (Ex.var 2))) Sms.nil))
theorem u_part_at_1 {c : Call} {ρ : Lenv} {S : Store} : exs c l_part_at_1 ρ S = exs c (Sms.cons (Sm.iff (Ex.not (Ex.chn .le .lt (Ex.lit (T.int 0)) (Ex.var 2) (Ex.bi .len (Exs.cons (Ex.call i_parts (Exs.cons (Ex.var 0) Exs.nil)) Exs.nil)))) (Sms.cons (Sm.raise 1) Sms.nil) Sms.nil) (Sms.cons (Sm.asg 0 (Ex.sub (Ex.call i_parts (Exs.cons (Ex.var 0) Exs.nil)) (Ex.var 2))) Sms.nil)) ρ S := prf rfl
theorem L_part_at_1 {c : Call} {ρ : Lenv} {S : Store} {α : Type} {f : α → T} {l : List α} (g : (((Lens.v 0)).get (wipeR ρ [2])).isSome = true) : forI c (Tg.nm 2) l_part_at_1 [(0, false)] [2] ρ S (some (l.map f)) = (forG (lpG (lv := [(0, false)]) (Lens.v 0) c (Tg.nm 2) l_part_at_1 [2] f (wipeR ρ [2])) l ((((Lens.v 0)).get (wipeR ρ [2])).getD default) S).inj (fun b => ((Lens.v 0)).put b (wipeR ρ [2])) (wipeR (wipeR ρ [2]) [0]) := forI_lens' (lv := [(0, false)]) (Lens.v 0) (by decide +kernel) g
def b_part_at : Sms := (Sms.cons (Sm.for_ (Tg.nm 2) .val (Exs.cons (Ex.var 1) Exs.nil) l_part_at_1 [(0, false)] [2]) (Sms.cons (Sm.ret (Ex.var 0)) Sms.nil))
theorem u_part_at {c : Call} {ρ : Lenv} {S : Store} : exs c b_part_at ρ S = exs c (Sms.cons (Sm.for_ (Tg.nm 2) .val (Exs.cons (Ex.var 1) Exs.nil) l_part_at_1 [(0, false)] [2]) (Sms.cons (Sm.ret (Ex.var 0)) Sms.nil)) ρ S := prf rfl
def f_part_at : FnI := ⟨2, 3, b_part_at⟩
def b_may_be : Sms := (Sms.cons (Sm.iff (Ex.cmp .eq (Ex.call i_kind (Exs.cons (Ex.var 0) Exs.nil)) (Ex.lit (T.str [99, 104, 97, 105, 110]))) (Sms.cons (Sm.ret (Ex.cmp .ne (Ex.call i_kind (Exs.cons (Ex.var 2) Exs.nil)) (Ex.lit (T.str [99, 104, 97, 105, 110])))) Sms.nil) Sms.nil) (Sms.cons (Sm.ret (Ex.or (Ex.cmp .ne (Ex.call i_kind (Exs.cons (Ex.var 0) Exs.nil)) (Ex.lit (T.str [115, 99, 114, 105, 112, 116]))) (Ex.or (Ex.cmp .gt (Ex.var 1) (Ex.lit (T.int 0))) (Ex.one (Ex.cmp .inn (Ex.call i_kind (Exs.cons (Ex.var 2) Exs.nil)) (Ex.glb ⟨#[]⟩ (T.tup [(T.str [119, 111, 114, 100]), (T.str [104, 101, 108, 100]), (T.str [116, 97, 98, 108, 101])]))))))) Sms.nil))
theorem u_may_be {c : Call} {ρ : Lenv} {S : Store} : exs c b_may_be ρ S = exs c (Sms.cons (Sm.iff (Ex.cmp .eq (Ex.call i_kind (Exs.cons (Ex.var 0) Exs.nil)) (Ex.lit (T.str [99, 104, 97, 105, 110]))) (Sms.cons (Sm.ret (Ex.cmp .ne (Ex.call i_kind (Exs.cons (Ex.var 2) Exs.nil)) (Ex.lit (T.str [99, 104, 97, 105, 110])))) Sms.nil) Sms.nil) (Sms.cons (Sm.ret (Ex.or (Ex.cmp .ne (Ex.call i_kind (Exs.cons (Ex.var 0) Exs.nil)) (Ex.lit (T.str [115, 99, 114, 105, 112, 116]))) (Ex.or (Ex.cmp .gt (Ex.var 1) (Ex.lit (T.int 0))) (Ex.one (Ex.cmp .inn (Ex.call i_kind (Exs.cons (Ex.var 2) Exs.nil)) (Ex.glb ⟨#[]⟩ (T.tup [(T.str [119, 111, 114, 100]), (T.str [104, 101, 108, 100]), (T.str [116, 97, 98, 108, 101])]))))))) Sms.nil)) ρ S := prf rfl
def f_may_be : FnI := ⟨3, 3, b_may_be⟩
def b_put_at : Sms := (Sms.cons (Sm.expr (Ex.call i_part_at (Exs.cons (Ex.var 0) (Exs.cons (Ex.var 1) Exs.nil)))) (Sms.cons (Sm.iff (Ex.cmp .eq (Ex.var 1) (Ex.tup Exs.nil)) (Sms.cons (Sm.ret (Ex.var 2)) Sms.nil) Sms.nil) (Sms.cons (Sm.asg 3 (Ex.sub (Ex.var 1) (Ex.lit (T.int 0)))) (Sms.cons (Sm.asg 4 (Ex.call i_put_at (Exs.cons (Ex.sub (Ex.call i_parts (Exs.cons (Ex.var 0) Exs.nil)) (Ex.var 3)) (Exs.cons (Ex.slc (Ex.var 1) (Ex.lit (T.int 1)) Ex.nop) (Exs.cons (Ex.var 2) Exs.nil))))) (Sms.cons (Sm.iff (Ex.not (Ex.call i_may_be (Exs.cons (Ex.var 0) (Exs.cons (Ex.var 3) (Exs.cons (Ex.var 4) Exs.nil))))) (Sms.cons (Sm.raise 2) Sms.nil) Sms.nil) (Sms.cons (Sm.ret (Ex.call i_with_parts (Exs.cons (Ex.var 0) (Exs.cons (Ex.bin .add (Ex.bin .add (Ex.slc (Ex.call i_parts (Exs.cons (Ex.var 0) Exs.nil)) Ex.nop (Ex.var 3)) (Ex.tup (Exs.cons (Ex.var 4) Exs.nil))) (Ex.slc (Ex.call i_parts (Exs.cons (Ex.var 0) Exs.nil)) (Ex.bin .add (Ex.var 3) (Ex.lit (T.int 1))) Ex.nop)) Exs.nil)))) Sms.nil))))))
theorem u_put_at {c : Call} {ρ : Lenv} {S : Store} : exs c b_put_at ρ S = exs c (Sms.cons (Sm.expr (Ex.call i_part_at (Exs.cons (Ex.var 0) (Exs.cons (Ex.var 1) Exs.nil)))) (Sms.cons (Sm.iff (Ex.cmp .eq (Ex.var 1) (Ex.tup Exs.nil)) (Sms.cons (Sm.ret (Ex.var 2)) Sms.nil) Sms.nil) (Sms.cons (Sm.asg 3 (Ex.sub (Ex.var 1) (Ex.lit (T.int 0)))) (Sms.cons (Sm.asg 4 (Ex.call i_put_at (Exs.cons (Ex.sub (Ex.call i_parts (Exs.cons (Ex.var 0) Exs.nil)) (Ex.var 3)) (Exs.cons (Ex.slc (Ex.var 1) (Ex.lit (T.int 1)) Ex.nop) (Exs.cons (Ex.var 2) Exs.nil))))) (Sms.cons (Sm.iff (Ex.not (Ex.call i_may_be (Exs.cons (Ex.var 0) (Exs.cons (Ex.var 3) (Exs.cons (Ex.var 4) Exs.nil))))) (Sms.cons (Sm.raise 2) Sms.nil) Sms.nil) (Sms.cons (Sm.ret (Ex.call i_with_parts (Exs.cons (Ex.var 0) (Exs.cons (Ex.bin .add (Ex.bin .add (Ex.slc (Ex.call i_parts (Exs.cons (Ex.var 0) Exs.nil)) Ex.nop (Ex.var 3)) (Ex.tup (Exs.cons (Ex.var 4) Exs.nil))) (Ex.slc (Ex.call i_parts (Exs.cons (Ex.var 0) Exs.nil)) (Ex.bin .add (Ex.var 3) (Ex.lit (T.int 1))) Ex.nop)) Exs.nil)))) Sms.nil)))))) ρ S := prf rfl
def f_put_at : FnI := ⟨3, 5, b_put_at⟩
def b_rows_of : Sms := (Sms.cons (Sm.iff (Ex.cmp .is (Ex.var 0) (Ex.lit T.non)) (Sms.cons (Sm.ret (Ex.lit (T.int 0))) Sms.nil) Sms.nil) (Sms.cons (Sm.ret (Ex.bin .add (Ex.bin .add (Ex.sub (Ex.var 0) (Ex.lit (T.int 1))) (Ex.sub (Ex.var 0) (Ex.lit (T.int 2)))) (Ex.lit (T.int 1)))) Sms.nil))
theorem u_rows_of {c : Call} {ρ : Lenv} {S : Store} : exs c b_rows_of ρ S = exs c (Sms.cons (Sm.iff (Ex.cmp .is (Ex.var 0) (Ex.lit T.non)) (Sms.cons (Sm.ret (Ex.lit (T.int 0))) Sms.nil) Sms.nil) (Sms.cons (Sm.ret (Ex.bin .add (Ex.bin .add (Ex.sub (Ex.var 0) (Ex.lit (T.int 1))) (Ex.sub (Ex.var 0) (Ex.lit (T.int 2)))) (Ex.lit (T.int 1)))) Sms.nil)) ρ S := prf rfl
def f_rows_of : FnI := ⟨1, 1, b_rows_of⟩
def b_box_or_none : Sms := (Sms.cons (Sm.iff (Ex.cmp .is (Ex.var 0) (Ex.lit T.non)) (Sms.cons (Sm.ret (Ex.lit T.non)) Sms.nil) Sms.nil) (Sms.cons (Sm.ret (Ex.call i_box (Exs.cons (Ex.var 0) Exs.nil))) Sms.nil))
theorem u_box_or_none {c : Call} {ρ : Lenv} {S : Store} : exs c b_box_or_none ρ S = exs c (Sms.cons (Sm.iff (Ex.cmp .is (Ex.var 0) (Ex.lit T.non)) (Sms.cons (Sm.ret (Ex.lit T.non)) Sms.nil) Sms.nil) (Sms.cons (Sm.ret (Ex.call i_box (Exs.cons (Ex.var 0) Exs.nil))) Sms.nil)) ρ S := prf rfl
def f_box_or_none : FnI := ⟨1, 1, b_box_or_none⟩
def b_columns : Sms := (Sms.cons (Sm.ret (Ex.lc (Ex.bi .max (Exs.cons (Ex.lc (Ex.sub (Ex.call i_box (Exs.cons (Ex.sub (Ex.var 2) (Ex.var 1)) Exs.nil)) (Ex.lit (T.int 0))) (Tg.nm 2) .val (Exs.cons (Ex.var 0) Exs.nil) Exs.nil) Exs.nil)) (Tg.nm 1) .rng (Exs.cons (Ex.bi .len (Exs.cons (Ex.sub (Ex.var 0) (Ex.lit (T.int 0))) Exs.nil)) Exs.nil) Exs.nil)) Sms.nil)
theorem u_columns {c : Call} {ρ : Lenv} {S : Store} : exs c b_columns ρ S = exs c (Sms.cons (Sm.ret (Ex.lc (Ex.bi .max (Exs.cons (Ex.lc (Ex.sub (Ex.call i_box (Exs.cons (Ex.sub (Ex.var 2) (Ex.var 1)) Exs.nil)) (Ex.lit (T.int 0))) (Tg.nm 2) .val (Exs.cons (Ex.var 0) Exs.nil) Exs.nil) Exs.nil)) (Tg.nm 1) .rng (Exs.cons (Ex.bi .len (Exs.cons (Ex.sub (Ex.var 0) (Ex.lit (T.int 0))) Exs.nil)) Exs.nil) Exs.nil)) Sms.nil) ρ S := prf rfl
def f_columns : FnI := ⟨1, 3, b_columns⟩
def b_heights : Sms := (Sms.cons (Sm.ret (Ex.lc (Ex.tup (Exs.cons (Ex.bi .max (Exs.cons (Ex.lc (Ex.sub (Ex.call i_box (Exs.cons (Ex.var 2) Exs.nil)) (Ex.lit (T.int 1))) (Tg.nm 2) .val (Exs.cons (Ex.var 1) Exs.nil) Exs.nil) Exs.nil)) (Exs.cons (Ex.bi .max (Exs.cons (Ex.lc (Ex.sub (Ex.call i_box (Exs.cons (Ex.var 2) Exs.nil)) (Ex.lit (T.int 2))) (Tg.nm 2) .val (Exs.cons (Ex.var 1) Exs.nil) Exs.nil) Exs.nil)) Exs.nil))) (Tg.nm 1) .val (Exs.cons (Ex.var 0) Exs.nil) Exs.nil)) Sms.nil)
theorem u_heights {c : Call} {ρ : Lenv} {S : Store} : exs c b_heights ρ S = exs c (Sms.cons (Sm.ret (Ex.lc (Ex.tup (Exs.cons (Ex.bi .max (Exs.cons (Ex.lc (Ex.sub (Ex.call i_box (Exs.cons (Ex.var 2) Exs.nil)) (Ex.lit (T.int 1))) (Tg.nm 2) .val (Exs.cons (Ex.var 1) Exs.nil) Exs.nil) Exs.nil)) (Exs.cons (Ex.bi .max (Exs.cons (Ex.lc (Ex.sub (Ex.call i_box (Exs.cons (Ex.var 2) Exs.nil)) (Ex.lit (T.int 2))) (Tg.nm 2) .val (Exs.cons (Ex.var 1) Exs.nil) Exs.nil) Exs.nil)) Exs.nil))) (Tg.nm 1) .val (Exs.cons (Ex.var 0) Exs.nil) Exs.nil)) Sms.nil) ρ S := prf rfl
def f_heights : FnI := ⟨1, 3, b_heights⟩
def b_table_box : Sms := (Sms.cons (Sm.asg 1 (Ex.call i_columns (Exs.cons (Ex.var 0) Exs.nil))) (Sms.cons (Sm.asg 2 (Ex.bin .sub (Ex.bin .add (Ex.bi .sum (Exs.cons (Ex.lc (Ex.bin .add (Ex.bin .add (Ex.var 3) (Ex.var 4)) (Ex.lit (T.int 1))) (Tg.tp (Tgs.cons (Tg.nm 3) (Tgs.cons (Tg.nm 4) Tgs.nil))) .val (Exs.cons (Ex.call i_heights (Exs.cons (Ex.var 0) Exs.nil)) Exs.nil) Exs.nil) Exs.nil)) (Ex.bi .len (Exs.cons (Ex.var 0) Exs.nil))) (Ex.lit (T.int 1)))) (Sms.cons (Sm.ret (Ex.tup (Exs.cons (Ex.bin .add (Ex.bin .add (Ex.bi .sum (Exs.cons (Ex.var 1) Exs.nil)) (Ex.bin .mul (Ex.glb ⟨#[]⟩ (T.int 2)) (Ex.bin .sub (Ex.bi .len (Exs.cons (Ex.var 1) Exs.nil)) (Ex.lit (T.int 1))))) (Ex.lit (T.int 2))) (Exs.cons (Ex.bin .fdv (Ex.var 2) (Ex.lit (T.int 2))) (Exs.cons (Ex.bin .sub (Ex.bin .sub (Ex.var 2) (Ex.lit (T.int 1))) (Ex.bin .fdv (Ex.var 2) (Ex.lit (T.int 2)))) Exs.nil))))) Sms.nil)))
theorem u_table_box {c : Call} {ρ : Lenv} {S : Store} : exs c b_table_box ρ S = exs c (Sms.cons (Sm.asg 1 (Ex.call i_columns (Exs.cons (Ex.var 0) Exs.nil))) (Sms.cons (Sm.asg 2 (Ex.bin .sub (Ex.bin .add (Ex.bi .sum (Exs.cons (Ex.lc (Ex.bin .add (Ex.bin .add (Ex.var 3) (Ex.var 4)) (Ex.lit (T.int 1))) (Tg.tp (Tgs.cons (Tg.nm 3) (Tgs.cons (Tg.nm 4) Tgs.nil))) .val (Exs.cons (Ex.call i_heights (Exs.cons (Ex.var 0) Exs.nil)) Exs.nil) Exs.nil) Exs.nil)) (Ex.bi .len (Exs.cons (Ex.var 0) Exs.nil))) (Ex.lit (T.int 1)))) (Sms.cons (Sm.ret (Ex.tup (Exs.cons (Ex.bin .add (Ex.bin .add (Ex.bi .sum (Exs.cons (Ex.var 1) Exs.nil)) (Ex.bin .mul (Ex.glb ⟨#[]⟩ (T.int 2)) (Ex.bin .sub (Ex.bi .len (Exs.cons (Ex.var 1) Exs.nil)) (Ex.lit (T.int 1))))) (Ex.lit (T.int 2))) (Exs.cons (Ex.bin .fdv (Ex.var 2) (Ex.lit (T.int 2))) (Exs.cons (Ex.bin .sub (Ex.bin .sub (Ex.var 2) (Ex.lit (T.int 1))) (Ex.bin .fdv (Ex.var 2) (Ex.lit (T.int 2)))) Exs.nil))))) Sms.nil))) ρ S := prf rfl
def f_table_box : FnI := ⟨1, 5, b_table_box⟩
def b_box : Sms := (Sms.cons (Sm.asg 1 (Ex.call i_kind (Exs.cons (Ex.var 0) Exs.nil))) (Sms.cons (Sm.iff (Ex.cmp .eq (Ex.var 1) (Ex.lit (T.str [119, 111, 114, 100]))) (Sms.cons (Sm.ret (Ex.tup (Exs.cons (Ex.bi .len (Exs.cons (Ex.sub (Ex.var 0) (Ex.lit (T.int 1))) Exs.nil)) (Exs.cons (Ex.lit (T.int 0)) (Exs.cons (Ex.lit (T.int 0)) Exs.nil))))) Sms.nil) Sms.nil) (Sms.cons (Sm.iff (Ex.cmp .eq (Ex.var 1) (Ex.lit (T.str [116, 97, 98, 108, 101]))) (Sms.cons (Sm.ret (Ex.call i_table_box (Exs.cons (Ex.sub (Ex.var 0) (Ex.lit (T.int 1))) Exs.nil))) Sms.nil) Sms.nil) (Sms.cons (Sm.iff (Ex.cmp .eq (Ex.var 1) (Ex.lit (T.str [115, 99, 114, 105, 112, 116]))) (Sms.cons (Sm.unp (Tgs.cons (Tg.nm 3) (Tgs.cons (Tg.nm 4) (Tgs.cons (Tg.nm 5) Tgs.nil))) (Ex.lc (Ex.call i_box_or_none (Exs.cons (Ex.var 6) Exs.nil)) (Tg.nm 6) .val (Exs.cons (Ex.slc (Ex.var 0) (Ex.lit (T.int 1)) Ex.nop) Exs.nil) Exs.nil)) (Sms.cons (Sm.asg 2 (Ex.bi .max (Exs.cons (Ex.lc (Ex.sub (Ex.var 7) (Ex.lit (T.int 0))) (Tg.nm 7) .val (Exs.cons (Ex.tup (Exs.cons (Ex.var 4) (Exs.cons (Ex.var 5) Exs.nil))) Exs.nil) (Exs.cons (Ex.cmp .isn (Ex.var 7) (Ex.lit T.non)) Exs.nil)) Exs.nil))) (Sms.cons (Sm.ret (Ex.tup (Exs.cons (Ex.bin .add (Ex.sub (Ex.var 3) (Ex.lit (T.int 0))) (Ex.var 2)) (Exs.cons (Ex.bin .add (Ex.sub (Ex.var 3) (Ex.lit (T.int 1))) (Ex.call i_rows_of (Exs.cons (Ex.var 4) Exs.nil))) (Exs.cons (Ex.bin .add (Ex.sub (Ex.var 3) (Ex.lit (T.int 2))) (Ex.call i_rows_of (Exs.cons (Ex.var 5) Exs.nil))) Exs.nil))))) Sms.nil))) Sms.nil) (Sms.cons (Sm.asgC 8 (Ex.lc (Ex.call i_box (Exs.cons (Ex.var 6) Exs.nil)) (Tg.nm 6) .val (Exs.cons (Ex.call i_parts (Exs.cons (Ex.var 0) Exs.nil)) Exs.nil) Exs.nil)) (Sms.cons (Sm.iff (Ex.cmp .eq (Ex.var 1) (Ex.lit (T.str [99, 104, 97, 105, 110]))) (Sms.cons (Sm.asg 2 (Ex.bin .add (Ex.bi .sum (Exs.cons (Ex.lc (Ex.sub (Ex.var 7) (Ex.lit (T.int 0))) (Tg.nm 7) .val (Exs.cons (Ex.var 8) Exs.nil) Exs.nil) Exs.nil)) (Ex.bin .mul (Ex.glb ⟨#[]⟩ (T.int 3)) (Ex.bin .sub (Ex.bi .len (Exs.cons (Ex.var 8) Exs.nil)) (Ex.lit (T.int 1)))))) (Sms.cons (Sm.ret (Ex.tup (Exs.cons (Ex.var 2) (Exs.cons (Ex.bi .max (Exs.cons (Ex.lc (Ex.sub (Ex.var 7) (Ex.lit (T.int 1))) (Tg.nm 7) .val (Exs.cons (Ex.var 8) Exs.nil) Exs.nil) Exs.nil)) (Exs.cons (Ex.bi .max (Exs.cons (Ex.lc (Ex.sub (Ex.var 7) (Ex.lit (T.int 2))) (Tg.nm 7) .val (Exs.cons (Ex.var 8) Exs.nil) Exs.nil) Exs.nil)) Exs.nil))))) Sms.nil)) Sms.nil) (Sms.cons (Sm.iff (Ex.cmp .eq (Ex.var 1) (Ex.lit (T.str [111, 118, 101, 114]))) (Sms.cons (Sm.ret (Ex.tup (Exs.cons (Ex.bin .add (Ex.bi .max (Exs.cons (Ex.sub (Ex.sub (Ex.var 8) (Ex.lit (T.int 0))) (Ex.lit (T.int 0))) (Exs.cons (Ex.sub (Ex.sub (Ex.var 8) (Ex.lit (T.int 1))) (Ex.lit (T.int 0))) Exs.nil))) (Ex.lit (T.int 2))) (Exs.cons (Ex.call i_rows_of (Exs.cons (Ex.sub (Ex.var 8) (Ex.lit (T.int 0))) Exs.nil)) (Exs.cons (Ex.call i_rows_of (Exs.cons (Ex.sub (Ex.var 8) (Ex.lit (T.int 1))) Exs.nil)) Exs.nil))))) Sms.nil) Sms.nil) (Sms.cons (Sm.unp (Tgs.cons (Tg.nm 2) (Tgs.cons (Tg.nm 4) (Tgs.cons (Tg.nm 5) Tgs.nil))) (Ex.sub (Ex.var 8) (Ex.lit (T.int 0)))) (Sms.cons (Sm.iff (Ex.cmp .eq (Ex.var 1) (Ex.lit (T.str [114, 111, 111, 116]))) (Sms.cons (Sm.ret (Ex.tup (Exs.cons (Ex.bin .add (Ex.var 2) (Ex.lit (T.int 1))) (Exs.cons (Ex.bin .add (Ex.var 4) (Ex.lit (T.int 1))) (Exs.cons (Ex.var 5) Exs.nil))))) Sms.nil) Sms.nil) (Sms.cons (Sm.ret (Ex.tup (Exs.cons (Ex.bin .add (Ex.var 2) (Ex.lit (T.int 2))) (Exs.cons (Ex.var 4) (Exs.cons (Ex.var 5) Exs.nil))))) Sms.nil))))))))))
theorem u_box {c : Call} {ρ : Lenv} {S : Store} : exs c b_box ρ S = exs c (Sms.cons (Sm.asg 1 (Ex.call i_kind (Exs.cons (Ex.var 0) Exs.nil))) (Sms.cons (Sm.iff (Ex.cmp .eq (Ex.var 1) (Ex.lit (T.str [119, 111, 114, 100]))) (Sms.cons (Sm.ret (Ex.tup (Exs.cons (Ex.bi .len (Exs.cons (Ex.sub (Ex.var 0) (Ex.lit (T.int 1))) Exs.nil)) (Exs.cons (Ex.lit (T.int 0)) (Exs.cons (Ex.lit (T.int 0)) Exs.nil))))) Sms.nil) Sms.nil) (Sms.cons (Sm.iff (Ex.cmp .eq (Ex.var 1) (Ex.lit (T.str [116, 97, 98, 108, 101]))) (Sms.cons (Sm.ret (Ex.call i_table_box (Exs.cons (Ex.sub (Ex.var 0) (Ex.lit (T.int 1))) Exs.nil))) Sms.nil) Sms.nil) (Sms.cons (Sm.iff (Ex.cmp .eq (Ex.var 1) (Ex.lit (T.str [115, 99, 114, 105, 112, 116]))) (Sms.cons (Sm.unp (Tgs.cons (Tg.nm 3) (Tgs.cons (Tg.nm 4) (Tgs.cons (Tg.nm 5) Tgs.nil))) (Ex.lc (Ex.call i_box_or_none (Exs.cons (Ex.var 6) Exs.nil)) (Tg.nm 6) .val (Exs.cons (Ex.slc (Ex.var 0) (Ex.lit (T.int 1)) Ex.nop) Exs.nil) Exs.nil)) (Sms.cons (Sm.asg 2 (Ex.bi .max (Exs.cons (Ex.lc (Ex.sub (Ex.var 7) (Ex.lit (T.int 0))) (Tg.nm 7) .val (Exs.cons (Ex.tup (Exs.cons (Ex.var 4) (Exs.cons (Ex.var 5) Exs.nil))) Exs.nil) (Exs.cons (Ex.cmp .isn (Ex.var 7) (Ex.lit T.non)) Exs.nil)) Exs.nil))) (Sms.cons (Sm.ret (Ex.tup (Exs.cons (Ex.bin .add (Ex.sub (Ex.var 3) (Ex.lit (T.int 0))) (Ex.var 2)) (Exs.cons (Ex.bin .add (Ex.sub (Ex.var 3) (Ex.lit (T.int 1))) (Ex.call i_rows_of (Exs.cons (Ex.var 4) Exs.nil))) (Exs.cons (Ex.bin .add (Ex.sub (Ex.var 3) (Ex.lit (T.int 2))) (Ex.call i_rows_of (Exs.cons (Ex.var 5) Exs.nil))) Exs.nil))))) Sms.nil))) Sms.nil) (Sms.cons (Sm.asgC 8 (Ex.lc (Ex.call i_box (Exs.cons (Ex.var 6) Exs.nil)) (Tg.nm 6) .val (Exs.cons (Ex.call i_parts (Exs.cons (Ex.var 0) Exs.nil)) Exs.nil) Exs.nil)) (Sms.cons (Sm.iff (Ex.cmp .eq (Ex.var 1) (Ex.lit (T.str [99, 104, 97, 105, 110]))) (Sms.cons (Sm.asg 2 (Ex.bin .add (Ex.bi .sum (Exs.cons (Ex.lc (Ex.sub (Ex.var 7) (Ex.lit (T.int 0))) (Tg.nm 7) .val (Exs.cons (Ex.var 8) Exs.nil) Exs.nil) Exs.nil)) (Ex.bin .mul (Ex.glb ⟨#[]⟩ (T.int 3)) (Ex.bin .sub (Ex.bi .len (Exs.cons (Ex.var 8) Exs.nil)) (Ex.lit (T.int 1)))))) (Sms.cons (Sm.ret (Ex.tup (Exs.cons (Ex.var 2) (Exs.cons (Ex.bi .max (Exs.cons (Ex.lc (Ex.sub (Ex.var 7) (Ex.lit (T.int 1))) (Tg.nm 7) .val (Exs.cons (Ex.var 8) Exs.nil) Exs.nil) Exs.nil)) (Exs.cons (Ex.bi .max (Exs.cons (Ex.lc (Ex.sub (Ex.var 7) (Ex.lit (T.int 2))) (Tg.nm 7) .val (Exs.cons (Ex.var 8) Exs.nil) Exs.nil) Exs.nil)) Exs.nil))))) Sms.nil)) Sms.nil) (Sms.cons (Sm.iff (Ex.cmp .eq (Ex.var 1) (Ex.lit (T.str [111, 118, 101, 114]))) (Sms.cons (Sm.ret (Ex.tup (Exs.cons (Ex.bin .add (Ex.bi .max (Exs.cons (Ex.sub (Ex.sub (Ex.var 8) (Ex.lit (T.int 0))) (Ex.lit (T.int 0))) (Exs.cons (Ex.sub (Ex.sub (Ex.var 8) (Ex.lit (T.int 1))) (Ex.lit (T.int 0))) Exs.nil))) (Ex.lit (T.int 2))) (Exs.cons (Ex.call i_rows_of (Exs.cons (Ex.sub (Ex.var 8) (Ex.lit (T.int 0))) Exs.nil)) (Exs.cons (Ex.call i_rows_of (Exs.cons (Ex.sub (Ex.var 8) (Ex.lit (T.int 1))) Exs.nil)) Exs.nil))))) Sms.nil) Sms.nil) (Sms.cons (Sm.unp (Tgs.cons (Tg.nm 2) (Tgs.cons (Tg.nm 4) (Tgs.cons (Tg.nm 5) Tgs.nil))) (Ex.sub (Ex.var 8) (Ex.lit (T.int 0)))) (Sms.cons (Sm.iff (Ex.cmp .eq (Ex.var 1) (Ex.lit (T.str [114, 111, 111, 116]))) (Sms.cons (Sm.ret (Ex.tup (Exs.cons (Ex.bin .add (Ex.var 2) (Ex.lit (T.int 1))) (Exs.cons (Ex.bin .add (Ex.var 4) (Ex.lit (T.int 1))) (Exs.cons (Ex.var 5) Exs.nil))))) Sms.nil) Sms.nil) (Sms.cons (Sm.ret (Ex.tup (Exs.cons (Ex.bin .add (Ex.var 2) (Ex.lit (T.int 2))) (Exs.cons (Ex.var 4) (Exs.cons (Ex.var 5) Exs.nil))))) Sms.nil)))))))))) ρ S := prf rfl
def f_box : FnI := ⟨1, 9, b_box⟩
def b_padded : Sms := (Sms.cons (Sm.asg 2 (Ex.bin .fdv (Ex.bin .sub (Ex.var 1) (Ex.bi .len (Exs.cons (Ex.var 0) Exs.nil))) (Ex.lit (T.int 2)))) (Sms.cons (Sm.ret (Ex.bin .add (Ex.bin .add (Ex.bin .mul (Ex.lit (T.str [32])) (Ex.var 2)) (Ex.var 0)) (Ex.bin .mul (Ex.lit (T.str [32])) (Ex.bin .sub (Ex.bin .sub (Ex.var 1) (Ex.bi .len (Exs.cons (Ex.var 0) Exs.nil))) (Ex.var 2))))) Sms.nil))
theorem u_padded {c : Call} {ρ : Lenv} {S : Store} : exs c b_padded ρ S = exs c (Sms.cons (Sm.asg 2 (Ex.bin .fdv (Ex.bin .sub (Ex.var 1) (Ex.bi .len (Exs.cons (Ex.var 0) Exs.nil))) (Ex.lit (T.int 2)))) (Sms.cons (Sm.ret (Ex.bin .add (Ex.bin .add (Ex.bin .mul (Ex.lit (T.str [32])) (Ex.var 2)) (Ex.var 0)) (Ex.bin .mul (Ex.lit (T.str [32])) (Ex.bin .sub (Ex.bin .sub (Ex.var 1) (Ex.bi .len (Exs.cons (Ex.var 0) Exs.nil))) (Ex.var 2))))) Sms.nil)) ρ S := prf rfl
def f_padded : FnI := ⟨2, 3, b_padded⟩
def b_blanks : Sms := (Sms.cons (Sm.ret (Ex.bin .mul (Ex.tup (Exs.cons (Ex.bin .mul (Ex.lit (T.str [32])) (Ex.var 0)) Exs.nil)) (Ex.var 1))) Sms.nil)
theorem u_blanks {c : Call} {ρ : Lenv} {S : Store} : exs c b_blanks ρ S = exs c (Sms.cons (Sm.ret (Ex.bin .mul (Ex.tup (Exs.cons (Ex.bin .mul (Ex.lit (T.str [32])) (Ex.var 0)) Exs.nil)) (Ex.var 1))) Sms.nil) ρ S := prf rfl
def f_blanks : FnI := ⟨2, 2, b_blanks⟩
def b_raised : Sms := (Sms.cons (Sm.unp (Tgs.cons (Tg.nm 3) (Tgs.cons (Tg.nm 4) (Tgs.cons (Tg.nm 5) Tgs.nil))) (Ex.call i_box (Exs.cons (Ex.var 0) Exs.nil))) (Sms.cons (Sm.ret (Ex.bin .add (Ex.bin .add (Ex.call i_blanks (Exs.cons (Ex.var 3) (Exs.cons (Ex.bin .sub (Ex.var 1) (Ex.var 4)) Exs.nil))) (Ex.call i_picture (Exs.cons (Ex.var 0) Exs.nil))) (Ex.call i_blanks (Exs.cons (Ex.var 3) (Exs.cons (Ex.bin .sub (Ex.var 2) (Ex.var 5)) Exs.nil))))) Sms.nil))
theorem u_raised {c : Call} {ρ : Lenv} {S : Store} : exs c b_raised ρ S = exs c (Sms.cons (Sm.unp (Tgs.cons (Tg.nm 3) (Tgs.cons (Tg.nm 4) (Tgs.cons (Tg.nm 5) Tgs.nil))) (Ex.call i_box (Exs.cons (Ex.var 0) Exs.nil))) (Sms.cons (Sm.ret (Ex.bin .add (Ex.bin .add (Ex.call i_blanks (Exs.cons (Ex.var 3) (Exs.cons (Ex.bin .sub (Ex.var 1) (Ex.var 4)) Exs.nil))) (Ex.call i_picture (Exs.cons (Ex.var 0) Exs.nil))) (Ex.call i_blanks (Exs.cons (Ex.var 3) (Exs.cons (Ex.bin .sub (Ex.var 2) (Ex.var 5)) Exs.nil))))) Sms.nil)) ρ S := prf rfl
def f_raised : FnI := ⟨3, 6, b_raised⟩
def l_beside_1 : Sms := (Sms.cons (Sm.asgC 1 (Ex.lc (Ex.bin .add (Ex.var 3) (Ex.var 4)) (Tg.tp (Tgs.cons (Tg.nm 3) (Tgs.cons (Tg.nm 4) Tgs.nil))) .zip (Exs.cons (Ex.var 1) (Exs.cons (Ex.var 2) Exs.nil)) Exs.nil)) Sms.nil)
theorem u_beside_1 {c : Call} {ρ : Lenv} {S : Store} : exs c l_beside_1 ρ S = exs c (Sms.cons (Sm.asgC 1 (Ex.lc (Ex.bin .add (Ex.var 3) (Ex.var 4)) (Tg.tp (Tgs.cons (Tg.nm 3) (Tgs.cons (Tg.nm 4) Tgs.nil))) .zip (Exs.cons (Ex.var 1) (Exs.cons (Ex.var 2) Exs.nil)) Exs.nil)) Sms.nil) ρ S := prf rfl
theorem L_beside_1 {c : Call} {ρ : Lenv} {S : Store} {α : Type} {f : α → T} {l : List α} (g : (((Lens.v 1)).get (wipeR ρ [2])).isSome = true) : forI c (Tg.nm 2) l_beside_1 [(1, false)] [2] ρ S (some (l.map f)) = (forG (lpG (lv := [(1, false)]) (Lens.v 1) c (Tg.nm 2) l_beside_1 [2] f (wipeR ρ [2])) l ((((Lens.v 1)).get (wipeR ρ [2])).getD default) S).inj (fun b => ((Lens.v 1)).put b (wipeR ρ [2])) (wipeR (wipeR ρ [2]) [1]) := forI_lens' (lv := [(1, false)]) (Lens.v 1) (by decide +kernel) g
def b_beside : Sms := (Sms.cons (Sm.asg 1 (Ex.bi .lst (Exs.cons (Ex.sub (Ex.var 0) (Ex.lit (T.int 0))) Exs.nil))) (Sms.cons (Sm.for_ (Tg.nm 2) .val (Exs.cons (Ex.slc (Ex.var 0) (Ex.lit (T.int 1)) Ex.nop) Exs.nil) l_beside_1 [(1, false)] [2]) (Sms.cons (Sm.ret (Ex.bi .tup (Exs.cons (Ex.var 1) Exs.nil))) Sms.nil)))
theorem u_beside {c : Call} {ρ : Lenv} {S : Store} : exs c b_beside ρ S = exs c (Sms.cons (Sm.asg 1 (Ex.bi .lst (Exs.cons (Ex.sub (Ex.var 0) (Ex.lit (T.int 0))) Exs.nil))) (Sms.cons (Sm.for_ (Tg.nm 2) .val (Exs.cons (Ex.slc (Ex.var 0) (Ex.lit (T.int 1)) Ex.nop) Exs.nil) l_beside_1 [(1, false)] [2]) (Sms.cons (Sm.ret (Ex.bi .tup (Exs.cons (Ex.var 1) Exs.nil))) Sms.nil))) ρ S := prf rfl
def f_beside : FnI := ⟨1, 5, b_beside⟩
def l_chain_picture_1 : Sms := (Sms.cons (Sm.app 4 (Ex.bin .add (Ex.bin .add (Ex.call i_blanks (Exs.cons (Ex.lit (T.int 3)) (Exs.cons (Ex.var 2) Exs.nil))) (Ex.tup (Exs.cons (Ex.bin .add (Ex.bin .add (Ex.lit (T.str [32])) (Ex.var 5)) (Ex.lit (T.str [32]))) Exs.nil))) (Ex.call i_blanks (Exs.cons (Ex.lit (T.int 3)) (Exs.cons (Ex.var 3) Exs.nil))))) (Sms.cons (Sm.app 4 (Ex.call i_raised (Exs.cons (Ex.var 6) (Exs.cons (Ex.var 2) (Exs.cons (Ex.var 3) Exs.nil))))) Sms.nil))
theorem u_chain_picture_1 {c : Call} {ρ : Lenv} {S : Store} : exs c l_chain_picture_1 ρ S = exs c (Sms.cons (Sm.app 4 (Ex.bin .add (Ex.bin .add (Ex.call i_blanks (Exs.cons (Ex.lit (T.int 3)) (Exs.cons (Ex.var 2) Exs.nil))) (Ex.tup (Exs.cons (Ex.bin .add (Ex.bin .add (Ex.lit (T.str [32])) (Ex.var 5)) (Ex.lit (T.str [32]))) Exs.nil))) (Ex.call i_blanks (Exs.cons (Ex.lit (T.int 3)) (Exs.cons (Ex.var 3) Exs.nil))))) (Sms.cons (Sm.app 4 (Ex.call i_raised (Exs.cons (Ex.var 6) (Exs.cons (Ex.var 2) (Exs.cons (Ex.var 3) Exs.nil))))) Sms.nil)) ρ S := prf rfl
theorem L_chain_picture_1 {c : Call} {ρ : Lenv} {S : Store} {α : Type} {f : α → T} {l : List α} (g : (((Lens.o 4)).get (wipeR ρ [5, 6])).isSome = true) : forI c (Tg.tp (Tgs.cons (Tg.nm 5) (Tgs.cons (Tg.nm 6) Tgs.nil))) l_chain_picture_1 [(4, true)] [5, 6] ρ S (some (l.map f)) = (forG (lpG (lv := [(4, true)]) (Lens.o 4) c (Tg.tp (Tgs.cons (Tg.nm 5) (Tgs.cons (Tg.nm 6) Tgs.nil))) l_chain_picture_1 [5, 6] f (wipeR ρ [5, 6])) l ((((Lens.o 4)).get (wipeR ρ [5, 6])).getD default) S).inj (fun b => ((Lens.o 4)).put b (wipeR ρ [5, 6])) (wipeR (wipeR ρ [5, 6]) [4]) := forI_lens' (lv := [(4, true)]) (Lens.o 4) (by decide +kernel) g
def b_chain_picture : Sms := (Sms.cons (Sm.unp (Tgs.cons (Tg.nm 1) (Tgs.cons (Tg.nm 2) (Tgs.cons (Tg.nm 3) Tgs.nil))) (Ex.call i_box (Exs.cons (Ex.var 0) Exs.nil))) (Sms.cons (Sm.own 4 (Ex.lst (Exs.cons (Ex.call i_raised (Exs.cons (Ex.sub (Ex.var 0) (Ex.lit (T.int 1))) (Exs.cons (Ex.var 2) (Exs.cons (Ex.var 3) Exs.nil)))) Exs.nil))) (Sms.cons (Sm.for_ (Tg.tp (Tgs.cons (Tg.nm 5) (Tgs.cons (Tg.nm 6) Tgs.nil))) .val (Exs.cons (Ex.sub (Ex.var 0) (Ex.lit (T.int 2))) Exs.nil) l_chain_picture_1 [(4, true)] [5, 6]) (Sms.cons (Sm.rel 4) (Sms.cons (Sm.ret (Ex.call i_beside (Exs.cons (Ex.var 4) Exs.nil))) Sms.nil)))))
theorem u_chain_picture {c : Call} {ρ : Lenv} {S : Store} : exs c b_chain_picture ρ S = exs c (Sms.cons (Sm.unp (Tgs.cons (Tg.nm 1) (Tgs.cons (Tg.nm 2) (Tgs.cons (Tg.nm 3) Tgs.nil))) (Ex.call i_box (Exs.cons (Ex.var 0) Exs.nil))) (Sms.cons (Sm.own 4 (Ex.lst (Exs.cons (Ex.call i_raised (Exs.cons (Ex.sub (Ex.var 0) (Ex.lit (T.int 1))) (Exs.cons (Ex.var 2) (Exs.cons (Ex.var 3) Exs.nil)))) Exs.nil))) (Sms.cons (Sm.for_ (Tg.tp (Tgs.cons (Tg.nm 5) (Tgs.cons (Tg.nm 6) Tgs.nil))) .val (Exs.cons (Ex.sub (Ex.var 0) (Ex.lit (T.int 2))) Exs.nil) l_chain_picture_1 [(4, true)] [5, 6]) (Sms.cons (Sm.rel 4) (Sms.cons (Sm.ret (Ex.call i_beside (Exs.cons (Ex.var 4) Exs.nil))) Sms.nil))))) ρ S := prf rfl
def f_chain_picture : FnI := ⟨1, 7, b_chain_picture⟩
def b_script_picture : Sms := (Sms.cons (Sm.unp (Tgs.cons (Tg.nm 1) (Tgs.cons (Tg.nm 2) (Tgs.cons (Tg.nm 3) Tgs.nil))) (Ex.slc (Ex.var 0) (Ex.lit (T.int 1)) Ex.nop)) (Sms.cons (Sm.asg 4 (Ex.bin .sub (Ex.sub (Ex.call i_box (Exs.cons (Ex.var 0) Exs.nil)) (Ex.lit (T.int 0))) (Ex.sub (Ex.call i_box (Exs.cons (Ex.var 1) Exs.nil)) (Ex.lit (T.int 0))))) (Sms.cons (Sm.asg 5 (Ex.lst (Exs.cons (Ex.call i_picture (Exs.cons (Ex.var 1) Exs.nil)) (Exs.cons (Ex.bi .tup (Exs.cons (Ex.lc (Ex.bin .mul (Ex.lit (T.str [32])) (Ex.var 4)) (Tg.nm 6) .val (Exs.cons (Ex.call i_picture (Exs.cons (Ex.var 1) Exs.nil)) Exs.nil) Exs.nil) Exs.nil)) Exs.nil)))) (Sms.cons (Sm.asg 7 (Ex.call i_beside (Exs.cons (Ex.var 5) Exs.nil))) (Sms.cons (Sm.asg 8 (Ex.bin .mul (Ex.lit (T.str [32])) (Ex.sub (Ex.call i_box (Exs.cons (Ex.var 1) Exs.nil)) (Ex.lit (T.int 0))))) (Sms.cons (Sm.unp (Tgs.cons (Tg.nm 9) (Tgs.cons (Tg.nm 10) Tgs.nil)) (Ex.tup (Exs.cons (Ex.tup Exs.nil) (Exs.cons (Ex.tup Exs.nil) Exs.nil)))) (Sms.cons (Sm.iff (Ex.cmp .isn (Ex.var 2) (Ex.lit T.non)) (Sms.cons (Sm.asg 9 (Ex.bi .tup (Exs.cons (Ex.lc (Ex.bin .add (Ex.bin .add (Ex.var 8) (Ex.var 6)) (Ex.bin .mul (Ex.lit (T.str [32])) (Ex.bin .sub (Ex.var 4) (Ex.bi .len (Exs.cons (Ex.var 6) Exs.nil))))) (Tg.nm 6) .val (Exs.cons (Ex.call i_picture (Exs.cons (Ex.var 2) Exs.nil)) Exs.nil) Exs.nil) Exs.nil))) Sms.nil) Sms.nil) (Sms.cons (Sm.iff (Ex.cmp .isn (Ex.var 3) (Ex.lit T.non)) (Sms.cons (Sm.asg 10 (Ex.bi .tup (Exs.cons (Ex.lc (Ex.bin .add (Ex.bin .add (Ex.var 8) (Ex.var 6)) (Ex.bin .mul (Ex.lit (T.str [32])) (Ex.bin .sub (Ex.var 4) (Ex.bi .len (Exs.cons (Ex.var 6) Exs.nil))))) (Tg.nm 6) .val (Exs.cons (Ex.call i_picture (Exs.cons (Ex.var 3) Exs.nil)) Exs.nil) Exs.nil) Exs.nil))) Sms.nil) Sms.nil) (Sms.cons (Sm.ret (Ex.bin .add (Ex.bin .add (Ex.var 9) (Ex.var 7)) (Ex.var 10))) Sms.nil)))))))))
theorem u_script_picture {c : Call} {ρ : Lenv} {S : Store} : exs c b_script_picture ρ S = exs c (Sms.cons (Sm.unp (Tgs.cons (Tg.nm 1) (Tgs.cons (Tg.nm 2) (Tgs.cons (Tg.nm 3) Tgs.nil))) (Ex.slc (Ex.var 0) (Ex.lit (T.int 1)) Ex.nop)) (Sms.cons (Sm.asg 4 (Ex.bin .sub (Ex.sub (Ex.call i_box (Exs.cons (Ex.var 0) Exs.nil)) (Ex.lit (T.int 0))) (Ex.sub (Ex.call i_box (Exs.cons (Ex.var 1) Exs.nil)) (Ex.lit (T.int 0))))) (Sms.cons (Sm.asg 5 (Ex.lst (Exs.cons (Ex.call i_picture (Exs.cons (Ex.var 1) Exs.nil)) (Exs.cons (Ex.bi .tup (Exs.cons (Ex.lc (Ex.bin .mul (Ex.lit (T.str [32])) (Ex.var 4)) (Tg.nm 6) .val (Exs.cons (Ex.call i_picture (Exs.cons (Ex.var 1) Exs.nil)) Exs.nil) Exs.nil) Exs.nil)) Exs.nil)))) (Sms.cons (Sm.asg 7 (Ex.call i_beside (Exs.cons (Ex.var 5) Exs.nil))) (Sms.cons (Sm.asg 8 (Ex.bin .mul (Ex.lit (T.str [32])) (Ex.sub (Ex.call i_box (Exs.cons (Ex.var 1) Exs.nil)) (Ex.lit (T.int 0))))) (Sms.cons (Sm.unp (Tgs.cons (Tg.nm 9) (Tgs.cons (Tg.nm 10) Tgs.nil)) (Ex.tup (Exs.cons (Ex.tup Exs.nil) (Exs.cons (Ex.tup Exs.nil) Exs.nil)))) (Sms.cons (Sm.iff (Ex.cmp .isn (Ex.var 2) (Ex.lit T.non)) (Sms.cons (Sm.asg 9 (Ex.bi .tup (Exs.cons (Ex.lc (Ex.bin .add (Ex.bin .add (Ex.var 8) (Ex.var 6)) (Ex.bin .mul (Ex.lit (T.str [32])) (Ex.bin .sub (Ex.var 4) (Ex.bi .len (Exs.cons (Ex.var 6) Exs.nil))))) (Tg.nm 6) .val (Exs.cons (Ex.call i_picture (Exs.cons (Ex.var 2) Exs.nil)) Exs.nil) Exs.nil) Exs.nil))) Sms.nil) Sms.nil) (Sms.cons (Sm.iff (Ex.cmp .isn (Ex.var 3) (Ex.lit T.non)) (Sms.cons (Sm.asg 10 (Ex.bi .tup (Exs.cons (Ex.lc (Ex.bin .add (Ex.bin .add (Ex.var 8) (Ex.var 6)) (Ex.bin .mul (Ex.lit (T.str [32])) (Ex.bin .sub (Ex.var 4) (Ex.bi .len (Exs.cons (Ex.var 6) Exs.nil))))) (Tg.nm 6) .val (Exs.cons (Ex.call i_picture (Exs.cons (Ex.var 3) Exs.nil)) Exs.nil) Exs.nil) Exs.nil))) Sms.nil) Sms.nil) (Sms.cons (Sm.ret (Ex.bin .add (Ex.bin .add (Ex.var 9) (Ex.var 7)) (Ex.var 10))) Sms.nil))))))))) ρ S := prf rfl
def f_script_picture : FnI := ⟨1, 11, b_script_picture⟩
def l_table_picture_2 : Sms := (Sms.cons (Sm.app 5 (Ex.bi .tup (Exs.cons (Ex.lc (Ex.call i_padded (Exs.cons (Ex.var 10) (Exs.cons (Ex.var 9) Exs.nil))) (Tg.nm 10) .val (Exs.cons (Ex.call i_raised (Exs.cons (Ex.var 8) (Exs.cons (Ex.var 6) (Exs.cons (Ex.var 7) Exs.nil)))) Exs.nil) Exs.nil) Exs.nil))) (Sms.cons (Sm.app 5 (Ex.call i_blanks (Exs.cons (Ex.glb ⟨#[]⟩ (T.int 2)) (Exs.cons (Ex.bin .add (Ex.bin .add (Ex.var 6) (Ex.var 7)) (Ex.lit (T.int 1))) Exs.nil)))) Sms.nil))
theorem u_table_picture_2 {c : Call} {ρ : Lenv} {S : Store} : exs c l_table_picture_2 ρ S = exs c (Sms.cons (Sm.app 5 (Ex.bi .tup (Exs.cons (Ex.lc (Ex.call i_padded (Exs.cons (Ex.var 10) (Exs.cons (Ex.var 9) Exs.nil))) (Tg.nm 10) .val (Exs.cons (Ex.call i_raised (Exs.cons (Ex.var 8) (Exs.cons (Ex.var 6) (Exs.cons (Ex.var 7) Exs.nil)))) Exs.nil) Exs.nil) Exs.nil))) (Sms.cons (Sm.app 5 (Ex.call i_blanks (Exs.cons (Ex.glb ⟨#[]⟩ (T.int 2)) (Exs.cons (Ex.bin .add (Ex.bin .add (Ex.var 6) (Ex.var 7)) (Ex.lit (T.int 1))) Exs.nil)))) Sms.nil)) ρ S := prf rfl
theorem L_table_picture_2 {c : Call} {ρ : Lenv} {S : Store} {α : Type} {f : α → T} {l : List α} (g : (((Lens.o 5)).get (wipeR ρ [8, 9])).isSome = true) : forI c (Tg.tp (Tgs.cons (Tg.nm 8) (Tgs.cons (Tg.nm 9) Tgs.nil))) l_table_picture_2 [(5, true)] [8, 9] ρ S (some (l.map f)) = (forG (lpG (lv := [(5, true)]) (Lens.o 5) c (Tg.tp (Tgs.cons (Tg.nm 8) (Tgs.cons (Tg.nm 9) Tgs.nil))) l_table_picture_2 [8, 9] f (wipeR ρ [8, 9])) l ((((Lens.o 5)).get (wipeR ρ [8, 9])).getD default) S).inj (fun b => ((Lens.o 5)).put b (wipeR ρ [8, 9])) (wipeR (wipeR ρ [8, 9]) [5]) := forI_lens' (lv := [(5, true)]) (Lens.o 5) (by decide +kernel) g
def l_table_picture_1 : Sms := (Sms.cons (Sm.own 5 (Ex.lst Exs.nil)) (Sms.cons (Sm.for_ (Tg.tp (Tgs.cons (Tg.nm 8) (Tgs.cons (Tg.nm 9) Tgs.nil))) .zip (Exs.cons (Ex.sub (Ex.var 1) (Ex.var 4)) (Exs.cons (Ex.var 2) Exs.nil)) l_table_picture_2 [(5, true)] [8, 9]) (Sms.cons (Sm.iff (Ex.cmp .gt (Ex.var 4) (Ex.lit (T.int 0))) (Sms.cons (Sm.asg 3 (Ex.bin .add (Ex.var 3) (Ex.call i_blanks (Exs.cons (Ex.bin .add (Ex.bi .sum (Exs.cons (Ex.var 2) Exs.nil)) (Ex.bin .mul (Ex.glb ⟨#[]⟩ (T.int 2)) (Ex.bin .sub (Ex.bi .len (Exs.cons (Ex.var 2) Exs.nil)) (Ex.lit (T.int 1))))) (Exs.cons (Ex.lit (T.int 1)) Exs.nil))))) Sms.nil) Sms.nil) (Sms.cons (Sm.asg 3 (Ex.bin .add (Ex.var 3) (Ex.call i_beside (Exs.cons (Ex.slc (Ex.bor 5) Ex.nop (Ex.neg 1)) Exs.nil)))) Sms.nil))))
theorem u_table_picture_1 {c : Call} {ρ : Lenv} {S : Store} : exs c l_table_picture_1 ρ S = exs c (Sms.cons (Sm.own 5 (Ex.lst Exs.nil)) (Sms.cons (Sm.for_ (Tg.tp (Tgs.cons (Tg.nm 8) (Tgs.cons (Tg.nm 9) Tgs.nil))) .zip (Exs.cons (Ex.sub (Ex.var 1) (Ex.var 4)) (Exs.cons (Ex.var 2) Exs.nil)) l_table_picture_2 [(5, true)] [8, 9]) (Sms.cons (Sm.iff (Ex.cmp .gt (Ex.var 4) (Ex.lit (T.int 0))) (Sms.cons (Sm.asg 3 (Ex.bin .add (Ex.var 3) (Ex.call i_blanks (Exs.cons (Ex.bin .add (Ex.bi .sum (Exs.cons (Ex.var 2) Exs.nil)) (Ex.bin .mul (Ex.glb ⟨#[]⟩ (T.int 2)) (Ex.bin .sub (Ex.bi .len (Exs.cons (Ex.var 2) Exs.nil)) (Ex.lit (T.int 1))))) (Exs.cons (Ex.lit (T.int 1)) Exs.nil))))) Sms.nil) Sms.nil) (Sms.cons (Sm.asg 3 (Ex.bin .add (Ex.var 3) (Ex.call i_beside (Exs.cons (Ex.slc (Ex.bor 5) Ex.nop (Ex.neg 1)) Exs.nil)))) Sms.nil)))) ρ S := prf rfl
theorem L_table_picture_1 {c : Call} {ρ : Lenv} {S : Store} {α : Type} {f : α → T} {l : List α} (g : (((Lens.v 3)).get (wipeR ρ [4, 5, 6, 7, 8, 9])).isSome = true) : forI c (Tg.tp (Tgs.cons (Tg.nm 4) (Tgs.cons (Tg.tp (Tgs.cons (Tg.nm 6) (Tgs.cons (Tg.nm 7) Tgs.nil))) Tgs.nil))) l_table_picture_1 [(3, false)] [4, 5, 6, 7, 8, 9] ρ S (some (l.map f)) = (forG (lpG (lv := [(3, false)]) (Lens.v 3) c (Tg.tp (Tgs.cons (Tg.nm 4) (Tgs.cons (Tg.tp (Tgs.cons (Tg.nm 6) (Tgs.cons (Tg.nm 7) Tgs.nil))) Tgs.nil))) l_table_picture_1 [4, 5, 6, 7, 8, 9] f (wipeR ρ [4, 5, 6, 7, 8, 9])) l ((((Lens.v 3)).get (wipeR ρ [4, 5, 6, 7, 8, 9])).getD default) S).inj (fun b => ((Lens.v 3)).put b (wipeR ρ [4, 5, 6, 7, 8, 9])) (wipeR (wipeR ρ [4, 5, 6, 7, 8, 9]) [3]) := forI_lens' (lv := [(3, false)]) (Lens.v 3) (by decide +kernel) g
def b_table_picture : Sms := (Sms.cons (Sm.asg 1 (Ex.sub (Ex.var 0) (Ex.lit (T.int 1)))) (Sms.cons (Sm.asg 2 (Ex.call i_columns (Exs.cons (Ex.var 1) Exs.nil))) (Sms.cons (Sm.asg 3 (Ex.tup Exs.nil)) (Sms.cons (Sm.for_ (Tg.tp (Tgs.cons (Tg.nm 4) (Tgs.cons (Tg.tp (Tgs.cons (Tg.nm 6) (Tgs.cons (Tg.nm 7) Tgs.nil))) Tgs.nil))) .enm (Exs.cons (Ex.call i_heights (Exs.cons (Ex.var 1) Exs.nil)) Exs.nil) l_table_picture_1 [(3, false)] [4, 5, 6, 7, 8, 9]) (Sms.cons (Sm.ret (Ex.bi .tup (Exs.cons (Ex.lc (Ex.bin .add (Ex.bin .add (Ex.lit (T.str [91])) (Ex.var 10)) (Ex.lit (T.str [93]))) (Tg.nm 10) .val (Exs.cons (Ex.var 3) Exs.nil) Exs.nil) Exs.nil))) Sms.nil)))))
theorem u_table_picture {c : Call} {ρ : Lenv} {S : Store} : exs c b_table_picture ρ S = exs c (Sms.cons (Sm.asg 1 (Ex.sub (Ex.var 0) (Ex.lit (T.int 1)))) (Sms.cons (Sm.asg 2 (Ex.call i_columns (Exs.cons (Ex.var 1) Exs.nil))) (Sms.cons (Sm.asg 3 (Ex.tup Exs.nil)) (Sms.cons (Sm.for_ (Tg.tp (Tgs.cons (Tg.nm 4) (Tgs.cons (Tg.tp (Tgs.cons (Tg.nm 6) (Tgs.cons (Tg.nm 7) Tgs.nil))) Tgs.nil))) .enm (Exs.cons (Ex.call i_heights (Exs.cons (Ex.var 1) Exs.nil)) Exs.nil) l_table_picture_1 [(3, false)] [4, 5, 6, 7, 8, 9]) (Sms.cons (Sm.ret (Ex.bi .tup (Exs.cons (Ex.lc (Ex.bin .add (Ex.bin .add (Ex.lit (T.str [91])) (Ex.var 10)) (Ex.lit (T.str [93]))) (Tg.nm 10) .val (Exs.cons (Ex.var 3) Exs.nil) Exs.nil) Exs.nil))) Sms.nil))))) ρ S := prf rfl
def f_table_picture : FnI := ⟨1, 11, b_table_picture⟩
def b_picture : Sms := (Sms.cons (Sm.asg 1 (Ex.call i_kind (Exs.cons (Ex.var 0) Exs.nil))) (Sms.cons (Sm.asg 2 (Ex.sub (Ex.call i_box (Exs.cons (Ex.var 0) Exs.nil)) (Ex.lit (T.int 0)))) (Sms.cons (Sm.iff (Ex.cmp .eq (Ex.var 1) (Ex.lit (T.str [119, 111, 114, 100]))) (Sms.cons (Sm.ret (Ex.tup (Exs.cons (Ex.sub (Ex.var 0) (Ex.lit (T.int 1))) Exs.nil))) Sms.nil) Sms.nil) (Sms.cons (Sm.iff (Ex.cmp .eq (Ex.var 1) (Ex.lit (T.str [99, 104, 97, 105, 110]))) (Sms.cons (Sm.ret (Ex.call i_chain_picture (Exs.cons (Ex.var 0) Exs.nil))) Sms.nil) Sms.nil) (Sms.cons (Sm.iff (Ex.cmp .eq (Ex.var 1) (Ex.lit (T.str [115, 99, 114, 105, 112, 116]))) (Sms.cons (Sm.ret (Ex.call i_script_picture (Exs.cons (Ex.var 0) Exs.nil))) Sms.nil) Sms.nil) (Sms.cons (Sm.iff (Ex.cmp .eq (Ex.var 1) (Ex.lit (T.str [116, 97, 98, 108, 101]))) (Sms.cons (Sm.ret (Ex.call i_table_picture (Exs.cons (Ex.var 0) Exs.nil))) Sms.nil) Sms.nil) (Sms.cons (Sm.iff (Ex.cmp .eq (Ex.var 1) (Ex.lit (T.str [111, 118, 101, 114]))) (Sms.cons (Sm.unp (Tgs.cons (Tg.nm 3) (Tgs.cons (Tg.nm 4) Tgs.nil)) (Ex.lc (Ex.bi .tup (Exs.cons (Ex.lc (Ex.call i_padded (Exs.cons (Ex.var 6) (Exs.cons (Ex.var 2) Exs.nil))) (Tg.nm 6) .val (Exs.cons (Ex.call i_picture (Exs.cons (Ex.var 5) Exs.nil)) Exs.nil) Exs.nil) Exs.nil)) (Tg.nm 5) .val (Exs.cons (Ex.slc (Ex.var 0) (Ex.lit (T.int 1)) Ex.nop) Exs.nil) Exs.nil)) (Sms.cons (Sm.ret (Ex.bin .add (Ex.bin .add (Ex.var 3) (Ex.tup (Exs.cons (Ex.bin .mul (Ex.lit (T.str [45])) (Ex.var 2)) Exs.nil))) (Ex.var 4))) Sms.nil)) Sms.nil) (Sms.cons (Sm.iff (Ex.cmp .eq (Ex.var 1) (Ex.lit (T.str [114, 111, 111, 116]))) (Sms.cons (Sm.ret (Ex.bin .add (Ex.tup (Exs.cons (Ex.bin .add (Ex.lit (T.str [32])) (Ex.bin .mul (Ex.lit (T.str [95])) (Ex.bin .sub (Ex.var 2) (Ex.lit (T.int 1))))) Exs.nil)) (Ex.bi .tup (Exs.cons (Ex.lc (Ex.bin .add (Ex.lit (T.str [124])) (Ex.var 6)) (Tg.nm 6) .val (Exs.cons (Ex.call i_picture (Exs.cons (Ex.sub (Ex.var 0) (Ex.lit (T.int 1))) Exs.nil)) Exs.nil) Exs.nil) Exs.nil)))) Sms.nil) Sms.nil) (Sms.cons (Sm.ret (Ex.bi .tup (Exs.cons (Ex.lc (Ex.bin .add (Ex.bin .add (Ex.lit (T.str [40])) (Ex.var 6)) (Ex.lit (T.str [41]))) (Tg.nm 6) .val (Exs.cons (Ex.call i_picture (Exs.cons (Ex.sub (Ex.var 0) (Ex.lit (T.int 1))) Exs.nil)) Exs.nil) Exs.nil) Exs.nil))) Sms.nil)))))))))
theorem u_picture {c : Call} {ρ : Lenv} {S : Store} : exs c b_picture ρ S = exs c (Sms.cons (Sm.asg 1 (Ex.call i_kind (Exs.cons (Ex.var 0) Exs.nil))) (Sms.cons (Sm.asg 2 (Ex.sub (Ex.call i_box (Exs.cons (Ex.var 0) Exs.nil)) (Ex.lit (T.int 0)))) (Sms.cons (Sm.iff (Ex.cmp .eq (Ex.var 1) (Ex.lit (T.str [119, 111, 114, 100]))) (Sms.cons (Sm.ret (Ex.tup (Exs.cons (Ex.sub (Ex.var 0) (Ex.lit (T.int 1))) Exs.nil))) Sms.nil) Sms.nil) (Sms.cons (Sm.iff (Ex.cmp .eq (Ex.var 1) (Ex.lit (T.str [99, 104, 97, 105, 110]))) (Sms.cons (Sm.ret (Ex.call i_chain_picture (Exs.cons (Ex.var 0) Exs.nil))) Sms.nil) Sms.nil) (Sms.cons (Sm.iff (Ex.cmp .eq (Ex.var 1) (Ex.lit (T.str [115, 99, 114, 105, 112, 116]))) (Sms.cons (Sm.ret (Ex.call i_script_picture (Exs.cons (Ex.var 0) Exs.nil))) Sms.nil) Sms.nil) (Sms.cons (Sm.iff (Ex.cmp .eq (Ex.var 1) (Ex.lit (T.str [116, 97, 98, 108, 101]))) (Sms.cons (Sm.ret (Ex.call i_table_picture (Exs.cons (Ex.var 0) Exs.nil))) Sms.nil) Sms.nil) (Sms.cons (Sm.iff (Ex.cmp .eq (Ex.var 1) (Ex.lit (T.str [111, 118, 101, 114]))) (Sms.cons (Sm.unp (Tgs.cons (Tg.nm 3) (Tgs.cons (Tg.nm 4) Tgs.nil)) (Ex.lc (Ex.bi .tup (Exs.cons (Ex.lc (Ex.call i_padded (Exs.cons (Ex.var 6) (Exs.cons (Ex.var 2) Exs.nil))) (Tg.nm 6) .val (Exs.cons (Ex.call i_picture (Exs.cons (Ex.var 5) Exs.nil)) Exs.nil) Exs.nil) Exs.nil)) (Tg.nm 5) .val (Exs.cons (Ex.slc (Ex.var 0) (Ex.lit (T.int 1)) Ex.nop) Exs.nil) Exs.nil)) (Sms.cons (Sm.ret (Ex.bin .add (Ex.bin .add (Ex.var 3) (Ex.tup (Exs.cons (Ex.bin .mul (Ex.lit (T.str [45])) (Ex.var 2)) Exs.nil))) (Ex.var 4))) Sms.nil)) Sms.nil) (Sms.cons (Sm.iff (Ex.cmp .eq (Ex.var 1) (Ex.lit (T.str [114, 111, 111, 116]))) (Sms.cons (Sm.ret (Ex.bin .add (Ex.tup (Exs.cons (Ex.bin .add (Ex.lit (T.str [32])) (Ex.bin .mul (Ex.lit (T.str [95])) (Ex.bin .sub (Ex.var 2) (Ex.lit (T.int 1))))) Exs.nil)) (Ex.bi .tup (Exs.cons (Ex.lc (Ex.bin .add (Ex.lit (T.str [124])) (Ex.var 6)) (Tg.nm 6) .val (Exs.cons (Ex.call i_picture (Exs.cons (Ex.sub (Ex.var 0) (Ex.lit (T.int 1))) Exs.nil)) Exs.nil) Exs.nil) Exs.nil)))) Sms.nil) Sms.nil) (Sms.cons (Sm.ret (Ex.bi .tup (Exs.cons (Ex.lc (Ex.bin .add (Ex.bin .add (Ex.lit (T.str [40])) (Ex.var 6)) (Ex.lit (T.str [41]))) (Tg.nm 6) .val (Exs.cons (Ex.call i_picture (Exs.cons (Ex.sub (Ex.var 0) (Ex.lit (T.int 1))) Exs.nil)) Exs.nil) Exs.nil) Exs.nil))) Sms.nil))))))))) ρ S := prf rfl
def f_picture : FnI := ⟨1, 7, b_picture⟩
def b_shown : Sms := (Sms.cons (Sm.ret (Ex.mth .join (Ex.lit (T.str [])) (Exs.cons (Ex.lc (Ex.bin .add (Ex.mth .rstrip (Ex.var 1) (Exs.cons (Ex.lit (T.str [32])) Exs.nil)) (Ex.lit (T.str [10]))) (Tg.nm 1) .val (Exs.cons (Ex.call i_picture (Exs.cons (Ex.var 0) Exs.nil)) Exs.nil) Exs.nil) Exs.nil))) Sms.nil)
theorem u_shown {c : Call} {ρ : Lenv} {S : Store} : exs c b_shown ρ S = exs c (Sms.cons (Sm.ret (Ex.mth .join (Ex.lit (T.str [])) (Exs.cons (Ex.lc (Ex.bin .add (Ex.mth .rstrip (Ex.var 1) (Exs.cons (Ex.lit (T.str [32])) Exs.nil)) (Ex.lit (T.str [10]))) (Tg.nm 1) .val (Exs.cons (Ex.call i_picture (Exs.cons (Ex.var 0) Exs.nil)) Exs.nil) Exs.nil) Exs.nil))) Sms.nil) ρ S := prf rfl
def f_shown : FnI := ⟨1, 2, b_shown⟩
def b_middle : Sms := (Sms.cons (Sm.ret (Ex.bin .fdv (Ex.bin .sub (Ex.var 0) (Ex.var 1)) (Ex.lit (T.int 2)))) Sms.nil)
theorem u_middle {c : Call} {ρ : Lenv} {S : Store} : exs c b_middle ρ S = exs c (Sms.cons (Sm.ret (Ex.bin .fdv (Ex.bin .sub (Ex.var 0) (Ex.var 1)) (Ex.lit (T.int 2)))) Sms.nil) ρ S := prf rfl
def f_middle : FnI := ⟨2, 2, b_middle⟩
def l_table_corners_2 : Sms := (Sms.cons (Sm.app 2 (Ex.tup (Exs.cons (Ex.bin .add (Ex.var 5) (Ex.call i_middle (Exs.cons (Ex.var 9) (Exs.cons (Ex.sub (Ex.call i_box (Exs.cons (Ex.var 8) Exs.nil)) (Ex.lit (T.int 0))) Exs.nil)))) (Exs.cons (Ex.bin .sub (Ex.bin .add (Ex.var 3) (Ex.var 6)) (Ex.sub (Ex.call i_box (Exs.cons (Ex.var 8) Exs.nil)) (Ex.lit (T.int 1)))) Exs.nil)))) (Sms.cons (Sm.asg 5 (Ex.bin .add (Ex.bin .add (Ex.var 5) (Ex.var 9)) (Ex.glb ⟨#[]⟩ (T.int 2)))) Sms.nil))
theorem u_table_corners_2 {c : Call} {ρ : Lenv} {S : Store} : exs c l_table_corners_2 ρ S = exs c (Sms.cons (Sm.app 2 (Ex.tup (Exs.cons (Ex.bin .add (Ex.var 5) (Ex.call i_middle (Exs.cons (Ex.var 9) (Exs.cons (Ex.sub (Ex.call i_box (Exs.cons (Ex.var 8) Exs.nil)) (Ex.lit (T.int 0))) Exs.nil)))) (Exs.cons (Ex.bin .sub (Ex.bin .add (Ex.var 3) (Ex.var 6)) (Ex.sub (Ex.call i_box (Exs.cons (Ex.var 8) Exs.nil)) (Ex.lit (T.int 1)))) Exs.nil)))) (Sms.cons (Sm.asg 5 (Ex.bin .add (Ex.bin .add (Ex.var 5) (Ex.var 9)) (Ex.glb ⟨#[]⟩ (T.int 2)))) Sms.nil)) ρ S := prf rfl
theorem L_table_corners_2 {c : Call} {ρ : Lenv} {S : Store} {α : Type} {f : α → T} {l : List α} (g : (((Lens.p (Lens.o 2) (Lens.v 5))).get (wipeR ρ [8, 9])).isSome = true) : forI c (Tg.tp (Tgs.cons (Tg.nm 8) (Tgs.cons (Tg.nm 9) Tgs.nil))) l_table_corners_2 [(2, true), (5, false)] [8, 9] ρ S (some (l.map f)) = (forG (lpG (lv := [(2, true), (5, false)]) (Lens.p (Lens.o 2) (Lens.v 5)) c (Tg.tp (Tgs.cons (Tg.nm 8) (Tgs.cons (Tg.nm 9) Tgs.nil))) l_table_corners_2 [8, 9] f (wipeR ρ [8, 9])) l ((((Lens.p (Lens.o 2) (Lens.v 5))).get (wipeR ρ [8, 9])).getD default) S).inj (fun b => ((Lens.p (Lens.o 2) (Lens.v 5))).put b (wipeR ρ [8, 9])) (wipeR (wipeR ρ [8, 9]) [2, 5]) := forI_lens' (lv := [(2, true), (5, false)]) (Lens.p (Lens.o 2) (Lens.v 5)) (by decide +kernel) g
def l_table_corners_1 : Sms := (Sms.cons (Sm.asg 5 (Ex.lit (T.int 1))) (Sms.cons (Sm.for_ (Tg.tp (Tgs.cons (Tg.nm 8) (Tgs.cons (Tg.nm 9) Tgs.nil))) .zip (Exs.cons (Ex.var 4) (Exs.cons (Ex.call i_columns (Exs.cons (Ex.var 1) Exs.nil)) Exs.nil)) l_table_corners_2 [(2, true), (5, false)] [8, 9]) (Sms.cons (Sm.asg 3 (Ex.bin .add (Ex.bin .add (Ex.bin .add (Ex.var 3) (Ex.var 6)) (Ex.var 7)) (Ex.lit (T.int 2)))) Sms.nil)))
theorem u_table_corners_1 {c : Call} {ρ : Lenv} {S : Store} : exs c l_table_corners_1 ρ S = exs c (Sms.cons (Sm.asg 5 (Ex.lit (T.int 1))) (Sms.cons (Sm.for_ (Tg.tp (Tgs.cons (Tg.nm 8) (Tgs.cons (Tg.nm 9) Tgs.nil))) .zip (Exs.cons (Ex.var 4) (Exs.cons (Ex.call i_columns (Exs.cons (Ex.var 1) Exs.nil)) Exs.nil)) l_table_corners_2 [(2, true), (5, false)] [8, 9]) (Sms.cons (Sm.asg 3 (Ex.bin .add (Ex.bin .add (Ex.bin .add (Ex.var 3) (Ex.var 6)) (Ex.var 7)) (Ex.lit (T.int 2)))) Sms.nil))) ρ S := prf rfl
theorem L_table_corners_1 {c : Call} {ρ : Lenv} {S : Store} {α : Type} {f : α → T} {l : List α} (g : (((Lens.p (Lens.o 2) (Lens.v 3))).get (wipeR ρ [4, 5, 6, 7, 8, 9])).isSome = true) : forI c (Tg.tp (Tgs.cons (Tg.nm 4) (Tgs.cons (Tg.tp (Tgs.cons (Tg.nm 6) (Tgs.cons (Tg.nm 7) Tgs.nil))) Tgs.nil))) l_table_corners_1 [(2, true), (3, false)] [4, 5, 6, 7, 8, 9] ρ S (some (l.map f)) = (forG (lpG (lv := [(2, true), (3, false)]) (Lens.p (Lens.o 2) (Lens.v 3)) c (Tg.tp (Tgs.cons (Tg.nm 4) (Tgs.cons (Tg.tp (Tgs.cons (Tg.nm 6) (Tgs.cons (Tg.nm 7) Tgs.nil))) Tgs.nil))) l_table_corners_1 [4, 5, 6, 7, 8, 9] f (wipeR ρ [4, 5, 6, 7, 8, 9])) l ((((Lens.p (Lens.o 2) (Lens.v 3))).get (wipeR ρ [4, 5, 6, 7, 8, 9])).getD default) S).inj (fun b => ((Lens.p (Lens.o 2) (Lens.v 3))).put b (wipeR ρ [4, 5, 6, 7, 8, 9])) (wipeR (wipeR ρ [4, 5, 6, 7, 8, 9]) [2, 3]) := forI_lens' (lv := [(2, true), (3, false)]) (Lens.p (Lens.o 2) (Lens.v 3)) (by decide +kernel) g
def b_table_corners : Sms := (Sms.cons (Sm.asg 1 (Ex.sub (Ex.var 0) (Ex.lit (T.int 1)))) (Sms.cons (Sm.own 2 (Ex.lst Exs.nil)) (Sms.cons (Sm.asg 3 (Ex.lit (T.int 0))) (Sms.cons (Sm.for_ (Tg.tp (Tgs.cons (Tg.nm 4) (Tgs.cons (Tg.tp (Tgs.cons (Tg.nm 6) (Tgs.cons (Tg.nm 7) Tgs.nil))) Tgs.nil))) .zip (Exs.cons (Ex.var 1) (Exs.cons (Ex.call i_heights (Exs.cons (Ex.var 1) Exs.nil)) Exs.nil)) l_table_corners_1 [(2, true), (3, false)] [4, 5, 6, 7, 8, 9]) (Sms.cons (Sm.rel 2) (Sms.cons (Sm.ret (Ex.var 2)) Sms.nil))))))
theorem u_table_corners {c : Call} {ρ : Lenv} {S : Store} : exs c b_table_corners ρ S = exs c (Sms.cons (Sm.asg 1 (Ex.sub (Ex.var 0) (Ex.lit (T.int 1)))) (Sms.cons (Sm.own 2 (Ex.lst Exs.nil)) (Sms.cons (Sm.asg 3 (Ex.lit (T.int 0))) (Sms.cons (Sm.for_ (Tg.tp (Tgs.cons (Tg.nm 4) (Tgs.cons (Tg.tp (Tgs.cons (Tg.nm 6) (Tgs.cons (Tg.nm 7) Tgs.nil))) Tgs.nil))) .zip (Exs.cons (Ex.var 1) (Exs.cons (Ex.call i_heights (Exs.cons (Ex.var 1) Exs.nil)) Exs.nil)) l_table_corners_1 [(2, true), (3, false)] [4, 5, 6, 7, 8, 9]) (Sms.cons (Sm.rel 2) (Sms.cons (Sm.ret (Ex.var 2)) Sms.nil)))))) ρ S := prf rfl
def f_table_corners : FnI := ⟨1, 10, b_table_corners⟩
def b_script_corners : Sms := (Sms.cons (Sm.unp (Tgs.cons (Tg.nm 1) (Tgs.cons (Tg.nm 2) (Tgs.cons (Tg.nm 3) Tgs.nil))) (Ex.call i_box (Exs.cons (Ex.var 0) Exs.nil))) (Sms.cons (Sm.asg 4 (Ex.call i_box (Exs.cons (Ex.sub (Ex.var 0) (Ex.lit (T.int 1))) Exs.nil))) (Sms.cons (Sm.own 5 (Ex.lst (Exs.cons (Ex.tup (Exs.cons (Ex.lit (T.int 0)) (Exs.cons (Ex.bin .sub (Ex.var 2) (Ex.sub (Ex.var 4) (Ex.lit (T.int 1)))) Exs.nil))) Exs.nil))) (Sms.cons (Sm.iff (Ex.cmp .isn (Ex.sub (Ex.var 0) (Ex.lit (T.int 2))) (Ex.lit T.non)) (Sms.cons (Sm.app 5 (Ex.tup (Exs.cons (Ex.sub (Ex.var 4) (Ex.lit (T.int 0))) (Exs.cons (Ex.bin .sub (Ex.bin .sub (Ex.var 2) (Ex.sub (Ex.var 4) (Ex.lit (T.int 1)))) (Ex.call i_rows_of (Exs.cons (Ex.call i_box (Exs.cons (Ex.sub (Ex.var 0) (Ex.lit (T.int 2))) Exs.nil)) Exs.nil))) Exs.nil)))) Sms.nil) Sms.nil) (Sms.cons (Sm.iff (Ex.cmp .isn (Ex.sub (Ex.var 0) (Ex.lit (T.int 3))) (Ex.lit T.non)) (Sms.cons (Sm.app 5 (Ex.tup (Exs.cons (Ex.sub (Ex.var 4) (Ex.lit (T.int 0))) (Exs.cons (Ex.bin .add (Ex.bin .add (Ex.var 2) (Ex.sub (Ex.var 4) (Ex.lit (T.int 2)))) (Ex.lit (T.int 1))) Exs.nil)))) Sms.nil) Sms.nil) (Sms.cons (Sm.rel 5) (Sms.cons (Sm.ret (Ex.var 5)) Sms.nil)))))))
def f_script_corners : FnI := ⟨1, 6, b_script_corners⟩
def l_corners_1 : Sms := (Sms.cons (Sm.app 7 (Ex.tup (Exs.cons (Ex.var 8) (Exs.cons (Ex.bin .sub (Ex.var 3) (Ex.sub (Ex.var 9) (Ex.lit (T.int 1)))) Exs.nil)))) (Sms.cons (Sm.asg 8 (Ex.bin .add (Ex.bin .add (Ex.var 8) (Ex.sub (Ex.var 9) (Ex.lit (T.int 0)))) (Ex.glb ⟨#[]⟩ (T.int 3)))) Sms.nil))
def b_corners : Sms := (Sms.cons (Sm.asg 1 (Ex.call i_kind (Exs.cons (Ex.var 0) Exs.nil))) (Sms.cons (Sm.unp (Tgs.cons (Tg.nm 2) (Tgs.cons (Tg.nm 3) (Tgs.cons (Tg.nm 4) Tgs.nil))) (Ex.call i_box (Exs.cons (Ex.var 0) Exs.nil))) (Sms.cons (Sm.iff (Ex.cmp .eq (Ex.var 1) (Ex.lit (T.str [116, 97, 98, 108, 101]))) (Sms.cons (Sm.ret (Ex.call i_table_corners (Exs.cons (Ex.var 0) Exs.nil))) Sms.nil) Sms.nil) (Sms.cons (Sm.iff (Ex.cmp .eq (Ex.var 1) (Ex.lit (T.str [115, 99, 114, 105, 112, 116]))) (Sms.cons (Sm.ret (Ex.call i_script_corners (Exs.cons (Ex.var 0) Exs.nil))) Sms.nil) Sms.nil) (Sms.cons (Sm.asgC 5 (Ex.lc (Ex.call i_box (Exs.cons (Ex.var 6) Exs.nil)) (Tg.nm 6) .val (Exs.cons (Ex.call i_parts (Exs.cons (Ex.var 0) Exs.nil)) Exs.nil) Exs.nil)) (Sms.cons (Sm.iff (Ex.cmp .eq (Ex.var 1) (Ex.lit (T.str [99, 104, 97, 105, 110]))) (Sms.cons (Sm.own 7 (Ex.lst Exs.nil)) (Sms.cons (Sm.asg 8 (Ex.lit (T.int 0))) (Sms.cons (Sm.for_ (Tg.nm 9) .val (Exs.cons (Ex.var 5) Exs.nil) l_corners_1 [(7, true), (8, false)] [9]) (Sms.cons (Sm.rel 7) (Sms.cons (Sm.ret (Ex.var 7)) Sms.nil))))) Sms.nil) (Sms.cons (Sm.iff (Ex.cmp .eq (Ex.var 1) (Ex.lit (T.str [111, 118, 101, 114]))) (Sms.cons (Sm.ret (Ex.lst (Exs.cons (Ex.tup (Exs.cons (Ex.call i_middle (Exs.cons (Ex.var 2) (Exs.cons (Ex.sub (Ex.sub (Ex.var 5) (Ex.lit (T.int 0))) (Ex.lit (T.int 0))) Exs.nil))) (Exs.cons (Ex.lit (T.int 0)) Exs.nil))) (Exs.cons (Ex.tup (Exs.cons (Ex.call i_middle (Exs.cons (Ex.var 2) (Exs.cons (Ex.sub (Ex.sub (Ex.var 5) (Ex.lit (T.int 1))) (Ex.lit (T.int 0))) Exs.nil))) (Exs.cons (Ex.bin .add (Ex.var 3) (Ex.lit (T.int 1))) Exs.nil))) Exs.nil)))) Sms.nil) Sms.nil) (Sms.cons (Sm.iff (Ex.cmp .eq (Ex.var 1) (Ex.lit (T.str [114, 111, 111, 116]))) (Sms.cons (Sm.ret (Ex.lst (Exs.cons (Ex.tup (Exs.cons (Ex.lit (T.int 1)) (Exs.cons (Ex.lit (T.int 1)) Exs.nil))) Exs.nil))) Sms.nil) Sms.nil) (Sms.cons (Sm.iff (Ex.cmp .eq (Ex.var 1) (Ex.lit (T.str [104, 101, 108, 100]))) (Sms.cons (Sm.ret (Ex.lst (Exs.cons (Ex.tup (Exs.cons (Ex.lit (T.int 1)) (Exs.cons (Ex.lit (T.int 0)) Exs.nil))) Exs.nil))) Sms.nil) Sms.nil) (Sms.cons (Sm.ret (Ex.lst Exs.nil)) Sms.nil))))))))))
def f_corners : FnI := ⟨1, 10, b_corners⟩
def l_frame_1 : Sms := (Sms.cons (Sm.unp (Tgs.cons (Tg.nm 5) (Tgs.cons (Tg.nm 6) Tgs.nil)) (Ex.sub (Ex.call i_corners (Exs.cons (Ex.var 0) Exs.nil)) (Ex.var 4))) (Sms.cons (Sm.par2 2 3 (Ex.bin .add (Ex.var 2) (Ex.var 5)) (Ex.bin .add (Ex.var 3) (Ex.var 6))) (Sms.cons (Sm.asg 0 (Ex.sub (Ex.call i_parts (Exs.cons (Ex.var 0) Exs.nil)) (Ex.var 4))) Sms.nil)))
def b_frame : Sms := (Sms.cons (Sm.expr (Ex.call i_part_at (Exs.cons (Ex.var 0) (Exs.cons (Ex.var 1) Exs.nil)))) (Sms.cons (Sm.unp (Tgs.cons (Tg.nm 2) (Tgs.cons (Tg.nm 3) Tgs.nil)) (Ex.tup (Exs.cons (Ex.lit (T.int 0)) (Exs.cons (Ex.lit (T.int 0)) Exs.nil)))) (Sms.cons (Sm.for_ (Tg.nm 4) .val (Exs.cons (Ex.var 1) Exs.nil) l_frame_1 [(0, false), (2, false), (3, false)] [4, 5, 6]) (Sms.cons (Sm.ret (Ex.tup (Exs.cons (Ex.var 2) (Exs.cons (Ex.var 3) (Exs.cons (Ex.sub (Ex.call i_box (Exs.cons (Ex.var 0) Exs.nil)) (Ex.lit (T.int 0))) (Exs.cons (Ex.call i_rows_of (Exs.cons (Ex.call i_box (Exs.cons (Ex.var 0) Exs.nil)) Exs.nil)) Exs.nil)))))) Sms.nil))))
def f_frame : FnI := ⟨2, 7, b_frame⟩
def b_has_spot : Sms := (Sms.cons (Sm.unp (Tgs.cons (Tg.nm 3) (Tgs.cons (Tg.nm 4) (Tgs.cons (Tg.nm 5) (Tgs.cons (Tg.nm 6) Tgs.nil)))) (Ex.var 0)) (Sms.cons (Sm.ret (Ex.and (Ex.chn .le .lt (Ex.var 3) (Ex.var 1) (Ex.bin .add (Ex.var 3) (Ex.var 5))) (Ex.one (Ex.chn .le .lt (Ex.var 4) (Ex.var 2) (Ex.bin .add (Ex.var 4) (Ex.var 6)))))) Sms.nil))
def f_has_spot : FnI := ⟨3, 7, b_has_spot⟩
def l_at_spot_2 : Sms := (Sms.cons (Sm.asg 8 (Ex.call i_box (Exs.cons (Ex.sub (Ex.call i_parts (Exs.cons (Ex.var 0) Exs.nil)) (Ex.var 7)) Exs.nil))) (Sms.cons (Sm.iff (Ex.call i_has_spot (Exs.cons (Ex.tup (Exs.cons (Ex.bin .add (Ex.var 4) (Ex.var 9)) (Exs.cons (Ex.bin .add (Ex.var 5) (Ex.var 10)) (Exs.cons (Ex.sub (Ex.var 8) (Ex.lit (T.int 0))) (Exs.cons (Ex.call i_rows_of (Exs.cons (Ex.var 8) Exs.nil)) Exs.nil))))) (Exs.cons (Ex.var 1) (Exs.cons (Ex.var 2) Exs.nil)))) (Sms.cons (Sm.app 6 (Ex.tup (Exs.cons (Ex.var 7) (Exs.cons (Ex.bin .add (Ex.var 4) (Ex.var 9)) (Exs.cons (Ex.bin .add (Ex.var 5) (Ex.var 10)) Exs.nil))))) Sms.nil) Sms.nil) Sms.nil))
def l_at_spot_1 : Sms := (Sms.cons (Sm.own 6 (Ex.lst Exs.nil)) (Sms.cons (Sm.for_ (Tg.tp (Tgs.cons (Tg.nm 7) (Tgs.cons (Tg.tp (Tgs.cons (Tg.nm 9) (Tgs.cons (Tg.nm 10) Tgs.nil))) Tgs.nil))) .enm (Exs.cons (Ex.call i_corners (Exs.cons (Ex.var 0) Exs.nil)) Exs.nil) l_at_spot_2 [(6, true)] [7, 8, 9, 10]) (Sms.cons (Sm.iff (Ex.not (Ex.bor 6)) (Sms.cons (Sm.ret (Ex.var 3)) Sms.nil) Sms.nil) (Sms.cons (Sm.unp (Tgs.cons (Tg.nm 7) (Tgs.cons (Tg.nm 4) (Tgs.cons (Tg.nm 5) Tgs.nil))) (Ex.sub (Ex.bor 6) (Ex.lit (T.int 0)))) (Sms.cons (Sm.asg 3 (Ex.bin .add (Ex.var 3) (Ex.tup (Exs.cons (Ex.var 7) Exs.nil)))) (Sms.cons (Sm.asg 0 (Ex.sub (Ex.call i_parts (Exs.cons (Ex.var 0) Exs.nil)) (Ex.var 7))) Sms.nil))))))
def b_at_spot : Sms := (Sms.cons (Sm.iff (Ex.not (Ex.call i_has_spot (Exs.cons (Ex.call i_frame (Exs.cons (Ex.var 0) (Exs.cons (Ex.tup Exs.nil) Exs.nil))) (Exs.cons (Ex.var 1) (Exs.cons (Ex.var 2) Exs.nil))))) (Sms.cons (Sm.ret (Ex.lit T.non)) Sms.nil) Sms.nil) (Sms.cons (Sm.asg 3 (Ex.tup Exs.nil)) (Sms.cons (Sm.unp (Tgs.cons (Tg.nm 4) (Tgs.cons (Tg.nm 5) Tgs.nil)) (Ex.tup (Exs.cons (Ex.lit (T.int 0)) (Exs.cons (Ex.lit (T.int 0)) Exs.nil)))) (Sms.cons (Sm.whl (Ex.lit (T.bl true)) l_at_spot_1 [(0, false), (3, false), (4, false), (5, false)] [6, 7, 8, 9, 10]) Sms.nil))))
def f_at_spot : FnI := ⟨3, 11, b_at_spot⟩
def l_own_spots_2 : Sms := (Sms.cons (Sm.iff (Ex.and (Ex.cmp .ne (Ex.var 7) (Ex.lit (T.str [32]))) (Ex.one (Ex.not (Ex.bi .any (Exs.cons (Ex.lc (Ex.call i_has_spot (Exs.cons (Ex.var 8) (Exs.cons (Ex.var 6) (Exs.cons (Ex.var 4) Exs.nil)))) (Tg.nm 8) .val (Exs.cons (Ex.var 1) Exs.nil) Exs.nil) Exs.nil))))) (Sms.cons (Sm.app 3 (Ex.tup (Exs.cons (Ex.var 6) (Exs.cons (Ex.var 4) Exs.nil)))) Sms.nil) Sms.nil) Sms.nil)
def l_own_spots_1 : Sms := (Sms.cons (Sm.for_ (Tg.tp (Tgs.cons (Tg.nm 6) (Tgs.cons (Tg.nm 7) Tgs.nil))) .enm (Exs.cons (Ex.var 5) Exs.nil) l_own_spots_2 [(3, true)] [6, 7]) Sms.nil)
def b_own_spots : Sms := (Sms.cons (Sm.asgC 1 (Ex.lc (Ex.call i_frame (Exs.cons (Ex.var 0) (Exs.cons (Ex.tup (Exs.cons (Ex.var 2) Exs.nil)) Exs.nil))) (Tg.nm 2) .rng (Exs.cons (Ex.bi .len (Exs.cons (Ex.call i_parts (Exs.cons (Ex.var 0) Exs.nil)) Exs.nil)) Exs.nil) Exs.nil)) (Sms.cons (Sm.own 3 (Ex.lst Exs.nil)) (Sms.cons (Sm.for_ (Tg.tp (Tgs.cons (Tg.nm 4) (Tgs.cons (Tg.nm 5) Tgs.nil))) .enm (Exs.cons (Ex.call i_picture (Exs.cons (Ex.var 0) Exs.nil)) Exs.nil) l_own_spots_1 [(3, true)] [4, 5, 6, 7]) (Sms.cons (Sm.ret (Ex.bi .tup (Exs.cons (Ex.op .srt (Exs.cons (Ex.bor 3) Exs.nil)) Exs.nil))) Sms.nil))))
def f_own_spots : FnI := ⟨1, 9, b_own_spots⟩
def b_row_text : Sms := (Sms.cons (Sm.ret (Ex.mth .join (Ex.lit (T.str [44, 32])) (Exs.cons (Ex.lc (Ex.call i_sum_text (Exs.cons (Ex.var 1) Exs.nil)) (Tg.nm 1) .val (Exs.cons (Ex.var 0) Exs.nil) Exs.nil) Exs.nil))) Sms.nil)
def f_row_text : FnI := ⟨1, 2, b_row_text⟩
def l_sum_text_1 : Sms := (Sms.cons (Sm.iff (Ex.cmp .isn (Ex.var 3) (Ex.lit T.non)) (Sms.cons (Sm.asg 5 (Ex.bin .add (Ex.bin .add (Ex.bin .add (Ex.bin .add (Ex.var 5) (Ex.var 6)) (Ex.lit (T.str [123]))) (Ex.call i_sum_text (Exs.cons (Ex.var 3) Exs.nil))) (Ex.lit (T.str [125])))) Sms.nil) Sms.nil) Sms.nil)
def b_sum_text : Sms := (Sms.cons (Sm.asg 1 (Ex.call i_kind (Exs.cons (Ex.var 0) Exs.nil))) (Sms.cons (Sm.iff (Ex.cmp .eq (Ex.var 1) (Ex.lit (T.str [119, 111, 114, 100]))) (Sms.cons (Sm.ret (Ex.sub (Ex.var 0) (Ex.lit (T.int 1)))) Sms.nil) Sms.nil) (Sms.cons (Sm.iff (Ex.cmp .eq (Ex.var 1) (Ex.lit (T.str [99, 104, 97, 105, 110]))) (Sms.cons (Sm.ret (Ex.bin .add (Ex.call i_sum_text (Exs.cons (Ex.sub (Ex.var 0) (Ex.lit (T.int 1))) Exs.nil)) (Ex.mth .join (Ex.lit (T.str [])) (Exs.cons (Ex.lc (Ex.bin .add (Ex.bin .add (Ex.bin .add (Ex.lit (T.str [32])) (Ex.var 2)) (Ex.lit (T.str [32]))) (Ex.call i_sum_text (Exs.cons (Ex.var 3) Exs.nil))) (Tg.tp (Tgs.cons (Tg.nm 2) (Tgs.cons (Tg.nm 3) Tgs.nil))) .val (Exs.cons (Ex.sub (Ex.var 0) (Ex.lit (T.int 2))) Exs.nil) Exs.nil) Exs.nil)))) Sms.nil) Sms.nil) (Sms.cons (Sm.iff (Ex.cmp .eq (Ex.var 1) (Ex.lit (T.str [111, 118, 101, 114]))) (Sms.cons (Sm.ret (Ex.bin .add (Ex.bin .add (Ex.bin .add (Ex.bin .add (Ex.lit (T.str [123])) (Ex.call i_sum_text (Exs.cons (Ex.sub (Ex.var 0) (Ex.lit (T.int 1))) Exs.nil))) (Ex.lit (T.str [47]))) (Ex.call i_sum_text (Exs.cons (Ex.sub (Ex.var 0) (Ex.lit (T.int 2))) Exs.nil))) (Ex.lit (T.str [125])))) Sms.nil) Sms.nil) (Sms.cons (Sm.iff (Ex.cmp .eq (Ex.var 1) (Ex.lit (T.str [114, 111, 111, 116]))) (Sms.cons (Sm.ret (Ex.bin .add (Ex.bin .add (Ex.lit (T.str [114, 111, 111, 116, 123])) (Ex.call i_sum_text (Exs.cons (Ex.sub (Ex.var 0) (Ex.lit (T.int 1))) Exs.nil))) (Ex.lit (T.str [125])))) Sms.nil) Sms.nil) (Sms.cons (Sm.iff (Ex.cmp .eq (Ex.var 1) (Ex.lit (T.str [104, 101, 108, 100]))) (Sms.cons (Sm.ret (Ex.bin .add (Ex.bin .add (Ex.lit (T.str [40])) (Ex.call i_sum_text (Exs.cons (Ex.sub (Ex.var 0) (Ex.lit (T.int 1))) Exs.nil))) (Ex.lit (T.str [41])))) Sms.nil) Sms.nil) (Sms.cons (Sm.iff (Ex.cmp .eq (Ex.var 1) (Ex.lit (T.str [116, 97, 98, 108, 101]))) (Sms.cons (Sm.ret (Ex.bin .add (Ex.bin .add (Ex.lit (T.str [91])) (Ex.mth .join (Ex.lit (T.str [59, 32])) (Exs.cons (Ex.lc (Ex.call i_row_text (Exs.cons (Ex.var 4) Exs.nil)) (Tg.nm 4) .val (Exs.cons (Ex.sub (Ex.var 0) (Ex.lit (T.int 1))) Exs.nil) Exs.nil) Exs.nil))) (Ex.lit (T.str [93])))) Sms.nil) Sms.nil) (Sms.cons (Sm.asg 5 (Ex.call i_sum_text (Exs.cons (Ex.sub (Ex.var 0) (Ex.lit (T.int 1))) Exs.nil))) (Sms.cons (Sm.for_ (Tg.tp (Tgs.cons (Tg.nm 6) (Tgs.cons (Tg.nm 3) Tgs.nil))) .val (Exs.cons (Ex.tup (Exs.cons (Ex.tup (Exs.cons (Ex.lit (T.str [94])) (Exs.cons (Ex.sub (Ex.var 0) (Ex.lit (T.int 2))) Exs.nil))) (Exs.cons (Ex.tup (Exs.cons (Ex.lit (T.str [95])) (Exs.cons (Ex.sub (Ex.var 0) (Ex.lit (T.int 3))) Exs.nil))) Exs.nil))) Exs.nil) l_sum_text_1 [(5, false)] [3, 6]) (Sms.cons (Sm.ret (Ex.var 5)) Sms.nil))))))))))
def f_sum_text : FnI := ⟨1, 7, b_sum_text⟩
def b_rd_must : Sms := (Sms.cons (Sm.iff (Ex.not (Ex.var 0)) (Sms.cons (Sm.raise 3) Sms.nil) Sms.nil) Sms.nil)
def f_rd_must : FnI := ⟨1, 1, b_rd_must⟩
/- not yet: call Reader -/
def b_read_text : Sms := (Sms.cons (Sm.raise 9999) Sms.nil)
def f_read_text : FnI := ⟨1, 1, b_read_text⟩
def b_sn_must : Sms := (Sms.cons (Sm.iff (Ex.not (Ex.var 0)) (Sms.cons (Sm.raise 4) Sms.nil) Sms.nil) Sms.nil)
def f_sn_must : FnI := ⟨1, 1, b_sn_must⟩
def b_cut_out : Sms := (Sms.cons (Sm.ret (Ex.bi .tup (Exs.cons (Ex.lc (Ex.slc (Ex.var 5) (Ex.var 3) (Ex.var 4)) (Tg.nm 5) .val (Exs.cons (Ex.slc (Ex.var 0) (Ex.var 1) (Ex.var 2)) Exs.nil) Exs.nil) Exs.nil))) Sms.nil)
def f_cut_out : FnI := ⟨5, 6, b_cut_out⟩
def b_trimmed : Sms := (Sms.cons (Sm.asgC 1 (Ex.lc (Ex.var 2) (Tg.tp (Tgs.cons (Tg.nm 2) (Tgs.cons (Tg.nm 3) Tgs.nil))) .enm (Exs.cons (Ex.var 0) Exs.nil) (Exs.cons (Ex.cmp .ne (Ex.mth .strip (Ex.var 3) (Exs.cons (Ex.lit (T.str [32])) Exs.nil)) (Ex.lit (T.str []))) Exs.nil))) (Sms.cons (Sm.expr (Ex.call i_sn_must (Exs.cons (Ex.cmp .ne (Ex.var 1) (Ex.lst Exs.nil)) Exs.nil))) (Sms.cons (Sm.asg 0 (Ex.slc (Ex.var 0) (Ex.sub (Ex.var 1) (Ex.lit (T.int 0))) (Ex.bin .add (Ex.sub (Ex.var 1) (Ex.neg 1)) (Ex.lit (T.int 1))))) (Sms.cons (Sm.asg 4 (Ex.bi .max (Exs.cons (Ex.lc (Ex.bi .len (Exs.cons (Ex.mth .rstrip (Ex.var 3) (Exs.cons (Ex.lit (T.str [32])) Exs.nil)) Exs.nil)) (Tg.nm 3) .val (Exs.cons (Ex.var 0) Exs.nil) Exs.nil) Exs.nil))) (Sms.cons (Sm.ret (Ex.bi .tup (Exs.cons (Ex.lc (Ex.slc (Ex.var 3) Ex.nop (Ex.var 4)) (Tg.nm 3) .val (Exs.cons (Ex.var 0) Exs.nil) Exs.nil) Exs.nil))) Sms.nil)))))
def f_trimmed : FnI := ⟨1, 5, b_trimmed⟩
def b_column : Sms := (Sms.cons (Sm.ret (Ex.mth .join (Ex.lit (T.str [])) (Exs.cons (Ex.lc (Ex.slc (Ex.var 2) (Ex.var 1) (Ex.bin .add (Ex.var 1) (Ex.lit (T.int 1)))) (Tg.nm 2) .val (Exs.cons (Ex.var 0) Exs.nil) Exs.nil) Exs.nil))) Sms.nil)
def f_column : FnI := ⟨2, 3, b_column⟩
def b_rows_with : Sms := (Sms.cons (Sm.asgC 3 (Ex.lc (Ex.var 4) (Tg.tp (Tgs.cons (Tg.nm 4) (Tgs.cons (Tg.nm 5) Tgs.nil))) .enm (Exs.cons (Ex.var 0) Exs.nil) (Exs.cons (Ex.cmp .eq (Ex.slc (Ex.var 5) (Ex.var 1) (Ex.bin .add (Ex.var 1) (Ex.lit (T.int 1)))) (Ex.var 2)) Exs.nil))) (Sms.cons (Sm.expr (Ex.call i_sn_must (Exs.cons (Ex.and (Ex.cmp .ne (Ex.var 3) (Ex.lst Exs.nil)) (Ex.one (Ex.cmp .eq (Ex.bi .len (Exs.cons (Ex.var 3) Exs.nil)) (Ex.bin .add (Ex.bin .sub (Ex.sub (Ex.var 3) (Ex.neg 1)) (Ex.sub (Ex.var 3) (Ex.lit (T.int 0)))) (Ex.lit (T.int 1)))))) Exs.nil))) (Sms.cons (Sm.ret (Ex.tup (Exs.cons (Ex.sub (Ex.var 3) (Ex.lit (T.int 0))) (Exs.cons (Ex.bin .add (Ex.sub (Ex.var 3) (Ex.neg 1)) (Ex.lit (T.int 1))) Exs.nil)))) Sms.nil)))
def f_rows_with : FnI := ⟨3, 6, b_rows_with⟩
def l_end_of_held_1 : Sms := (Sms.cons (Sm.iff (Ex.cmp .inn (Ex.sub (Ex.var 0) (Ex.var 3)) (Ex.lit (T.str [40, 91]))) (Sms.cons (Sm.asg 2 (Ex.bin .add (Ex.var 2) (Ex.lit (T.int 1)))) Sms.nil) Sms.nil) (Sms.cons (Sm.iff (Ex.cmp .inn (Ex.sub (Ex.var 0) (Ex.var 3)) (Ex.lit (T.str [41, 93]))) (Sms.cons (Sm.asg 2 (Ex.bin .sub (Ex.var 2) (Ex.lit (T.int 1)))) Sms.nil) Sms.nil) (Sms.cons (Sm.iff (Ex.cmp .eq (Ex.var 2) (Ex.lit (T.int 0))) (Sms.cons (Sm.ret (Ex.var 3)) Sms.nil) Sms.nil) Sms.nil)))
def b_end_of_held : Sms := (Sms.cons (Sm.asg 2 (Ex.lit (T.int 0))) (Sms.cons (Sm.for_ (Tg.nm 3) .rng (Exs.cons (Ex.var 1) (Exs.cons (Ex.bi .len (Exs.cons (Ex.var 0) Exs.nil)) Exs.nil)) l_end_of_held_1 [(2, false)] [3]) (Sms.cons (Sm.raise 4) Sms.nil)))
def f_end_of_held : FnI := ⟨2, 4, b_end_of_held⟩
def l_end_of_run_1 : Sms := (Sms.cons (Sm.asg 3 (Ex.bin .add (Ex.var 3) (Ex.lit (T.int 1)))) Sms.nil)
def b_end_of_run : Sms := (Sms.cons (Sm.asg 3 (Ex.var 1)) (Sms.cons (Sm.whl (Ex.and (Ex.cmp .lt (Ex.var 3) (Ex.bi .len (Exs.cons (Ex.var 0) Exs.nil))) (Ex.one (Ex.cmp .inn (Ex.sub (Ex.var 0) (Ex.var 3)) (Ex.var 2)))) l_end_of_run_1 [(3, false)] []) (Sms.cons (Sm.ret (Ex.var 3)) Sms.nil)))
def f_end_of_run : FnI := ⟨3, 4, b_end_of_run⟩
def b_inner_of_root : Sms := (Sms.cons (Sm.unp (Tgs.cons (Tg.nm 2) (Tgs.cons (Tg.nm 3) Tgs.nil)) (Ex.call i_rows_with (Exs.cons (Ex.var 0) (Exs.cons (Ex.var 1) (Exs.cons (Ex.lit (T.str [124])) Exs.nil))))) (Sms.cons (Sm.expr (Ex.call i_sn_must (Exs.cons (Ex.cmp .gt (Ex.var 2) (Ex.lit (T.int 0))) Exs.nil))) (Sms.cons (Sm.asg 4 (Ex.call i_end_of_run (Exs.cons (Ex.sub (Ex.var 0) (Ex.bin .sub (Ex.var 2) (Ex.lit (T.int 1)))) (Exs.cons (Ex.bin .add (Ex.var 1) (Ex.lit (T.int 1))) (Exs.cons (Ex.lit (T.str [95])) Exs.nil))))) (Sms.cons (Sm.ret (Ex.tup (Exs.cons (Ex.var 2) (Exs.cons (Ex.var 3) (Exs.cons (Ex.bin .add (Ex.var 1) (Ex.lit (T.int 1))) (Exs.cons (Ex.var 4) Exs.nil)))))) Sms.nil))))
def f_inner_of_root : FnI := ⟨2, 5, b_inner_of_root⟩
def b_line_row : Sms := (Sms.cons (Sm.asg 1 (Ex.call i_column (Exs.cons (Ex.var 0) (Exs.cons (Ex.lit (T.int 0)) Exs.nil)))) (Sms.cons (Sm.iff (Ex.cmp .inn (Ex.lit (T.str [40])) (Ex.var 1)) (Sms.cons (Sm.unp (Tgs.cons (Tg.nm 3) (Tgs.cons (Tg.nm 4) Tgs.nil)) (Ex.call i_rows_with (Exs.cons (Ex.var 0) (Exs.cons (Ex.lit (T.int 0)) (Exs.cons (Ex.lit (T.str [40])) Exs.nil))))) (Sms.cons (Sm.asg 2 (Ex.call i_end_of_held (Exs.cons (Ex.sub (Ex.var 0) (Ex.var 3)) (Exs.cons (Ex.lit (T.int 0)) Exs.nil)))) (Sms.cons (Sm.ret (Ex.bin .add (Ex.var 3) (Ex.call i_line_row (Exs.cons (Ex.call i_cut_out (Exs.cons (Ex.var 0) (Exs.cons (Ex.var 3) (Exs.cons (Ex.var 4) (Exs.cons (Ex.lit (T.int 1)) (Exs.cons (Ex.var 2) Exs.nil)))))) Exs.nil)))) Sms.nil))) Sms.nil) (Sms.cons (Sm.iff (Ex.cmp .inn (Ex.lit (T.str [91])) (Ex.var 1)) (Sms.cons (Sm.unp (Tgs.cons (Tg.nm 3) (Tgs.cons (Tg.nm 4) Tgs.nil)) (Ex.call i_rows_with (Exs.cons (Ex.var 0) (Exs.cons (Ex.lit (T.int 0)) (Exs.cons (Ex.lit (T.str [91])) Exs.nil))))) (Sms.cons (Sm.ret (Ex.bin .add (Ex.var 3) (Ex.bin .fdv (Ex.bin .sub (Ex.var 4) (Ex.var 3)) (Ex.lit (T.int 2))))) Sms.nil)) Sms.nil) (Sms.cons (Sm.iff (Ex.cmp .inn (Ex.lit (T.str [124])) (Ex.var 1)) (Sms.cons (Sm.unp (Tgs.cons (Tg.nm 3) (Tgs.cons (Tg.nm 4) (Tgs.cons (Tg.nm 5) (Tgs.cons (Tg.nm 6) Tgs.nil)))) (Ex.call i_inner_of_root (Exs.cons (Ex.var 0) (Exs.cons (Ex.lit (T.int 0)) Exs.nil)))) (Sms.cons (Sm.ret (Ex.bin .add (Ex.var 3) (Ex.call i_line_row (Exs.cons (Ex.call i_cut_out (Exs.cons (Ex.var 0) (Exs.cons (Ex.var 3) (Exs.cons (Ex.var 4) (Exs.cons (Ex.var 5) (Exs.cons (Ex.var 6) Exs.nil)))))) Exs.nil)))) Sms.nil)) Sms.nil) (Sms.cons (Sm.asgC 7 (Ex.lc (Ex.var 8) (Tg.tp (Tgs.cons (Tg.nm 8) (Tgs.cons (Tg.nm 9) Tgs.nil))) .enm (Exs.cons (Ex.var 1) Exs.nil) (Exs.cons (Ex.cmp .ne (Ex.var 9) (Ex.lit (T.str [32]))) Exs.nil))) (Sms.cons (Sm.expr (Ex.call i_sn_must (Exs.cons (Ex.cmp .eq (Ex.bi .len (Exs.cons (Ex.var 7) Exs.nil)) (Ex.lit (T.int 1))) Exs.nil))) (Sms.cons (Sm.ret (Ex.sub (Ex.var 7) (Ex.lit (T.int 0)))) Sms.nil)))))))
def f_line_row : FnI := ⟨1, 10, b_line_row⟩
/- not yet: call found[-1].append -/
def b_blank_runs : Sms := (Sms.cons (Sm.raise 9999) Sms.nil)
def f_blank_runs : FnI := ⟨2, 2, b_blank_runs⟩
def b_middle_of : Sms := (Sms.cons (Sm.asg 1 (Ex.op (.mnd 0) (Exs.cons (Ex.lc (Ex.bin .sub (Ex.bi .len (Exs.cons (Ex.var 2) Exs.nil)) (Ex.bi .len (Exs.cons (Ex.mth .lstrip (Ex.var 2) (Exs.cons (Ex.lit (T.str [32])) Exs.nil)) Exs.nil))) (Tg.nm 2) .val (Exs.cons (Ex.var 0) Exs.nil) (Exs.cons (Ex.cmp .ne (Ex.mth .strip (Ex.var 2) (Exs.cons (Ex.lit (T.str [32])) Exs.nil)) (Ex.lit (T.str []))) Exs.nil)) Exs.nil))) (Sms.cons (Sm.ret (Ex.call i_trimmed (Exs.cons (Ex.bi .tup (Exs.cons (Ex.lc (Ex.slc (Ex.var 2) (Ex.var 1) Ex.nop) (Tg.nm 2) .val (Exs.cons (Ex.var 0) Exs.nil) Exs.nil) Exs.nil)) Exs.nil))) Sms.nil))
def f_middle_of : FnI := ⟨1, 3, b_middle_of⟩
def l_covered_1 : Sms := (Sms.cons (Sm.iff (Ex.cmp .inn (Ex.var 3) (Ex.lit (T.str [40, 91]))) (Sms.cons (Sm.asg 2 (Ex.bin .add (Ex.var 2) (Ex.lit (T.int 1)))) Sms.nil) Sms.nil) (Sms.cons (Sm.iff (Ex.cmp .inn (Ex.var 3) (Ex.lit (T.str [41, 93]))) (Sms.cons (Sm.asg 2 (Ex.bin .sub (Ex.var 2) (Ex.lit (T.int 1)))) Sms.nil) Sms.nil) (Sms.cons (Sm.iff (Ex.and (Ex.cmp .eq (Ex.var 3) (Ex.lit (T.str [32]))) (Ex.one (Ex.cmp .gt (Ex.var 2) (Ex.lit (T.int 0))))) (Sms.cons (Sm.asg 3 (Ex.lit (T.str [46]))) Sms.nil) Sms.nil) (Sms.cons (Sm.asg 1 (Ex.bin .add (Ex.var 1) (Ex.var 3))) Sms.nil))))
def b_covered : Sms := (Sms.cons (Sm.asg 1 (Ex.lit (T.str []))) (Sms.cons (Sm.asg 2 (Ex.lit (T.int 0))) (Sms.cons (Sm.for_ (Tg.nm 3) .val (Exs.cons (Ex.var 0) Exs.nil) l_covered_1 [(1, false), (2, false)] [3]) (Sms.cons (Sm.ret (Ex.var 1)) Sms.nil))))
def f_covered : FnI := ⟨1, 4, b_covered⟩
def l_seen_table_2 : Sms := (Sms.cons (Sm.app 8 (Ex.call i_seen (Exs.cons (Ex.call i_middle_of (Exs.cons (Ex.call i_cut_out (Exs.cons (Ex.var 0) (Exs.cons (Ex.var 6) (Exs.cons (Ex.var 7) (Exs.cons (Ex.var 9) (Exs.cons (Ex.var 10) Exs.nil)))))) Exs.nil)) (Exs.cons (Ex.var 1) Exs.nil)))) Sms.nil)
def l_seen_table_1 : Sms := (Sms.cons (Sm.own 8 (Ex.lst Exs.nil)) (Sms.cons (Sm.for_ (Tg.tp (Tgs.cons (Tg.nm 9) (Tgs.cons (Tg.nm 10) Tgs.nil))) .val (Exs.cons (Ex.call i_blank_runs (Exs.cons (Ex.var 2) (Exs.cons (Ex.lit (T.int 2)) Exs.nil))) Exs.nil) l_seen_table_2 [(8, true)] [9, 10]) (Sms.cons (Sm.app 5 (Ex.bi .tup (Exs.cons (Ex.bor 8) Exs.nil))) Sms.nil)))
def b_seen_table : Sms := (Sms.cons (Sm.asgC 2 (Ex.lc (Ex.call i_column (Exs.cons (Ex.lc (Ex.call i_covered (Exs.cons (Ex.var 4) Exs.nil)) (Tg.nm 4) .val (Exs.cons (Ex.var 0) Exs.nil) Exs.nil) (Exs.cons (Ex.var 3) Exs.nil))) (Tg.nm 3) .rng (Exs.cons (Ex.bi .len (Exs.cons (Ex.sub (Ex.var 0) (Ex.lit (T.int 0))) Exs.nil)) Exs.nil) Exs.nil)) (Sms.cons (Sm.own 5 (Ex.lst Exs.nil)) (Sms.cons (Sm.for_ (Tg.tp (Tgs.cons (Tg.nm 6) (Tgs.cons (Tg.nm 7) Tgs.nil))) .val (Exs.cons (Ex.call i_blank_runs (Exs.cons (Ex.bi .lst (Exs.cons (Ex.var 0) Exs.nil)) (Exs.cons (Ex.lit (T.int 1)) Exs.nil))) Exs.nil) l_seen_table_1 [(5, true)] [6, 7, 8, 9, 10]) (Sms.cons (Sm.ret (Ex.tup (Exs.cons (Ex.lit (T.str [116, 97, 98, 108, 101])) (Exs.cons (Ex.bi .tup (Exs.cons (Ex.bor 5) Exs.nil)) Exs.nil)))) Sms.nil))))
def f_seen_table : FnI := ⟨2, 11, b_seen_table⟩
def b_seen_base : Sms := (Sms.cons (Sm.asg 4 (Ex.sub (Ex.var 0) (Ex.var 1))) (Sms.cons (Sm.asg 5 (Ex.sub (Ex.var 4) (Ex.var 2))) (Sms.cons (Sm.iff (Ex.cmp .inn (Ex.var 5) (Ex.lit (T.str [40, 91]))) (Sms.cons (Sm.unp (Tgs.cons (Tg.nm 9) (Tgs.cons (Tg.nm 10) Tgs.nil)) (Ex.call i_rows_with (Exs.cons (Ex.var 0) (Exs.cons (Ex.var 2) (Exs.cons (Ex.var 5) Exs.nil))))) (Sms.cons (Sm.asg 6 (Ex.call i_end_of_held (Exs.cons (Ex.var 4) (Exs.cons (Ex.var 2) Exs.nil)))) (Sms.cons (Sm.asg 7 (Ex.call i_cut_out (Exs.cons (Ex.var 0) (Exs.cons (Ex.var 9) (Exs.cons (Ex.var 10) (Exs.cons (Ex.bin .add (Ex.var 2) (Ex.lit (T.int 1))) (Exs.cons (Ex.var 6) Exs.nil))))))) (Sms.cons (Sm.expr (Ex.call i_sn_must (Exs.cons (Ex.cmp .ne (Ex.sub (Ex.var 7) (Ex.lit (T.int 0))) (Ex.lit (T.str []))) Exs.nil))) (Sms.cons (Sm.asg 8 (Ex.ife (Ex.cmp .eq (Ex.var 5) (Ex.lit (T.str [91]))) (Ex.call i_seen_table (Exs.cons (Ex.var 7) (Exs.cons (Ex.bin .sub (Ex.var 3) (Ex.lit (T.int 1))) Exs.nil))) (Ex.tup (Exs.cons (Ex.lit (T.str [104, 101, 108, 100])) (Exs.cons (Ex.call i_seen (Exs.cons (Ex.var 7) (Exs.cons (Ex.bin .sub (Ex.var 3) (Ex.lit (T.int 1))) Exs.nil))) Exs.nil))))) (Sms.cons (Sm.ret (Ex.tup (Exs.cons (Ex.var 8) (Exs.cons (Ex.bin .add (Ex.var 6) (Ex.lit (T.int 1))) (Exs.cons (Ex.var 9) (Exs.cons (Ex.var 10) Exs.nil)))))) Sms.nil)))))) Sms.nil) (Sms.cons (Sm.iff (Ex.cmp .eq (Ex.var 5) (Ex.lit (T.str [124]))) (Sms.cons (Sm.unp (Tgs.cons (Tg.nm 9) (Tgs.cons (Tg.nm 10) (Tgs.cons (Tg.nm 11) (Tgs.cons (Tg.nm 6) Tgs.nil)))) (Ex.call i_inner_of_root (Exs.cons (Ex.var 0) (Exs.cons (Ex.var 2) Exs.nil)))) (Sms.cons (Sm.expr (Ex.call i_sn_must (Exs.cons (Ex.cmp .gt (Ex.var 6) (Ex.var 11)) Exs.nil))) (Sms.cons (Sm.ret (Ex.tup (Exs.cons (Ex.tup (Exs.cons (Ex.lit (T.str [114, 111, 111, 116])) (Exs.cons (Ex.call i_seen (Exs.cons (Ex.call i_cut_out (Exs.cons (Ex.var 0) (Exs.cons (Ex.var 9) (Exs.cons (Ex.var 10) (Exs.cons (Ex.var 11) (Exs.cons (Ex.var 6) Exs.nil)))))) (Exs.cons (Ex.bin .sub (Ex.var 3) (Ex.lit (T.int 1))) Exs.nil))) Exs.nil))) (Exs.cons (Ex.var 6) (Exs.cons (Ex.bin .sub (Ex.var 9) (Ex.lit (T.int 1))) (Exs.cons (Ex.var 10) Exs.nil)))))) Sms.nil))) Sms.nil) (Sms.cons (Sm.iff (Ex.cmp .eq (Ex.var 5) (Ex.lit (T.str [45]))) (Sms.cons (Sm.asg 6 (Ex.call i_end_of_run (Exs.cons (Ex.var 4) (Exs.cons (Ex.var 2) (Exs.cons (Ex.lit (T.str [45])) Exs.nil))))) (Sms.cons (Sm.asg 12 (Ex.call i_middle_of (Exs.cons (Ex.call i_cut_out (Exs.cons (Ex.var 0) (Exs.cons (Ex.lit (T.int 0)) (Exs.cons (Ex.var 1) (Exs.cons (Ex.var 2) (Exs.cons (Ex.var 6) Exs.nil)))))) Exs.nil))) (Sms.cons (Sm.asg 13 (Ex.call i_middle_of (Exs.cons (Ex.call i_cut_out (Exs.cons (Ex.var 0) (Exs.cons (Ex.bin .add (Ex.var 1) (Ex.lit (T.int 1))) (Exs.cons (Ex.bi .len (Exs.cons (Ex.var 0) Exs.nil)) (Exs.cons (Ex.var 2) (Exs.cons (Ex.var 6) Exs.nil)))))) Exs.nil))) (Sms.cons (Sm.ret (Ex.tup (Exs.cons (Ex.tup (Exs.cons (Ex.lit (T.str [111, 118, 101, 114])) (Exs.cons (Ex.call i_seen (Exs.cons (Ex.var 12) (Exs.cons (Ex.bin .sub (Ex.var 3) (Ex.lit (T.int 1))) Exs.nil))) (Exs.cons (Ex.call i_seen (Exs.cons (Ex.var 13) (Exs.cons (Ex.bin .sub (Ex.var 3) (Ex.lit (T.int 1))) Exs.nil))) Exs.nil)))) (Exs.cons (Ex.var 6) (Exs.cons (Ex.lit (T.int 0)) (Exs.cons (Ex.bi .len (Exs.cons (Ex.var 0) Exs.nil)) Exs.nil)))))) Sms.nil)))) Sms.nil) (Sms.cons (Sm.asg 6 (Ex.call i_end_of_run (Exs.cons (Ex.var 4) (Exs.cons (Ex.var 2) (Exs.cons (Ex.glb ⟨#[]⟩ (T.str [97, 98, 99, 100, 101, 102, 103, 104, 105, 106, 107, 108, 109, 110, 111, 112, 113, 114, 115, 116, 117, 118, 119, 120, 121, 122, 48, 49, 50, 51, 52, 53, 54, 55, 56, 57])) Exs.nil))))) (Sms.cons (Sm.expr (Ex.call i_sn_must (Exs.cons (Ex.cmp .gt (Ex.var 6) (Ex.var 2)) Exs.nil))) (Sms.cons (Sm.ret (Ex.tup (Exs.cons (Ex.tup (Exs.cons (Ex.lit (T.str [119, 111, 114, 100])) (Exs.cons (Ex.slc (Ex.var 4) (Ex.var 2) (Ex.var 6)) Exs.nil))) (Exs.cons (Ex.var 6) (Exs.cons (Ex.var 1) (Exs.cons (Ex.bin .add (Ex.var 1) (Ex.lit (T.int 1))) Exs.nil)))))) Sms.nil))))))))
def f_seen_base : FnI := ⟨4, 14, b_seen_base⟩
def b_is_sign_next : Sms := (Sms.cons (Sm.ret (Ex.and (Ex.cmp .inn (Ex.slc (Ex.var 0) (Ex.bin .add (Ex.var 1) (Ex.lit (T.int 1))) (Ex.bin .add (Ex.var 1) (Ex.lit (T.int 2)))) (Ex.bi .tup (Exs.cons (Ex.glb ⟨#[]⟩ (T.str [43, 45, 42, 61, 60])) Exs.nil))) (Ex.one (Ex.cmp .eq (Ex.slc (Ex.var 0) (Ex.bin .add (Ex.var 1) (Ex.lit (T.int 2))) (Ex.bin .add (Ex.var 1) (Ex.lit (T.int 3)))) (Ex.lit (T.str [32])))))) Sms.nil)
def f_is_sign_next : FnI := ⟨2, 2, b_is_sign_next⟩
def b_seen_or_none : Sms := (Sms.cons (Sm.iff (Ex.bi .all (Exs.cons (Ex.lc (Ex.cmp .eq (Ex.mth .strip (Ex.var 2) (Exs.cons (Ex.lit (T.str [32])) Exs.nil)) (Ex.lit (T.str []))) (Tg.nm 2) .val (Exs.cons (Ex.var 0) Exs.nil) Exs.nil) Exs.nil)) (Sms.cons (Sm.ret (Ex.lit T.non)) Sms.nil) Sms.nil) (Sms.cons (Sm.ret (Ex.call i_seen (Exs.cons (Ex.call i_trimmed (Exs.cons (Ex.var 0) Exs.nil)) (Exs.cons (Ex.var 1) Exs.nil)))) Sms.nil))
def f_seen_or_none : FnI := ⟨2, 3, b_seen_or_none⟩
def l_seen_item_1 : Sms := (Sms.cons (Sm.asg 9 (Ex.bin .add (Ex.var 9) (Ex.lit (T.int 1)))) Sms.nil)
def b_seen_item : Sms := (Sms.cons (Sm.unp (Tgs.cons (Tg.nm 4) (Tgs.cons (Tg.nm 5) (Tgs.cons (Tg.nm 6) (Tgs.cons (Tg.nm 7) Tgs.nil)))) (Ex.call i_seen_base (Exs.cons (Ex.var 0) (Exs.cons (Ex.var 1) (Exs.cons (Ex.var 2) (Exs.cons (Ex.var 3) Exs.nil)))))) (Sms.cons (Sm.asg 8 (Ex.sub (Ex.var 0) (Ex.var 1))) (Sms.cons (Sm.asg 9 (Ex.var 5)) (Sms.cons (Sm.whl (Ex.and (Ex.cmp .lt (Ex.var 9) (Ex.bi .len (Exs.cons (Ex.var 8) Exs.nil))) (Ex.and (Ex.cmp .eq (Ex.sub (Ex.var 8) (Ex.var 9)) (Ex.lit (T.str [32]))) (Ex.one (Ex.not (Ex.call i_is_sign_next (Exs.cons (Ex.var 8) (Exs.cons (Ex.var 9) Exs.nil))))))) l_seen_item_1 [(9, false)] []) (Sms.cons (Sm.iff (Ex.cmp .eq (Ex.var 9) (Ex.var 5)) (Sms.cons (Sm.ret (Ex.tup (Exs.cons (Ex.var 4) (Exs.cons (Ex.var 5) Exs.nil)))) Sms.nil) Sms.nil) (Sms.cons (Sm.par2 10 11 (Ex.call i_cut_out (Exs.cons (Ex.var 0) (Exs.cons (Ex.lit (T.int 0)) (Exs.cons (Ex.var 6) (Exs.cons (Ex.var 5) (Exs.cons (Ex.var 9) Exs.nil)))))) (Ex.call i_cut_out (Exs.cons (Ex.var 0) (Exs.cons (Ex.var 7) (Exs.cons (Ex.bi .len (Exs.cons (Ex.var 0) Exs.nil)) (Exs.cons (Ex.var 5) (Exs.cons (Ex.var 9) Exs.nil))))))) (Sms.cons (Sm.asgC 12 (Ex.lc (Ex.call i_seen_or_none (Exs.cons (Ex.var 13) (Exs.cons (Ex.bin .sub (Ex.var 3) (Ex.lit (T.int 1))) Exs.nil))) (Tg.nm 13) .val (Exs.cons (Ex.tup (Exs.cons (Ex.var 10) (Exs.cons (Ex.var 11) Exs.nil))) Exs.nil) Exs.nil)) (Sms.cons (Sm.expr (Ex.call i_sn_must (Exs.cons (Ex.cmp .ne (Ex.var 12) (Ex.lst (Exs.cons (Ex.lit T.non) (Exs.cons (Ex.lit T.non) Exs.nil)))) Exs.nil))) (Sms.cons (Sm.ret (Ex.tup (Exs.cons (Ex.tup (Exs.cons (Ex.lit (T.str [115, 99, 114, 105, 112, 116])) (Exs.cons (Ex.var 4) (Exs.cons (Ex.sub (Ex.var 12) (Ex.lit (T.int 0))) (Exs.cons (Ex.sub (Ex.var 12) (Ex.lit (T.int 1))) Exs.nil))))) (Exs.cons (Ex.var 9) Exs.nil)))) Sms.nil)))))))))
def f_seen_item : FnI := ⟨4, 14, b_seen_item⟩
def l_seen_1 : Sms := (Sms.cons (Sm.asg 7 (Ex.slc (Ex.var 3) (Ex.bin .add (Ex.var 5) (Ex.lit (T.int 1))) (Ex.bin .add (Ex.var 5) (Ex.lit (T.int 2))))) (Sms.cons (Sm.expr (Ex.call i_sn_must (Exs.cons (Ex.and (Ex.cmp .eq (Ex.sub (Ex.var 3) (Ex.var 5)) (Ex.lit (T.str [32]))) (Ex.and (Ex.cmp .ne (Ex.var 7) (Ex.lit (T.str []))) (Ex.and (Ex.cmp .inn (Ex.var 7) (Ex.glb ⟨#[]⟩ (T.str [43, 45, 42, 61, 60]))) (Ex.one (Ex.cmp .eq (Ex.slc (Ex.var 3) (Ex.bin .add (Ex.var 5) (Ex.lit (T.int 2))) (Ex.bin .add (Ex.var 5) (Ex.lit (T.int 3)))) (Ex.lit (T.str [32]))))))) Exs.nil))) (Sms.cons (Sm.expr (Ex.call i_sn_must (Exs.cons (Ex.cmp .lt (Ex.bin .add (Ex.var 5) (Ex.lit (T.int 3))) (Ex.bi .len (Exs.cons (Ex.var 3) Exs.nil))) Exs.nil))) (Sms.cons (Sm.unp (Tgs.cons (Tg.nm 8) (Tgs.cons (Tg.nm 9) Tgs.nil)) (Ex.call i_seen_item (Exs.cons (Ex.var 0) (Exs.cons (Ex.var 2) (Exs.cons (Ex.bin .add (Ex.var 5) (Ex.lit (T.int 3))) (Exs.cons (Ex.var 1) Exs.nil)))))) (Sms.cons (Sm.app 6 (Ex.tup (Exs.cons (Ex.var 7) (Exs.cons (Ex.var 8) Exs.nil)))) (Sms.cons (Sm.asg 5 (Ex.var 9)) Sms.nil))))))
def b_seen : Sms := (Sms.cons (Sm.expr (Ex.call i_sn_must (Exs.cons (Ex.and (Ex.cmp .gt (Ex.var 1) (Ex.lit (T.int 0))) (Ex.and (Ex.cmp .ne (Ex.var 0) (Ex.tup Exs.nil)) (Ex.one (Ex.cmp .ne (Ex.sub (Ex.var 0) (Ex.lit (T.int 0))) (Ex.lit (T.str [])))))) Exs.nil))) (Sms.cons (Sm.asg 2 (Ex.call i_line_row (Exs.cons (Ex.var 0) Exs.nil))) (Sms.cons (Sm.asg 3 (Ex.sub (Ex.var 0) (Ex.var 2))) (Sms.cons (Sm.unp (Tgs.cons (Tg.nm 4) (Tgs.cons (Tg.nm 5) Tgs.nil)) (Ex.call i_seen_item (Exs.cons (Ex.var 0) (Exs.cons (Ex.var 2) (Exs.cons (Ex.lit (T.int 0)) (Exs.cons (Ex.var 1) Exs.nil)))))) (Sms.cons (Sm.own 6 (Ex.lst Exs.nil)) (Sms.cons (Sm.whl (Ex.cmp .lt (Ex.var 5) (Ex.bi .len (Exs.cons (Ex.var 3) Exs.nil))) l_seen_1 [(5, false), (6, true)] [7, 8, 9]) (Sms.cons (Sm.iff (Ex.not (Ex.bor 6)) (Sms.cons (Sm.ret (Ex.var 4)) Sms.nil) Sms.nil) (Sms.cons (Sm.ret (Ex.tup (Exs.cons (Ex.lit (T.str [99, 104, 97, 105, 110])) (Exs.cons (Ex.var 4) (Exs.cons (Ex.bi .tup (Exs.cons (Ex.bor 6) Exs.nil)) Exs.nil))))) Sms.nil))))))))
def f_seen : FnI := ⟨2, 10, b_seen⟩
def b_read_picture : Sms := (Sms.cons (Sm.expr (Ex.call i_sn_must (Exs.cons (Ex.and (Ex.cmp .ne (Ex.var 0) (Ex.tup Exs.nil)) (Ex.one (Ex.cmp .eq (Ex.op .lenS (Exs.cons (Ex.lc (Ex.bi .len (Exs.cons (Ex.var 1) Exs.nil)) (Tg.nm 1) .val (Exs.cons (Ex.var 0) Exs.nil) Exs.nil) Exs.nil)) (Ex.lit (T.int 1))))) Exs.nil))) (Sms.cons (Sm.asg 2 (Ex.call i_seen (Exs.cons (Ex.var 0) (Exs.cons (Ex.glb ⟨#[]⟩ (T.int 5)) Exs.nil)))) (Sms.cons (Sm.expr (Ex.call i_sn_must (Exs.cons (Ex.and (Ex.call i_is_sum (Exs.cons (Ex.var 2) Exs.nil)) (Ex.one (Ex.cmp .eq (Ex.call i_picture (Exs.cons (Ex.var 2) Exs.nil)) (Ex.var 0)))) Exs.nil))) (Sms.cons (Sm.ret (Ex.var 2)) Sms.nil))))
def f_read_picture : FnI := ⟨1, 3, b_read_picture⟩
def b_line_wide : Sms := (Sms.cons (Sm.asg 3 (Ex.bi .sum (Exs.cons (Ex.lc (Ex.bin .add (Ex.sub (Ex.call i_box (Exs.cons (Ex.var 5) Exs.nil)) (Ex.lit (T.int 0))) (Ex.glb ⟨#[]⟩ (T.int 3))) (Tg.tp (Tgs.cons (Tg.nm 4) (Tgs.cons (Tg.nm 5) Tgs.nil))) .val (Exs.cons (Ex.slc (Ex.sub (Ex.var 0) (Ex.lit (T.int 2))) (Ex.bi .max (Exs.cons (Ex.var 1) (Exs.cons (Ex.lit (T.int 0)) Exs.nil))) (Ex.var 2)) Exs.nil) Exs.nil) Exs.nil))) (Sms.cons (Sm.iff (Ex.cmp .lt (Ex.var 1) (Ex.lit (T.int 0))) (Sms.cons (Sm.ret (Ex.bin .add (Ex.var 3) (Ex.sub (Ex.call i_box (Exs.cons (Ex.sub (Ex.var 0) (Ex.lit (T.int 1))) Exs.nil)) (Ex.lit (T.int 0))))) Sms.nil) Sms.nil) (Sms.cons (Sm.ret (Ex.bin .sub (Ex.var 3) (Ex.lit (T.int 1)))) Sms.nil)))
def f_line_wide : FnI := ⟨3, 6, b_line_wide⟩
/- not yet: Dict {many: (0, 0, ())} -/
def b_chosen : Sms := (Sms.cons (Sm.raise 9999) Sms.nil)
def f_chosen : FnI := ⟨2, 2, b_chosen⟩
def b_breaks : Sms := (Sms.cons (Sm.iff (Ex.cmp .ne (Ex.call i_kind (Exs.cons (Ex.var 0) Exs.nil)) (Ex.lit (T.str [99, 104, 97, 105, 110]))) (Sms.cons (Sm.iff (Ex.cmp .gt (Ex.sub (Ex.call i_box (Exs.cons (Ex.var 0) Exs.nil)) (Ex.lit (T.int 0))) (Ex.var 1)) (Sms.cons (Sm.raise 5) Sms.nil) Sms.nil) (Sms.cons (Sm.ret (Ex.tup Exs.nil)) Sms.nil)) Sms.nil) (Sms.cons (Sm.asg 2 (Ex.call i_chosen (Exs.cons (Ex.var 0) (Exs.cons (Ex.var 1) Exs.nil)))) (Sms.cons (Sm.iff (Ex.cmp .nin (Ex.neg 1) (Ex.var 2)) (Sms.cons (Sm.raise 5) Sms.nil) Sms.nil) (Sms.cons (Sm.ret (Ex.sub (Ex.sub (Ex.var 2) (Ex.neg 1)) (Ex.lit (T.int 2)))) Sms.nil))))
def f_breaks : FnI := ⟨2, 3, b_breaks⟩
def b_line_rows : Sms := (Sms.cons (Sm.iff (Ex.cmp .lt (Ex.var 1) (Ex.lit (T.int 0))) (Sms.cons (Sm.iff (Ex.cmp .eq (Ex.var 2) (Ex.lit (T.int 0))) (Sms.cons (Sm.ret (Ex.call i_picture (Exs.cons (Ex.sub (Ex.var 0) (Ex.lit (T.int 1))) Exs.nil))) Sms.nil) Sms.nil) (Sms.cons (Sm.ret (Ex.call i_picture (Exs.cons (Ex.tup (Exs.cons (Ex.lit (T.str [99, 104, 97, 105, 110])) (Exs.cons (Ex.sub (Ex.var 0) (Ex.lit (T.int 1))) (Exs.cons (Ex.slc (Ex.sub (Ex.var 0) (Ex.lit (T.int 2))) Ex.nop (Ex.var 2)) Exs.nil)))) Exs.nil))) Sms.nil)) Sms.nil) (Sms.cons (Sm.unp (Tgs.cons (Tg.nm 3) (Tgs.cons (Tg.nm 4) Tgs.nil)) (Ex.sub (Ex.sub (Ex.var 0) (Ex.lit (T.int 2))) (Ex.var 1))) (Sms.cons (Sm.asg 5 (Ex.var 4)) (Sms.cons (Sm.iff (Ex.cmp .gt (Ex.var 2) (Ex.bin .add (Ex.var 1) (Ex.lit (T.int 1)))) (Sms.cons (Sm.asg 5 (Ex.tup (Exs.cons (Ex.lit (T.str [99, 104, 97, 105, 110])) (Exs.cons (Ex.var 4) (Exs.cons (Ex.slc (Ex.sub (Ex.var 0) (Ex.lit (T.int 2))) (Ex.bin .add (Ex.var 1) (Ex.lit (T.int 1))) (Ex.var 2)) Exs.nil))))) Sms.nil) Sms.nil) (Sms.cons (Sm.unp (Tgs.cons (Tg.nm 6) (Tgs.cons (Tg.nm 7) (Tgs.cons (Tg.nm 8) Tgs.nil))) (Ex.call i_box (Exs.cons (Ex.var 5) Exs.nil))) (Sms.cons (Sm.ret (Ex.call i_beside (Exs.cons (Ex.lst (Exs.cons (Ex.bin .add (Ex.bin .add (Ex.call i_blanks (Exs.cons (Ex.lit (T.int 2)) (Exs.cons (Ex.var 7) Exs.nil))) (Ex.tup (Exs.cons (Ex.bin .add (Ex.var 3) (Ex.lit (T.str [32]))) Exs.nil))) (Ex.call i_blanks (Exs.cons (Ex.lit (T.int 2)) (Exs.cons (Ex.var 8) Exs.nil)))) (Exs.cons (Ex.call i_raised (Exs.cons (Ex.var 5) (Exs.cons (Ex.var 7) (Exs.cons (Ex.var 8) Exs.nil)))) Exs.nil))) Exs.nil))) Sms.nil))))))
def f_line_rows : FnI := ⟨3, 9, b_line_rows⟩
def l_broken_1 : Sms := (Sms.cons (Sm.asg 8 (Ex.bin .add (Ex.var 8) (Ex.bi .tup (Exs.cons (Ex.lc (Ex.bin .add (Ex.var 10) (Ex.bin .mul (Ex.lit (T.str [32])) (Ex.bin .sub (Ex.var 1) (Ex.bi .len (Exs.cons (Ex.var 10) Exs.nil))))) (Tg.nm 10) .val (Exs.cons (Ex.var 9) Exs.nil) Exs.nil) Exs.nil)))) Sms.nil)
def b_broken : Sms := (Sms.cons (Sm.asg 2 (Ex.call i_breaks (Exs.cons (Ex.var 0) (Exs.cons (Ex.var 1) Exs.nil)))) (Sms.cons (Sm.iff (Ex.cmp .ne (Ex.call i_kind (Exs.cons (Ex.var 0) Exs.nil)) (Ex.lit (T.str [99, 104, 97, 105, 110]))) (Sms.cons (Sm.asg 3 (Ex.lst (Exs.cons (Ex.call i_picture (Exs.cons (Ex.var 0) Exs.nil)) Exs.nil))) Sms.nil) (Sms.cons (Sm.asg 4 (Ex.bin .add (Ex.tup (Exs.cons (Ex.neg 1) Exs.nil)) (Ex.var 2))) (Sms.cons (Sm.asg 5 (Ex.bin .add (Ex.var 2) (Ex.tup (Exs.cons (Ex.bi .len (Exs.cons (Ex.sub (Ex.var 0) (Ex.lit (T.int 2))) Exs.nil)) Exs.nil)))) (Sms.cons (Sm.asgC 3 (Ex.lc (Ex.call i_line_rows (Exs.cons (Ex.var 0) (Exs.cons (Ex.var 6) (Exs.cons (Ex.var 7) Exs.nil)))) (Tg.tp (Tgs.cons (Tg.nm 6) (Tgs.cons (Tg.nm 7) Tgs.nil))) .zip (Exs.cons (Ex.var 4) (Exs.cons (Ex.var 5) Exs.nil)) Exs.nil)) Sms.nil)))) (Sms.cons (Sm.asg 8 (Ex.tup Exs.nil)) (Sms.cons (Sm.for_ (Tg.nm 9) .val (Exs.cons (Ex.var 3) Exs.nil) l_broken_1 [(8, false)] [9]) (Sms.cons (Sm.ret (Ex.var 8)) Sms.nil)))))
def f_broken : FnI := ⟨2, 11, b_broken⟩
def l_sign_at_1 : Sms := (Sms.cons (Sm.iff (Ex.cmp .eq (Ex.var 3) (Ex.var 1)) (Sms.cons (Sm.ret (Ex.var 2)) Sms.nil) Sms.nil) (Sms.cons (Sm.asg 2 (Ex.bin .add (Ex.bin .add (Ex.var 2) (Ex.sub (Ex.call i_box (Exs.cons (Ex.var 4) Exs.nil)) (Ex.lit (T.int 0)))) (Ex.glb ⟨#[]⟩ (T.int 3)))) Sms.nil))
def b_sign_at : Sms := (Sms.cons (Sm.iff (Ex.cmp .ne (Ex.call i_kind (Exs.cons (Ex.var 0) Exs.nil)) (Ex.lit (T.str [99, 104, 97, 105, 110]))) (Sms.cons (Sm.ret (Ex.lit T.non)) Sms.nil) Sms.nil) (Sms.cons (Sm.asg 2 (Ex.bin .add (Ex.sub (Ex.call i_box (Exs.cons (Ex.sub (Ex.var 0) (Ex.lit (T.int 1))) Exs.nil)) (Ex.lit (T.int 0))) (Ex.lit (T.int 1)))) (Sms.cons (Sm.for_ (Tg.tp (Tgs.cons (Tg.nm 3) (Tgs.cons (Tg.nm 4) Tgs.nil))) .val (Exs.cons (Ex.sub (Ex.var 0) (Ex.lit (T.int 2))) Exs.nil) l_sign_at_1 [(2, false)] [3, 4]) (Sms.cons (Sm.ret (Ex.lit T.non)) Sms.nil))))
def f_sign_at : FnI := ⟨2, 5, b_sign_at⟩
def l_lined_1 : Sms := (Sms.cons (Sm.iff (Ex.bor 6) (Sms.cons (Sm.app 6 (Ex.lit (T.str []))) Sms.nil) Sms.nil) (Sms.cons (Sm.asg 7 (Ex.ife (Ex.cmp .is (Ex.var 5) (Ex.lit T.non)) (Ex.lit (T.int 0)) (Ex.bin .sub (Ex.var 4) (Ex.var 5)))) (Sms.cons (Sm.ext 6 (Ex.lc (Ex.bin .add (Ex.bin .mul (Ex.lit (T.str [32])) (Ex.var 7)) (Ex.var 8)) (Tg.nm 8) .val (Exs.cons (Ex.call i_picture (Exs.cons (Ex.var 3) Exs.nil)) Exs.nil) Exs.nil)) Sms.nil)))
def b_lined : Sms := (Sms.cons (Sm.asgC 2 (Ex.lc (Ex.call i_sign_at (Exs.cons (Ex.var 3) (Exs.cons (Ex.var 1) Exs.nil))) (Tg.nm 3) .val (Exs.cons (Ex.var 0) Exs.nil) Exs.nil)) (Sms.cons (Sm.asg 4 (Ex.op (.mxd 0) (Exs.cons (Ex.lc (Ex.var 5) (Tg.nm 5) .val (Exs.cons (Ex.var 2) Exs.nil) (Exs.cons (Ex.cmp .isn (Ex.var 5) (Ex.lit T.non)) Exs.nil)) Exs.nil))) (Sms.cons (Sm.own 6 (Ex.lst Exs.nil)) (Sms.cons (Sm.for_ (Tg.tp (Tgs.cons (Tg.nm 3) (Tgs.cons (Tg.nm 5) Tgs.nil))) .zip (Exs.cons (Ex.var 0) (Exs.cons (Ex.var 2) Exs.nil)) l_lined_1 [(6, true)] [3, 5, 7]) (Sms.cons (Sm.asg 9 (Ex.bi .max (Exs.cons (Ex.lc (Ex.bi .len (Exs.cons (Ex.var 8) Exs.nil)) (Tg.nm 8) .val (Exs.cons (Ex.bor 6) Exs.nil) Exs.nil) Exs.nil))) (Sms.cons (Sm.ret (Ex.bi .tup (Exs.cons (Ex.lc (Ex.bin .add (Ex.var 8) (Ex.bin .mul (Ex.lit (T.str [32])) (Ex.bin .sub (Ex.var 9) (Ex.bi .len (Exs.cons (Ex.var 8) Exs.nil))))) (Tg.nm 8) .val (Exs.cons (Ex.bor 6) Exs.nil) Exs.nil) Exs.nil))) Sms.nil))))))
def f_lined : FnI := ⟨2, 10, b_lined⟩
def b_fitted : Sms := (Sms.cons (Sm.iff (Ex.call i_may_be (Exs.cons (Ex.var 0) (Exs.cons (Ex.var 1) (Exs.cons (Ex.var 2) Exs.nil)))) (Sms.cons (Sm.ret (Ex.var 2)) Sms.nil) Sms.nil) (Sms.cons (Sm.ret (Ex.tup (Exs.cons (Ex.lit (T.str [104, 101, 108, 100])) (Exs.cons (Ex.var 2) Exs.nil)))) Sms.nil))
def f_fitted : FnI := ⟨3, 3, b_fitted⟩
def b_put_in : Sms := (Sms.cons (Sm.iff (Ex.cmp .eq (Ex.var 0) (Ex.tup (Exs.cons (Ex.lit (T.str [119, 111, 114, 100])) (Exs.cons (Ex.var 1) Exs.nil)))) (Sms.cons (Sm.ret (Ex.var 2)) Sms.nil) Sms.nil) (Sms.cons (Sm.asgC 3 (Ex.lc (Ex.call i_fitted (Exs.cons (Ex.var 0) (Exs.cons (Ex.var 4) (Exs.cons (Ex.call i_put_in (Exs.cons (Ex.var 5) (Exs.cons (Ex.var 1) (Exs.cons (Ex.var 2) Exs.nil)))) Exs.nil)))) (Tg.tp (Tgs.cons (Tg.nm 4) (Tgs.cons (Tg.nm 5) Tgs.nil))) .enm (Exs.cons (Ex.call i_parts (Exs.cons (Ex.var 0) Exs.nil)) Exs.nil) Exs.nil)) (Sms.cons (Sm.ret (Ex.call i_with_parts (Exs.cons (Ex.var 0) (Exs.cons (Ex.bi .tup (Exs.cons (Ex.var 3) Exs.nil)) Exs.nil)))) Sms.nil)))
def f_put_in : FnI := ⟨3, 6, b_put_in⟩
def l_opened_1 : Sms := (Sms.cons (Sm.iff (Ex.and (Ex.cmp .eq (Ex.call i_kind (Exs.cons (Ex.sub (Ex.var 2) (Ex.lit (T.int 1))) Exs.nil)) (Ex.lit (T.str [99, 104, 97, 105, 110]))) (Ex.one (Ex.cmp .eq (Ex.call i_kind (Exs.cons (Ex.var 0) Exs.nil)) (Ex.lit (T.str [99, 104, 97, 105, 110]))))) (Sms.cons (Sm.ret (Ex.var 2)) Sms.nil) Sms.nil) (Sms.cons (Sm.asg 2 (Ex.sub (Ex.var 2) (Ex.lit (T.int 1)))) Sms.nil))
theorem u_opened_1 {c : Call} {ρ : Lenv} {S : Store} : exs c l_opened_1 ρ S = exs c (Sms.cons (Sm.iff (Ex.and (Ex.cmp .eq (Ex.call i_kind (Exs.cons (Ex.sub (Ex.var 2) (Ex.lit (T.int 1))) Exs.nil)) (Ex.lit (T.str [99, 104, 97, 105, 110]))) (Ex.one (Ex.cmp .eq (Ex.call i_kind (Exs.cons (Ex.var 0) Exs.nil)) (Ex.lit (T.str [99, 104, 97, 105, 110]))))) (Sms.cons (Sm.ret (Ex.var 2)) Sms.nil) Sms.nil) (Sms.cons (Sm.asg 2 (Ex.sub (Ex.var 2) (Ex.lit (T.int 1)))) Sms.nil)) ρ S := prf rfl
def b_opened : Sms := (Sms.cons (Sm.whl (Ex.and (Ex.cmp .eq (Ex.call i_kind (Exs.cons (Ex.var 2) Exs.nil)) (Ex.lit (T.str [104, 101, 108, 100]))) (Ex.one (Ex.not (Ex.and (Ex.cmp .eq (Ex.call i_kind (Exs.cons (Ex.var 0) Exs.nil)) (Ex.lit (T.str [115, 99, 114, 105, 112, 116]))) (Ex.one (Ex.cmp .eq (Ex.var 1) (Ex.lit (T.int 0)))))))) l_opened_1 [(2, false)] []) (Sms.cons (Sm.ret (Ex.var 2)) Sms.nil))
theorem u_opened {c : Call} {ρ : Lenv} {S : Store} : exs c b_opened ρ S = exs c (Sms.cons (Sm.whl (Ex.and (Ex.cmp .eq (Ex.call i_kind (Exs.cons (Ex.var 2) Exs.nil)) (Ex.lit (T.str [104, 101, 108, 100]))) (Ex.one (Ex.not (Ex.and (Ex.cmp .eq (Ex.call i_kind (Exs.cons (Ex.var 0) Exs.nil)) (Ex.lit (T.str [115, 99, 114, 105, 112, 116]))) (Ex.one (Ex.cmp .eq (Ex.var 1) (Ex.lit (T.int 0)))))))) l_opened_1 [(2, false)] []) (Sms.cons (Sm.ret (Ex.var 2)) Sms.nil)) ρ S := prf rfl
def f_opened : FnI := ⟨3, 3, b_opened⟩
def l_freed_1 : Sms := (Sms.cons (Sm.asg 0 (Ex.sub (Ex.var 0) (Ex.lit (T.int 1)))) Sms.nil)
theorem u_freed_1 {c : Call} {ρ : Lenv} {S : Store} : exs c l_freed_1 ρ S = exs c (Sms.cons (Sm.asg 0 (Ex.sub (Ex.var 0) (Ex.lit (T.int 1)))) Sms.nil) ρ S := prf rfl
def b_freed : Sms := (Sms.cons (Sm.whl (Ex.cmp .eq (Ex.call i_kind (Exs.cons (Ex.var 0) Exs.nil)) (Ex.lit (T.str [104, 101, 108, 100]))) l_freed_1 [(0, false)] []) (Sms.cons (Sm.ret (Ex.call i_freed_parts (Exs.cons (Ex.var 0) Exs.nil))) Sms.nil))
theorem u_freed {c : Call} {ρ : Lenv} {S : Store} : exs c b_freed ρ S = exs c (Sms.cons (Sm.whl (Ex.cmp .eq (Ex.call i_kind (Exs.cons (Ex.var 0) Exs.nil)) (Ex.lit (T.str [104, 101, 108, 100]))) l_freed_1 [(0, false)] []) (Sms.cons (Sm.ret (Ex.call i_freed_parts (Exs.cons (Ex.var 0) Exs.nil))) Sms.nil)) ρ S := prf rfl
def f_freed : FnI := ⟨1, 1, b_freed⟩
def b_freed_parts : Sms := (Sms.cons (Sm.asgC 1 (Ex.lc (Ex.call i_freed_parts (Exs.cons (Ex.call i_opened (Exs.cons (Ex.var 0) (Exs.cons (Ex.var 2) (Exs.cons (Ex.var 3) Exs.nil)))) Exs.nil)) (Tg.tp (Tgs.cons (Tg.nm 2) (Tgs.cons (Tg.nm 3) Tgs.nil))) .enm (Exs.cons (Ex.call i_parts (Exs.cons (Ex.var 0) Exs.nil)) Exs.nil) Exs.nil)) (Sms.cons (Sm.ret (Ex.call i_with_parts (Exs.cons (Ex.var 0) (Exs.cons (Ex.bi .tup (Exs.cons (Ex.var 1) Exs.nil)) Exs.nil)))) Sms.nil))
theorem u_freed_parts {c : Call} {ρ : Lenv} {S : Store} : exs c b_freed_parts ρ S = exs c (Sms.cons (Sm.asgC 1 (Ex.lc (Ex.call i_freed_parts (Exs.cons (Ex.call i_opened (Exs.cons (Ex.var 0) (Exs.cons (Ex.var 2) (Exs.cons (Ex.var 3) Exs.nil)))) Exs.nil)) (Tg.tp (Tgs.cons (Tg.nm 2) (Tgs.cons (Tg.nm 3) Tgs.nil))) .enm (Exs.cons (Ex.call i_parts (Exs.cons (Ex.var 0) Exs.nil)) Exs.nil) Exs.nil)) (Sms.cons (Sm.ret (Ex.call i_with_parts (Exs.cons (Ex.var 0) (Exs.cons (Ex.bi .tup (Exs.cons (Ex.var 1) Exs.nil)) Exs.nil)))) Sms.nil)) ρ S := prf rfl
def f_freed_parts : FnI := ⟨1, 4, b_freed_parts⟩
/- not yet: call sorted -/
def b_words : Sms := (Sms.cons (Sm.raise 9999) Sms.nil)
def f_words : FnI := ⟨1, 1, b_words⟩
def l_longest_1 : Sms := (Sms.cons (Sm.asg 3 (Ex.call i_box (Exs.cons (Ex.call i_part_at (Exs.cons (Ex.var 0) (Exs.cons (Ex.var 2) Exs.nil))) Exs.nil))) (Sms.cons (Sm.iff (Ex.or (Ex.cmp .is (Ex.var 1) (Ex.lit T.non)) (Ex.one (Ex.cmp .gt (Ex.bin .mul (Ex.sub (Ex.var 3) (Ex.lit (T.int 0))) (Ex.call i_rows_of (Exs.cons (Ex.var 3) Exs.nil))) (Ex.sub (Ex.var 1) (Ex.lit (T.int 0)))))) (Sms.cons (Sm.asg 1 (Ex.tup (Exs.cons (Ex.bin .mul (Ex.sub (Ex.var 3) (Ex.lit (T.int 0))) (Ex.call i_rows_of (Exs.cons (Ex.var 3) Exs.nil))) (Exs.cons (Ex.var 2) Exs.nil)))) Sms.nil) Sms.nil) Sms.nil))
theorem u_longest_1 {c : Call} {ρ : Lenv} {S : Store} : exs c l_longest_1 ρ S = exs c (Sms.cons (Sm.asg 3 (Ex.call i_box (Exs.cons (Ex.call i_part_at (Exs.cons (Ex.var 0) (Exs.cons (Ex.var 2) Exs.nil))) Exs.nil))) (Sms.cons (Sm.iff (Ex.or (Ex.cmp .is (Ex.var 1) (Ex.lit T.non)) (Ex.one (Ex.cmp .gt (Ex.bin .mul (Ex.sub (Ex.var 3) (Ex.lit (T.int 0))) (Ex.call i_rows_of (Exs.cons (Ex.var 3) Exs.nil))) (Ex.sub (Ex.var 1) (Ex.lit (T.int 0)))))) (Sms.cons (Sm.asg 1 (Ex.tup (Exs.cons (Ex.bin .mul (Ex.sub (Ex.var 3) (Ex.lit (T.int 0))) (Ex.call i_rows_of (Exs.cons (Ex.var 3) Exs.nil))) (Exs.cons (Ex.var 2) Exs.nil)))) Sms.nil) Sms.nil) Sms.nil)) ρ S := prf rfl
theorem L_longest_1 {c : Call} {ρ : Lenv} {S : Store} {α : Type} {f : α → T} {l : List α} (g : (((Lens.v 1)).get (wipeR ρ [2, 3])).isSome = true) : forI c (Tg.nm 2) l_longest_1 [(1, false)] [2, 3] ρ S (some (l.map f)) = (forG (lpG (lv := [(1, false)]) (Lens.v 1) c (Tg.nm 2) l_longest_1 [2, 3] f (wipeR ρ [2, 3])) l ((((Lens.v 1)).get (wipeR ρ [2, 3])).getD default) S).inj (fun b => ((Lens.v 1)).put b (wipeR ρ [2, 3])) (wipeR (wipeR ρ [2, 3]) [1]) := forI_lens' (lv := [(1, false)]) (Lens.v 1) (by decide +kernel) g
def b_longest : Sms := (Sms.cons (Sm.asg 1 (Ex.lit T.non)) (Sms.cons (Sm.for_ (Tg.nm 2) .val (Exs.cons (Ex.slc (Ex.call i_ways (Exs.cons (Ex.var 0) Exs.nil)) (Ex.lit (T.int 1)) Ex.nop) Exs.nil) l_longest_1 [(1, false)] [2, 3]) (Sms.cons (Sm.iff (Ex.cmp .is (Ex.var 1) (Ex.lit T.non)) (Sms.cons (Sm.ret (Ex.lit T.non)) Sms.nil) Sms.nil) (Sms.cons (Sm.ret (Ex.sub (Ex.var 1) (Ex.lit (T.int 1)))) Sms.nil))))
theorem u_longest {c : Call} {ρ : Lenv} {S : Store} : exs c b_longest ρ S = exs c (Sms.cons (Sm.asg 1 (Ex.lit T.non)) (Sms.cons (Sm.for_ (Tg.nm 2) .val (Exs.cons (Ex.slc (Ex.call i_ways (Exs.cons (Ex.var 0) Exs.nil)) (Ex.lit (T.int 1)) Ex.nop) Exs.nil) l_longest_1 [(1, false)] [2, 3]) (Sms.cons (Sm.iff (Ex.cmp .is (Ex.var 1) (Ex.lit T.non)) (Sms.cons (Sm.ret (Ex.lit T.non)) Sms.nil) Sms.nil) (Sms.cons (Sm.ret (Ex.sub (Ex.var 1) (Ex.lit (T.int 1)))) Sms.nil)))) ρ S := prf rfl
def f_longest : FnI := ⟨1, 4, b_longest⟩
def b_lw_cell : Sms := (Sms.cons (Sm.iff (Ex.cmp .lt (Ex.var 1) (Ex.bi .len (Exs.cons (Ex.var 0) Exs.nil))) (Sms.cons (Sm.ret (Ex.sub (Ex.var 0) (Ex.var 1))) Sms.nil) Sms.nil) (Sms.cons (Sm.ret (Ex.lit (T.int 0))) Sms.nil))
theorem u_lw_cell {c : Call} {ρ : Lenv} {S : Store} : exs c b_lw_cell ρ S = exs c (Sms.cons (Sm.iff (Ex.cmp .lt (Ex.var 1) (Ex.bi .len (Exs.cons (Ex.var 0) Exs.nil))) (Sms.cons (Sm.ret (Ex.sub (Ex.var 0) (Ex.var 1))) Sms.nil) Sms.nil) (Sms.cons (Sm.ret (Ex.lit (T.int 0))) Sms.nil)) ρ S := prf rfl
def f_lw_cell : FnI := ⟨2, 2, b_lw_cell⟩
def b_lw_mix : Sms := (Sms.cons (Sm.asg 3 (Ex.bin .mod (Ex.bin .mul (Ex.var 0) (Ex.lit (T.int 48271))) (Ex.var 1))) (Sms.cons (Sm.ret (Ex.bin .mod (Ex.bin .mod (Ex.bin .mul (Ex.var 3) (Ex.bin .add (Ex.var 3) (Ex.lit (T.int 7)))) (Ex.var 1)) (Ex.var 2))) Sms.nil))
theorem u_lw_mix {c : Call} {ρ : Lenv} {S : Store} : exs c b_lw_mix ρ S = exs c (Sms.cons (Sm.asg 3 (Ex.bin .mod (Ex.bin .mul (Ex.var 0) (Ex.lit (T.int 48271))) (Ex.var 1))) (Sms.cons (Sm.ret (Ex.bin .mod (Ex.bin .mod (Ex.bin .mul (Ex.var 3) (Ex.bin .add (Ex.var 3) (Ex.lit (T.int 7)))) (Ex.var 1)) (Ex.var 2))) Sms.nil)) ρ S := prf rfl
def f_lw_mix : FnI := ⟨3, 4, b_lw_mix⟩
def b_lw_atom : Sms := (Sms.cons (Sm.ret (Ex.tup (Exs.cons (Ex.lit (T.str [119, 111, 114, 100])) (Exs.cons (Ex.sub (Ex.tup (Exs.cons (Ex.lit (T.str [97])) (Exs.cons (Ex.lit (T.str [98])) (Exs.cons (Ex.lit (T.str [120, 49])) (Exs.cons (Ex.lit (T.str [108, 111, 110, 103])) (Exs.cons (Ex.lit (T.str [55])) (Exs.cons (Ex.lit (T.str [97, 98, 99, 100, 101, 102])) Exs.nil))))))) (Ex.call i_lw_mix (Exs.cons (Ex.var 0) (Exs.cons (Ex.lit (T.int 9973)) (Exs.cons (Ex.lit (T.int 6)) Exs.nil))))) Exs.nil)))) Sms.nil)
theorem u_lw_atom {c : Call} {ρ : Lenv} {S : Store} : exs c b_lw_atom ρ S = exs c (Sms.cons (Sm.ret (Ex.tup (Exs.cons (Ex.lit (T.str [119, 111, 114, 100])) (Exs.cons (Ex.sub (Ex.tup (Exs.cons (Ex.lit (T.str [97])) (Exs.cons (Ex.lit (T.str [98])) (Exs.cons (Ex.lit (T.str [120, 49])) (Exs.cons (Ex.lit (T.str [108, 111, 110, 103])) (Exs.cons (Ex.lit (T.str [55])) (Exs.cons (Ex.lit (T.str [97, 98, 99, 100, 101, 102])) Exs.nil))))))) (Ex.call i_lw_mix (Exs.cons (Ex.var 0) (Exs.cons (Ex.lit (T.int 9973)) (Exs.cons (Ex.lit (T.int 6)) Exs.nil))))) Exs.nil)))) Sms.nil) ρ S := prf rfl
def f_lw_atom : FnI := ⟨1, 1, b_lw_atom⟩
def l_lw_base_1 : Sms := (Sms.cons (Sm.asgC 6 (Ex.lc (Ex.bin .add (Ex.bin .add (Ex.bin .add (Ex.bin .mul (Ex.var 0) (Ex.lit (T.int 3))) (Ex.bin .mul (Ex.lit (T.int 7)) (Ex.var 5))) (Ex.bin .mul (Ex.lit (T.int 5)) (Ex.var 7))) (Ex.lit (T.int 2))) (Tg.nm 7) .rng (Exs.cons (Ex.var 4) Exs.nil) Exs.nil)) (Sms.cons (Sm.asg 3 (Ex.bin .add (Ex.var 3) (Ex.tup (Exs.cons (Ex.bi .tup (Exs.cons (Ex.lc (Ex.call i_lw_draw (Exs.cons (Ex.var 8) (Exs.cons (Ex.bi .min (Exs.cons (Ex.bin .sub (Ex.var 1) (Ex.lit (T.int 1))) (Exs.cons (Ex.lit (T.int 2)) Exs.nil))) Exs.nil))) (Tg.nm 8) .val (Exs.cons (Ex.var 6) Exs.nil) Exs.nil) Exs.nil)) Exs.nil)))) Sms.nil))
theorem u_lw_base_1 {c : Call} {ρ : Lenv} {S : Store} : exs c l_lw_base_1 ρ S = exs c (Sms.cons (Sm.asgC 6 (Ex.lc (Ex.bin .add (Ex.bin .add (Ex.bin .add (Ex.bin .mul (Ex.var 0) (Ex.lit (T.int 3))) (Ex.bin .mul (Ex.lit (T.int 7)) (Ex.var 5))) (Ex.bin .mul (Ex.lit (T.int 5)) (Ex.var 7))) (Ex.lit (T.int 2))) (Tg.nm 7) .rng (Exs.cons (Ex.var 4) Exs.nil) Exs.nil)) (Sms.cons (Sm.asg 3 (Ex.bin .add (Ex.var 3) (Ex.tup (Exs.cons (Ex.bi .tup (Exs.cons (Ex.lc (Ex.call i_lw_draw (Exs.cons (Ex.var 8) (Exs.cons (Ex.bi .min (Exs.cons (Ex.bin .sub (Ex.var 1) (Ex.lit (T.int 1))) (Exs.cons (Ex.lit (T.int 2)) Exs.nil))) Exs.nil))) (Tg.nm 8) .val (Exs.cons (Ex.var 6) Exs.nil) Exs.nil) Exs.nil)) Exs.nil)))) Sms.nil)) ρ S := prf rfl
theorem L_lw_base_1 {c : Call} {ρ : Lenv} {S : Store} {α : Type} {f : α → T} {l : List α} (g : (((Lens.v 3)).get (wipeR ρ [5, 6])).isSome = true) : forI c (Tg.nm 5) l_lw_base_1 [(3, false)] [5, 6] ρ S (some (l.map f)) = (forG (lpG (lv := [(3, false)]) (Lens.v 3) c (Tg.nm 5) l_lw_base_1 [5, 6] f (wipeR ρ [5, 6])) l ((((Lens.v 3)).get (wipeR ρ [5, 6])).getD default) S).inj (fun b => ((Lens.v 3)).put b (wipeR ρ [5, 6])) (wipeR (wipeR ρ [5, 6]) [3]) := forI_lens' (lv := [(3, false)]) (Lens.v 3) (by decide +kernel) g
def b_lw_base : Sms := (Sms.cons (Sm.asg 2 (Ex.call i_lw_mix (Exs.cons (Ex.var 0) (Exs.cons (Ex.lit (T.int 9967)) (Exs.cons (Ex.lit (T.int 4)) Exs.nil))))) (Sms.cons (Sm.iff (Ex.or (Ex.cmp .eq (Ex.var 1) (Ex.lit (T.int 1))) (Ex.one (Ex.cmp .lt (Ex.var 2) (Ex.lit (T.int 2))))) (Sms.cons (Sm.ret (Ex.call i_lw_atom (Exs.cons (Ex.var 0) Exs.nil))) Sms.nil) Sms.nil) (Sms.cons (Sm.iff (Ex.cmp .eq (Ex.var 2) (Ex.lit (T.int 2))) (Sms.cons (Sm.ret (Ex.tup (Exs.cons (Ex.lit (T.str [104, 101, 108, 100])) (Exs.cons (Ex.call i_lw_draw (Exs.cons (Ex.bin .add (Ex.bin .mul (Ex.var 0) (Ex.lit (T.int 3))) (Ex.lit (T.int 1))) (Exs.cons (Ex.bin .sub (Ex.var 1) (Ex.lit (T.int 1))) Exs.nil))) Exs.nil)))) Sms.nil) Sms.nil) (Sms.cons (Sm.asg 3 (Ex.tup Exs.nil)) (Sms.cons (Sm.asg 4 (Ex.bin .add (Ex.lit (T.int 1)) (Ex.call i_lw_mix (Exs.cons (Ex.var 0) (Exs.cons (Ex.lit (T.int 9949)) (Exs.cons (Ex.lit (T.int 3)) Exs.nil)))))) (Sms.cons (Sm.for_ (Tg.nm 5) .rng (Exs.cons (Ex.bin .add (Ex.lit (T.int 1)) (Ex.call i_lw_mix (Exs.cons (Ex.var 0) (Exs.cons (Ex.lit (T.int 9941)) (Exs.cons (Ex.lit (T.int 3)) Exs.nil))))) Exs.nil) l_lw_base_1 [(3, false)] [5, 6]) (Sms.cons (Sm.ret (Ex.tup (Exs.cons (Ex.lit (T.str [116, 97, 98, 108, 101])) (Exs.cons (Ex.var 3) Exs.nil)))) Sms.nil)))))))
theorem u_lw_base {c : Call} {ρ : Lenv} {S : Store} : exs c b_lw_base ρ S = exs c (Sms.cons (Sm.asg 2 (Ex.call i_lw_mix (Exs.cons (Ex.var 0) (Exs.cons (Ex.lit (T.int 9967)) (Exs.cons (Ex.lit (T.int 4)) Exs.nil))))) (Sms.cons (Sm.iff (Ex.or (Ex.cmp .eq (Ex.var 1) (Ex.lit (T.int 1))) (Ex.one (Ex.cmp .lt (Ex.var 2) (Ex.lit (T.int 2))))) (Sms.cons (Sm.ret (Ex.call i_lw_atom (Exs.cons (Ex.var 0) Exs.nil))) Sms.nil) Sms.nil) (Sms.cons (Sm.iff (Ex.cmp .eq (Ex.var 2) (Ex.lit (T.int 2))) (Sms.cons (Sm.ret (Ex.tup (Exs.cons (Ex.lit (T.str [104, 101, 108, 100])) (Exs.cons (Ex.call i_lw_draw (Exs.cons (Ex.bin .add (Ex.bin .mul (Ex.var 0) (Ex.lit (T.int 3))) (Ex.lit (T.int 1))) (Exs.cons (Ex.bin .sub (Ex.var 1) (Ex.lit (T.int 1))) Exs.nil))) Exs.nil)))) Sms.nil) Sms.nil) (Sms.cons (Sm.asg 3 (Ex.tup Exs.nil)) (Sms.cons (Sm.asg 4 (Ex.bin .add (Ex.lit (T.int 1)) (Ex.call i_lw_mix (Exs.cons (Ex.var 0) (Exs.cons (Ex.lit (T.int 9949)) (Exs.cons (Ex.lit (T.int 3)) Exs.nil)))))) (Sms.cons (Sm.for_ (Tg.nm 5) .rng (Exs.cons (Ex.bin .add (Ex.lit (T.int 1)) (Ex.call i_lw_mix (Exs.cons (Ex.var 0) (Exs.cons (Ex.lit (T.int 9941)) (Exs.cons (Ex.lit (T.int 3)) Exs.nil))))) Exs.nil) l_lw_base_1 [(3, false)] [5, 6]) (Sms.cons (Sm.ret (Ex.tup (Exs.cons (Ex.lit (T.str [116, 97, 98, 108, 101])) (Exs.cons (Ex.var 3) Exs.nil)))) Sms.nil))))))) ρ S := prf rfl
def f_lw_base : FnI := ⟨2, 9, b_lw_base⟩
def b_lw_item : Sms := (Sms.cons (Sm.asg 2 (Ex.call i_lw_mix (Exs.cons (Ex.var 0) (Exs.cons (Ex.lit (T.int 9931)) (Exs.cons (Ex.lit (T.int 8)) Exs.nil))))) (Sms.cons (Sm.iff (Ex.or (Ex.cmp .eq (Ex.var 1) (Ex.lit (T.int 1))) (Ex.one (Ex.cmp .lt (Ex.var 2) (Ex.lit (T.int 2))))) (Sms.cons (Sm.ret (Ex.call i_lw_base (Exs.cons (Ex.var 0) (Exs.cons (Ex.var 1) Exs.nil)))) Sms.nil) Sms.nil) (Sms.cons (Sm.iff (Ex.cmp .eq (Ex.var 2) (Ex.lit (T.int 2))) (Sms.cons (Sm.ret (Ex.tup (Exs.cons (Ex.lit (T.str [111, 118, 101, 114])) (Exs.cons (Ex.call i_lw_draw (Exs.cons (Ex.bin .add (Ex.bin .mul (Ex.var 0) (Ex.lit (T.int 3))) (Ex.lit (T.int 1))) (Exs.cons (Ex.bin .sub (Ex.var 1) (Ex.lit (T.int 1))) Exs.nil))) (Exs.cons (Ex.call i_lw_draw (Exs.cons (Ex.bin .add (Ex.bin .mul (Ex.var 0) (Ex.lit (T.int 3))) (Ex.lit (T.int 2))) (Exs.cons (Ex.bin .sub (Ex.var 1) (Ex.lit (T.int 1))) Exs.nil))) Exs.nil))))) Sms.nil) Sms.nil) (Sms.cons (Sm.iff (Ex.cmp .eq (Ex.var 2) (Ex.lit (T.int 3))) (Sms.cons (Sm.ret (Ex.tup (Exs.cons (Ex.lit (T.str [114, 111, 111, 116])) (Exs.cons (Ex.call i_lw_draw (Exs.cons (Ex.bin .add (Ex.bin .mul (Ex.var 0) (Ex.lit (T.int 3))) (Ex.lit (T.int 1))) (Exs.cons (Ex.bin .sub (Ex.var 1) (Ex.lit (T.int 1))) Exs.nil))) Exs.nil)))) Sms.nil) Sms.nil) (Sms.cons (Sm.iff (Ex.cmp .lt (Ex.var 2) (Ex.lit (T.int 6))) (Sms.cons (Sm.asg 3 (Ex.lst (Exs.cons (Ex.call i_lw_draw (Exs.cons (Ex.bin .add (Ex.bin .mul (Ex.var 0) (Ex.lit (T.int 3))) (Ex.lit (T.int 4))) (Exs.cons (Ex.bin .sub (Ex.var 1) (Ex.lit (T.int 1))) Exs.nil))) (Exs.cons (Ex.call i_lw_draw (Exs.cons (Ex.bin .add (Ex.bin .mul (Ex.var 0) (Ex.lit (T.int 3))) (Ex.lit (T.int 5))) (Exs.cons (Ex.bin .sub (Ex.var 1) (Ex.lit (T.int 1))) Exs.nil))) Exs.nil)))) (Sms.cons (Sm.asg 4 (Ex.call i_lw_mix (Exs.cons (Ex.var 0) (Exs.cons (Ex.lit (T.int 9929)) (Exs.cons (Ex.lit (T.int 3)) Exs.nil))))) (Sms.cons (Sm.ret (Ex.tup (Exs.cons (Ex.lit (T.str [115, 99, 114, 105, 112, 116])) (Exs.cons (Ex.call i_lw_base (Exs.cons (Ex.bin .add (Ex.var 0) (Ex.lit (T.int 1))) (Exs.cons (Ex.bin .sub (Ex.var 1) (Ex.lit (T.int 1))) Exs.nil))) (Exs.cons (Ex.ife (Ex.cmp .eq (Ex.var 4) (Ex.lit (T.int 0))) (Ex.lit T.non) (Ex.sub (Ex.var 3) (Ex.lit (T.int 0)))) (Exs.cons (Ex.ife (Ex.cmp .eq (Ex.var 4) (Ex.lit (T.int 1))) (Ex.lit T.non) (Ex.sub (Ex.var 3) (Ex.lit (T.int 1)))) Exs.nil)))))) Sms.nil))) Sms.nil) (Sms.cons (Sm.ret (Ex.call i_lw_base (Exs.cons (Ex.bin .add (Ex.var 0) (Ex.lit (T.int 1))) (Exs.cons (Ex.var 1) Exs.nil)))) Sms.nil))))))
theorem u_lw_item {c : Call} {ρ : Lenv} {S : Store} : exs c b_lw_item ρ S = exs c (Sms.cons (Sm.asg 2 (Ex.call i_lw_mix (Exs.cons (Ex.var 0) (Exs.cons (Ex.lit (T.int 9931)) (Exs.cons (Ex.lit (T.int 8)) Exs.nil))))) (Sms.cons (Sm.iff (Ex.or (Ex.cmp .eq (Ex.var 1) (Ex.lit (T.int 1))) (Ex.one (Ex.cmp .lt (Ex.var 2) (Ex.lit (T.int 2))))) (Sms.cons (Sm.ret (Ex.call i_lw_base (Exs.cons (Ex.var 0) (Exs.cons (Ex.var 1) Exs.nil)))) Sms.nil) Sms.nil) (Sms.cons (Sm.iff (Ex.cmp .eq (Ex.var 2) (Ex.lit (T.int 2))) (Sms.cons (Sm.ret (Ex.tup (Exs.cons (Ex.lit (T.str [111, 118, 101, 114])) (Exs.cons (Ex.call i_lw_draw (Exs.cons (Ex.bin .add (Ex.bin .mul (Ex.var 0) (Ex.lit (T.int 3))) (Ex.lit (T.int 1))) (Exs.cons (Ex.bin .sub (Ex.var 1) (Ex.lit (T.int 1))) Exs.nil))) (Exs.cons (Ex.call i_lw_draw (Exs.cons (Ex.bin .add (Ex.bin .mul (Ex.var 0) (Ex.lit (T.int 3))) (Ex.lit (T.int 2))) (Exs.cons (Ex.bin .sub (Ex.var 1) (Ex.lit (T.int 1))) Exs.nil))) Exs.nil))))) Sms.nil) Sms.nil) (Sms.cons (Sm.iff (Ex.cmp .eq (Ex.var 2) (Ex.lit (T.int 3))) (Sms.cons (Sm.ret (Ex.tup (Exs.cons (Ex.lit (T.str [114, 111, 111, 116])) (Exs.cons (Ex.call i_lw_draw (Exs.cons (Ex.bin .add (Ex.bin .mul (Ex.var 0) (Ex.lit (T.int 3))) (Ex.lit (T.int 1))) (Exs.cons (Ex.bin .sub (Ex.var 1) (Ex.lit (T.int 1))) Exs.nil))) Exs.nil)))) Sms.nil) Sms.nil) (Sms.cons (Sm.iff (Ex.cmp .lt (Ex.var 2) (Ex.lit (T.int 6))) (Sms.cons (Sm.asg 3 (Ex.lst (Exs.cons (Ex.call i_lw_draw (Exs.cons (Ex.bin .add (Ex.bin .mul (Ex.var 0) (Ex.lit (T.int 3))) (Ex.lit (T.int 4))) (Exs.cons (Ex.bin .sub (Ex.var 1) (Ex.lit (T.int 1))) Exs.nil))) (Exs.cons (Ex.call i_lw_draw (Exs.cons (Ex.bin .add (Ex.bin .mul (Ex.var 0) (Ex.lit (T.int 3))) (Ex.lit (T.int 5))) (Exs.cons (Ex.bin .sub (Ex.var 1) (Ex.lit (T.int 1))) Exs.nil))) Exs.nil)))) (Sms.cons (Sm.asg 4 (Ex.call i_lw_mix (Exs.cons (Ex.var 0) (Exs.cons (Ex.lit (T.int 9929)) (Exs.cons (Ex.lit (T.int 3)) Exs.nil))))) (Sms.cons (Sm.ret (Ex.tup (Exs.cons (Ex.lit (T.str [115, 99, 114, 105, 112, 116])) (Exs.cons (Ex.call i_lw_base (Exs.cons (Ex.bin .add (Ex.var 0) (Ex.lit (T.int 1))) (Exs.cons (Ex.bin .sub (Ex.var 1) (Ex.lit (T.int 1))) Exs.nil))) (Exs.cons (Ex.ife (Ex.cmp .eq (Ex.var 4) (Ex.lit (T.int 0))) (Ex.lit T.non) (Ex.sub (Ex.var 3) (Ex.lit (T.int 0)))) (Exs.cons (Ex.ife (Ex.cmp .eq (Ex.var 4) (Ex.lit (T.int 1))) (Ex.lit T.non) (Ex.sub (Ex.var 3) (Ex.lit (T.int 1)))) Exs.nil)))))) Sms.nil))) Sms.nil) (Sms.cons (Sm.ret (Ex.call i_lw_base (Exs.cons (Ex.bin .add (Ex.var 0) (Ex.lit (T.int 1))) (Exs.cons (Ex.var 1) Exs.nil)))) Sms.nil)))))) ρ S := prf rfl
def f_lw_item : FnI := ⟨2, 5, b_lw_item⟩
def l_lw_draw_1 : Sms := (Sms.cons (Sm.asg 4 (Ex.sub (Ex.lit (T.str [43, 45, 42, 61, 60])) (Ex.call i_lw_mix (Exs.cons (Ex.bin .add (Ex.var 0) (Ex.var 3)) (Exs.cons (Ex.lit (T.int 9901)) (Exs.cons (Ex.lit (T.int 5)) Exs.nil)))))) (Sms.cons (Sm.asg 2 (Ex.bin .add (Ex.var 2) (Ex.tup (Exs.cons (Ex.tup (Exs.cons (Ex.var 4) (Exs.cons (Ex.call i_lw_item (Exs.cons (Ex.bin .add (Ex.bin .add (Ex.bin .mul (Ex.var 0) (Ex.lit (T.int 2))) (Ex.bin .mul (Ex.lit (T.int 11)) (Ex.var 3))) (Ex.lit (T.int 3))) (Exs.cons (Ex.bin .sub (Ex.var 1) (Ex.lit (T.int 1))) Exs.nil))) Exs.nil))) Exs.nil)))) Sms.nil))
theorem u_lw_draw_1 {c : Call} {ρ : Lenv} {S : Store} : exs c l_lw_draw_1 ρ S = exs c (Sms.cons (Sm.asg 4 (Ex.sub (Ex.lit (T.str [43, 45, 42, 61, 60])) (Ex.call i_lw_mix (Exs.cons (Ex.bin .add (Ex.var 0) (Ex.var 3)) (Exs.cons (Ex.lit (T.int 9901)) (Exs.cons (Ex.lit (T.int 5)) Exs.nil)))))) (Sms.cons (Sm.asg 2 (Ex.bin .add (Ex.var 2) (Ex.tup (Exs.cons (Ex.tup (Exs.cons (Ex.var 4) (Exs.cons (Ex.call i_lw_item (Exs.cons (Ex.bin .add (Ex.bin .add (Ex.bin .mul (Ex.var 0) (Ex.lit (T.int 2))) (Ex.bin .mul (Ex.lit (T.int 11)) (Ex.var 3))) (Ex.lit (T.int 3))) (Exs.cons (Ex.bin .sub (Ex.var 1) (Ex.lit (T.int 1))) Exs.nil))) Exs.nil))) Exs.nil)))) Sms.nil)) ρ S := prf rfl
theorem L_lw_draw_1 {c : Call} {ρ : Lenv} {S : Store} {α : Type} {f : α → T} {l : List α} (g : (((Lens.v 2)).get (wipeR ρ [3, 4])).isSome = true) : forI c (Tg.nm 3) l_lw_draw_1 [(2, false)] [3, 4] ρ S (some (l.map f)) = (forG (lpG (lv := [(2, false)]) (Lens.v 2) c (Tg.nm 3) l_lw_draw_1 [3, 4] f (wipeR ρ [3, 4])) l ((((Lens.v 2)).get (wipeR ρ [3, 4])).getD default) S).inj (fun b => ((Lens.v 2)).put b (wipeR ρ [3, 4])) (wipeR (wipeR ρ [3, 4]) [2]) := forI_lens' (lv := [(2, false)]) (Lens.v 2) (by decide +kernel) g
def b_lw_draw : Sms := (Sms.cons (Sm.iff (Ex.and (Ex.cmp .gt (Ex.var 1) (Ex.lit (T.int 1))) (Ex.one (Ex.cmp .eq (Ex.call i_lw_mix (Exs.cons (Ex.var 0) (Exs.cons (Ex.lit (T.int 9923)) (Exs.cons (Ex.lit (T.int 3)) Exs.nil)))) (Ex.lit (T.int 0))))) (Sms.cons (Sm.asg 2 (Ex.tup Exs.nil)) (Sms.cons (Sm.for_ (Tg.nm 3) .rng (Exs.cons (Ex.bin .add (Ex.lit (T.int 1)) (Ex.call i_lw_mix (Exs.cons (Ex.var 0) (Exs.cons (Ex.lit (T.int 9907)) (Exs.cons (Ex.lit (T.int 3)) Exs.nil))))) Exs.nil) l_lw_draw_1 [(2, false)] [3, 4]) (Sms.cons (Sm.ret (Ex.tup (Exs.cons (Ex.lit (T.str [99, 104, 97, 105, 110])) (Exs.cons (Ex.call i_lw_item (Exs.cons (Ex.bin .add (Ex.bin .mul (Ex.var 0) (Ex.lit (T.int 2))) (Ex.lit (T.int 1))) (Exs.cons (Ex.bin .sub (Ex.var 1) (Ex.lit (T.int 1))) Exs.nil))) (Exs.cons (Ex.var 2) Exs.nil))))) Sms.nil))) Sms.nil) (Sms.cons (Sm.ret (Ex.call i_lw_item (Exs.cons (Ex.var 0) (Exs.cons (Ex.var 1) Exs.nil)))) Sms.nil))
theorem u_lw_draw {c : Call} {ρ : Lenv} {S : Store} : exs c b_lw_draw ρ S = exs c (Sms.cons (Sm.iff (Ex.and (Ex.cmp .gt (Ex.var 1) (Ex.lit (T.int 1))) (Ex.one (Ex.cmp .eq (Ex.call i_lw_mix (Exs.cons (Ex.var 0) (Exs.cons (Ex.lit (T.int 9923)) (Exs.cons (Ex.lit (T.int 3)) Exs.nil)))) (Ex.lit (T.int 0))))) (Sms.cons (Sm.asg 2 (Ex.tup Exs.nil)) (Sms.cons (Sm.for_ (Tg.nm 3) .rng (Exs.cons (Ex.bin .add (Ex.lit (T.int 1)) (Ex.call i_lw_mix (Exs.cons (Ex.var 0) (Exs.cons (Ex.lit (T.int 9907)) (Exs.cons (Ex.lit (T.int 3)) Exs.nil))))) Exs.nil) l_lw_draw_1 [(2, false)] [3, 4]) (Sms.cons (Sm.ret (Ex.tup (Exs.cons (Ex.lit (T.str [99, 104, 97, 105, 110])) (Exs.cons (Ex.call i_lw_item (Exs.cons (Ex.bin .add (Ex.bin .mul (Ex.var 0) (Ex.lit (T.int 2))) (Ex.lit (T.int 1))) (Exs.cons (Ex.bin .sub (Ex.var 1) (Ex.lit (T.int 1))) Exs.nil))) (Exs.cons (Ex.var 2) Exs.nil))))) Sms.nil))) Sms.nil) (Sms.cons (Sm.ret (Ex.call i_lw_item (Exs.cons (Ex.var 0) (Exs.cons (Ex.var 1) Exs.nil)))) Sms.nil)) ρ S := prf rfl
def f_lw_draw : FnI := ⟨2, 5, b_lw_draw⟩
def l_lw_parts_1 : Sms := (Sms.cons (Sm.ext 2 (Ex.bi .lst (Exs.cons (Ex.var 3) Exs.nil))) Sms.nil)
def b_lw_parts : Sms := (Sms.cons (Sm.iff (Ex.cmp .eq (Ex.sub (Ex.var 0) (Ex.lit (T.int 0))) (Ex.lit (T.str [119, 111, 114, 100]))) (Sms.cons (Sm.ret (Ex.lst Exs.nil)) Sms.nil) Sms.nil) (Sms.cons (Sm.iff (Ex.cmp .eq (Ex.sub (Ex.var 0) (Ex.lit (T.int 0))) (Ex.lit (T.str [99, 104, 97, 105, 110]))) (Sms.cons (Sm.ret (Ex.bin .add (Ex.lst (Exs.cons (Ex.sub (Ex.var 0) (Ex.lit (T.int 1))) Exs.nil)) (Ex.lc (Ex.sub (Ex.var 1) (Ex.lit (T.int 1))) (Tg.nm 1) .val (Exs.cons (Ex.sub (Ex.var 0) (Ex.lit (T.int 2))) Exs.nil) Exs.nil))) Sms.nil) Sms.nil) (Sms.cons (Sm.iff (Ex.cmp .eq (Ex.sub (Ex.var 0) (Ex.lit (T.int 0))) (Ex.lit (T.str [116, 97, 98, 108, 101]))) (Sms.cons (Sm.own 2 (Ex.lst Exs.nil)) (Sms.cons (Sm.for_ (Tg.nm 3) .val (Exs.cons (Ex.sub (Ex.var 0) (Ex.lit (T.int 1))) Exs.nil) l_lw_parts_1 [(2, true)] [3]) (Sms.cons (Sm.rel 2) (Sms.cons (Sm.ret (Ex.var 2)) Sms.nil)))) Sms.nil) (Sms.cons (Sm.ret (Ex.lc (Ex.var 4) (Tg.nm 4) .val (Exs.cons (Ex.slc (Ex.var 0) (Ex.lit (T.int 1)) Ex.nop) Exs.nil) (Exs.cons (Ex.cmp .isn (Ex.var 4) (Ex.lit T.non)) Exs.nil))) Sms.nil))))
def f_lw_parts : FnI := ⟨1, 5, b_lw_parts⟩
def l_lw_ways_1 : Sms := (Sms.cons (Sm.ext 1 (Ex.lc (Ex.bin .add (Ex.tup (Exs.cons (Ex.var 2) Exs.nil)) (Ex.var 4)) (Tg.nm 4) .val (Exs.cons (Ex.call i_lw_ways (Exs.cons (Ex.var 3) Exs.nil)) Exs.nil) Exs.nil)) Sms.nil)
def b_lw_ways : Sms := (Sms.cons (Sm.own 1 (Ex.lst (Exs.cons (Ex.tup Exs.nil) Exs.nil))) (Sms.cons (Sm.for_ (Tg.tp (Tgs.cons (Tg.nm 2) (Tgs.cons (Tg.nm 3) Tgs.nil))) .enm (Exs.cons (Ex.call i_lw_parts (Exs.cons (Ex.var 0) Exs.nil)) Exs.nil) l_lw_ways_1 [(1, true)] [2, 3]) (Sms.cons (Sm.rel 1) (Sms.cons (Sm.ret (Ex.var 1)) Sms.nil))))
def f_lw_ways : FnI := ⟨1, 5, b_lw_ways⟩
def l_lw_is_rest_1 : Sms := (Sms.cons (Sm.iff (Ex.or (Ex.not (Ex.bi .isT (Exs.cons (Ex.var 2) Exs.nil))) (Ex.or (Ex.cmp .ne (Ex.bi .len (Exs.cons (Ex.var 2) Exs.nil)) (Ex.lit (T.int 2))) (Ex.one (Ex.cmp .nin (Ex.sub (Ex.var 2) (Ex.lit (T.int 0))) (Ex.tup (Exs.cons (Ex.lit (T.str [43])) (Exs.cons (Ex.lit (T.str [45])) (Exs.cons (Ex.lit (T.str [42])) (Exs.cons (Ex.lit (T.str [61])) (Exs.cons (Ex.lit (T.str [60])) Exs.nil)))))))))) (Sms.cons (Sm.ret (Ex.lit (T.bl false))) Sms.nil) Sms.nil) (Sms.cons (Sm.iff (Ex.or (Ex.not (Ex.call i_lw_is (Exs.cons (Ex.sub (Ex.var 2) (Ex.lit (T.int 1))) (Exs.cons (Ex.var 1) Exs.nil)))) (Ex.one (Ex.cmp .eq (Ex.sub (Ex.sub (Ex.var 2) (Ex.lit (T.int 1))) (Ex.lit (T.int 0))) (Ex.lit (T.str [99, 104, 97, 105, 110]))))) (Sms.cons (Sm.ret (Ex.lit (T.bl false))) Sms.nil) Sms.nil) Sms.nil))
def b_lw_is_rest : Sms := (Sms.cons (Sm.iff (Ex.or (Ex.not (Ex.bi .isT (Exs.cons (Ex.var 0) Exs.nil))) (Ex.one (Ex.not (Ex.chn .lt .lt (Ex.lit (T.int 0)) (Ex.bi .len (Exs.cons (Ex.var 0) Exs.nil)) (Ex.lit (T.int 5)))))) (Sms.cons (Sm.ret (Ex.lit (T.bl false))) Sms.nil) Sms.nil) (Sms.cons (Sm.for_ (Tg.nm 2) .val (Exs.cons (Ex.var 0) Exs.nil) l_lw_is_rest_1 [] [2]) (Sms.cons (Sm.ret (Ex.lit (T.bl true))) Sms.nil)))
def f_lw_is_rest : FnI := ⟨2, 3, b_lw_is_rest⟩
def l_lw_is_table_1 : Sms := (Sms.cons (Sm.iff (Ex.or (Ex.not (Ex.bi .isT (Exs.cons (Ex.var 2) Exs.nil))) (Ex.or (Ex.not (Ex.chn .lt .lt (Ex.lit (T.int 0)) (Ex.bi .len (Exs.cons (Ex.var 2) Exs.nil)) (Ex.lit (T.int 4)))) (Ex.one (Ex.cmp .ne (Ex.bi .len (Exs.cons (Ex.var 2) Exs.nil)) (Ex.bi .len (Exs.cons (Ex.sub (Ex.var 0) (Ex.lit (T.int 0))) Exs.nil)))))) (Sms.cons (Sm.ret (Ex.lit (T.bl false))) Sms.nil) Sms.nil) (Sms.cons (Sm.iff (Ex.cmp .ne (Ex.lc (Ex.var 3) (Tg.nm 3) .val (Exs.cons (Ex.var 2) Exs.nil) (Exs.cons (Ex.not (Ex.call i_lw_is (Exs.cons (Ex.var 3) (Exs.cons (Ex.var 1) Exs.nil)))) Exs.nil)) (Ex.lst Exs.nil)) (Sms.cons (Sm.ret (Ex.lit (T.bl false))) Sms.nil) Sms.nil) Sms.nil))
def b_lw_is_table : Sms := (Sms.cons (Sm.iff (Ex.or (Ex.not (Ex.bi .isT (Exs.cons (Ex.var 0) Exs.nil))) (Ex.one (Ex.not (Ex.chn .lt .lt (Ex.lit (T.int 0)) (Ex.bi .len (Exs.cons (Ex.var 0) Exs.nil)) (Ex.lit (T.int 4)))))) (Sms.cons (Sm.ret (Ex.lit (T.bl false))) Sms.nil) Sms.nil) (Sms.cons (Sm.for_ (Tg.nm 2) .val (Exs.cons (Ex.var 0) Exs.nil) l_lw_is_table_1 [] [2]) (Sms.cons (Sm.ret (Ex.lit (T.bl true))) Sms.nil)))
def f_lw_is_table : FnI := ⟨2, 4, b_lw_is_table⟩
def b_lw_is : Sms := (Sms.cons (Sm.iff (Ex.or (Ex.not (Ex.bi .isT (Exs.cons (Ex.var 0) Exs.nil))) (Ex.or (Ex.cmp .lt (Ex.bi .len (Exs.cons (Ex.var 0) Exs.nil)) (Ex.lit (T.int 2))) (Ex.or (Ex.cmp .eq (Ex.var 1) (Ex.lit (T.int 0))) (Ex.one (Ex.not (Ex.bi .isS (Exs.cons (Ex.sub (Ex.var 0) (Ex.lit (T.int 0))) Exs.nil))))))) (Sms.cons (Sm.ret (Ex.lit (T.bl false))) Sms.nil) Sms.nil) (Sms.cons (Sm.par2 2 3 (Ex.sub (Ex.var 0) (Ex.lit (T.int 0))) (Ex.slc (Ex.var 0) (Ex.lit (T.int 1)) Ex.nop)) (Sms.cons (Sm.iff (Ex.cmp .eq (Ex.var 2) (Ex.lit (T.str [119, 111, 114, 100]))) (Sms.cons (Sm.iff (Ex.or (Ex.cmp .ne (Ex.bi .len (Exs.cons (Ex.var 3) Exs.nil)) (Ex.lit (T.int 1))) (Ex.or (Ex.not (Ex.bi .isS (Exs.cons (Ex.sub (Ex.var 3) (Ex.lit (T.int 0))) Exs.nil))) (Ex.one (Ex.not (Ex.chn .lt .lt (Ex.lit (T.int 0)) (Ex.bi .len (Exs.cons (Ex.sub (Ex.var 3) (Ex.lit (T.int 0))) Exs.nil)) (Ex.lit (T.int 7))))))) (Sms.cons (Sm.ret (Ex.lit (T.bl false))) Sms.nil) Sms.nil) (Sms.cons (Sm.ret (Ex.cmp .eq (Ex.lc (Ex.var 4) (Tg.nm 4) .val (Exs.cons (Ex.sub (Ex.var 3) (Ex.lit (T.int 0))) Exs.nil) (Exs.cons (Ex.not (Ex.or (Ex.chn .le .le (Ex.lit (T.str [97])) (Ex.var 4) (Ex.lit (T.str [122]))) (Ex.one (Ex.chn .le .le (Ex.lit (T.str [48])) (Ex.var 4) (Ex.lit (T.str [57])))))) Exs.nil)) (Ex.lst Exs.nil))) Sms.nil)) Sms.nil) (Sms.cons (Sm.iff (Ex.cmp .eq (Ex.var 2) (Ex.lit (T.str [99, 104, 97, 105, 110]))) (Sms.cons (Sm.iff (Ex.or (Ex.cmp .ne (Ex.bi .len (Exs.cons (Ex.var 3) Exs.nil)) (Ex.lit (T.int 2))) (Ex.one (Ex.not (Ex.call i_lw_is (Exs.cons (Ex.sub (Ex.var 3) (Ex.lit (T.int 0))) (Exs.cons (Ex.bin .sub (Ex.var 1) (Ex.lit (T.int 1))) Exs.nil)))))) (Sms.cons (Sm.ret (Ex.lit (T.bl false))) Sms.nil) Sms.nil) (Sms.cons (Sm.ret (Ex.and (Ex.cmp .ne (Ex.sub (Ex.sub (Ex.var 3) (Ex.lit (T.int 0))) (Ex.lit (T.int 0))) (Ex.lit (T.str [99, 104, 97, 105, 110]))) (Ex.one (Ex.call i_lw_is_rest (Exs.cons (Ex.sub (Ex.var 3) (Ex.lit (T.int 1))) (Exs.cons (Ex.bin .sub (Ex.var 1) (Ex.lit (T.int 1))) Exs.nil)))))) Sms.nil)) Sms.nil) (Sms.cons (Sm.iff (Ex.cmp .eq (Ex.var 2) (Ex.lit (T.str [111, 118, 101, 114]))) (Sms.cons (Sm.ret (Ex.and (Ex.cmp .eq (Ex.bi .len (Exs.cons (Ex.var 3) Exs.nil)) (Ex.lit (T.int 2))) (Ex.and (Ex.call i_lw_is (Exs.cons (Ex.sub (Ex.var 3) (Ex.lit (T.int 0))) (Exs.cons (Ex.bin .sub (Ex.var 1) (Ex.lit (T.int 1))) Exs.nil))) (Ex.one (Ex.call i_lw_is (Exs.cons (Ex.sub (Ex.var 3) (Ex.lit (T.int 1))) (Exs.cons (Ex.bin .sub (Ex.var 1) (Ex.lit (T.int 1))) Exs.nil))))))) Sms.nil) Sms.nil) (Sms.cons (Sm.iff (Ex.cmp .inn (Ex.var 2) (Ex.tup (Exs.cons (Ex.lit (T.str [114, 111, 111, 116])) (Exs.cons (Ex.lit (T.str [104, 101, 108, 100])) Exs.nil)))) (Sms.cons (Sm.ret (Ex.and (Ex.cmp .eq (Ex.bi .len (Exs.cons (Ex.var 3) Exs.nil)) (Ex.lit (T.int 1))) (Ex.one (Ex.call i_lw_is (Exs.cons (Ex.sub (Ex.var 3) (Ex.lit (T.int 0))) (Exs.cons (Ex.bin .sub (Ex.var 1) (Ex.lit (T.int 1))) Exs.nil)))))) Sms.nil) Sms.nil) (Sms.cons (Sm.iff (Ex.cmp .eq (Ex.var 2) (Ex.lit (T.str [116, 97, 98, 108, 101]))) (Sms.cons (Sm.ret (Ex.and (Ex.cmp .eq (Ex.bi .len (Exs.cons (Ex.var 3) Exs.nil)) (Ex.lit (T.int 1))) (Ex.one (Ex.call i_lw_is_table (Exs.cons (Ex.sub (Ex.var 3) (Ex.lit (T.int 0))) (Exs.cons (Ex.bin .sub (Ex.var 1) (Ex.lit (T.int 1))) Exs.nil)))))) Sms.nil) Sms.nil) (Sms.cons (Sm.iff (Ex.or (Ex.cmp .ne (Ex.var 2) (Ex.lit (T.str [115, 99, 114, 105, 112, 116]))) (Ex.or (Ex.cmp .ne (Ex.bi .len (Exs.cons (Ex.var 3) Exs.nil)) (Ex.lit (T.int 3))) (Ex.or (Ex.not (Ex.call i_lw_is (Exs.cons (Ex.sub (Ex.var 3) (Ex.lit (T.int 0))) (Exs.cons (Ex.bin .sub (Ex.var 1) (Ex.lit (T.int 1))) Exs.nil)))) (Ex.one (Ex.cmp .eq (Ex.slc (Ex.var 3) (Ex.lit (T.int 1)) Ex.nop) (Ex.tup (Exs.cons (Ex.lit T.non) (Exs.cons (Ex.lit T.non) Exs.nil)))))))) (Sms.cons (Sm.ret (Ex.lit (T.bl false))) Sms.nil) Sms.nil) (Sms.cons (Sm.iff (Ex.cmp .nin (Ex.sub (Ex.sub (Ex.var 3) (Ex.lit (T.int 0))) (Ex.lit (T.int 0))) (Ex.tup (Exs.cons (Ex.lit (T.str [119, 111, 114, 100])) (Exs.cons (Ex.lit (T.str [104, 101, 108, 100])) (Exs.cons (Ex.lit (T.str [116, 97, 98, 108, 101])) Exs.nil))))) (Sms.cons (Sm.ret (Ex.lit (T.bl false))) Sms.nil) Sms.nil) (Sms.cons (Sm.ret (Ex.cmp .eq (Ex.lc (Ex.var 5) (Tg.nm 5) .val (Exs.cons (Ex.slc (Ex.var 3) (Ex.lit (T.int 1)) Ex.nop) Exs.nil) (Exs.cons (Ex.and (Ex.cmp .isn (Ex.var 5) (Ex.lit T.non)) (Ex.one (Ex.not (Ex.call i_lw_is (Exs.cons (Ex.var 5) (Exs.cons (Ex.bin .sub (Ex.var 1) (Ex.lit (T.int 1))) Exs.nil)))))) Exs.nil)) (Ex.lst Exs.nil))) Sms.nil))))))))))
def f_lw_is : FnI := ⟨2, 6, b_lw_is⟩
def b_lw_same : Sms := (Sms.cons (Sm.iff (Ex.bi .isT (Exs.cons (Ex.var 1) Exs.nil)) (Sms.cons (Sm.iff (Ex.or (Ex.not (Ex.bi .isT (Exs.cons (Ex.var 0) Exs.nil))) (Ex.one (Ex.cmp .ne (Ex.bi .len (Exs.cons (Ex.var 0) Exs.nil)) (Ex.bi .len (Exs.cons (Ex.var 1) Exs.nil))))) (Sms.cons (Sm.ret (Ex.lit (T.bl false))) Sms.nil) Sms.nil) (Sms.cons (Sm.ret (Ex.bi .all (Exs.cons (Ex.lc (Ex.call i_lw_same (Exs.cons (Ex.var 2) (Exs.cons (Ex.var 3) Exs.nil))) (Tg.tp (Tgs.cons (Tg.nm 2) (Tgs.cons (Tg.nm 3) Tgs.nil))) .zip (Exs.cons (Ex.var 0) (Exs.cons (Ex.var 1) Exs.nil)) Exs.nil) Exs.nil))) Sms.nil)) Sms.nil) (Sms.cons (Sm.iff (Ex.cmp .is (Ex.var 1) (Ex.lit T.non)) (Sms.cons (Sm.ret (Ex.cmp .is (Ex.var 0) (Ex.lit T.non))) Sms.nil) Sms.nil) (Sms.cons (Sm.iff (Ex.or (Ex.bi .isB (Exs.cons (Ex.var 1) Exs.nil)) (Ex.one (Ex.bi .isB (Exs.cons (Ex.var 0) Exs.nil)))) (Sms.cons (Sm.ret (Ex.and (Ex.bi .isB (Exs.cons (Ex.var 1) Exs.nil)) (Ex.and (Ex.bi .isB (Exs.cons (Ex.var 0) Exs.nil)) (Ex.one (Ex.cmp .eq (Ex.var 0) (Ex.var 1)))))) Sms.nil) Sms.nil) (Sms.cons (Sm.ret (Ex.and (Ex.isIS (Ex.var 0)) (Ex.one (Ex.cmp .eq (Ex.var 0) (Ex.var 1))))) Sms.nil))))
def f_lw_same : FnI := ⟨2, 4, b_lw_same⟩
def l_lw_part_1 : Sms := (Sms.cons (Sm.asg 0 (Ex.sub (Ex.call i_lw_parts (Exs.cons (Ex.var 0) Exs.nil)) (Ex.var 2))) Sms.nil)
def b_lw_part : Sms := (Sms.cons (Sm.for_ (Tg.nm 2) .val (Exs.cons (Ex.var 1) Exs.nil) l_lw_part_1 [(0, false)] [2]) (Sms.cons (Sm.ret (Ex.var 0)) Sms.nil))
def f_lw_part : FnI := ⟨2, 3, b_lw_part⟩
/- not yet: call isinstance -/
def b_lw_word : Sms := (Sms.cons (Sm.raise 9999) Sms.nil)
def f_lw_word : FnI := ⟨1, 1, b_lw_word⟩
def b_lw_rows : Sms := (Sms.cons (Sm.ret (Ex.ife (Ex.cmp .is (Ex.var 0) (Ex.lit T.non)) (Ex.lit (T.int 0)) (Ex.bin .add (Ex.bin .add (Ex.sub (Ex.var 0) (Ex.lit (T.int 1))) (Ex.sub (Ex.var 0) (Ex.lit (T.int 2)))) (Ex.lit (T.int 1))))) Sms.nil)
def f_lw_rows : FnI := ⟨1, 1, b_lw_rows⟩
def l_lw_box_1 : Sms := (Sms.cons (Sm.asg 3 (Ex.bin .add (Ex.bin .add (Ex.var 3) (Ex.bi .max (Exs.cons (Ex.lc (Ex.sub (Ex.call i_lw_box (Exs.cons (Ex.sub (Ex.var 9) (Ex.var 8)) Exs.nil)) (Ex.lit (T.int 0))) (Tg.nm 9) .val (Exs.cons (Ex.sub (Ex.var 0) (Ex.lit (T.int 1))) Exs.nil) Exs.nil) Exs.nil))) (Ex.lit (T.int 2)))) Sms.nil)
def l_lw_box_2 : Sms := (Sms.cons (Sm.asgC 11 (Ex.lc (Ex.call i_lw_box (Exs.cons (Ex.var 6) Exs.nil)) (Tg.nm 6) .val (Exs.cons (Ex.var 9) Exs.nil) Exs.nil)) (Sms.cons (Sm.asg 10 (Ex.bin .add (Ex.bin .add (Ex.bin .add (Ex.var 10) (Ex.bi .max (Exs.cons (Ex.lc (Ex.sub (Ex.var 7) (Ex.lit (T.int 1))) (Tg.nm 7) .val (Exs.cons (Ex.var 11) Exs.nil) Exs.nil) Exs.nil))) (Ex.bi .max (Exs.cons (Ex.lc (Ex.sub (Ex.var 7) (Ex.lit (T.int 2))) (Tg.nm 7) .val (Exs.cons (Ex.var 11) Exs.nil) Exs.nil) Exs.nil))) (Ex.lit (T.int 1)))) Sms.nil))
def b_lw_box : Sms := (Sms.cons (Sm.asg 1 (Ex.sub (Ex.var 0) (Ex.lit (T.int 0)))) (Sms.cons (Sm.iff (Ex.cmp .eq (Ex.var 1) (Ex.lit (T.str [119, 111, 114, 100]))) (Sms.cons (Sm.ret (Ex.tup (Exs.cons (Ex.bi .len (Exs.cons (Ex.sub (Ex.var 0) (Ex.lit (T.int 1))) Exs.nil)) (Exs.cons (Ex.lit (T.int 0)) (Exs.cons (Ex.lit (T.int 0)) Exs.nil))))) Sms.nil) Sms.nil) (Sms.cons (Sm.iff (Ex.cmp .eq (Ex.var 1) (Ex.lit (T.str [115, 99, 114, 105, 112, 116]))) (Sms.cons (Sm.asg 2 (Ex.call i_lw_box (Exs.cons (Ex.sub (Ex.var 0) (Ex.lit (T.int 1))) Exs.nil))) (Sms.cons (Sm.unp (Tgs.cons (Tg.nm 4) (Tgs.cons (Tg.nm 5) Tgs.nil)) (Ex.lc (Ex.ife (Ex.cmp .is (Ex.var 6) (Ex.lit T.non)) (Ex.lit T.non) (Ex.call i_lw_box (Exs.cons (Ex.var 6) Exs.nil))) (Tg.nm 6) .val (Exs.cons (Ex.slc (Ex.var 0) (Ex.lit (T.int 2)) Ex.nop) Exs.nil) Exs.nil)) (Sms.cons (Sm.asg 3 (Ex.bi .max (Exs.cons (Ex.lc (Ex.sub (Ex.var 7) (Ex.lit (T.int 0))) (Tg.nm 7) .val (Exs.cons (Ex.tup (Exs.cons (Ex.var 4) (Exs.cons (Ex.var 5) Exs.nil))) Exs.nil) (Exs.cons (Ex.cmp .isn (Ex.var 7) (Ex.lit T.non)) Exs.nil)) Exs.nil))) (Sms.cons (Sm.ret (Ex.tup (Exs.cons (Ex.bin .add (Ex.sub (Ex.var 2) (Ex.lit (T.int 0))) (Ex.var 3)) (Exs.cons (Ex.bin .add (Ex.sub (Ex.var 2) (Ex.lit (T.int 1))) (Ex.call i_lw_rows (Exs.cons (Ex.var 4) Exs.nil))) (Exs.cons (Ex.bin .add (Ex.sub (Ex.var 2) (Ex.lit (T.int 2))) (Ex.call i_lw_rows (Exs.cons (Ex.var 5) Exs.nil))) Exs.nil))))) Sms.nil)))) Sms.nil) (Sms.cons (Sm.iff (Ex.cmp .eq (Ex.var 1) (Ex.lit (T.str [116, 97, 98, 108, 101]))) (Sms.cons (Sm.par2 3 10 (Ex.lit (T.int 0)) (Ex.bin .sub (Ex.bi .len (Exs.cons (Ex.sub (Ex.var 0) (Ex.lit (T.int 1))) Exs.nil)) (Ex.lit (T.int 1)))) (Sms.cons (Sm.for_ (Tg.nm 8) .rng (Exs.cons (Ex.bi .len (Exs.cons (Ex.sub (Ex.sub (Ex.var 0) (Ex.lit (T.int 1))) (Ex.lit (T.int 0))) Exs.nil)) Exs.nil) l_lw_box_1 [(3, false)] [8]) (Sms.cons (Sm.for_ (Tg.nm 9) .val (Exs.cons (Ex.sub (Ex.var 0) (Ex.lit (T.int 1))) Exs.nil) l_lw_box_2 [(10, false)] [9, 11]) (Sms.cons (Sm.ret (Ex.tup (Exs.cons (Ex.var 3) (Exs.cons (Ex.bin .fdv (Ex.var 10) (Ex.lit (T.int 2))) (Exs.cons (Ex.bin .sub (Ex.bin .sub (Ex.var 10) (Ex.bin .fdv (Ex.var 10) (Ex.lit (T.int 2)))) (Ex.lit (T.int 1))) Exs.nil))))) Sms.nil)))) Sms.nil) (Sms.cons (Sm.asgC 11 (Ex.lc (Ex.call i_lw_box (Exs.cons (Ex.var 6) Exs.nil)) (Tg.nm 6) .val (Exs.cons (Ex.call i_lw_parts (Exs.cons (Ex.var 0) Exs.nil)) Exs.nil) Exs.nil)) (Sms.cons (Sm.iff (Ex.cmp .eq (Ex.var 1) (Ex.lit (T.str [99, 104, 97, 105, 110]))) (Sms.cons (Sm.asg 3 (Ex.bin .sub (Ex.bi .sum (Exs.cons (Ex.lc (Ex.bin .add (Ex.sub (Ex.var 7) (Ex.lit (T.int 0))) (Ex.lit (T.int 3))) (Tg.nm 7) .val (Exs.cons (Ex.var 11) Exs.nil) Exs.nil) Exs.nil)) (Ex.lit (T.int 3)))) (Sms.cons (Sm.ret (Ex.tup (Exs.cons (Ex.var 3) (Exs.cons (Ex.bi .max (Exs.cons (Ex.lc (Ex.sub (Ex.var 7) (Ex.lit (T.int 1))) (Tg.nm 7) .val (Exs.cons (Ex.var 11) Exs.nil) Exs.nil) Exs.nil)) (Exs.cons (Ex.bi .max (Exs.cons (Ex.lc (Ex.sub (Ex.var 7) (Ex.lit (T.int 2))) (Tg.nm 7) .val (Exs.cons (Ex.var 11) Exs.nil) Exs.nil) Exs.nil)) Exs.nil))))) Sms.nil)) Sms.nil) (Sms.cons (Sm.iff (Ex.cmp .eq (Ex.var 1) (Ex.lit (T.str [111, 118, 101, 114]))) (Sms.cons (Sm.ret (Ex.tup (Exs.cons (Ex.bin .add (Ex.bi .max (Exs.cons (Ex.sub (Ex.sub (Ex.var 11) (Ex.lit (T.int 0))) (Ex.lit (T.int 0))) (Exs.cons (Ex.sub (Ex.sub (Ex.var 11) (Ex.lit (T.int 1))) (Ex.lit (T.int 0))) Exs.nil))) (Ex.lit (T.int 2))) (Exs.cons (Ex.call i_lw_rows (Exs.cons (Ex.sub (Ex.var 11) (Ex.lit (T.int 0))) Exs.nil)) (Exs.cons (Ex.call i_lw_rows (Exs.cons (Ex.sub (Ex.var 11) (Ex.lit (T.int 1))) Exs.nil)) Exs.nil))))) Sms.nil) Sms.nil) (Sms.cons (Sm.asg 12 (Ex.ife (Ex.cmp .eq (Ex.var 1) (Ex.lit (T.str [114, 111, 111, 116]))) (Ex.lit (T.int 1)) (Ex.lit (T.int 2)))) (Sms.cons (Sm.ret (Ex.tup (Exs.cons (Ex.bin .add (Ex.sub (Ex.sub (Ex.var 11) (Ex.lit (T.int 0))) (Ex.lit (T.int 0))) (Ex.var 12)) (Exs.cons (Ex.bin .sub (Ex.bin .add (Ex.sub (Ex.sub (Ex.var 11) (Ex.lit (T.int 0))) (Ex.lit (T.int 1))) (Ex.lit (T.int 2))) (Ex.var 12)) (Exs.cons (Ex.sub (Ex.sub (Ex.var 11) (Ex.lit (T.int 0))) (Ex.lit (T.int 2))) Exs.nil))))) Sms.nil)))))))))
def f_lw_box : FnI := ⟨1, 13, b_lw_box⟩
/- not yet: assign _law_spots[_law_left + _law_k, _law_line] -/
def b_lw_lay : Sms := (Sms.cons (Sm.raise 9999) Sms.nil)
def f_lw_lay : FnI := ⟨4, 4, b_lw_lay⟩
/- not yet: assign _law_spots[_law_left, _law_row] -/
def b_lw_lay_more : Sms := (Sms.cons (Sm.raise 9999) Sms.nil)
def f_lw_lay_more : FnI := ⟨4, 4, b_lw_lay_more⟩
/- not yet: Dict {} -/
def b_lw_picture : Sms := (Sms.cons (Sm.raise 9999) Sms.nil)
def f_lw_picture : FnI := ⟨1, 1, b_lw_picture⟩
def l_lw_text_1 : Sms := (Sms.cons (Sm.asg 2 (Ex.bin .add (Ex.bin .add (Ex.bin .add (Ex.bin .add (Ex.var 2) (Ex.lit (T.str [32]))) (Ex.var 3)) (Ex.lit (T.str [32]))) (Ex.call i_lw_text (Exs.cons (Ex.var 4) Exs.nil)))) Sms.nil)
def l_lw_text_3 : Sms := (Sms.cons (Sm.asg 6 (Ex.bin .add (Ex.bin .add (Ex.var 6) (Ex.lit (T.str [44, 32]))) (Ex.call i_lw_text (Exs.cons (Ex.var 4) Exs.nil)))) Sms.nil)
def l_lw_text_2 : Sms := (Sms.cons (Sm.asg 6 (Ex.lit (T.str []))) (Sms.cons (Sm.for_ (Tg.nm 4) .val (Exs.cons (Ex.var 5) Exs.nil) l_lw_text_3 [(6, false)] [4]) (Sms.cons (Sm.asg 2 (Ex.bin .add (Ex.bin .add (Ex.var 2) (Ex.lit (T.str [59, 32]))) (Ex.slc (Ex.var 6) (Ex.lit (T.int 2)) Ex.nop))) Sms.nil)))
def b_lw_text : Sms := (Sms.cons (Sm.asg 1 (Ex.sub (Ex.var 0) (Ex.lit (T.int 0)))) (Sms.cons (Sm.iff (Ex.cmp .eq (Ex.var 1) (Ex.lit (T.str [119, 111, 114, 100]))) (Sms.cons (Sm.ret (Ex.sub (Ex.var 0) (Ex.lit (T.int 1)))) Sms.nil) Sms.nil) (Sms.cons (Sm.iff (Ex.cmp .eq (Ex.var 1) (Ex.lit (T.str [99, 104, 97, 105, 110]))) (Sms.cons (Sm.asg 2 (Ex.call i_lw_text (Exs.cons (Ex.sub (Ex.var 0) (Ex.lit (T.int 1))) Exs.nil))) (Sms.cons (Sm.for_ (Tg.tp (Tgs.cons (Tg.nm 3) (Tgs.cons (Tg.nm 4) Tgs.nil))) .val (Exs.cons (Ex.sub (Ex.var 0) (Ex.lit (T.int 2))) Exs.nil) l_lw_text_1 [(2, false)] [3, 4]) (Sms.cons (Sm.ret (Ex.var 2)) Sms.nil))) Sms.nil) (Sms.cons (Sm.iff (Ex.cmp .eq (Ex.var 1) (Ex.lit (T.str [111, 118, 101, 114]))) (Sms.cons (Sm.ret (Ex.bin .add (Ex.bin .add (Ex.bin .add (Ex.bin .add (Ex.lit (T.str [123])) (Ex.call i_lw_text (Exs.cons (Ex.sub (Ex.var 0) (Ex.lit (T.int 1))) Exs.nil))) (Ex.lit (T.str [47]))) (Ex.call i_lw_text (Exs.cons (Ex.sub (Ex.var 0) (Ex.lit (T.int 2))) Exs.nil))) (Ex.lit (T.str [125])))) Sms.nil) Sms.nil) (Sms.cons (Sm.iff (Ex.cmp .eq (Ex.var 1) (Ex.lit (T.str [114, 111, 111, 116]))) (Sms.cons (Sm.ret (Ex.bin .add (Ex.bin .add (Ex.lit (T.str [114, 111, 111, 116, 123])) (Ex.call i_lw_text (Exs.cons (Ex.sub (Ex.var 0) (Ex.lit (T.int 1))) Exs.nil))) (Ex.lit (T.str [125])))) Sms.nil) Sms.nil) (Sms.cons (Sm.iff (Ex.cmp .eq (Ex.var 1) (Ex.lit (T.str [104, 101, 108, 100]))) (Sms.cons (Sm.ret (Ex.bin .add (Ex.bin .add (Ex.lit (T.str [40])) (Ex.call i_lw_text (Exs.cons (Ex.sub (Ex.var 0) (Ex.lit (T.int 1))) Exs.nil))) (Ex.lit (T.str [41])))) Sms.nil) Sms.nil) (Sms.cons (Sm.iff (Ex.cmp .eq (Ex.var 1) (Ex.lit (T.str [116, 97, 98, 108, 101]))) (Sms.cons (Sm.asg 2 (Ex.lit (T.str []))) (Sms.cons (Sm.for_ (Tg.nm 5) .val (Exs.cons (Ex.sub (Ex.var 0) (Ex.lit (T.int 1))) Exs.nil) l_lw_text_2 [(2, false)] [4, 5, 6]) (Sms.cons (Sm.ret (Ex.bin .add (Ex.bin .add (Ex.lit (T.str [91])) (Ex.slc (Ex.var 2) (Ex.lit (T.int 2)) Ex.nop)) (Ex.lit (T.str [93])))) Sms.nil))) Sms.nil) (Sms.cons (Sm.asg 2 (Ex.call i_lw_text (Exs.cons (Ex.sub (Ex.var 0) (Ex.lit (T.int 1))) Exs.nil))) (Sms.cons (Sm.iff (Ex.cmp .isn (Ex.sub (Ex.var 0) (Ex.lit (T.int 2))) (Ex.lit T.non)) (Sms.cons (Sm.asg 2 (Ex.bin .add (Ex.bin .add (Ex.bin .add (Ex.var 2) (Ex.lit (T.str [94, 123]))) (Ex.call i_lw_text (Exs.cons (Ex.sub (Ex.var 0) (Ex.lit (T.int 2))) Exs.nil))) (Ex.lit (T.str [125])))) Sms.nil) Sms.nil) (Sms.cons (Sm.ret (Ex.bin .add (Ex.var 2) (Ex.ife (Ex.cmp .is (Ex.sub (Ex.var 0) (Ex.lit (T.int 3))) (Ex.lit T.non)) (Ex.lit (T.str [])) (Ex.bin .add (Ex.bin .add (Ex.lit (T.str [95, 123])) (Ex.call i_lw_text (Exs.cons (Ex.sub (Ex.var 0) (Ex.lit (T.int 3))) Exs.nil))) (Ex.lit (T.str [125])))))) Sms.nil))))))))))
def f_lw_text : FnI := ⟨1, 7, b_lw_text⟩
def b_lw_room : Sms := (Sms.cons (Sm.unp (Tgs.cons (Tg.nm 1) (Tgs.cons (Tg.nm 2) (Tgs.cons (Tg.nm 3) Tgs.nil))) (Ex.call i_box (Exs.cons (Ex.var 0) Exs.nil))) (Sms.cons (Sm.ret (Ex.tup (Exs.cons (Ex.var 1) (Exs.cons (Ex.bin .add (Ex.bin .add (Ex.var 2) (Ex.var 3)) (Ex.lit (T.int 1))) Exs.nil)))) Sms.nil))
theorem u_lw_room {c : Call} {ρ : Lenv} {S : Store} : exs c b_lw_room ρ S = exs c (Sms.cons (Sm.unp (Tgs.cons (Tg.nm 1) (Tgs.cons (Tg.nm 2) (Tgs.cons (Tg.nm 3) Tgs.nil))) (Ex.call i_box (Exs.cons (Ex.var 0) Exs.nil))) (Sms.cons (Sm.ret (Ex.tup (Exs.cons (Ex.var 1) (Exs.cons (Ex.bin .add (Ex.bin .add (Ex.var 2) (Ex.var 3)) (Ex.lit (T.int 1))) Exs.nil)))) Sms.nil)) ρ S := prf rfl
def f_lw_room : FnI := ⟨1, 4, b_lw_room⟩
def b_lw_is_base : Sms := (Sms.cons (Sm.ret (Ex.and (Ex.cmp .ne (Ex.var 1) (Ex.tup Exs.nil)) (Ex.and (Ex.cmp .eq (Ex.sub (Ex.var 1) (Ex.neg 1)) (Ex.lit (T.int 0))) (Ex.one (Ex.cmp .eq (Ex.sub (Ex.call i_part_at (Exs.cons (Ex.var 0) (Exs.cons (Ex.slc (Ex.var 1) Ex.nop (Ex.neg 1)) Exs.nil))) (Ex.lit (T.int 0))) (Ex.lit (T.str [115, 99, 114, 105, 112, 116]))))))) Sms.nil)
theorem u_lw_is_base {c : Call} {ρ : Lenv} {S : Store} : exs c b_lw_is_base ρ S = exs c (Sms.cons (Sm.ret (Ex.and (Ex.cmp .ne (Ex.var 1) (Ex.tup Exs.nil)) (Ex.and (Ex.cmp .eq (Ex.sub (Ex.var 1) (Ex.neg 1)) (Ex.lit (T.int 0))) (Ex.one (Ex.cmp .eq (Ex.sub (Ex.call i_part_at (Exs.cons (Ex.var 0) (Exs.cons (Ex.slc (Ex.var 1) Ex.nop (Ex.neg 1)) Exs.nil))) (Ex.lit (T.int 0))) (Ex.lit (T.str [115, 99, 114, 105, 112, 116]))))))) Sms.nil) ρ S := prf rfl
def f_lw_is_base : FnI := ⟨2, 2, b_lw_is_base⟩
def gtab : List FnI := [f_is_word, f_is_kind, f_is_rest, f_are_rows, f_is_script, f_is_at, f_is_sum, f_kind, f_parts, f_with_parts, f_size, f_deep, f_ways, f_part_at, f_may_be, f_put_at, f_rows_of, f_box_or_none, f_columns, f_heights, f_table_box, f_box, f_padded, f_blanks, f_raised, f_beside, f_chain_picture, f_script_picture, f_table_picture, f_picture, f_shown, f_middle, f_table_corners, f_script_corners, f_corners, f_frame, f_has_spot, f_at_spot, f_own_spots, f_row_text, f_sum_text, f_rd_must, f_read_text, f_sn_must, f_cut_out, f_trimmed, f_column, f_rows_with, f_end_of_held, f_end_of_run, f_inner_of_root, f_line_row, f_blank_runs, f_middle_of, f_covered, f_seen_table, f_seen_base, f_is_sign_next, f_seen_or_none, f_seen_item, f_seen, f_read_picture, f_line_wide, f_chosen, f_breaks, f_line_rows, f_broken, f_sign_at, f_lined, f_fitted, f_put_in, f_opened, f_freed, f_freed_parts, f_words, f_longest, f_lw_cell, f_lw_mix, f_lw_atom, f_lw_base, f_lw_item, f_lw_draw, f_lw_parts, f_lw_ways, f_lw_is_rest, f_lw_is_table, f_lw_is, f_lw_same, f_lw_part, f_lw_word, f_lw_rows, f_lw_box, f_lw_lay, f_lw_lay_more, f_lw_picture, f_lw_text, f_lw_room, f_lw_is_base]
/-- the common defs stand first -/
def Pre (tab : List FnI) : Prop := ∃ r, tab = gtab ++ r
theorem Pre.at {tab : List FnI} (P : Pre tab) {i : Nat} (h : i < gtab.length) : tab[i]? = gtab[i]? := by
  obtain ⟨r, rfl⟩ := P
  exact List.getElem?_append_left h
theorem call_ok {tab : List FnI} {f : Nat} {fi : FnI} {args : List T} {r : Out T} {n : Nat} {S : Store} (h : tab[f]? = some fi) (hl : args.length = fi.np) (b : (exs (callF tab n) fi.body (args.map Sl.val ++ List.replicate (fi.ns - fi.np) Sl.un) S).fin = r) : callF tab (n + 1) f args S = r := by
  simp only [callF, h, run1, if_pos hl]
  exact b
theorem c_kind {tab : List FnI} (P : Pre tab) {n : Nat} {a0 : T} {S : Store} : callF tab (n + 1) i_kind [a0] S = (exs (callF tab n) b_kind [.val a0] S).fin := call_ok (P.at (by decide)) rfl rfl
theorem c_parts {tab : List FnI} (P : Pre tab) {n : Nat} {a0 : T} {S : Store} : callF tab (n + 1) i_parts [a0] S = (exs (callF tab n) b_parts [.val a0, .un, .un, .un, .un, .un] S).fin := call_ok (P.at (by decide)) rfl rfl
theorem c_with_parts {tab : List FnI} (P : Pre tab) {n : Nat} {a0 a1 : T} {S : Store} : callF tab (n + 1) i_with_parts [a0, a1] S = (exs (callF tab n) b_with_parts [.val a0, .val a1, .un, .un, .un, .un, .un, .un] S).fin := call_ok (P.at (by decide)) rfl rfl
theorem c_ways {tab : List FnI} (P : Pre tab) {n : Nat} {a0 : T} {S : Store} : callF tab (n + 1) i_ways [a0] S = (exs (callF tab n) b_ways [.val a0, .un, .un, .un, .un] S).fin := call_ok (P.at (by decide)) rfl rfl
theorem c_part_at {tab : List FnI} (P : Pre tab) {n : Nat} {a0 a1 : T} {S : Store} : callF tab (n + 1) i_part_at [a0, a1] S = (exs (callF tab n) b_part_at [.val a0, .val a1, .un] S).fin := call_ok (P.at (by decide)) rfl rfl
theorem c_may_be {tab : List FnI} (P : Pre tab) {n : Nat} {a0 a1 a2 : T} {S : Store} : callF tab (n + 1) i_may_be [a0, a1, a2] S = (exs (callF tab n) b_may_be [.val a0, .val a1, .val a2] S).fin := call_ok (P.at (by decide)) rfl rfl
theorem c_put_at {tab : List FnI} (P : Pre tab) {n : Nat} {a0 a1 a2 : T} {S : Store} : callF tab (n + 1) i_put_at [a0, a1, a2] S = (exs (callF tab n) b_put_at [.val a0, .val a1, .val a2, .un, .un] S).fin := call_ok (P.at (by decide)) rfl rfl
theorem c_rows_of {tab : List FnI} (P : Pre tab) {n : Nat} {a0 : T} {S : Store} : callF tab (n + 1) i_rows_of [a0] S = (exs (callF tab n) b_rows_of [.val a0] S).fin := call_ok (P.at (by decide)) rfl rfl
theorem c_box_or_none {tab : List FnI} (P : Pre tab) {n : Nat} {a0 : T} {S : Store} : callF tab (n + 1) i_box_or_none [a0] S = (exs (callF tab n) b_box_or_none [.val a0] S).fin := call_ok (P.at (by decide)) rfl rfl
theorem c_columns {tab : List FnI} (P : Pre tab) {n : Nat} {a0 : T} {S : Store} : callF tab (n + 1) i_columns [a0] S = (exs (callF tab n) b_columns [.val a0, .un, .un] S).fin := call_ok (P.at (by decide)) rfl rfl
theorem c_heights {tab : List FnI} (P : Pre tab) {n : Nat} {a0 : T} {S : Store} : callF tab (n + 1) i_heights [a0] S = (exs (callF tab n) b_heights [.val a0, .un, .un] S).fin := call_ok (P.at (by decide)) rfl rfl
theorem c_table_box {tab : List FnI} (P : Pre tab) {n : Nat} {a0 : T} {S : Store} : callF tab (n + 1) i_table_box [a0] S = (exs (callF tab n) b_table_box [.val a0, .un, .un, .un, .un] S).fin := call_ok (P.at (by decide)) rfl rfl
theorem c_box {tab : List FnI} (P : Pre tab) {n : Nat} {a0 : T} {S : Store} : callF tab (n + 1) i_box [a0] S = (exs (callF tab n) b_box [.val a0, .un, .un, .un, .un, .un, .un, .un, .un] S).fin := call_ok (P.at (by decide)) rfl rfl
theorem c_padded {tab : List FnI} (P : Pre tab) {n : Nat} {a0 a1 : T} {S : Store} : callF tab (n + 1) i_padded [a0, a1] S = (exs (callF tab n) b_padded [.val a0, .val a1, .un] S).fin := call_ok (P.at (by decide)) rfl rfl
theorem c_blanks {tab : List FnI} (P : Pre tab) {n : Nat} {a0 a1 : T} {S : Store} : callF tab (n + 1) i_blanks [a0, a1] S = (exs (callF tab n) b_blanks [.val a0, .val a1] S).fin := call_ok (P.at (by decide)) rfl rfl
theorem c_raised {tab : List FnI} (P : Pre tab) {n : Nat} {a0 a1 a2 : T} {S : Store} : callF tab (n + 1) i_raised [a0, a1, a2] S = (exs (callF tab n) b_raised [.val a0, .val a1, .val a2, .un, .un, .un] S).fin := call_ok (P.at (by decide)) rfl rfl
theorem c_beside {tab : List FnI} (P : Pre tab) {n : Nat} {a0 : T} {S : Store} : callF tab (n + 1) i_beside [a0] S = (exs (callF tab n) b_beside [.val a0, .un, .un, .un, .un] S).fin := call_ok (P.at (by decide)) rfl rfl
theorem c_chain_picture {tab : List FnI} (P : Pre tab) {n : Nat} {a0 : T} {S : Store} : callF tab (n + 1) i_chain_picture [a0] S = (exs (callF tab n) b_chain_picture [.val a0, .un, .un, .un, .un, .un, .un] S).fin := call_ok (P.at (by decide)) rfl rfl
theorem c_script_picture {tab : List FnI} (P : Pre tab) {n : Nat} {a0 : T} {S : Store} : callF tab (n + 1) i_script_picture [a0] S = (exs (callF tab n) b_script_picture [.val a0, .un, .un, .un, .un, .un, .un, .un, .un, .un, .un] S).fin := call_ok (P.at (by decide)) rfl rfl
theorem c_table_picture {tab : List FnI} (P : Pre tab) {n : Nat} {a0 : T} {S : Store} : callF tab (n + 1) i_table_picture [a0] S = (exs (callF tab n) b_table_picture [.val a0, .un, .un, .un, .un, .un, .un, .un, .un, .un, .un] S).fin := call_ok (P.at (by decide)) rfl rfl
theorem c_picture {tab : List FnI} (P : Pre tab) {n : Nat} {a0 : T} {S : Store} : callF tab (n + 1) i_picture [a0] S = (exs (callF tab n) b_picture [.val a0, .un, .un, .un, .un, .un, .un] S).fin := call_ok (P.at (by decide)) rfl rfl
theorem c_shown {tab : List FnI} (P : Pre tab) {n : Nat} {a0 : T} {S : Store} : callF tab (n + 1) i_shown [a0] S = (exs (callF tab n) b_shown [.val a0, .un] S).fin := call_ok (P.at (by decide)) rfl rfl
theorem c_middle {tab : List FnI} (P : Pre tab) {n : Nat} {a0 a1 : T} {S : Store} : callF tab (n + 1) i_middle [a0, a1] S = (exs (callF tab n) b_middle [.val a0, .val a1] S).fin := call_ok (P.at (by decide)) rfl rfl
theorem c_table_corners {tab : List FnI} (P : Pre tab) {n : Nat} {a0 : T} {S : Store} : callF tab (n + 1) i_table_corners [a0] S = (exs (callF tab n) b_table_corners [.val a0, .un, .un, .un, .un, .un, .un, .un, .un, .un] S).fin := call_ok (P.at (by decide)) rfl rfl
theorem c_opened {tab : List FnI} (P : Pre tab) {n : Nat} {a0 a1 a2 : T} {S : Store} : callF tab (n + 1) i_opened [a0, a1, a2] S = (exs (callF tab n) b_opened [.val a0, .val a1, .val a2] S).fin := call_ok (P.at (by decide)) rfl rfl
theorem c_freed {tab : List FnI} (P : Pre tab) {n : Nat} {a0 : T} {S : Store} : callF tab (n + 1) i_freed [a0] S = (exs (callF tab n) b_freed [.val a0] S).fin := call_ok (P.at (by decide)) rfl rfl
theorem c_freed_parts {tab : List FnI} (P : Pre tab) {n : Nat} {a0 : T} {S : Store} : callF tab (n + 1) i_freed_parts [a0] S = (exs (callF tab n) b_freed_parts [.val a0, .un, .un, .un] S).fin := call_ok (P.at (by decide)) rfl rfl
theorem c_longest {tab : List FnI} (P : Pre tab) {n : Nat} {a0 : T} {S : Store} : callF tab (n + 1) i_longest [a0] S = (exs (callF tab n) b_longest [.val a0, .un, .un, .un] S).fin := call_ok (P.at (by decide)) rfl rfl
theorem c_lw_cell {tab : List FnI} (P : Pre tab) {n : Nat} {a0 a1 : T} {S : Store} : callF tab (n + 1) i_lw_cell [a0, a1] S = (exs (callF tab n) b_lw_cell [.val a0, .val a1] S).fin := call_ok (P.at (by decide)) rfl rfl
theorem c_lw_mix {tab : List FnI} (P : Pre tab) {n : Nat} {a0 a1 a2 : T} {S : Store} : callF tab (n + 1) i_lw_mix [a0, a1, a2] S = (exs (callF tab n) b_lw_mix [.val a0, .val a1, .val a2, .un] S).fin := call_ok (P.at (by decide)) rfl rfl
theorem c_lw_atom {tab : List FnI} (P : Pre tab) {n : Nat} {a0 : T} {S : Store} : callF tab (n + 1) i_lw_atom [a0] S = (exs (callF tab n) b_lw_atom [.val a0] S).fin := call_ok (P.at (by decide)) rfl rfl
theorem c_lw_base {tab : List FnI} (P : Pre tab) {n : Nat} {a0 a1 : T} {S : Store} : callF tab (n + 1) i_lw_base [a0, a1] S = (exs (callF tab n) b_lw_base [.val a0, .val a1, .un, .un, .un, .un, .un, .un, .un] S).fin := call_ok (P.at (by decide)) rfl rfl
theorem c_lw_item {tab : List FnI} (P : Pre tab) {n : Nat} {a0 a1 : T} {S : Store} : callF tab (n + 1) i_lw_item [a0, a1] S = (exs (callF tab n) b_lw_item [.val a0, .val a1, .un, .un, .un] S).fin := call_ok (P.at (by decide)) rfl rfl
theorem c_lw_draw {tab : List FnI} (P : Pre tab) {n : Nat} {a0 a1 : T} {S : Store} : callF tab (n + 1) i_lw_draw [a0, a1] S = (exs (callF tab n) b_lw_draw [.val a0, .val a1, .un, .un, .un] S).fin := call_ok (P.at (by decide)) rfl rfl
theorem c_lw_room {tab : List FnI} (P : Pre tab) {n : Nat} {a0 : T} {S : Store} : callF tab (n + 1) i_lw_room [a0] S = (exs (callF tab n) b_lw_room [.val a0, .un, .un, .un] S).fin := call_ok (P.at (by decide)) rfl rfl
theorem c_lw_is_base {tab : List FnI} (P : Pre tab) {n : Nat} {a0 a1 : T} {S : Store} : callF tab (n + 1) i_lw_is_base [a0, a1] S = (exs (callF tab n) b_lw_is_base [.val a0, .val a1] S).fin := call_ok (P.at (by decide)) rfl rfl
end Ly
namespace K40
open PySem PySem.Spec Ly
abbrev i_xlw_middle : Nat := 98
abbrev i_law : Nat := 99
def b_xlw_middle : Sms := (Sms.cons (Sm.asg 2 (Ex.bin .fdv (Ex.bin .sub (Ex.var 1) (Ex.bi .len (Exs.cons (Ex.var 0) Exs.nil))) (Ex.lit (T.int 2)))) (Sms.cons (Sm.ret (Ex.bin .add (Ex.bin .add (Ex.bin .mul (Ex.lit (T.str [32])) (Ex.var 2)) (Ex.var 0)) (Ex.bin .mul (Ex.lit (T.str [32])) (Ex.bin .sub (Ex.bin .sub (Ex.var 1) (Ex.var 2)) (Ex.bi .len (Exs.cons (Ex.var 0) Exs.nil)))))) Sms.nil))
theorem u_xlw_middle {c : Call} {ρ : Lenv} {S : Store} : exs c b_xlw_middle ρ S = exs c (Sms.cons (Sm.asg 2 (Ex.bin .fdv (Ex.bin .sub (Ex.var 1) (Ex.bi .len (Exs.cons (Ex.var 0) Exs.nil))) (Ex.lit (T.int 2)))) (Sms.cons (Sm.ret (Ex.bin .add (Ex.bin .add (Ex.bin .mul (Ex.lit (T.str [32])) (Ex.var 2)) (Ex.var 0)) (Ex.bin .mul (Ex.lit (T.str [32])) (Ex.bin .sub (Ex.bin .sub (Ex.var 1) (Ex.var 2)) (Ex.bi .len (Exs.cons (Ex.var 0) Exs.nil)))))) Sms.nil)) ρ S := prf rfl
def f_xlw_middle : FnI := ⟨2, 3, b_xlw_middle⟩
def l_law_1 : Sms := (Sms.cons (Sm.asg 2 (Ex.bin .add (Ex.call i_lw_cell (Exs.cons (Ex.var 0) (Exs.cons (Ex.bin .mod (Ex.var 1) (Ex.lit (T.int 9))) Exs.nil))) (Ex.bin .mul (Ex.lit (T.int 131)) (Ex.var 1)))) (Sms.cons (Sm.par2 11 12 (Ex.call i_lw_draw (Exs.cons (Ex.var 2) (Exs.cons (Ex.lit (T.int 3)) Exs.nil))) (Ex.call i_lw_draw (Exs.cons (Ex.bin .add (Ex.var 2) (Ex.lit (T.int 9))) (Exs.cons (Ex.lit (T.int 3)) Exs.nil)))) (Sms.cons (Sm.par2 13 14 (Ex.call i_picture (Exs.cons (Ex.var 11) Exs.nil)) (Ex.call i_picture (Exs.cons (Ex.var 12) Exs.nil))) (Sms.cons (Sm.unp (Tgs.cons (Tg.nm 15) (Tgs.cons (Tg.nm 16) Tgs.nil)) (Ex.tup (Exs.cons (Ex.bi .len (Exs.cons (Ex.sub (Ex.var 13) (Ex.lit (T.int 0))) Exs.nil)) (Exs.cons (Ex.bi .len (Exs.cons (Ex.sub (Ex.var 14) (Ex.lit (T.int 0))) Exs.nil)) Exs.nil)))) (Sms.cons (Sm.asg 3 (Ex.bi .tup (Exs.cons (Ex.lc (Ex.bin .add (Ex.bin .add (Ex.lit (T.str [40])) (Ex.var 17)) (Ex.lit (T.str [41]))) (Tg.nm 17) .val (Exs.cons (Ex.var 13) Exs.nil) Exs.nil) Exs.nil))) (Sms.cons (Sm.asg 4 (Ex.bin .add (Ex.tup (Exs.cons (Ex.bin .add (Ex.lit (T.str [32])) (Ex.bin .mul (Ex.lit (T.str [95])) (Ex.var 15))) Exs.nil)) (Ex.bi .tup (Exs.cons (Ex.lc (Ex.bin .add (Ex.lit (T.str [124])) (Ex.var 17)) (Tg.nm 17) .val (Exs.cons (Ex.var 13) Exs.nil) Exs.nil) Exs.nil)))) (Sms.cons (Sm.iff (Ex.or (Ex.cmp .ne (Ex.call i_picture (Exs.cons (Ex.tup (Exs.cons (Ex.lit (T.str [114, 111, 111, 116])) (Exs.cons (Ex.var 11) Exs.nil))) Exs.nil)) (Ex.var 4)) (Ex.one (Ex.cmp .ne (Ex.call i_picture (Exs.cons (Ex.tup (Exs.cons (Ex.lit (T.str [104, 101, 108, 100])) (Exs.cons (Ex.var 11) Exs.nil))) Exs.nil)) (Ex.var 3)))) (Sms.cons (Sm.ret (Ex.lit (T.bl false))) Sms.nil) Sms.nil) (Sms.cons (Sm.asg 5 (Ex.bin .add (Ex.bi .max (Exs.cons (Ex.var 15) (Exs.cons (Ex.var 16) Exs.nil))) (Ex.lit (T.int 2)))) (Sms.cons (Sm.asg 6 (Ex.bin .add (Ex.bin .add (Ex.lc (Ex.call i_xlw_middle (Exs.cons (Ex.var 17) (Exs.cons (Ex.var 5) Exs.nil))) (Tg.nm 17) .val (Exs.cons (Ex.var 13) Exs.nil) Exs.nil) (Ex.lst (Exs.cons (Ex.bin .mul (Ex.lit (T.str [45])) (Ex.var 5)) Exs.nil))) (Ex.lc (Ex.call i_xlw_middle (Exs.cons (Ex.var 17) (Exs.cons (Ex.var 5) Exs.nil))) (Tg.nm 17) .val (Exs.cons (Ex.var 14) Exs.nil) Exs.nil))) (Sms.cons (Sm.iff (Ex.cmp .ne (Ex.bi .lst (Exs.cons (Ex.call i_picture (Exs.cons (Ex.tup (Exs.cons (Ex.lit (T.str [111, 118, 101, 114])) (Exs.cons (Ex.var 11) (Exs.cons (Ex.var 12) Exs.nil)))) Exs.nil)) Exs.nil)) (Ex.var 6)) (Sms.cons (Sm.ret (Ex.lit (T.bl false))) Sms.nil) Sms.nil) (Sms.cons (Sm.asgC 7 (Ex.lc (Ex.bin .add (Ex.bin .mul (Ex.lit (T.str [32])) (Ex.bin .add (Ex.var 15) (Ex.lit (T.int 2)))) (Ex.var 17)) (Tg.nm 17) .val (Exs.cons (Ex.var 14) Exs.nil) Exs.nil)) (Sms.cons (Sm.asgC 8 (Ex.lc (Ex.bin .add (Ex.var 17) (Ex.bin .mul (Ex.lit (T.str [32])) (Ex.var 16))) (Tg.nm 17) .val (Exs.cons (Ex.var 3) Exs.nil) Exs.nil)) (Sms.cons (Sm.iff (Ex.cmp .ne (Ex.bi .lst (Exs.cons (Ex.call i_picture (Exs.cons (Ex.tup (Exs.cons (Ex.lit (T.str [115, 99, 114, 105, 112, 116])) (Exs.cons (Ex.tup (Exs.cons (Ex.lit (T.str [104, 101, 108, 100])) (Exs.cons (Ex.var 11) Exs.nil))) (Exs.cons (Ex.var 12) (Exs.cons (Ex.lit T.non) Exs.nil))))) Exs.nil)) Exs.nil)) (Ex.bin .add (Ex.var 7) (Ex.var 8))) (Sms.cons (Sm.ret (Ex.lit (T.bl false))) Sms.nil) Sms.nil) (Sms.cons (Sm.iff (Ex.cmp .ne (Ex.bi .lst (Exs.cons (Ex.call i_picture (Exs.cons (Ex.tup (Exs.cons (Ex.lit (T.str [115, 99, 114, 105, 112, 116])) (Exs.cons (Ex.tup (Exs.cons (Ex.lit (T.str [104, 101, 108, 100])) (Exs.cons (Ex.var 11) Exs.nil))) (Exs.cons (Ex.lit T.non) (Exs.cons (Ex.var 12) Exs.nil))))) Exs.nil)) Exs.nil)) (Ex.bin .add (Ex.var 8) (Ex.var 7))) (Sms.cons (Sm.ret (Ex.lit (T.bl false))) Sms.nil) Sms.nil) (Sms.cons (Sm.iff (Ex.cmp .ne (Ex.bi .lst (Exs.cons (Ex.call i_picture (Exs.cons (Ex.tup (Exs.cons (Ex.lit (T.str [115, 99, 114, 105, 112, 116])) (Exs.cons (Ex.tup (Exs.cons (Ex.lit (T.str [104, 101, 108, 100])) (Exs.cons (Ex.var 11) Exs.nil))) (Exs.cons (Ex.var 12) (Exs.cons (Ex.var 12) Exs.nil))))) Exs.nil)) Exs.nil)) (Ex.bin .add (Ex.bin .add (Ex.var 7) (Ex.var 8)) (Ex.var 7))) (Sms.cons (Sm.ret (Ex.lit (T.bl false))) Sms.nil) Sms.nil) (Sms.cons (Sm.asgC 6 (Ex.lc (Ex.bin .add (Ex.bin .add (Ex.lit (T.str [91])) (Ex.var 17)) (Ex.lit (T.str [93]))) (Tg.nm 17) .val (Exs.cons (Ex.var 13) Exs.nil) Exs.nil)) (Sms.cons (Sm.iff (Ex.cmp .ne (Ex.bi .lst (Exs.cons (Ex.call i_picture (Exs.cons (Ex.tup (Exs.cons (Ex.lit (T.str [116, 97, 98, 108, 101])) (Exs.cons (Ex.tup (Exs.cons (Ex.tup (Exs.cons (Ex.var 11) Exs.nil)) Exs.nil)) Exs.nil))) Exs.nil)) Exs.nil)) (Ex.var 6)) (Sms.cons (Sm.ret (Ex.lit (T.bl false))) Sms.nil) Sms.nil) (Sms.cons (Sm.asg 9 (Ex.call i_picture (Exs.cons (Ex.tup (Exs.cons (Ex.lit (T.str [99, 104, 97, 105, 110])) (Exs.cons (Ex.tup (Exs.cons (Ex.lit (T.str [104, 101, 108, 100])) (Exs.cons (Ex.var 11) Exs.nil))) (Exs.cons (Ex.tup (Exs.cons (Ex.tup (Exs.cons (Ex.lit (T.str [42])) (Exs.cons (Ex.tup (Exs.cons (Ex.lit (T.str [119, 111, 114, 100])) (Exs.cons (Ex.lit (T.str [120])) Exs.nil))) Exs.nil))) Exs.nil)) Exs.nil)))) Exs.nil))) (Sms.cons (Sm.asg 10 (Ex.sub (Ex.call i_box (Exs.cons (Ex.var 11) Exs.nil)) (Ex.lit (T.int 1)))) (Sms.cons (Sm.asgC 6 (Ex.lc (Ex.bin .add (Ex.var 17) (Ex.ife (Ex.cmp .eq (Ex.var 18) (Ex.var 10)) (Ex.lit (T.str [32, 42, 32, 120])) (Ex.lit (T.str [32, 32, 32, 32])))) (Tg.tp (Tgs.cons (Tg.nm 18) (Tgs.cons (Tg.nm 17) Tgs.nil))) .enm (Exs.cons (Ex.var 3) Exs.nil) Exs.nil)) (Sms.cons (Sm.iff (Ex.or (Ex.cmp .ne (Ex.bi .lst (Exs.cons (Ex.var 9) Exs.nil)) (Ex.var 6)) (Ex.one (Ex.cmp .ne (Ex.mth .split (Ex.call i_shown (Exs.cons (Ex.var 11) Exs.nil)) (Exs.cons (Ex.lit (T.str [10])) Exs.nil)) (Ex.bin .add (Ex.lc (Ex.mth .rstrip (Ex.var 17) (Exs.cons (Ex.lit (T.str [32])) Exs.nil)) (Tg.nm 17) .val (Exs.cons (Ex.var 13) Exs.nil) Exs.nil) (Ex.lst (Exs.cons (Ex.lit (T.str [])) Exs.nil)))))) (Sms.cons (Sm.ret (Ex.lit (T.bl false))) Sms.nil) Sms.nil) Sms.nil)))))))))))))))))))))
theorem u_law_1 {c : Call} {ρ : Lenv} {S : Store} : exs c l_law_1 ρ S = exs c (Sms.cons (Sm.asg 2 (Ex.bin .add (Ex.call i_lw_cell (Exs.cons (Ex.var 0) (Exs.cons (Ex.bin .mod (Ex.var 1) (Ex.lit (T.int 9))) Exs.nil))) (Ex.bin .mul (Ex.lit (T.int 131)) (Ex.var 1)))) (Sms.cons (Sm.par2 11 12 (Ex.call i_lw_draw (Exs.cons (Ex.var 2) (Exs.cons (Ex.lit (T.int 3)) Exs.nil))) (Ex.call i_lw_draw (Exs.cons (Ex.bin .add (Ex.var 2) (Ex.lit (T.int 9))) (Exs.cons (Ex.lit (T.int 3)) Exs.nil)))) (Sms.cons (Sm.par2 13 14 (Ex.call i_picture (Exs.cons (Ex.var 11) Exs.nil)) (Ex.call i_picture (Exs.cons (Ex.var 12) Exs.nil))) (Sms.cons (Sm.unp (Tgs.cons (Tg.nm 15) (Tgs.cons (Tg.nm 16) Tgs.nil)) (Ex.tup (Exs.cons (Ex.bi .len (Exs.cons (Ex.sub (Ex.var 13) (Ex.lit (T.int 0))) Exs.nil)) (Exs.cons (Ex.bi .len (Exs.cons (Ex.sub (Ex.var 14) (Ex.lit (T.int 0))) Exs.nil)) Exs.nil)))) (Sms.cons (Sm.asg 3 (Ex.bi .tup (Exs.cons (Ex.lc (Ex.bin .add (Ex.bin .add (Ex.lit (T.str [40])) (Ex.var 17)) (Ex.lit (T.str [41]))) (Tg.nm 17) .val (Exs.cons (Ex.var 13) Exs.nil) Exs.nil) Exs.nil))) (Sms.cons (Sm.asg 4 (Ex.bin .add (Ex.tup (Exs.cons (Ex.bin .add (Ex.lit (T.str [32])) (Ex.bin .mul (Ex.lit (T.str [95])) (Ex.var 15))) Exs.nil)) (Ex.bi .tup (Exs.cons (Ex.lc (Ex.bin .add (Ex.lit (T.str [124])) (Ex.var 17)) (Tg.nm 17) .val (Exs.cons (Ex.var 13) Exs.nil) Exs.nil) Exs.nil)))) (Sms.cons (Sm.iff (Ex.or (Ex.cmp .ne (Ex.call i_picture (Exs.cons (Ex.tup (Exs.cons (Ex.lit (T.str [114, 111, 111, 116])) (Exs.cons (Ex.var 11) Exs.nil))) Exs.nil)) (Ex.var 4)) (Ex.one (Ex.cmp .ne (Ex.call i_picture (Exs.cons (Ex.tup (Exs.cons (Ex.lit (T.str [104, 101, 108, 100])) (Exs.cons (Ex.var 11) Exs.nil))) Exs.nil)) (Ex.var 3)))) (Sms.cons (Sm.ret (Ex.lit (T.bl false))) Sms.nil) Sms.nil) (Sms.cons (Sm.asg 5 (Ex.bin .add (Ex.bi .max (Exs.cons (Ex.var 15) (Exs.cons (Ex.var 16) Exs.nil))) (Ex.lit (T.int 2)))) (Sms.cons (Sm.asg 6 (Ex.bin .add (Ex.bin .add (Ex.lc (Ex.call i_xlw_middle (Exs.cons (Ex.var 17) (Exs.cons (Ex.var 5) Exs.nil))) (Tg.nm 17) .val (Exs.cons (Ex.var 13) Exs.nil) Exs.nil) (Ex.lst (Exs.cons (Ex.bin .mul (Ex.lit (T.str [45])) (Ex.var 5)) Exs.nil))) (Ex.lc (Ex.call i_xlw_middle (Exs.cons (Ex.var 17) (Exs.cons (Ex.var 5) Exs.nil))) (Tg.nm 17) .val (Exs.cons (Ex.var 14) Exs.nil) Exs.nil))) (Sms.cons (Sm.iff (Ex.cmp .ne (Ex.bi .lst (Exs.cons (Ex.call i_picture (Exs.cons (Ex.tup (Exs.cons (Ex.lit (T.str [111, 118, 101, 114])) (Exs.cons (Ex.var 11) (Exs.cons (Ex.var 12) Exs.nil)))) Exs.nil)) Exs.nil)) (Ex.var 6)) (Sms.cons (Sm.ret (Ex.lit (T.bl false))) Sms.nil) Sms.nil) (Sms.cons (Sm.asgC 7 (Ex.lc (Ex.bin .add (Ex.bin .mul (Ex.lit (T.str [32])) (Ex.bin .add (Ex.var 15) (Ex.lit (T.int 2)))) (Ex.var 17)) (Tg.nm 17) .val (Exs.cons (Ex.var 14) Exs.nil) Exs.nil)) (Sms.cons (Sm.asgC 8 (Ex.lc (Ex.bin .add (Ex.var 17) (Ex.bin .mul (Ex.lit (T.str [32])) (Ex.var 16))) (Tg.nm 17) .val (Exs.cons (Ex.var 3) Exs.nil) Exs.nil)) (Sms.cons (Sm.iff (Ex.cmp .ne (Ex.bi .lst (Exs.cons (Ex.call i_picture (Exs.cons (Ex.tup (Exs.cons (Ex.lit (T.str [115, 99, 114, 105, 112, 116])) (Exs.cons (Ex.tup (Exs.cons (Ex.lit (T.str [104, 101, 108, 100])) (Exs.cons (Ex.var 11) Exs.nil))) (Exs.cons (Ex.var 12) (Exs.cons (Ex.lit T.non) Exs.nil))))) Exs.nil)) Exs.nil)) (Ex.bin .add (Ex.var 7) (Ex.var 8))) (Sms.cons (Sm.ret (Ex.lit (T.bl false))) Sms.nil) Sms.nil) (Sms.cons (Sm.iff (Ex.cmp .ne (Ex.bi .lst (Exs.cons (Ex.call i_picture (Exs.cons (Ex.tup (Exs.cons (Ex.lit (T.str [115, 99, 114, 105, 112, 116])) (Exs.cons (Ex.tup (Exs.cons (Ex.lit (T.str [104, 101, 108, 100])) (Exs.cons (Ex.var 11) Exs.nil))) (Exs.cons (Ex.lit T.non) (Exs.cons (Ex.var 12) Exs.nil))))) Exs.nil)) Exs.nil)) (Ex.bin .add (Ex.var 8) (Ex.var 7))) (Sms.cons (Sm.ret (Ex.lit (T.bl false))) Sms.nil) Sms.nil) (Sms.cons (Sm.iff (Ex.cmp .ne (Ex.bi .lst (Exs.cons (Ex.call i_picture (Exs.cons (Ex.tup (Exs.cons (Ex.lit (T.str [115, 99, 114, 105, 112, 116])) (Exs.cons (Ex.tup (Exs.cons (Ex.lit (T.str [104, 101, 108, 100])) (Exs.cons (Ex.var 11) Exs.nil))) (Exs.cons (Ex.var 12) (Exs.cons (Ex.var 12) Exs.nil))))) Exs.nil)) Exs.nil)) (Ex.bin .add (Ex.bin .add (Ex.var 7) (Ex.var 8)) (Ex.var 7))) (Sms.cons (Sm.ret (Ex.lit (T.bl false))) Sms.nil) Sms.nil) (Sms.cons (Sm.asgC 6 (Ex.lc (Ex.bin .add (Ex.bin .add (Ex.lit (T.str [91])) (Ex.var 17)) (Ex.lit (T.str [93]))) (Tg.nm 17) .val (Exs.cons (Ex.var 13) Exs.nil) Exs.nil)) (Sms.cons (Sm.iff (Ex.cmp .ne (Ex.bi .lst (Exs.cons (Ex.call i_picture (Exs.cons (Ex.tup (Exs.cons (Ex.lit (T.str [116, 97, 98, 108, 101])) (Exs.cons (Ex.tup (Exs.cons (Ex.tup (Exs.cons (Ex.var 11) Exs.nil)) Exs.nil)) Exs.nil))) Exs.nil)) Exs.nil)) (Ex.var 6)) (Sms.cons (Sm.ret (Ex.lit (T.bl false))) Sms.nil) Sms.nil) (Sms.cons (Sm.asg 9 (Ex.call i_picture (Exs.cons (Ex.tup (Exs.cons (Ex.lit (T.str [99, 104, 97, 105, 110])) (Exs.cons (Ex.tup (Exs.cons (Ex.lit (T.str [104, 101, 108, 100])) (Exs.cons (Ex.var 11) Exs.nil))) (Exs.cons (Ex.tup (Exs.cons (Ex.tup (Exs.cons (Ex.lit (T.str [42])) (Exs.cons (Ex.tup (Exs.cons (Ex.lit (T.str [119, 111, 114, 100])) (Exs.cons (Ex.lit (T.str [120])) Exs.nil))) Exs.nil))) Exs.nil)) Exs.nil)))) Exs.nil))) (Sms.cons (Sm.asg 10 (Ex.sub (Ex.call i_box (Exs.cons (Ex.var 11) Exs.nil)) (Ex.lit (T.int 1)))) (Sms.cons (Sm.asgC 6 (Ex.lc (Ex.bin .add (Ex.var 17) (Ex.ife (Ex.cmp .eq (Ex.var 18) (Ex.var 10)) (Ex.lit (T.str [32, 42, 32, 120])) (Ex.lit (T.str [32, 32, 32, 32])))) (Tg.tp (Tgs.cons (Tg.nm 18) (Tgs.cons (Tg.nm 17) Tgs.nil))) .enm (Exs.cons (Ex.var 3) Exs.nil) Exs.nil)) (Sms.cons (Sm.iff (Ex.or (Ex.cmp .ne (Ex.bi .lst (Exs.cons (Ex.var 9) Exs.nil)) (Ex.var 6)) (Ex.one (Ex.cmp .ne (Ex.mth .split (Ex.call i_shown (Exs.cons (Ex.var 11) Exs.nil)) (Exs.cons (Ex.lit (T.str [10])) Exs.nil)) (Ex.bin .add (Ex.lc (Ex.mth .rstrip (Ex.var 17) (Exs.cons (Ex.lit (T.str [32])) Exs.nil)) (Tg.nm 17) .val (Exs.cons (Ex.var 13) Exs.nil) Exs.nil) (Ex.lst (Exs.cons (Ex.lit (T.str [])) Exs.nil)))))) (Sms.cons (Sm.ret (Ex.lit (T.bl false))) Sms.nil) Sms.nil) Sms.nil))))))))))))))))))))) ρ S := prf rfl
theorem L_law_1 {c : Call} {ρ : Lenv} {S : Store} {α : Type} {f : α → T} {l : List α} (g : ((Lens.n).get (wipeR ρ [1, 2, 3, 4, 5, 6, 7, 8, 9, 10, 11, 12, 13, 14, 15, 16])).isSome = true) : forI c (Tg.nm 1) l_law_1 [] [1, 2, 3, 4, 5, 6, 7, 8, 9, 10, 11, 12, 13, 14, 15, 16] ρ S (some (l.map f)) = (forG (lpG (lv := []) Lens.n c (Tg.nm 1) l_law_1 [1, 2, 3, 4, 5, 6, 7, 8, 9, 10, 11, 12, 13, 14, 15, 16] f (wipeR ρ [1, 2, 3, 4, 5, 6, 7, 8, 9, 10, 11, 12, 13, 14, 15, 16])) l (((Lens.n).get (wipeR ρ [1, 2, 3, 4, 5, 6, 7, 8, 9, 10, 11, 12, 13, 14, 15, 16])).getD default) S).inj (fun b => (Lens.n).put b (wipeR ρ [1, 2, 3, 4, 5, 6, 7, 8, 9, 10, 11, 12, 13, 14, 15, 16])) (wipeR (wipeR ρ [1, 2, 3, 4, 5, 6, 7, 8, 9, 10, 11, 12, 13, 14, 15, 16]) []) := forI_lens' (lv := []) Lens.n (by decide +kernel) g
def b_law : Sms := (Sms.cons (Sm.for_ (Tg.nm 1) .rng (Exs.cons (Ex.lit (T.int 10)) Exs.nil) l_law_1 [] [1, 2, 3, 4, 5, 6, 7, 8, 9, 10, 11, 12, 13, 14, 15, 16]) (Sms.cons (Sm.ret (Ex.lit (T.bl true))) Sms.nil))
theorem u_law {c : Call} {ρ : Lenv} {S : Store} : exs c b_law ρ S = exs c (Sms.cons (Sm.for_ (Tg.nm 1) .rng (Exs.cons (Ex.lit (T.int 10)) Exs.nil) l_law_1 [] [1, 2, 3, 4, 5, 6, 7, 8, 9, 10, 11, 12, 13, 14, 15, 16]) (Sms.cons (Sm.ret (Ex.lit (T.bl true))) Sms.nil)) ρ S := prf rfl
def f_law : FnI := ⟨1, 19, b_law⟩
def tab : List FnI := gtab ++ [f_xlw_middle, f_law]
theorem pre : Pre tab := ⟨_, rfl⟩
theorem t_xlw_middle : tab[i_xlw_middle]? = some f_xlw_middle := rfl
theorem c_xlw_middle {n : Nat} {a0 a1 : T} {S : Store} : callF tab (n + 1) i_xlw_middle [a0, a1] S = (exs (callF tab n) b_xlw_middle [.val a0, .val a1, .un] S).fin := call_ok t_xlw_middle rfl rfl
theorem t_law : tab[i_law]? = some f_law := rfl
theorem c_law {n : Nat} {a0 : T} {S : Store} : callF tab (n + 1) i_law [a0] S = (exs (callF tab n) b_law [.val a0, .un, .un, .un, .un, .un, .un, .un, .un, .un, .un, .un, .un, .un, .un, .un, .un, .un, .un] S).fin := call_ok t_law rfl rfl
end K40
namespace K40
open PySem PySem.Spec L2 Ly
open PyProof.Rows hiding St
def h_kind : FnH := ⟨(Str.ofString "kind"), [(Str.ofString "some")]⟩
def h_parts : FnH := ⟨(Str.ofString "parts"), [(Str.ofString "some"), (Str.ofString "word"), (Str.ofString "sign"), (Str.ofString "part"), (Str.ofString "found"), (Str.ofString "row")]⟩
def h_rows_of : FnH := ⟨(Str.ofString "rows_of"), [(Str.ofString "one")]⟩
def h_box_or_none : FnH := ⟨(Str.ofString "box_or_none"), [(Str.ofString "some")]⟩
def h_columns : FnH := ⟨(Str.ofString "columns"), [(Str.ofString "rows"), (Str.ofString "k"), (Str.ofString "row")]⟩
def h_heights : FnH := ⟨(Str.ofString "heights"), [(Str.ofString "rows"), (Str.ofString "row"), (Str.ofString "part")]⟩
def h_table_box : FnH := ⟨(Str.ofString "table_box"), [(Str.ofString "rows"), (Str.ofString "wide"), (Str.ofString "high"), (Str.ofString "up"), (Str.ofString "down")]⟩
def h_box : FnH := ⟨(Str.ofString "box"), [(Str.ofString "some"), (Str.ofString "word"), (Str.ofString "wide"), (Str.ofString "base"), (Str.ofString "up"), (Str.ofString "down"), (Str.ofString "part"), (Str.ofString "one"), (Str.ofString "boxes")]⟩
def h_padded : FnH := ⟨(Str.ofString "padded"), [(Str.ofString "line"), (Str.ofString "wide"), (Str.ofString "left")]⟩
def h_blanks : FnH := ⟨(Str.ofString "blanks"), [(Str.ofString "wide"), (Str.ofString "many")]⟩
def h_raised : FnH := ⟨(Str.ofString "raised"), [(Str.ofString "some"), (Str.ofString "up"), (Str.ofString "down"), (Str.ofString "wide"), (Str.ofString "own_up"), (Str.ofString "own_down")]⟩
def h_beside : FnH := ⟨(Str.ofString "beside"), [(Str.ofString "pictures"), (Str.ofString "found"), (Str.ofString "some"), (Str.ofString "line"), (Str.ofString "other")]⟩
def h_chain_picture : FnH := ⟨(Str.ofString "chain_picture"), [(Str.ofString "some"), (Str.ofString "wide"), (Str.ofString "up"), (Str.ofString "down"), (Str.ofString "found"), (Str.ofString "sign"), (Str.ofString "part")]⟩
def h_script_picture : FnH := ⟨(Str.ofString "script_picture"), [(Str.ofString "some"), (Str.ofString "base"), (Str.ofString "up"), (Str.ofString "down"), (Str.ofString "wide"), (Str.ofString "found"), (Str.ofString "line"), (Str.ofString "rows"), (Str.ofString "left"), (Str.ofString "above"), (Str.ofString "below")]⟩
def h_table_picture : FnH := ⟨(Str.ofString "table_picture"), [(Str.ofString "some"), (Str.ofString "rows"), (Str.ofString "wides"), (Str.ofString "found"), (Str.ofString "k"), (Str.ofString "pictures"), (Str.ofString "up"), (Str.ofString "down"), (Str.ofString "part"), (Str.ofString "wide"), (Str.ofString "line")]⟩
def h_picture : FnH := ⟨(Str.ofString "picture"), [(Str.ofString "some"), (Str.ofString "word"), (Str.ofString "wide"), (Str.ofString "upper"), (Str.ofString "lower"), (Str.ofString "part"), (Str.ofString "line")]⟩
def h_shown : FnH := ⟨(Str.ofString "shown"), [(Str.ofString "some"), (Str.ofString "line")]⟩
def h_lw_cell : FnH := ⟨(Str.ofString "_law_cell"), [(Str.ofString "_law_script"), (Str.ofString "_law_k")]⟩
def h_lw_mix : FnH := ⟨(Str.ofString "_law_mix"), [(Str.ofString "_law_cell_here"), (Str.ofString "_law_prime"), (Str.ofString "_law_many"), (Str.ofString "_law_blend")]⟩
def h_lw_atom : FnH := ⟨(Str.ofString "_law_atom"), [(Str.ofString "_law_cell_here")]⟩
def h_lw_base : FnH := ⟨(Str.ofString "_law_base"), [(Str.ofString "_law_cell_here"), (Str.ofString "_law_left"), (Str.ofString "_law_way"), (Str.ofString "_law_rows"), (Str.ofString "_law_wide"), (Str.ofString "_law_k"), (Str.ofString "_law_seeds"), (Str.ofString "_law_j"), (Str.ofString "_law_seed")]⟩
def h_lw_item : FnH := ⟨(Str.ofString "_law_item"), [(Str.ofString "_law_cell_here"), (Str.ofString "_law_left"), (Str.ofString "_law_way"), (Str.ofString "_law_both"), (Str.ofString "_law_some")]⟩
def h_lw_draw : FnH := ⟨(Str.ofString "_law_draw"), [(Str.ofString "_law_cell_here"), (Str.ofString "_law_left"), (Str.ofString "_law_rest"), (Str.ofString "_law_k"), (Str.ofString "_law_sign")]⟩
def h_xlw_middle : FnH := ⟨(Str.ofString "_law_middle"), [(Str.ofString "_law_line"), (Str.ofString "_law_wide"), (Str.ofString "_law_left")]⟩
def h_law : FnH := ⟨(Str.ofString "law"), [(Str.ofString "_law_script"), (Str.ofString "_law_k"), (Str.ofString "_law_cell_here"), (Str.ofString "_law_held"), (Str.ofString "_law_roofed"), (Str.ofString "_law_most"), (Str.ofString "_law_due"), (Str.ofString "_law_above"), (Str.ofString "_law_between"), (Str.ofString "_law_signed"), (Str.ofString "_law_place"), (Str.ofString "_law_one"), (Str.ofString "_law_other"), (Str.ofString "_law_mine"), (Str.ofString "_law_yours"), (Str.ofString "_law_wide"), (Str.ofString "_law_far"), (Str.ofString "_law_line"), (Str.ofString "_law_n")]⟩
def tb : Tb := ⟨tab, [none, none, none, none, none, none, none, some h_kind, some h_parts, none, none, none, none, none, none, none, some h_rows_of, some h_box_or_none, some h_columns, some h_heights, some h_table_box, some h_box, some h_padded, some h_blanks, some h_raised, some h_beside, some h_chain_picture, some h_script_picture, some h_table_picture, some h_picture, some h_shown, none, none, none, none, none, none, none, none, none, none, none, none, none, none, none, none, none, none, none, none, none, none, none, none, none, none, none, none, none, none, none, none, none, none, none, none, none, none, none, none, none, none, none, none, none, some h_lw_cell, some h_lw_mix, some h_lw_atom, some h_lw_base, some h_lw_item, some h_lw_draw, none, none, none, none, none, none, none, none, none, none, none, none, none, none, none, none, some h_xlw_middle, some h_law]⟩
def glo : List (Str × T) := [((Str.ofString "GAP"), (T.int 3)), ((Str.ofString "BETWEEN"), (T.int 2))]
def exn : List Str := [(Str.ofString ""), (Str.ofString ""), (Str.ofString ""), (Str.ofString ""), (Str.ofString ""), (Str.ofString ""), (Str.ofString ""), (Str.ofString "")]
def top (i : Nat) : Stmt := PySem.Challenge.pw_sumlays_k40_whole_around_pictures.main.body.getD i (.Pass ⟨0, 0, 0, 0⟩)
def d_kind : He.DefD := ⟨((Str.ofString "kind"), none), (Str.ofString "kind"), (Str.ofString "kind"), defArgs (top 1), defBody (top 1), defScope (top 1), [], []⟩
def d_parts : He.DefD := ⟨((Str.ofString "parts"), none), (Str.ofString "parts"), (Str.ofString "parts"), defArgs (top 2), defBody (top 2), defScope (top 2), [], []⟩
def d_rows_of : He.DefD := ⟨((Str.ofString "rows_of"), none), (Str.ofString "rows_of"), (Str.ofString "rows_of"), defArgs (top 6), defBody (top 6), defScope (top 6), [], []⟩
def d_box_or_none : He.DefD := ⟨((Str.ofString "box_or_none"), none), (Str.ofString "box_or_none"), (Str.ofString "box_or_none"), defArgs (top 7), defBody (top 7), defScope (top 7), [], []⟩
def d_columns : He.DefD := ⟨((Str.ofString "columns"), none), (Str.ofString "columns"), (Str.ofString "columns"), defArgs (top 8), defBody (top 8), defScope (top 8), [], []⟩
def d_heights : He.DefD := ⟨((Str.ofString "heights"), none), (Str.ofString "heights"), (Str.ofString "heights"), defArgs (top 9), defBody (top 9), defScope (top 9), [], []⟩
def d_table_box : He.DefD := ⟨((Str.ofString "table_box"), none), (Str.ofString "table_box"), (Str.ofString "table_box"), defArgs (top 10), defBody (top 10), defScope (top 10), [], []⟩
def d_box : He.DefD := ⟨((Str.ofString "box"), none), (Str.ofString "box"), (Str.ofString "box"), defArgs (top 11), defBody (top 11), defScope (top 11), [], []⟩
def d_padded : He.DefD := ⟨((Str.ofString "padded"), none), (Str.ofString "padded"), (Str.ofString "padded"), defArgs (top 13), defBody (top 13), defScope (top 13), [], []⟩
def d_blanks : He.DefD := ⟨((Str.ofString "blanks"), none), (Str.ofString "blanks"), (Str.ofString "blanks"), defArgs (top 14), defBody (top 14), defScope (top 14), [], []⟩
def d_raised : He.DefD := ⟨((Str.ofString "raised"), none), (Str.ofString "raised"), (Str.ofString "raised"), defArgs (top 15), defBody (top 15), defScope (top 15), [], []⟩
def d_beside : He.DefD := ⟨((Str.ofString "beside"), none), (Str.ofString "beside"), (Str.ofString "beside"), defArgs (top 16), defBody (top 16), defScope (top 16), [], []⟩
def d_chain_picture : He.DefD := ⟨((Str.ofString "chain_picture"), none), (Str.ofString "chain_picture"), (Str.ofString "chain_picture"), defArgs (top 17), defBody (top 17), defScope (top 17), [], []⟩
def d_script_picture : He.DefD := ⟨((Str.ofString "script_picture"), none), (Str.ofString "script_picture"), (Str.ofString "script_picture"), defArgs (top 18), defBody (top 18), defScope (top 18), [], []⟩
def d_table_picture : He.DefD := ⟨((Str.ofString "table_picture"), none), (Str.ofString "table_picture"), (Str.ofString "table_picture"), defArgs (top 19), defBody (top 19), defScope (top 19), [], []⟩
def d_picture : He.DefD := ⟨((Str.ofString "picture"), none), (Str.ofString "picture"), (Str.ofString "picture"), defArgs (top 20), defBody (top 20), defScope (top 20), [], []⟩
def d_shown : He.DefD := ⟨((Str.ofString "shown"), none), (Str.ofString "shown"), (Str.ofString "shown"), defArgs (top 21), defBody (top 21), defScope (top 21), [], []⟩
def d_lw_cell : He.DefD := ⟨((Str.ofString "_law_cell"), none), (Str.ofString "_law_cell"), (Str.ofString "_law_cell"), defArgs (top 23), defBody (top 23), defScope (top 23), [], []⟩
def d_lw_mix : He.DefD := ⟨((Str.ofString "_law_mix"), none), (Str.ofString "_law_mix"), (Str.ofString "_law_mix"), defArgs (top 24), defBody (top 24), defScope (top 24), [], []⟩
def d_lw_atom : He.DefD := ⟨((Str.ofString "_law_atom"), none), (Str.ofString "_law_atom"), (Str.ofString "_law_atom"), defArgs (top 25), defBody (top 25), defScope (top 25), [], []⟩
def d_lw_base : He.DefD := ⟨((Str.ofString "_law_base"), none), (Str.ofString "_law_base"), (Str.ofString "_law_base"), defArgs (top 26), defBody (top 26), defScope (top 26), [], []⟩
def d_lw_item : He.DefD := ⟨((Str.ofString "_law_item"), none), (Str.ofString "_law_item"), (Str.ofString "_law_item"), defArgs (top 27), defBody (top 27), defScope (top 27), [], []⟩
def d_lw_draw : He.DefD := ⟨((Str.ofString "_law_draw"), none), (Str.ofString "_law_draw"), (Str.ofString "_law_draw"), defArgs (top 28), defBody (top 28), defScope (top 28), [], []⟩
def d_xlw_middle : He.DefD := ⟨((Str.ofString "_law_middle"), none), (Str.ofString "_law_middle"), (Str.ofString "_law_middle"), defArgs (top 29), defBody (top 29), defScope (top 29), [], []⟩
def d_law : He.DefD := ⟨((Str.ofString "law"), none), (Str.ofString "law"), (Str.ofString "law"), defArgs (top 30), defBody (top 30), defScope (top 30), [], []⟩
def ds : List He.DefD := [d_kind, d_parts, d_rows_of, d_box_or_none, d_columns, d_heights, d_table_box, d_box, d_padded, d_blanks, d_raised, d_beside, d_chain_picture, d_script_picture, d_table_picture, d_picture, d_shown, d_lw_cell, d_lw_mix, d_lw_atom, d_lw_base, d_lw_item, d_lw_draw, d_xlw_middle, d_law]
theorem bd_kind : BindOk (f_kind, h_kind) d_kind := fun _ _ _ _ _ _ us hl => match us, hl with | [_], _ => rfl
theorem bd_parts : BindOk (f_parts, h_parts) d_parts := fun _ _ _ _ _ _ us hl => match us, hl with | [_], _ => rfl
theorem bd_rows_of : BindOk (f_rows_of, h_rows_of) d_rows_of := fun _ _ _ _ _ _ us hl => match us, hl with | [_], _ => rfl
theorem bd_box_or_none : BindOk (f_box_or_none, h_box_or_none) d_box_or_none := fun _ _ _ _ _ _ us hl => match us, hl with | [_], _ => rfl
theorem bd_columns : BindOk (f_columns, h_columns) d_columns := fun _ _ _ _ _ _ us hl => match us, hl with | [_], _ => rfl
theorem bd_heights : BindOk (f_heights, h_heights) d_heights := fun _ _ _ _ _ _ us hl => match us, hl with | [_], _ => rfl
theorem bd_table_box : BindOk (f_table_box, h_table_box) d_table_box := fun _ _ _ _ _ _ us hl => match us, hl with | [_], _ => rfl
theorem bd_box : BindOk (f_box, h_box) d_box := fun _ _ _ _ _ _ us hl => match us, hl with | [_], _ => rfl
theorem bd_padded : BindOk (f_padded, h_padded) d_padded := fun _ _ _ _ _ _ us hl => match us, hl with | [_, _], _ => rfl
theorem bd_blanks : BindOk (f_blanks, h_blanks) d_blanks := fun _ _ _ _ _ _ us hl => match us, hl with | [_, _], _ => rfl
theorem bd_raised : BindOk (f_raised, h_raised) d_raised := fun _ _ _ _ _ _ us hl => match us, hl with | [_, _, _], _ => rfl
theorem bd_beside : BindOk (f_beside, h_beside) d_beside := fun _ _ _ _ _ _ us hl => match us, hl with | [_], _ => rfl
theorem bd_chain_picture : BindOk (f_chain_picture, h_chain_picture) d_chain_picture := fun _ _ _ _ _ _ us hl => match us, hl with | [_], _ => rfl
theorem bd_script_picture : BindOk (f_script_picture, h_script_picture) d_script_picture := fun _ _ _ _ _ _ us hl => match us, hl with | [_], _ => rfl
theorem bd_table_picture : BindOk (f_table_picture, h_table_picture) d_table_picture := fun _ _ _ _ _ _ us hl => match us, hl with | [_], _ => rfl
theorem bd_picture : BindOk (f_picture, h_picture) d_picture := fun _ _ _ _ _ _ us hl => match us, hl with | [_], _ => rfl
theorem bd_shown : BindOk (f_shown, h_shown) d_shown := fun _ _ _ _ _ _ us hl => match us, hl with | [_], _ => rfl
theorem bd_lw_cell : BindOk (f_lw_cell, h_lw_cell) d_lw_cell := fun _ _ _ _ _ _ us hl => match us, hl with | [_, _], _ => rfl
theorem bd_lw_mix : BindOk (f_lw_mix, h_lw_mix) d_lw_mix := fun _ _ _ _ _ _ us hl => match us, hl with | [_, _, _], _ => rfl
theorem bd_lw_atom : BindOk (f_lw_atom, h_lw_atom) d_lw_atom := fun _ _ _ _ _ _ us hl => match us, hl with | [_], _ => rfl
theorem bd_lw_base : BindOk (f_lw_base, h_lw_base) d_lw_base := fun _ _ _ _ _ _ us hl => match us, hl with | [_, _], _ => rfl
theorem bd_lw_item : BindOk (f_lw_item, h_lw_item) d_lw_item := fun _ _ _ _ _ _ us hl => match us, hl with | [_, _], _ => rfl
theorem bd_lw_draw : BindOk (f_lw_draw, h_lw_draw) d_lw_draw := fun _ _ _ _ _ _ us hl => match us, hl with | [_, _], _ => rfl
theorem bd_xlw_middle : BindOk (f_xlw_middle, h_xlw_middle) d_xlw_middle := fun _ _ _ _ _ _ us hl => match us, hl with | [_, _], _ => rfl
theorem bd_law : BindOk (f_law, h_law) d_law := fun _ _ _ _ _ _ us hl => match us, hl with | [_], _ => rfl
theorem bds : BindAll tb.l tb.h ds := ⟨bd_kind, bd_parts, bd_rows_of, bd_box_or_none, bd_columns, bd_heights, bd_table_box, bd_box, bd_padded, bd_blanks, bd_raised, bd_beside, bd_chain_picture, bd_script_picture, bd_table_picture, bd_picture, bd_shown, bd_lw_cell, bd_lw_mix, bd_lw_atom, bd_lw_base, bd_lw_item, bd_lw_draw, bd_xlw_middle, bd_law, trivial⟩
theorem oks : okAll tb glo exn tb.l tb.h ds = true := by decide +kernel
end K40
namespace Ly
open PySem PySem.Spec
theorem flat_pre {α : Type} {rows pre post : List (List α)} {a : List α} (e : rows = pre ++ a :: post) : pre.flatten.length + a.length ≤ rows.flatten.length := by
  rw [e]; simp
theorem fl_len {α : Type} {n : Nat} {f : Fin n → α} : (fl n f).length = n := by rw [List.length_map, List.length_finRange]
theorem flat_len {α β : Type} {l : List β} {w : Nat} {f : β → List α} (h : ∀ i, (f i).length = w) : (l.map f).flatten.length = l.length * w := by
  induction l with
  | nil => simp
  | cons a l ih => rw [List.map_cons, List.flatten_cons, List.length_append, ih, h, List.length_cons, Nat.add_mul]; omega
theorem fl_ne {α : Type} {n : Nat} {f : Fin n → α} (h : 1 ≤ n) : fl n f ≠ [] := fun q => by
  have := fl_len (f := f)
  rw [q] at this
  simp at this; omega
theorem finRange_ne {n : Nat} (h : 1 ≤ n) : List.finRange n ≠ [] := fun q => by
  have := List.length_finRange (n := n)
  rw [q] at this
  simp at this; omega
/-- range(n), by numbers below n -/
theorem rng_fin {n : Nat} : (List.range n).map (fun (k : Nat) => T.int k) = (List.finRange n).map fun k => T.int (k.1 : Nat) := by
  refine List.ext_getElem? fun i => ?_
  rw [List.getElem?_map, List.getElem?_map]
  by_cases h : i < n
  · rw [List.getElem?_range h, List.getElem?_eq_getElem (by rw [List.length_finRange]; exact h)]; simp
  · rw [List.getElem?_eq_none (by rw [List.length_range]; omega), List.getElem?_eq_none (by rw [List.length_finRange]; omega)]; rfl
theorem it_rngF {n : Nat} (h : n ≤ 1000) : itemsF .rng [.int (n : Nat)] = some ((List.finRange n).map fun k => T.int (k.1 : Nat)) := by
  rw [it_rng1 (by omega), ← rng_fin]; rfl
theorem fl_get {α : Type} {n : Nat} {f : Fin n → α} (k : Fin n) : (fl n f)[k.1]? = some (f k) := by
  rw [List.getElem?_map, List.getElem?_eq_getElem (by rw [List.length_finRange]; exact k.2)]
  simp
theorem sub_tf {n : Nat} {f : Fin n → T} (k : Fin n) : T.sub? (.tup ((List.finRange n).map f)) (.int (k.1 : Nat)) = some (f k) := sub_tk (fl_get k)
theorem sub_lf {n : Nat} {f : Fin n → T} (k : Fin n) : T.sub? (.lst ((List.finRange n).map f)) (.int (k.1 : Nat)) = some (f k) := sub_lk (fl_get k)
theorem sub_t0f {n : Nat} {f : Fin n → T} (h : 1 ≤ n) : T.sub? (.tup ((List.finRange n).map f)) (.int 0) = some (f ⟨0, h⟩) := sub_tf ⟨0, h⟩
theorem maxI_cons {a : Int} {l : List Int} (h : l ≠ []) : maxI (a :: l) = max a (maxI l) := by
  cases l with
  | nil => exact absurd rfl h
  | cons b l => rfl
/-! ### the walks -/
section
variable {tab : List FnI} (P : Pre tab) {n : Nat} {S : Store}
include P
theorem w_kind {t : T} {l : List T} : callF tab (n + 1) i_kind [.tup (t :: l)] S = .ok t S := by
  rw [c_kind P]; simp! [u_kind]
theorem w_parts (s : Tr) (W : s.Wf) : callF tab (n + 2) i_parts [s.toT] S = .ok (.tup (s.kids.map Tr.toT)) S := by
  have sl : (1001000 : Nat) ≤ 16777216 := by decide
  rw [c_parts P]
  cases s with
  | chain a m g p =>
    simp only [Tr.Wf] at W
    simp! [u_parts, Tr.toT, w_kind P, Tr.kids, List.map_map, Function.comp_def, List.length_finRange, show 0 + 1 + m ≤ 16777216 by omega]
  | table h w m =>
    simp only [Tr.Wf] at W
    have sz : h * w ≤ 1000 * 1000 := Nat.mul_le_mul W.1.2 W.2.1.2
    have len : ∀ l : List (Fin h), (l.map fun i => fl w fun j => (m i j).toT).flatten.length = l.length * w := fun l => flat_len fun i => fl_len
    simp! [u_parts, Tr.toT, w_kind P, Tr.kids, L_parts_1]
    rw [forG_nx (b0 := .tup []) (fun pre : List (Fin h) => T.tup (pre.map fun i => fl w fun j => (m i j).toT).flatten) rfl fun pre a post e => by
      have h1 := congrArg List.length e
      rw [List.length_finRange, List.length_append, List.length_cons] at h1
      have : (pre.length + 1) * w ≤ h * w := Nat.mul_le_mul_right _ (by omega)
      rw [Nat.add_mul] at this
      have ll := len pre
      simp! [u_parts_1, List.flatten_append, List.map_append, List.flatten_cons, List.flatten_nil, List.append_nil, ll, List.length_finRange, show pre.length * w + w ≤ 16777216 by omega]]
    simp! [List.map_flatten, List.map_map, Function.comp_def]
  | _ => simp! [u_parts, Tr.toT, w_kind P, Tr.kids, Tr.isNon]
theorem w_rows_of {b : Bx} : callF tab (n + 1) i_rows_of [boxT b] S = .ok (.int b.high) S := by
  rw [c_rows_of P]; simp! [u_rows_of, boxT, Bx.high]
theorem w_rows_non : callF tab (n + 1) i_rows_of [.non] S = .ok (.int 0) S := by
  rw [c_rows_of P]; simp! [u_rows_of]
theorem w_columns {h w : Nat} {m : Fin h → Fin w → Tr} (h1 : 1 ≤ h) (w1 : w ≤ 1000) (hb : ∀ i j S, callF tab n i_box [(m i j).toT] S = .ok (boxT (m i j).bx) S) :
    callF tab (n + 1) i_columns [.tup (fl h fun i => .tup (fl w fun j => (m i j).toT))] S = .ok (.lst (fl w fun j => .int (colW (fun i j => (m i j).bx) j))) S := by
  rw [c_columns P]
  simp! [u_columns, sub_t0f h1, List.length_finRange, it_rngF w1, sub_tf, hb, boxT, bi_max_m (finRange_ne h1), colW]
theorem w_heights {h w : Nat} {m : Fin h → Fin w → Tr} (w1 : 1 ≤ w) (hb : ∀ i j S, callF tab n i_box [(m i j).toT] S = .ok (boxT (m i j).bx) S) :
    callF tab (n + 1) i_heights [.tup (fl h fun i => .tup (fl w fun j => (m i j).toT))] S = .ok (.lst (fl h fun i => .tup [.int (rowU (fun i j => (m i j).bx) i), .int (rowD (fun i j => (m i j).bx) i)])) S := by
  rw [c_heights P]
  simp! [u_heights, hb, boxT, bi_max_m (finRange_ne w1), rowU, rowD]
theorem w_table_box {h w : Nat} {m : Fin h → Fin w → Tr} (W : (Tr.table h w m).Wf) (hb : ∀ i j S, callF tab n i_box [(m i j).toT] S = .ok (boxT (m i j).bx) S) :
    callF tab (n + 2) i_table_box [.tup (fl h fun i => .tup (fl w fun j => (m i j).toT))] S = .ok (boxT (Tr.table h w m).bx) S := by
  simp only [Tr.Wf] at W
  rw [c_table_box P]
  simp! [u_table_box, w_columns P W.1.1 W.2.1.2 hb, w_heights P W.2.1.1 hb, List.length_finRange, boxT, Tr.bx, tabW, tabH]
theorem w_bon_non : callF tab (n + 1) i_box_or_none [.non] S = .ok .non S := by
  rw [c_box_or_none P]; simp! [u_box_or_none]
theorem w_bon {s : Tr} {b : T} (h : ∀ S, callF tab n i_box [s.toT] S = .ok b S) : callF tab (n + 1) i_box_or_none [s.toT] S = .ok b S := by
  rw [c_box_or_none P]; simp! [u_box_or_none, Tr.isNon, h]
theorem w_box : ∀ s : Tr, s.Wf → Ev tab i_box [s.toT] (boxT s.bx) (3 * s.ht) := fun s => by
  induction s with
  | word x =>
    intro W n hn S
    obtain ⟨k, rfl⟩ : ∃ k, n = k + 3 := ⟨n - 3, by simp only [Tr.ht] at hn; omega⟩
    rw [c_box P]; simp! [u_box, Tr.toT, w_kind P, Tr.bx, boxT]
  | held a ih =>
    intro W n hn S
    simp only [Tr.ht] at hn
    obtain ⟨k, rfl⟩ : ∃ k, n = k + 3 := ⟨n - 3, by omega⟩
    have hp := fun S => w_parts P (n := k) (S := S) (.held a) W
    have ha := ih W (k + 2) (by omega)
    simp only [Tr.toT, Tr.kids, List.map_cons, List.map_nil] at hp
    rw [c_box P]; simp! [u_box, Tr.toT, w_kind P, Tr.bx, hp, ha, boxT]
  | root a ih =>
    intro W n hn S
    simp only [Tr.ht] at hn
    obtain ⟨k, rfl⟩ : ∃ k, n = k + 3 := ⟨n - 3, by omega⟩
    have hp := fun S => w_parts P (n := k) (S := S) (.root a) W
    have ha := ih W (k + 2) (by omega)
    simp only [Tr.toT, Tr.kids, List.map_cons, List.map_nil] at hp
    rw [c_box P]; simp! [u_box, Tr.toT, w_kind P, Tr.bx, hp, ha, boxT]
  | over a b i1 i2 =>
    intro W n hn S
    simp only [Tr.ht] at hn
    obtain ⟨k, rfl⟩ : ∃ k, n = k + 3 := ⟨n - 3, by omega⟩
    have hp := fun S => w_parts P (n := k) (S := S) (.over a b) W
    have ha := i1 W.1 (k + 2) (by omega)
    have hb := i2 W.2 (k + 2) (by omega)
    simp only [Tr.toT, Tr.kids, List.map_cons, List.map_nil] at hp
    have hr := fun b S => w_rows_of P (n := k + 1) (S := S) (b := b)
    simp only [boxT] at hr
    rw [c_box P]; simp! [u_box, Tr.toT, w_kind P, Tr.bx, hp, ha, hb, boxT, hr]
  | scU a u i1 i2 =>
    intro W n hn S
    simp only [Tr.ht] at hn
    obtain ⟨k, rfl⟩ : ∃ k, n = k + 3 := ⟨n - 3, by omega⟩
    have ha := fun S => w_bon P (n := k + 1) (S := S) (i1 W.1 (k + 1) (by omega))
    have hb := fun S => w_bon P (n := k + 1) (S := S) (i2 W.2 (k + 1) (by omega))
    have hr := fun b S => w_rows_of P (n := k + 1) (S := S) (b := b)
    simp only [boxT] at hr
    rw [c_box P]; simp! [u_box, Tr.toT, w_kind P, Tr.bx, ha, hb, boxT, hr, w_bon_non P, w_rows_non P]
    simp! [Int.add_zero]
  | scD a u i1 i2 =>
    intro W n hn S
    simp only [Tr.ht] at hn
    obtain ⟨k, rfl⟩ : ∃ k, n = k + 3 := ⟨n - 3, by omega⟩
    have ha := fun S => w_bon P (n := k + 1) (S := S) (i1 W.1 (k + 1) (by omega))
    have hb := fun S => w_bon P (n := k + 1) (S := S) (i2 W.2 (k + 1) (by omega))
    have hr := fun b S => w_rows_of P (n := k + 1) (S := S) (b := b)
    simp only [boxT] at hr
    rw [c_box P]; simp! [u_box, Tr.toT, w_kind P, Tr.bx, ha, hb, boxT, hr, w_bon_non P, w_rows_non P]
    simp! [Int.add_zero]
  | scB a u d i1 i2 i3 =>
    intro W n hn S
    simp only [Tr.ht] at hn
    obtain ⟨k, rfl⟩ : ∃ k, n = k + 3 := ⟨n - 3, by omega⟩
    have ha := fun S => w_bon P (n := k + 1) (S := S) (i1 W.1 (k + 1) (by omega))
    have hb := fun S => w_bon P (n := k + 1) (S := S) (i2 W.2.1 (k + 1) (by omega))
    have hd := fun S => w_bon P (n := k + 1) (S := S) (i3 W.2.2 (k + 1) (by omega))
    have hr := fun b S => w_rows_of P (n := k + 1) (S := S) (b := b)
    simp only [boxT] at hr
    rw [c_box P]; simp! [u_box, Tr.toT, w_kind P, Tr.bx, ha, hb, hd, boxT, hr, w_bon_non P, w_rows_non P]
  | chain a m g p i1 i2 =>
    intro W n hn S
    obtain ⟨k, rfl⟩ : ∃ k, n = k + 3 := ⟨n - 3, by simp only [Tr.ht] at hn; omega⟩
    have hp := fun S => w_parts P (n := k) (S := S) (.chain a m g p) W
    simp only [Tr.toT, Tr.kids, List.map_cons, List.map_map, Function.comp_def] at hp
    have ha := i1 W.2.1 (k + 2) (by have := Tr.ht_chain (a := a) (g := g) (p := p); omega)
    have hb := fun i => i2 i (W.2.2 i) (k + 2) (by have := Tr.ht_p (a := a) (g := g) (p := p) i; omega)
    rw [c_box P]; simp! [u_box, Tr.toT, w_kind P, Tr.bx, hp, ha, hb, boxT]
    rw [List.length_finRange, show ∀ x y : Int, x + y + 3 * (((m + 1 : Nat) : Int) - 1) = x + y + 3 * m by intros; omega]
  | table h w m ih =>
    intro W n hn S
    obtain ⟨k, rfl⟩ : ∃ k, n = k + 3 := ⟨n - 3, by simp only [Tr.ht] at hn; omega⟩
    have hb := fun i j => ih i j (W.2.2 i j) (k + 0) (by have := Tr.ht_m (m := m) i j; omega)
    have ht := fun S => w_table_box P (S := S) W hb
    rw [c_box P]; simp! [u_box, Tr.toT, w_kind P, ht]
end
end Ly
namespace Ly
open PySem PySem.Spec
theorem range_toT {n : Nat} {f : Nat → T} : (List.range n).map f = (List.finRange n).map fun i => f i.1 := fl_range.symm
theorem rngSz_mul {h w : Nat} (w1 : 1 ≤ w) : (rngSz 0 ((h * w : Nat) : Int) (w : Nat)).toNat = h := by
  unfold rngSz
  rw [if_pos (by omega)]
  cases h with
  | zero => simp
  | succ h =>
    have e : ((((h + 1) * w : Nat) : Int) - 0 - 1) = ((h * w + (w - 1) : Nat) : Int) := by rw [Nat.add_mul]; omega
    rw [if_pos (by rw [Nat.add_mul]; omega), e]
    have : ((h * w + (w - 1) : Nat) : Int) / (w : Nat) = ((h * w + (w - 1)) / w : Nat) := by omega
    rw [this]
    have : (h * w + (w - 1)) / w = h := by
      rw [Nat.mul_comm, Nat.mul_add_div (by omega), Nat.div_eq_of_lt (by omega)]; omega
    rw [this]; omega
theorem cut_range {α : Type} {n i w : Nat} {f : Nat → α} (h : i + w ≤ n) : cutL ((List.range n).map f) (some ((i : Nat) : Int)) (some (((i + w : Nat)) : Int)) = (List.range w).map fun j => f (i + j) := by
  unfold cutL clip
  simp only [List.length_map, List.length_range]
  rw [if_neg (by omega), if_neg (by omega)]
  rw [show min ((i : Nat) : Int).toNat n = i by omega, show min ((i + w : Nat) : Int).toNat n - i = w by omega]
  refine List.ext_getElem? fun j => ?_
  rw [List.getElem?_take, List.getElem?_drop, List.getElem?_map, List.getElem?_map]
  by_cases hj : j < w
  · rw [if_pos hj, List.getElem?_range (by omega), List.getElem?_range hj]; rfl
  · rw [if_neg hj, List.getElem?_eq_none (by rw [List.length_range]; omega)]; rfl
section
variable {tab : List FnI} (P : Pre tab) {n : Nat} {S : Store}
include P
theorem w_with_parts (s : Tr) (W : s.Wf) (f : Nat → Tr) : callF tab (n + 2) i_with_parts [s.toT, .tup ((List.range s.nk).map fun k => (f k).toT)] S = .ok (s.withK f).toT S := by
  rw [c_with_parts P]
  have two : List.range 2 = [0, 1] := rfl
  have three : List.range 3 = [0, 1, 2] := rfl
  have one : List.range 1 = [0] := rfl
  have sl : (1000 : Nat) ≤ 16777216 := by decide
  cases s with
  | word x => simp! [u_with_parts, Tr.toT, w_kind P, Tr.withK]
  | held a => simp! [u_with_parts, Tr.toT, w_kind P, Tr.withK, Tr.nk, one, popL, Tr.isNon, show 0 + 1 + 1 ≤ 16777216 by omega]
  | root a => simp! [u_with_parts, Tr.toT, w_kind P, Tr.withK, Tr.nk, one, popL, Tr.isNon, show 0 + 1 + 1 ≤ 16777216 by omega]
  | over a b => simp! [u_with_parts, Tr.toT, w_kind P, Tr.withK, Tr.nk, two, popL, Tr.isNon, show 0 + 1 + 1 + 1 ≤ 16777216 by omega]
  | scU a b => simp! [u_with_parts, Tr.toT, w_kind P, Tr.withK, Tr.nk, two, popL, Tr.isNon, show 0 + 1 + 1 + 1 + 1 ≤ 16777216 by omega]
  | scD a b => simp! [u_with_parts, Tr.toT, w_kind P, Tr.withK, Tr.nk, two, popL, Tr.isNon, show 0 + 1 + 1 + 1 + 1 ≤ 16777216 by omega]
  | scB a b d => simp! [u_with_parts, Tr.toT, w_kind P, Tr.withK, Tr.nk, three, popL, Tr.isNon, show 0 + 1 + 1 + 1 + 1 ≤ 16777216 by omega]
  | chain a m g p =>
    have e : (List.range (m + 1)).map (fun k => (f k).toT) = (f 0).toT :: fl m fun i => (f (i.1 + 1)).toT := by
      rw [fl_range (f := fun i => (f (i + 1)).toT), List.range_succ_eq_map, List.map_cons, List.map_map]; rfl
    simp! [u_with_parts, Tr.toT, w_kind P, Tr.withK, Tr.nk, e]
  | table h w m =>
    simp only [Tr.Wf] at W
    have hw : h * w ≤ 1000 * 1000 := Nat.mul_le_mul W.1.2 W.2.1.2
    have one : 1 ≤ h := W.1.1
    have e : itemsF .rng [.int 0, .int ((h * w : Nat) : Int), .int (w : Nat)] = some ((List.finRange h).map fun i => T.int ((i.1 * w : Nat) : Int)) := by
      rw [it_rng3 (by omega), rngSz_mul W.2.1.1, range_toT]
      simp
    have c : ∀ i : _root_.Fin h, T.slc (.tup ((List.range (h * w)).map fun k => (f k).toT)) (some ((i.1 * w : Nat) : Int)) (some (((i.1 * w : Nat) : Int) + (w : Nat))) = some (.tup (fl w fun j => (f (i.1 * w + j.1)).toT)) := fun i => by
      have : (i.1 + 1) * w ≤ h * w := Nat.mul_le_mul_right _ i.2
      rw [Nat.add_mul] at this
      rw [T.slc, show (((i.1 * w : Nat) : Int) + (w : Nat)) = ((i.1 * w + w : Nat) : Int) by omega, cut_range (by omega), fl_range (f := fun j => (f (i.1 * w + j)).toT)]
    simp! [u_with_parts, Tr.toT, w_kind P, Tr.withK, Tr.nk, sub_t0f one, List.length_finRange, List.length_range, e, c]
end
end Ly
namespace Ly
/-- how many sums -/
def Tr.size : Tr → Nat
  | .word _ => 1
  | .held a => 1 + a.size
  | .root a => 1 + a.size
  | .over a b => 1 + (a.size + b.size)
  | .scU a u => 1 + (a.size + u.size)
  | .scD a d => 1 + (a.size + d.size)
  | .scB a u d => 1 + (a.size + (u.size + d.size))
  | .chain a n g p => 1 + (a.size + (fl n fun i => (p i).size).sum)
  | .table h w m => 1 + (fl h fun i => (fl w fun j => (m i j).size).sum).sum
theorem sum_flat {l : List (List Nat)} : l.flatten.sum = (l.map List.sum).sum := by
  induction l with
  | nil => rfl
  | cons a l ih => rw [List.flatten_cons, List.sum_append, ih, List.map_cons, List.sum_cons]
theorem Tr.size_eq (s : Tr) : s.size = 1 + (s.kids.map Tr.size).sum := by
  cases s <;> simp only [Tr.size, Tr.kids, List.map_cons, List.map_nil, List.sum_cons, List.sum_nil, List.map_map, Nat.add_zero, List.map_flatten, sum_flat, Function.comp_def]
theorem Tr.size_pos (s : Tr) : 1 ≤ s.size := by rw [s.size_eq]; omega
theorem le_sum {l : List Nat} {x : Nat} (h : x ∈ l) : x ≤ l.sum := by
  induction l with
  | nil => simp at h
  | cons a l ih =>
    rw [List.sum_cons]
    rcases List.mem_cons.mp h with rfl | h
    · omega
    · have := ih h; omega
theorem Tr.size_kid {s p : Tr} (h : p ∈ s.kids) : p.size + 1 ≤ s.size := by
  rw [s.size_eq]
  have := le_sum (List.mem_map_of_mem (f := Tr.size) h)
  omega
theorem Tr.ht_size (s : Tr) : s.ht ≤ s.size := by
  induction s with
  | word x => simp [Tr.ht, Tr.size]
  | held a ih => simp only [Tr.ht, Tr.size]; omega
  | root a ih => simp only [Tr.ht, Tr.size]; omega
  | over a b i1 i2 => simp only [Tr.ht, Tr.size]; omega
  | scU a u i1 i2 => simp only [Tr.ht, Tr.size]; omega
  | scD a d i1 i2 => simp only [Tr.ht, Tr.size]; omega
  | scB a u d i1 i2 i3 => simp only [Tr.ht, Tr.size]; omega
  | chain a n g p i1 i2 =>
    have : maxN (fl n fun i => (p i).ht) ≤ (fl n fun i => (p i).size).sum := maxN_flo fun i => Nat.le_trans (i2 i) (le_sum (List.mem_map_of_mem (List.mem_finRange i)))
    simp only [Tr.ht, Tr.size]; omega
  | table h w m ih =>
    have : maxN (fl h fun i => maxN (fl w fun j => (m i j).ht)) ≤ (fl h fun i => (fl w fun j => (m i j).size).sum).sum := maxN_flo fun i =>
      Nat.le_trans (maxN_flo fun j => Nat.le_trans (ih i j) (le_sum (List.mem_map_of_mem (f := fun j => (m i j).size) (List.mem_finRange j)))) (le_sum (List.mem_map_of_mem (f := fun i => (fl w fun j => (m i j).size).sum) (List.mem_finRange i)))
    simp only [Tr.ht, Tr.size]; omega
/-- one part's ways, behind its number -/
def pre1 (k : Nat) (l : List (List Int)) : List (List Int) := l.map fun w => (k : Int) :: w
/-- the ways into parts -/
def waysK (l : List (List (List Int))) : List (List Int) := (l.zipIdx.map fun q => pre1 q.2 q.1).flatten
def Tr.ways : Tr → List (List Int)
  | .word _ => [] :: waysK []
  | .held a => [] :: waysK [a.ways]
  | .root a => [] :: waysK [a.ways]
  | .over a b => [] :: waysK [a.ways, b.ways]
  | .scU a u => [] :: waysK [a.ways, u.ways]
  | .scD a d => [] :: waysK [a.ways, d.ways]
  | .scB a u d => [] :: waysK [a.ways, u.ways, d.ways]
  | .chain a n g p => [] :: waysK (a.ways :: fl n fun i => (p i).ways)
  | .table h w m => [] :: waysK (fl h fun i => fl w fun j => (m i j).ways).flatten
theorem Tr.ways_eq (s : Tr) : s.ways = [] :: waysK (s.kids.map Tr.ways) := by
  cases s <;> simp only [Tr.ways, Tr.kids, List.map_cons, List.map_nil, List.map_map, List.map_flatten, Function.comp_def]
theorem waysK_len (l : List (List (List Int))) : (waysK l).length = (l.map List.length).sum := by
  unfold waysK
  have : ∀ (l : List (List (List Int))) (k : Nat), ((l.zipIdx k).map fun q => pre1 q.2 q.1).flatten.length = (l.map List.length).sum := fun l => by
    induction l with
    | nil => intro k; rfl
    | cons a l ih => intro k; rw [List.zipIdx_cons, List.map_cons, List.flatten_cons, List.length_append, ih, List.map_cons, List.sum_cons]; simp [pre1]
  exact this l 0
theorem Tr.ways_len : ∀ s : Tr, s.ways.length = s.size := Tr.ind fun s ih => by
  rw [s.ways_eq, s.size_eq, List.length_cons, waysK_len, List.map_map]
  have : s.kids.map (List.length ∘ Tr.ways) = s.kids.map Tr.size := List.map_congr_left fun p hp => ih p hp
  rw [this]; omega
theorem mem_waysK {l : List (List (List Int))} {w : List Int} (h : w ∈ waysK l) : ∃ (k : Nat) (v : List Int) (x : List (List Int)), l[k]? = some x ∧ v ∈ x ∧ w = (k : Int) :: v := by
  obtain ⟨y, hy, hw⟩ := List.mem_flatten.mp h
  obtain ⟨q, hq, rfl⟩ := List.mem_map.mp hy
  obtain ⟨v, hv, rfl⟩ := List.mem_map.mp hw
  exact ⟨q.2, v, q.1, List.mem_zipIdx_iff_getElem?.mp hq, hv, rfl⟩
theorem waysK_mem {l : List (List (List Int))} {k : Nat} {v : List Int} {x : List (List Int)} (h : l[k]? = some x) (hv : v ∈ x) : (k : Int) :: v ∈ waysK l := by
  refine List.mem_flatten.mpr ⟨pre1 k x, List.mem_map.mpr ⟨(x, k), ?_, rfl⟩, List.mem_map_of_mem hv⟩
  exact List.mem_zipIdx_iff_getElem?.mpr h
/-- a way into s: the ways of its parts, behind their numbers -/
theorem Tr.mem_ways {s : Tr} {w : List Int} : w ∈ s.ways ↔ w = [] ∨ ∃ (k : Nat) (v : List Int) (p : Tr), s.kids[k]? = some p ∧ v ∈ p.ways ∧ w = (k : Int) :: v := by
  rw [s.ways_eq, List.mem_cons]
  constructor
  · rintro (h | h)
    · exact .inl h
    · obtain ⟨k, v, x, h1, h2, h3⟩ := mem_waysK h
      rw [List.getElem?_map] at h1
      cases e : s.kids[k]? with
      | none => rw [e] at h1; cases h1
      | some p => rw [e] at h1; cases h1; exact .inr ⟨k, v, p, e, h2, h3⟩
  · rintro (h | ⟨k, v, p, h1, h2, h3⟩)
    · exact .inl h
    · subst h3
      exact .inr (waysK_mem (by rw [List.getElem?_map, h1]; rfl) h2)
theorem Tr.ways_short : ∀ s : Tr, ∀ w ∈ s.ways, w.length < s.ht := Tr.ind fun s ih w hw => by
  rcases Tr.mem_ways.mp hw with rfl | ⟨k, v, p, h1, h2, rfl⟩
  · have := s.ht_pos; simp; omega
  · have hk := List.mem_of_getElem? h1
    have := ih p hk v h2
    have := Tr.kids_ht hk
    simp only [List.length_cons]; omega
/-- the part with a number -/
def Tr.kidI (s : Tr) (k : Int) : Option Tr := if 0 ≤ k ∧ k < s.kids.length then s.kids[k.toNat]? else none
/-- the part at a way -/
def Tr.at : Tr → List Int → Option Tr
  | s, [] => some s
  | s, k :: w => (s.kidI k).bind fun p => p.at w
theorem Tr.kidI_nat {s : Tr} {k : Nat} : s.kidI (k : Nat) = s.kids[k]? := by
  unfold Tr.kidI
  by_cases h : k < s.kids.length
  · rw [if_pos (by omega), Int.toNat_natCast]
  · rw [if_neg (by omega), List.getElem?_eq_none (by omega)]
theorem Tr.kidI_some {s p : Tr} {k : Int} (h : s.kidI k = some p) : ∃ m : Nat, k = m ∧ s.kids[m]? = some p := by
  unfold Tr.kidI at h
  split at h
  · exact ⟨k.toNat, by omega, h⟩
  · cases h
theorem Tr.at_ways : ∀ (w : List Int) (s : Tr), (s.at w).isSome = true ↔ w ∈ s.ways
  | [], s => ⟨fun _ => Tr.mem_ways.mpr (.inl rfl), fun _ => rfl⟩
  | k :: w, s => by
    rw [Tr.mem_ways, Tr.at]
    constructor
    · intro h
      cases e : s.kidI k with
      | none => rw [e] at h; cases h
      | some p =>
        rw [e] at h
        obtain ⟨m, rfl, hm⟩ := Tr.kidI_some e
        exact .inr ⟨m, w, p, hm, (Tr.at_ways w p).mp h, rfl⟩
    · rintro (h | ⟨m, v, p, h1, h2, h3⟩)
      · cases h
      · cases h3
        rw [Tr.kidI_nat, h1]
        exact (Tr.at_ways w p).mpr h2
theorem Tr.at_app : ∀ (w v : List Int) (s : Tr), s.at (w ++ v) = (s.at w).bind fun p => p.at v
  | [], v, s => rfl
  | k :: w, v, s => by
    rw [List.cons_append, Tr.at, Tr.at]
    cases s.kidI k with
    | none => rfl
    | some p => exact Tr.at_app w v p
theorem Tr.at_Wf : ∀ {w : List Int} {s p : Tr}, s.Wf → s.at w = some p → p.Wf ∧ p.ht + w.length ≤ s.ht
  | [], s, p, W, h => by cases h; exact ⟨W, by simp⟩
  | k :: w, s, p, W, h => by
    rw [Tr.at] at h
    cases e : s.kidI k with
    | none => rw [e] at h; cases h
    | some q =>
      rw [e] at h
      obtain ⟨m, rfl, hm⟩ := Tr.kidI_some e
      have hk := List.mem_of_getElem? hm
      have ih := Tr.at_Wf (W.kid hk) h
      have := Tr.kids_ht hk
      exact ⟨ih.1, by have := ih.2; simp only [List.length_cons]; omega⟩
/-! ### other parts -/
def Tr.mayBe (s : Tr) (k : Int) (p : Tr) : Bool := match s with
  | .chain .. => !p.isChain
  | .scU .. => decide (0 < k) || p.isBase
  | .scD .. => decide (0 < k) || p.isBase
  | .scB .. => decide (0 < k) || p.isBase
  | _ => true
/-- with new at a way; none if it can not stand there -/
def Tr.put : Tr → List Int → Tr → Option Tr
  | _, [], new => some new
  | s, k :: w, new => (s.kidI k).bind fun p => (p.put w new).bind fun p' => if s.mayBe k p' then some (s.rebuild (s.kids.set k.toNat p')) else none
end Ly
namespace Ly
open PySem PySem.Spec
def wayT (w : List Int) : T := .tup (w.map T.int)
/-- a class of refusals -/
abbrev xNoWay : Nat := 1
abbrev xBadSum : Nat := 2
theorem at_foldO : ∀ (w : List Int) (s : Tr), s.at w = foldO Tr.kidI s w
  | [], s => rfl
  | k :: w, s => by
    rw [Tr.at, foldO]
    cases s.kidI k with
    | none => rfl
    | some p => exact at_foldO w p
section
variable {tab : List FnI} (P : Pre tab) {n : Nat} {S : Store}
include P
theorem w_ways : ∀ s : Tr, s.Wf → s.size ≤ 1000000 → Ev tab i_ways [s.toT] (.tup (s.ways.map wayT)) (s.ht + 2) := Tr.ind fun s ih W hz n hn S => by
  have hp := s.ht_pos
  obtain ⟨k, rfl⟩ : ∃ k, n = k + 3 := ⟨n - 3, by omega⟩
  have hk : ∀ q ∈ s.kids.zipIdx, ∀ S, callF tab (k + 2) i_ways [q.1.toT] S = .ok (.tup (q.1.ways.map wayT)) S := fun q hq => by
    have hm : q.1 ∈ s.kids := List.mem_of_getElem? (List.mem_zipIdx_iff_getElem?.mp hq)
    have := Tr.kids_ht hm
    have := Tr.size_kid hm
    exact ih q.1 hm (W.kid hm) (by omega) (k + 2) (by omega)
  rw [c_ways P]
  have hpart := fun S => w_parts P (n := k) (S := S) s W
  have sl : (2000000 : Nat) ≤ 16777216 := by decide
  have wl := s.ways_len
  have we := s.ways_eq
  have tot : s.ways = [] :: (s.kids.zipIdx.map fun q => pre1 q.2 q.1.ways).flatten := by
    rw [we, waysK, List.zipIdx_map, List.map_map]; rfl
  simp! [u_ways, hpart, List.zipIdx_map, L_ways_1]
  rw [forG_nx (b0 := [T.tup []]) (fun pre : List (Tr × Nat) => (([] :: (pre.map fun q => pre1 q.2 q.1.ways).flatten).map wayT)) rfl fun pre a post e => by
    have ha : a ∈ s.kids.zipIdx := by rw [e]; simp
    have hm : a.1 ∈ s.kids := List.mem_of_getElem? (List.mem_zipIdx_iff_getElem?.mp ha)
    have hw := hk a ha
    rw [← List.attach_map_subtype_val a.1.ways, List.map_map] at hw
    have lw : ∀ w : {w // w ∈ a.1.ways}, T.add (.tup [.int (a.2 : Nat)]) (wayT w.1) = some (wayT ((a.2 : Nat) :: w.1)) := fun w => by
      have h1 := Tr.ways_short a.1 w.1 w.2
      have h2 := Tr.kids_ht hm
      have h3 := s.ht_size
      rw [wayT, add_t, szL, if_pos (by simp only [List.length_cons, List.length_nil, List.length_map]; omega)]
      rfl
    have big : (pre.map fun q => pre1 q.2 q.1.ways).flatten.length + 1 + a.1.ways.attach.length ≤ 16777216 := by
      have : ([] :: (pre.map fun q => pre1 q.2 q.1.ways).flatten : List (List Int)).length + a.1.ways.length ≤ s.ways.length := by
        rw [tot, e, List.map_append, List.flatten_append, List.map_cons, List.flatten_cons]
        simp only [List.length_cons, List.length_append, pre1, List.length_map]
        omega
      simp only [List.length_cons] at this
      rw [List.length_attach]
      omega
    simp only [Function.comp_def] at hw
    simp only [Prod.map, id]
    simp! [u_ways_1, hw, lw, big]
    simp only [List.map_append, List.flatten_append, List.map_cons, List.map_nil, List.flatten_cons, List.flatten_nil, List.append_nil, List.cons_append]
    have at1 : (a.1.ways.attach.map fun w => wayT ((a.2 : Nat) :: w.1)) = (pre1 a.2 a.1.ways).map wayT := by
      rw [pre1, List.map_map, ← List.attach_map_subtype_val a.1.ways, List.map_map, List.attach_map_subtype_val]
      rfl
    rw [at1]]
  rw [tot]
  simp! []
theorem w_part_at (w : List Int) (s : Tr) (W : s.Wf) : callF tab (n + 3) i_part_at [s.toT, wayT w] S = (match s.at w with | some p => .ok p.toT S | none => .exc xNoWay S) := by
  rw [c_part_at P]
  simp! [u_part_at, wayT, L_part_at_1]
  rw [forG_opt Tr.toT xNoWay Tr.Wf Tr.kidI W fun a _ s W => by
    have hpart := fun S => w_parts P (n := n) (S := S) s W
    by_cases h0 : 0 ≤ a
    · by_cases h1 : a < s.kids.length
      · obtain ⟨m, rfl⟩ : ∃ m : Nat, a = m := ⟨a.toNat, by omega⟩
        have hm : m < s.kids.length := by omega
        have hs : T.sub? (.tup (s.kids.map Tr.toT)) (.int (m : Nat)) = some (s.kids[m]).toT := sub_tk (by rw [List.getElem?_map, List.getElem?_eq_getElem hm]; rfl)
        rw [Tr.kidI_nat, List.getElem?_eq_getElem hm]
        refine ⟨?_, fun g' e => by cases e; exact W.kid (List.getElem_mem hm)⟩
        simp! [u_part_at_1, hpart, h0, h1, hs]
      · rw [show s.kidI a = none by unfold Tr.kidI; rw [if_neg (by omega)]]
        refine ⟨?_, fun g' e => by cases e⟩
        simp! [u_part_at_1, hpart, h0, h1]
    · rw [show s.kidI a = none by unfold Tr.kidI; rw [if_neg (by omega)]]
      refine ⟨?_, fun g' e => by cases e⟩
      simp! [u_part_at_1, hpart, h0], ← at_foldO]
  cases s.at w <;> simp! []
end
end Ly
namespace Ly
open PySem hiding Fin
open PySem.Spec
/-- the word of a kind -/
def Tr.kd : Tr → List Nat
  | .word _ => ([119, 111, 114, 100] : List Nat)
  | .held _ => ([104, 101, 108, 100] : List Nat)
  | .root _ => ([114, 111, 111, 116] : List Nat)
  | .over _ _ => ([111, 118, 101, 114] : List Nat)
  | .scU _ _ => ([115, 99, 114, 105, 112, 116] : List Nat)
  | .scD _ _ => ([115, 99, 114, 105, 112, 116] : List Nat)
  | .scB _ _ _ => ([115, 99, 114, 105, 112, 116] : List Nat)
  | .chain .. => ([99, 104, 97, 105, 110] : List Nat)
  | .table .. => ([116, 97, 98, 108, 101] : List Nat)
section
variable {a b u d : Tr} {x : List Nat} {n h w : Nat} {g : Fin n → Nat} {p : Fin n → Tr} {m : Fin h → Fin w → Tr}
theorem kd_word : (Tr.word x).kd = ([119, 111, 114, 100] : List Nat) := rfl
theorem kd_held : (Tr.held a).kd = ([104, 101, 108, 100] : List Nat) := rfl
theorem kd_root : (Tr.root a).kd = ([114, 111, 111, 116] : List Nat) := rfl
theorem kd_over : (Tr.over a b).kd = ([111, 118, 101, 114] : List Nat) := rfl
theorem kd_scU : (Tr.scU a u).kd = ([115, 99, 114, 105, 112, 116] : List Nat) := rfl
theorem kd_scD : (Tr.scD a u).kd = ([115, 99, 114, 105, 112, 116] : List Nat) := rfl
theorem kd_scB : (Tr.scB a u d).kd = ([115, 99, 114, 105, 112, 116] : List Nat) := rfl
theorem kd_chn : (Tr.chain a n g p).kd = ([99, 104, 97, 105, 110] : List Nat) := rfl
theorem kd_tab : (Tr.table h w m).kd = ([116, 97, 98, 108, 101] : List Nat) := rfl
end
theorem Tr.kd_chain (s : Tr) : (s.kd == ([99, 104, 97, 105, 110] : List Nat)) = s.isChain := by cases s <;> rfl
theorem Tr.kd_base (s : Tr) : (List.any [T.str ([119, 111, 114, 100] : List Nat), T.str ([104, 101, 108, 100] : List Nat), T.str ([116, 97, 98, 108, 101] : List Nat)] fun y => T.eqv y (.str s.kd)) = s.isBase := by cases s <;> rfl
theorem dep_ints (w : List Int) : T.deps (w.map T.int) = 0 := by
  induction w with
  | nil => rfl
  | cons a w ih => simp only [List.map_cons, T.deps, ih]; rfl
theorem dep_way (w : List Int) : T.dep (wayT w) = 1 := by rw [wayT, T.dep, dep_ints]
theorem eqv_way_nil (w : List Int) : T.eqv (wayT w) (.tup []) = w.isEmpty := by cases w <;> rfl
theorem eqvs_ints : ∀ v w : List Int, T.eqvs (v.map T.int) (w.map T.int) = (v == w)
  | [], [] => rfl
  | [], _ :: _ => rfl
  | _ :: _, [] => rfl
  | a :: v, b :: w => by simp only [List.map_cons, T.eqvs, T.eqv, eqvs_ints v w, List.cons_beq_cons]
theorem eqv_way (v w : List Int) : T.eqv (wayT v) (wayT w) = (v == w) := by rw [wayT, wayT, T.eqv, eqvs_ints]
theorem way_sub {k : Int} {w : List Int} : T.sub? (wayT (k :: w)) (.int 0) = some (.int k) := sub_t0
theorem way_slc {k : Int} {w : List Int} : T.slc (wayT (k :: w)) (some 1) none = some (wayT w) := slc_t1
theorem dep_nil : T.dep (.tup []) = 1 := rfl
theorem inn_tup {x : T} {ys : List T} (h : x.dep < 64) (h2 : T.deps ys < 64) : T.inn x (.tup ys) = some (ys.any fun y => T.eqv y x) := by
  cases x with
  | str z =>
    cases z with
    | nil => simp only [T.inn, h, h2, and_self, if_true]
    | cons c z => cases z <;> simp only [T.inn, h, h2, and_self, if_true]
  | _ => simp only [T.inn, h, h2, and_self, if_true]
theorem cut_take {α : Type} {l : List α} {k : Nat} : cutL l none (some ((k : Nat) : Int)) = l.take k := by
  unfold cutL clip
  simp only [List.drop_zero, Nat.sub_zero]
  rw [if_neg (by omega), Int.toNat_natCast]
  rw [List.take_eq_take_iff]; omega
theorem cut_drop {α : Type} {l : List α} {k : Nat} : cutL l (some ((k : Nat) : Int)) none = l.drop k := by
  unfold cutL clip
  simp only
  rw [if_neg (by omega), Int.toNat_natCast]
  by_cases h : k ≤ l.length
  · rw [Nat.min_eq_left h, List.take_of_length_le (by rw [List.length_drop]; omega)]
  · rw [Nat.min_eq_right (by omega), List.drop_of_length_le (Nat.le_refl _), List.drop_of_length_le (by omega)]; simp
theorem set_split {α : Type} {l : List α} {k : Nat} {x : α} (h : k < l.length) : l.take k ++ [x] ++ l.drop (k + 1) = l.set k x := by
  rw [List.set_eq_take_append_cons_drop, if_pos h, List.append_assoc]; rfl
section
variable {tab : List FnI} (P : Pre tab) {n : Nat} {S : Store}
include P
theorem w_kindT {s : Tr} : callF tab (n + 1) i_kind [s.toT] S = .ok (.str s.kd) S := by
  cases s <;> exact w_kind P
theorem w_may_be {s p : Tr} {k : Int} : callF tab (n + 2) i_may_be [s.toT, .int k, p.toT] S = .ok (.bl (s.mayBe k p)) S := by
  have d1 : (T.str p.kd).dep < 64 := by rw [dep_s]; decide
  have d2 : T.deps [T.str ([119, 111, 114, 100] : List Nat), T.str ([104, 101, 108, 100] : List Nat), T.str ([116, 97, 98, 108, 101] : List Nat)] < 64 := by decide
  have ib := inn_tup d1 d2
  rw [p.kd_base] at ib
  rw [c_may_be P]
  have e : ∀ q : List Nat, s.kd = q → s.kd = q := fun _ h => h
  cases s <;> (by_cases hk : 0 < k <;> simp! [u_may_be, w_kindT P, kd_word, kd_held, kd_root, kd_over, kd_scU, kd_scD, kd_scB, kd_chn, kd_tab, Tr.mayBe, p.kd_chain, ib, hk])
/-- parts(some)[:k] + (part,) + parts(some)[k + 1:] -/
theorem slc_set {l : List T} {k : Nat} {x : T} (h : k < l.length) : True := trivial
theorem w_rebuild (s : Tr) (W : s.Wf) {ks : List Tr} (h : ks.length = s.nk) : callF tab (n + 2) i_with_parts [s.toT, .tup (ks.map Tr.toT)] S = .ok (s.rebuild ks).toT S := by
  have := w_with_parts P (n := n) (S := S) s W fun k => ks.getD k s
  have e : (List.range s.nk).map (fun k => (ks.getD k s).toT) = ks.map Tr.toT := by
    rw [← h]
    have := congrArg (List.map Tr.toT) (getD_range ks s)
    rwa [List.map_map] at this
  rwa [e] at this
theorem Tr.nk_le {s : Tr} (W : s.Wf) : s.nk ≤ 1000000 := by
  cases s <;> simp only [Tr.nk, Tr.Wf] at * <;> first | omega | skip
  have := Nat.mul_le_mul W.1.2 W.2.1.2
  omega
/-- a part put at a way that there is -/
theorem w_put_at : ∀ (w : List Int) (s new : Tr), s.Wf → (s.at w).isSome = true → ∀ n S, callF tab (n + 4 + w.length) i_put_at [s.toT, wayT w, new.toT] S = (match s.put w new with | some r => .ok r.toT S | none => .exc xBadSum S) := fun w => by
  induction w with
  | nil =>
    intro s new W h n S
    have h1 := fun S => w_part_at P (n := n) (S := S) [] s W
    simp only [Tr.at] at h1
    rw [List.length_nil, Nat.add_zero, c_put_at P]
    simp! [u_put_at, h1, dep_way, dep_nil, eqv_way_nil, Tr.put, List.isEmpty_nil]
  | cons k w ih =>
    intro s new W h n S
    have sl : (2000000 : Nat) ≤ 16777216 := by decide
    have h1 := fun S => w_part_at P (n := n + 1 + w.length) (S := S) (k :: w) s W
    obtain ⟨q, hq⟩ := Option.isSome_iff_exists.mp h
    rw [hq] at h1
    rw [Tr.at] at hq
    cases hk : s.kidI k with
    | none => rw [hk] at hq; cases hq
    | some p =>
      rw [hk] at hq
      obtain ⟨m, rfl, hm⟩ := Tr.kidI_some hk
      have hml : m < s.kids.length := (List.getElem?_eq_some_iff.mp hm).1
      have hpart := fun S => w_parts P (n := n + 2 + w.length) (S := S) s W
      have h2 := ih p new (W.kid (List.mem_of_getElem? hm)) (by rw [show p.at w = some q from hq]; rfl) n
      have hs : T.sub? (.tup (s.kids.map Tr.toT)) (.int (m : Nat)) = some p.toT := sub_tk (by rw [List.getElem?_map, hm]; rfl)
      have hb := fun p' S => w_may_be P (n := n + 2 + w.length) (S := S) (s := s) (p := p') (k := ((m : Nat) : Int))
      have nl : s.kids.length ≤ 1000000 := by rw [s.kids_len]; exact Tr.nk_le P W
      have ht : ∀ p' : Tr, (s.kids.take m).map Tr.toT ++ [p'.toT] ++ (s.kids.drop (m + 1)).map Tr.toT = (s.kids.set m p').map Tr.toT := fun p' => by
        rw [← set_split hml]; simp
      have hw := fun p' S => w_rebuild P (n := n + 2 + w.length) (S := S) s W (ks := s.kids.set m p') (by rw [List.length_set, s.kids_len])
      have z1 : (1 : Nat) ≤ m + 1 := by omega
      have a1 : ∀ p' : Tr, T.add (.tup ((s.kids.take m).map Tr.toT)) (.tup [p'.toT]) = some (.tup ((s.kids.take m).map Tr.toT ++ [p'.toT])) := fun p' => by
        rw [add_t, szL, if_pos]
        simp only [List.length_map, List.length_take, List.length_cons, List.length_nil]; omega
      have a2 : ∀ p' : Tr, T.add (.tup ((s.kids.take m).map Tr.toT ++ [p'.toT])) (.tup ((s.kids.drop (m + 1)).map Tr.toT)) = some (.tup ((s.kids.set m p').map Tr.toT)) := fun p' => by
        rw [add_t, szL, if_pos, ht]
        simp only [List.length_map, List.length_take, List.length_cons, List.length_nil, List.length_append, List.length_drop]; omega
      have sl1 : T.slc (.tup (s.kids.map Tr.toT)) none (some ((m : Nat) : Int)) = some (.tup ((s.kids.take m).map Tr.toT)) := by
        rw [T.slc, cut_take, List.map_take]
      have sl2 : T.slc (.tup (s.kids.map Tr.toT)) (some (((m : Nat) : Int) + 1)) none = some (.tup ((s.kids.drop (m + 1)).map Tr.toT)) := by
        rw [T.slc, show ((m : Nat) : Int) + 1 = ((m + 1 : Nat) : Int) by omega, cut_drop, List.map_drop]
      have e0 : n + 1 + w.length + 3 = n + 4 + w.length := by omega
      have e2 : n + 2 + w.length + 2 = n + 4 + w.length := by omega
      rw [e0] at h1
      rw [e2] at hpart hb hw
      rw [show n + 4 + (((m : Nat) : Int) :: w).length = (n + 4 + w.length) + 1 by simp; omega, c_put_at P, Tr.put, hk, Option.bind_some]
      have h1 : ∀ S, callF tab (n + 4 + w.length) i_part_at [s.toT, wayT (((m : Nat) : Int) :: w)] S = .ok q.toT S := h1
      cases hp' : p.put w new with
      | none =>
        rw [hp'] at h2
        have h2 : ∀ S, callF tab (n + 4 + w.length) i_put_at [p.toT, wayT w, new.toT] S = .exc xBadSum S := h2
        simp! [u_put_at, h1, dep_nil, dep_way, eqv_way_nil, List.isEmpty_cons, way_sub, way_slc, hpart, hs, h2]
      | some p' =>
        rw [hp'] at h2
        have h2 : ∀ S, callF tab (n + 4 + w.length) i_put_at [p.toT, wayT w, new.toT] S = .ok p'.toT S := h2
        cases hmb : s.mayBe (m : Nat) p'
        · simp! [u_put_at, h1, dep_nil, dep_way, eqv_way_nil, List.isEmpty_cons, way_sub, way_slc, hpart, hs, h2, hb, hmb]
        · simp! [u_put_at, h1, dep_nil, dep_way, eqv_way_nil, List.isEmpty_cons, way_sub, way_slc, hpart, hs, h2, hb, hmb, sl1, sl2, a1, a2, hw, Int.toNat_natCast]
end
end Ly
namespace Ly
open PySem PySem.Spec
/-! ### what is drawn -/
def mixI (c p m : Int) : Int := (c * 48271 % p) * ((c * 48271 % p) + 7) % p % m
theorem mix_lt (c p : Int) {m : Int} (h : 0 < m) : 0 ≤ mixI c p m ∧ mixI c p m < m := ⟨Int.emod_nonneg _ (by omega), Int.emod_lt_of_pos _ h⟩
theorem mix_nat (c p : Int) {m : Nat} (h : 0 < m) : ∃ k : Nat, k < m ∧ mixI c p m = k := by
  have := mix_lt c p (m := m) (by omega)
  exact ⟨(mixI c p m).toNat, by omega, by omega⟩
def cellI (ns : List Int) (k : Int) : Int := if k < ns.length then (ns[k.toNat]?).getD 0 else 0
section
variable {tab : List FnI} (P : Pre tab)
include P
theorem w_cell {ns : List Int} {k : Nat} {n : Nat} {S : Store} : callF tab (n + 1) i_lw_cell [.scr ns, .int (k : Nat)] S = .ok (.int (cellI ns k)) S := by
  rw [c_lw_cell P]
  by_cases h : k < ns.length
  · have h' : (k : Int) < ns.length := by omega
    have e : T.sub? (.scr ns) (.int (k : Nat)) = some (.int ns[k]) := by simp only [T.sub?, ixOf_lt h, Option.bind_some, List.getElem?_eq_getElem h, Option.map_some]
    simp! [u_lw_cell, h', e, cellI, Int.toNat_natCast, List.getElem?_eq_getElem h, Option.getD_some]
  · have h' : ¬ (k : Int) < ns.length := by omega
    simp! [u_lw_cell, h', cellI]
theorem w_mix {c p m : Int} (h1 : 0 < p := by decide) (h2 : p ≤ 1000000 := by decide) (h3 : 0 < m := by decide) {n : Nat} {S : Store} : callF tab (n + 1) i_lw_mix [.int c, .int p, .int m] S = .ok (.int (mixI c p m)) S := by
  rw [c_lw_mix P]
  have e1 := Int.emod_nonneg (c * 48271) (show p ≠ 0 by omega)
  have e2 := Int.emod_lt_of_pos (c * 48271) h1
  have e3 : T.mul (.int (c * 48271 % p)) (.int (c * 48271 % p + 7)) = some (.int ((c * 48271 % p) * (c * 48271 % p + 7))) := mul_il (by simp only [Bool.and_eq_true, decide_eq_true_eq]; omega)
  simp! [u_lw_mix, h1, h3, e3, mixI]
theorem w_atom (c : Int) : ∃ x, x ∈ atoms ∧ ∀ n S, callF tab (n + 2) i_lw_atom [.int c] S = .ok (.tup [.str ([119, 111, 114, 100] : List Nat), .str x]) S := by
  obtain ⟨k, hk, e⟩ := mix_nat c 9973 (m := 6) (by omega)
  have hk : k < atoms.length := hk
  refine ⟨atoms[k], List.getElem_mem hk, fun n S => ?_⟩
  have hs : T.sub? (.tup [.str [97], .str [98], .str [120, 49], .str [108, 111, 110, 103], .str [55], .str [97, 98, 99, 100, 101, 102]]) (.int (k : Nat)) = some (.str atoms[k]) := by
    refine sub_tk (l := atoms.map T.str) ?_
    rw [List.getElem?_map, List.getElem?_eq_getElem hk]; rfl
  have hm := fun S => w_mix P (c := c) (p := 9973) (m := 6) (n := n) (S := S)
  rw [show mixI c 9973 6 = (k : Nat) from e] at hm
  rw [c_lw_atom P]
  simp! [u_lw_atom, hm, hs]
/-- what a def draws -/
def DrawOk (tab : List FnI) (f : Nat) (L N : Nat) (Q : Tr → Prop) : Prop := ∀ c : Int, ∃ s : Tr, s.Dr ∧ s.ht ≤ L ∧ Q s ∧ Ev tab f [.int c, .int (L : Nat)] s.toT N
theorem base_step (L : Nat) (hL : 1 ≤ L) (IH : ∀ M, 1 ≤ M → M < L → DrawOk tab i_lw_draw M (3 * M + 2) fun _ => True) : DrawOk tab i_lw_base L (3 * L) fun s => s.isBase = true := fun c => by
  obtain ⟨way, hw, v1⟩ := mix_nat c 9967 (m := 4) (by omega)
  have w1 : ∀ n S, callF tab (n + 1) i_lw_mix [.int c, .int 9967, .int 4] S = .ok (.int (way : Nat)) S := fun n S => by rw [← v1]; exact w_mix P
  by_cases ha : L = 1 ∨ way < 2
  · obtain ⟨x, hx, va⟩ := w_atom P c
    refine ⟨.word x, hx, by simp [Tr.ht]; omega, rfl, fun n hn S => ?_⟩
    obtain ⟨k, rfl⟩ : ∃ k, n = k + 3 := ⟨n - 3, by omega⟩
    rw [c_lw_base P]
    rcases ha with rfl | ha
    · simp! [u_lw_base, w1, va, Tr.toT, Int.natCast_one]
    · cases hb : ((L : Int) == 1) <;> simp! [u_lw_base, w1, va, Tr.toT, hb, show (way : Int) < 2 by omega]
  · have hb1 : ((L : Int) == 1) = false := by simp only [beq_eq_false_iff_ne]; omega
    have hb2 : ¬ (way : Int) < 2 := by omega
    by_cases hc : way = 2
    · subst hc
      obtain ⟨M, rfl⟩ : ∃ M, L = M + 1 := ⟨L - 1, by omega⟩
      obtain ⟨s, d1, d2, _, d3⟩ := IH M (by omega) (by omega) (c * 3 + 1)
      refine ⟨.held s, d1, by simp only [Tr.ht]; omega, rfl, fun n hn S => ?_⟩
      obtain ⟨k, rfl⟩ : ∃ k, n = k + 2 := ⟨n - 2, by omega⟩
      have d3 := d3 (k + 1) (by omega)
      have hM : ((M + 1 : Nat) : Int) - 1 = M := by omega
      have w1 : ∀ n S, callF tab (n + 1) i_lw_mix [.int c, .int 9967, .int 4] S = .ok (.int 2) S := w1
      rw [c_lw_base P]
      simp! [u_lw_base, w1, Tr.toT, hb1, hM, d3]
    · have hc : ((way : Int) == 2) = false := by simp only [beq_eq_false_iff_ne]; omega
      obtain ⟨wd, hwd, v2⟩ := mix_nat c 9949 (m := 3) (by omega)
      obtain ⟨hg, hhg, v3⟩ := mix_nat c 9941 (m := 3) (by omega)
      have w2 : ∀ n S, callF tab (n + 1) i_lw_mix [.int c, .int 9949, .int 3] S = .ok (.int (wd : Nat)) S := fun n S => by rw [← v2]; exact w_mix P
      have w3 : ∀ n S, callF tab (n + 1) i_lw_mix [.int c, .int 9941, .int 3] S = .ok (.int (hg : Nat)) S := fun n S => by rw [← v3]; exact w_mix P
      obtain ⟨M, hM1, hM2⟩ : ∃ M : Nat, min ((L : Int) - 1) 2 = M ∧ (1 ≤ M ∧ M < L) := ⟨min (L - 1) 2, by omega, by omega⟩
      obtain ⟨f, hf⟩ := Classical.axiomOfChoice (IH M hM2.1 hM2.2)
      refine ⟨.table (1 + hg) (1 + wd) fun i j => f (c * 3 + 7 * (i.1 : Nat) + 5 * (j.1 : Nat) + 2), ⟨by omega, by omega, fun i j => (hf _).1⟩, ?_, rfl, fun n hn S => ?_⟩
      · have : maxN (fl (1 + hg) fun i => maxN (fl (1 + wd) fun j => (f (c * 3 + 7 * (i.1 : Nat) + 5 * (j.1 : Nat) + 2)).ht)) ≤ M := maxN_flo fun i => maxN_flo fun j => (hf _).2.1
        simp only [Tr.ht]; omega
      · obtain ⟨k, rfl⟩ : ∃ k, n = k + 2 := ⟨n - 2, by omega⟩
        have sl : (1000000 : Nat) ≤ 16777216 := by decide
        have hf := fun c => (hf c).2.2.2 (k + 1) (by omega)
        have e1 : (1 : Int) + (wd : Nat) = ((1 + wd : Nat) : Int) := by omega
        have e2 : (1 : Int) + (hg : Nat) = ((1 + hg : Nat) : Int) := by omega
        rw [c_lw_base P]
        simp! [u_lw_base, w1, w2, w3, hb1, hb2, hc, e1, e2, it_rngF (show 1 + hg ≤ 1000 by omega), L_lw_base_1]
        rw [forG_nx (b0 := .tup []) (fun pre : List (_root_.Fin (1 + hg)) => T.tup (pre.map fun i => .tup (fl (1 + wd) fun j => (f (c * 3 + 7 * (i.1 : Nat) + 5 * (j.1 : Nat) + 2)).toT))) rfl fun pre a post e => by
          have h1 := congrArg List.length e
          rw [List.length_finRange, List.length_append, List.length_cons] at h1
          simp! [u_lw_base_1, it_rngF (show 1 + wd ≤ 1000 by omega), hM1, hf, List.map_append, List.map_map, Function.comp_def, show pre.length + (0 + 1) ≤ 16777216 by omega]]
        simp! [Tr.toT]
theorem item_step (L : Nat) (hL : 1 ≤ L) (IB : ∀ M, 1 ≤ M → M ≤ L → DrawOk tab i_lw_base M (3 * M) fun s => s.isBase = true) (ID : ∀ M, 1 ≤ M → M < L → DrawOk tab i_lw_draw M (3 * M + 2) fun _ => True) : DrawOk tab i_lw_item L (3 * L + 1) fun s => s.isChain = false := fun c => by
  obtain ⟨way, hw, v1⟩ := mix_nat c 9931 (m := 8) (by omega)
  have w1 : ∀ n S, callF tab (n + 1) i_lw_mix [.int c, .int 9931, .int 8] S = .ok (.int (way : Nat)) S := fun n S => by rw [← v1]; exact w_mix P
  by_cases ha : L = 1 ∨ way < 2
  · obtain ⟨s, d1, d2, d3, d4⟩ := IB L hL (Nat.le_refl _) c
    refine ⟨s, d1, d2, Tr.base_nc d3, fun n hn S => ?_⟩
    obtain ⟨k, rfl⟩ : ∃ k, n = k + 2 := ⟨n - 2, by omega⟩
    have va := d4 (k + 1) (by omega)
    rw [c_lw_item P]
    rcases ha with rfl | ha
    · rw [Int.natCast_one] at va
      simp! [u_lw_item, w1, va, Int.natCast_one]
    · cases hb : ((L : Int) == 1) <;> simp! [u_lw_item, w1, va, hb, show (way : Int) < 2 by omega]
  · have hb1 : ((L : Int) == 1) = false := by simp only [beq_eq_false_iff_ne]; omega
    have hb2 : ¬ (way : Int) < 2 := by omega
    obtain ⟨M, rfl⟩ : ∃ M, L = M + 1 := ⟨L - 1, by omega⟩
    have hM : ((M + 1 : Nat) : Int) - 1 = M := by omega
    have hM1 : 1 ≤ M := by omega
    by_cases c2 : way = 2
    · subst c2
      have w1 : ∀ n S, callF tab (n + 1) i_lw_mix [.int c, .int 9931, .int 8] S = .ok (.int 2) S := w1
      obtain ⟨s, d1, d2, _, d3⟩ := ID M hM1 (by omega) (c * 3 + 1)
      obtain ⟨t, e1, e2, _, e3⟩ := ID M hM1 (by omega) (c * 3 + 2)
      refine ⟨.over s t, ⟨d1, e1⟩, by simp only [Tr.ht]; omega, rfl, fun n hn S => ?_⟩
      obtain ⟨k, rfl⟩ : ∃ k, n = k + 2 := ⟨n - 2, by omega⟩
      have d3 := d3 (k + 1) (by omega)
      have e3 := e3 (k + 1) (by omega)
      rw [c_lw_item P]
      simp! [u_lw_item, w1, Tr.toT, hb1, hM, d3, e3]
    · by_cases c3 : way = 3
      · subst c3
        have w1 : ∀ n S, callF tab (n + 1) i_lw_mix [.int c, .int 9931, .int 8] S = .ok (.int 3) S := w1
        obtain ⟨s, d1, d2, _, d3⟩ := ID M hM1 (by omega) (c * 3 + 1)
        refine ⟨.root s, d1, by simp only [Tr.ht]; omega, rfl, fun n hn S => ?_⟩
        obtain ⟨k, rfl⟩ : ∃ k, n = k + 2 := ⟨n - 2, by omega⟩
        have d3 := d3 (k + 1) (by omega)
        rw [c_lw_item P]
        simp! [u_lw_item, w1, Tr.toT, hb1, hM, d3]
      · have h2 : ((way : Int) == 2) = false := by simp only [beq_eq_false_iff_ne]; omega
        have h3 : ((way : Int) == 3) = false := by simp only [beq_eq_false_iff_ne]; omega
        by_cases h6 : way < 6
        · have h6 : (way : Int) < 6 := by omega
          obtain ⟨s, d1, d2, _, d3⟩ := ID M hM1 (by omega) (c * 3 + 4)
          obtain ⟨t, e1, e2, _, e3⟩ := ID M hM1 (by omega) (c * 3 + 5)
          obtain ⟨b, f1, f2, f4, f3⟩ := IB M hM1 (by omega) (c + 1)
          obtain ⟨sm, hsm, v2⟩ := mix_nat c 9929 (m := 3) (by omega)
          have w2 : ∀ n S, callF tab (n + 1) i_lw_mix [.int c, .int 9929, .int 3] S = .ok (.int (sm : Nat)) S := fun n S => by rw [← v2]; exact w_mix P
          obtain rfl | rfl | rfl : sm = 0 ∨ sm = 1 ∨ sm = 2 := by omega
          · have w2 : ∀ n S, callF tab (n + 1) i_lw_mix [.int c, .int 9929, .int 3] S = .ok (.int 0) S := w2
            refine ⟨.scD b t, ⟨f4, f1, e1⟩, by simp only [Tr.ht]; omega, rfl, fun n hn S => ?_⟩
            obtain ⟨k, rfl⟩ : ∃ k, n = k + 2 := ⟨n - 2, by omega⟩
            have d3 := d3 (k + 1) (by omega)
            have e3 := e3 (k + 1) (by omega)
            have f3 := f3 (k + 1) (by omega)
            rw [c_lw_item P]
            simp! [u_lw_item, w1, w2, Tr.toT, hb1, hb2, h2, h3, h6, hM, d3, e3, f3]
          · have w2 : ∀ n S, callF tab (n + 1) i_lw_mix [.int c, .int 9929, .int 3] S = .ok (.int 1) S := w2
            refine ⟨.scU b s, ⟨f4, f1, d1⟩, by simp only [Tr.ht]; omega, rfl, fun n hn S => ?_⟩
            obtain ⟨k, rfl⟩ : ∃ k, n = k + 2 := ⟨n - 2, by omega⟩
            have d3 := d3 (k + 1) (by omega)
            have e3 := e3 (k + 1) (by omega)
            have f3 := f3 (k + 1) (by omega)
            rw [c_lw_item P]
            simp! [u_lw_item, w1, w2, Tr.toT, hb1, hb2, h2, h3, h6, hM, d3, e3, f3]
          · have w2 : ∀ n S, callF tab (n + 1) i_lw_mix [.int c, .int 9929, .int 3] S = .ok (.int 2) S := w2
            refine ⟨.scB b s t, ⟨f4, f1, d1, e1⟩, by simp only [Tr.ht]; omega, rfl, fun n hn S => ?_⟩
            obtain ⟨k, rfl⟩ : ∃ k, n = k + 2 := ⟨n - 2, by omega⟩
            have d3 := d3 (k + 1) (by omega)
            have e3 := e3 (k + 1) (by omega)
            have f3 := f3 (k + 1) (by omega)
            rw [c_lw_item P]
            simp! [u_lw_item, w1, w2, Tr.toT, hb1, hb2, h2, h3, h6, hM, d3, e3, f3]
        · have h6 : ¬ (way : Int) < 6 := by omega
          obtain ⟨s, d1, d2, d3, d4⟩ := IB (M + 1) hL (Nat.le_refl _) (c + 1)
          refine ⟨s, d1, d2, Tr.base_nc d3, fun n hn S => ?_⟩
          obtain ⟨k, rfl⟩ : ∃ k, n = k + 2 := ⟨n - 2, by omega⟩
          have va := d4 (k + 1) (by omega)
          rw [c_lw_item P]
          simp! [u_lw_item, w1, va, hb1, hb2, h2, h3, h6]
theorem draw_step (L : Nat) (hL : 1 ≤ L) (II : ∀ M, 1 ≤ M → M ≤ L → DrawOk tab i_lw_item M (3 * M + 1) fun s => s.isChain = false) : DrawOk tab i_lw_draw L (3 * L + 2) fun _ => True := fun c => by
  obtain ⟨sm, hsm, v0⟩ := mix_nat c 9923 (m := 3) (by omega)
  have w0 : ∀ n S, callF tab (n + 1) i_lw_mix [.int c, .int 9923, .int 3] S = .ok (.int (sm : Nat)) S := fun n S => by rw [← v0]; exact w_mix P
  by_cases hc : 1 < L ∧ sm = 0
  · obtain ⟨h1, rfl⟩ := hc
    have w0 : ∀ n S, callF tab (n + 1) i_lw_mix [.int c, .int 9923, .int 3] S = .ok (.int 0) S := w0
    obtain ⟨M, rfl⟩ : ∃ M, L = M + 1 := ⟨L - 1, by omega⟩
    have hM : ((M + 1 : Nat) : Int) - 1 = M := by omega
    obtain ⟨a, a1, a2, a3, a4⟩ := II M (by omega) (by omega) (c * 2 + 1)
    obtain ⟨f, hf⟩ := Classical.axiomOfChoice (II M (by omega) (by omega))
    obtain ⟨m, hm, v1⟩ := mix_nat c 9907 (m := 3) (by omega)
    have w1 : ∀ n S, callF tab (n + 1) i_lw_mix [.int c, .int 9907, .int 3] S = .ok (.int (m : Nat)) S := fun n S => by rw [← v1]; exact w_mix P
    obtain ⟨g, hg⟩ := Classical.axiomOfChoice fun i : Int => mix_nat i 9901 (m := 5) (by omega)
    have w2 : ∀ i n S, callF tab (n + 1) i_lw_mix [.int i, .int 9901, .int 5] S = .ok (.int (g i : Nat)) S := fun i n S => by rw [← (hg i).2]; exact w_mix P
    have hs : ∀ i, sgns[g i]? = some (sgns.getD (g i) 0) := fun i => by
      have : g i < sgns.length := (hg i).1
      rw [List.getD_eq_getElem?_getD, List.getElem?_eq_getElem this]; rfl
    refine ⟨.chain a (1 + m) (fun i => sgns.getD (g (c + (i.1 : Nat))) 0) (fun i => f (c * 2 + 11 * (i.1 : Nat) + 3)), ⟨⟨by omega, by omega⟩, ⟨a3, a1⟩, fun i => ⟨?_, (hf _).2.2.1, (hf _).1⟩⟩, ?_, trivial, fun n hn S => ?_⟩
    · exact List.mem_of_getElem? (hs _)
    · have : maxN (fl (1 + m) fun i => (f (c * 2 + 11 * (i.1 : Nat) + 3)).ht) ≤ M := maxN_flo fun i => (hf _).2.1
      simp only [Tr.ht]; omega
    · obtain ⟨k, rfl⟩ : ∃ k, n = k + 2 := ⟨n - 2, by omega⟩
      have sl : (1000000 : Nat) ≤ 16777216 := by decide
      have a4 := a4 (k + 1) (by omega)
      have hf := fun c => (hf c).2.2.2 (k + 1) (by omega)
      have e1 : (1 : Int) + (m : Nat) = ((1 + m : Nat) : Int) := by omega
      have hs : ∀ i, T.sub? (.str [43, 45, 42, 61, 60]) (.int (g i : Nat)) = some (.str [sgns.getD (g i) 0]) := fun i => sub_sk (hs i)
      rw [c_lw_draw P]
      simp! [u_lw_draw, w0, w1, e1, show (1 : Int) < ((M + 1 : Nat) : Int) by omega, it_rngF (show 1 + m ≤ 1000 by omega), L_lw_draw_1]
      rw [forG_nx (b0 := .tup []) (fun pre : List (_root_.Fin (1 + m)) => T.tup (pre.map fun i => .tup [.str [sgns.getD (g (c + (i.1 : Nat))) 0], (f (c * 2 + 11 * (i.1 : Nat) + 3)).toT])) rfl fun pre x post e => by
        have h1 := congrArg List.length e
        rw [List.length_finRange, List.length_append, List.length_cons] at h1
        simp! [u_lw_draw_1, w2, hs, hM, hf, List.map_append, show pre.length + (0 + 1) ≤ 16777216 by omega]]
      simp! [hM, a4, Tr.toT]
  · obtain ⟨s, d1, d2, d3, d4⟩ := II L hL (Nat.le_refl _) c
    refine ⟨s, d1, d2, trivial, fun n hn S => ?_⟩
    obtain ⟨k, rfl⟩ : ∃ k, n = k + 2 := ⟨n - 2, by omega⟩
    have va := d4 (k + 1) (by omega)
    rw [c_lw_draw P]
    by_cases h1 : 1 < L
    · simp! [u_lw_draw, w0, va, show (1 : Int) < (L : Nat) by omega, show ((sm : Int) == 0) = false by (simp only [beq_eq_false_iff_ne]; omega)]
    · simp! [u_lw_draw, w0, va, show ¬ (1 : Int) < (L : Nat) by omega]
theorem draws : ∀ L, 1 ≤ L → DrawOk tab i_lw_base L (3 * L) (fun s => s.isBase = true) ∧ DrawOk tab i_lw_item L (3 * L + 1) (fun s => s.isChain = false) ∧ DrawOk tab i_lw_draw L (3 * L + 2) (fun _ => True) := fun L => by
  induction L using Nat.strongRecOn with
  | ind L ih =>
    intro hL
    have hb := base_step P L hL fun M h1 h2 => (ih M h2 h1).2.2
    have hi := item_step P L hL (fun M h1 h2 => by
      by_cases h : M = L
      · subst h; exact hb
      · exact (ih M (by omega) h1).1) fun M h1 h2 => (ih M h2 h1).2.2
    exact ⟨hb, hi, draw_step P L hL fun M h1 h2 => by
      by_cases h : M = L
      · subst h; exact hi
      · exact (ih M (by omega) h1).2.1⟩
/-- a drawn sum -/
theorem w_draw (L : Nat) (hL : 1 ≤ L) (c : Int) : ∃ s : Tr, s.Dr ∧ s.ht ≤ L ∧ ∀ n S, callF tab (n + 3 * L + 2) i_lw_draw [.int c, .int (L : Nat)] S = .ok s.toT S := by
  obtain ⟨s, h1, h2, _, h3⟩ := (draws P L hL).2.2 c
  exact ⟨s, h1, h2, fun n S => h3 _ (by omega) S⟩
end
end Ly
namespace Ly
/-! ### what a part's box does to the whole's -/
def Tr.bxK : Tr → (Nat → Bx) → Bx
  | .word x, _ => (x.length, 0, 0)
  | .held _, b => ((b 0).1 + 2, (b 0).2.1, (b 0).2.2)
  | .root _, b => ((b 0).1 + 1, (b 0).2.1 + 1, (b 0).2.2)
  | .over _ _, b => (max (b 0).1 (b 1).1 + 2, (b 0).high, (b 1).high)
  | .scU _ _, b => ((b 0).1 + (b 1).1, (b 0).2.1 + (b 1).high, (b 0).2.2)
  | .scD _ _, b => ((b 0).1 + (b 1).1, (b 0).2.1, (b 0).2.2 + (b 1).high)
  | .scB _ _ _, b => ((b 0).1 + max (b 1).1 (b 2).1, (b 0).2.1 + (b 1).high, (b 0).2.2 + (b 2).high)
  | .chain _ n _ _, b => ((b 0).1 + (fl n fun i => (b (i.1 + 1)).1).sum + 3 * n, maxI ((b 0).2.1 :: fl n fun i => (b (i.1 + 1)).2.1), maxI ((b 0).2.2 :: fl n fun i => (b (i.1 + 1)).2.2))
  | .table h w _, b => (tabW (h := h) (w := w) fun i j => b (i.1 * w + j.1), (tabH (h := h) (w := w) fun i j => b (i.1 * w + j.1)) / 2, (tabH (h := h) (w := w) fun i j => b (i.1 * w + j.1)) - 1 - (tabH (h := h) (w := w) fun i j => b (i.1 * w + j.1)) / 2)
theorem Tr.bx_withK (s : Tr) (f : Nat → Tr) : (s.withK f).bx = s.bxK fun k => (f k).bx := by cases s <;> rfl
/-- b' is no smaller, by c wider and e higher at the most -/
def BLe (c e : Int) (b b' : Bx) : Prop := b.1 ≤ b'.1 ∧ b'.1 ≤ b.1 + c ∧ b.2.1 ≤ b'.2.1 ∧ b.2.2 ≤ b'.2.2 ∧ b'.2.1 + b'.2.2 ≤ b.2.1 + b.2.2 + e
theorem BLe.refl {c e : Int} (hc : 0 ≤ c) (he : 0 ≤ e) (b : Bx) : BLe c e b b := ⟨by omega, by omega, by omega, by omega, by omega⟩
theorem maxI_le {l l' : List Int} {c : Int} (hc : 0 ≤ c) (h : l.length = l'.length) (k : ∀ i (hi : i < l.length), l[i] ≤ l'[i] ∧ l'[i] ≤ l[i] + c) : maxI l ≤ maxI l' ∧ maxI l' ≤ maxI l + c := by
  induction l generalizing l' with
  | nil =>
    cases l' with
    | nil => simp [maxI]; exact hc
    | cons _ _ => simp at h
  | cons a l ih =>
    cases l' with
    | nil => simp at h
    | cons a' l' =>
      have h' : l.length = l'.length := by simpa using h
      have k0 := k 0 (by simp)
      simp only [List.getElem_cons_zero] at k0
      have kr : ∀ i (hi : i < l.length), l[i] ≤ l'[i] ∧ l'[i] ≤ l[i] + c := fun i hi => by
        have := k (i + 1) (by simp; omega)
        simpa using this
      cases l with
      | nil =>
        cases l' with
        | nil => simpa [maxI] using k0
        | cons _ _ => simp at h'
      | cons b l =>
        cases l' with
        | nil => simp at h'
        | cons b' l' =>
          have := ih h' kr
          simp only [maxI] at this ⊢
          omega
theorem maxI_fl_le {n : Nat} {f f' : Fin n → Int} {c : Int} (hc : 0 ≤ c) (k : ∀ i, f i ≤ f' i ∧ f' i ≤ f i + c) : maxI (fl n f) ≤ maxI (fl n f') ∧ maxI (fl n f') ≤ maxI (fl n f) + c :=
  maxI_le hc (by simp) fun i hi => by
    simp only [List.getElem_map]
    exact k _
theorem maxI_cfl_le {n : Nat} {a a' : Int} {f f' : Fin n → Int} {c : Int} (hc : 0 ≤ c) (ha : a ≤ a' ∧ a' ≤ a + c) (k : ∀ i, f i ≤ f' i ∧ f' i ≤ f i + c) : maxI (a :: fl n f) ≤ maxI (a' :: fl n f') ∧ maxI (a' :: fl n f') ≤ maxI (a :: fl n f) + c :=
  maxI_le hc (by simp) fun i hi => by
    cases i with
    | zero => simpa using ha
    | succ i =>
      simp only [List.getElem_cons_succ, List.getElem_map]
      exact k _
theorem sum_one {α : Type} [DecidableEq α] {l : List α} (nd : l.Nodup) {f f' : α → Int} {k : α} {c : Int} (hc : 0 ≤ c) (hk : f k ≤ f' k ∧ f' k ≤ f k + c) (ne : ∀ i, i ≠ k → f' i = f i) : (l.map f).sum ≤ (l.map f').sum ∧ (l.map f').sum ≤ (l.map f).sum + c := by
  have same : ∀ m : List α, k ∉ m → m.map f' = m.map f := fun m h => List.map_congr_left fun i hi => ne i fun q => h (q ▸ hi)
  induction l with
  | nil => simp; exact hc
  | cons a l ih =>
    rw [List.nodup_cons] at nd
    simp only [List.map_cons, List.sum_cons]
    by_cases q : a = k
    · subst q
      rw [same l nd.1]; omega
    · have := ih nd.2
      rw [ne a q]; omega
theorem nodup_finRange (n : Nat) : (List.finRange n).Nodup := by
  rw [List.nodup_iff_pairwise_ne, List.pairwise_iff_getElem]
  intro i j hi hj hij q
  simp at q
  omega
theorem sum_fl_one {n : Nat} {f f' : Fin n → Int} {k : Fin n} {c : Int} (hc : 0 ≤ c) (hk : f k ≤ f' k ∧ f' k ≤ f k + c) (ne : ∀ i, i ≠ k → f' i = f i) : (fl n f).sum ≤ (fl n f').sum ∧ (fl n f').sum ≤ (fl n f).sum + c := sum_one (nodup_finRange n) hc hk ne
theorem sum_fl_same {n : Nat} {f f' : Fin n → Int} (ne : ∀ i, f' i = f i) : (fl n f').sum = (fl n f).sum := by rw [show f' = f from funext ne]
/-- one part's box grows -/
theorem Tr.bxK_le (s : Tr) (k : Nat) (hk : k < s.nk) (b b' : Nat → Bx) {c e : Int} (hc : 0 ≤ c) (he : 0 ≤ e) (h : BLe c e (b k) (b' k)) (ne : ∀ i, i ≠ k → b' i = b i) : BLe c e (s.bxK b) (s.bxK b') := by
  have all : ∀ i, BLe c e (b i) (b' i) := fun i => by
    by_cases q : i = k
    · subst q; exact h
    · rw [ne i q]; exact BLe.refl hc he _
  cases s with
  | word x => exact BLe.refl hc he _
  | held a => have := all 0; simp only [Tr.bxK, BLe] at *; omega
  | root a => have := all 0; simp only [Tr.bxK, BLe] at *; omega
  | over a d =>
    simp only [Tr.nk] at hk
    obtain rfl | rfl : k = 0 ∨ k = 1 := by omega
    · rw [Tr.bxK, Tr.bxK, ne 1 (by omega)]; simp only [BLe, Bx.high] at *; omega
    · rw [Tr.bxK, Tr.bxK, ne 0 (by omega)]; simp only [BLe, Bx.high] at *; omega
  | scU a u =>
    simp only [Tr.nk] at hk
    obtain rfl | rfl : k = 0 ∨ k = 1 := by omega
    · rw [Tr.bxK, Tr.bxK, ne 1 (by omega)]; simp only [BLe, Bx.high] at *; omega
    · rw [Tr.bxK, Tr.bxK, ne 0 (by omega)]; simp only [BLe, Bx.high] at *; omega
  | scD a u =>
    simp only [Tr.nk] at hk
    obtain rfl | rfl : k = 0 ∨ k = 1 := by omega
    · rw [Tr.bxK, Tr.bxK, ne 1 (by omega)]; simp only [BLe, Bx.high] at *; omega
    · rw [Tr.bxK, Tr.bxK, ne 0 (by omega)]; simp only [BLe, Bx.high] at *; omega
  | scB a u d =>
    simp only [Tr.nk] at hk
    obtain rfl | rfl | rfl : k = 0 ∨ k = 1 ∨ k = 2 := by omega
    · rw [Tr.bxK, Tr.bxK, ne 1 (by omega), ne 2 (by omega)]; simp only [BLe, Bx.high] at *; omega
    · rw [Tr.bxK, Tr.bxK, ne 0 (by omega), ne 2 (by omega)]; simp only [BLe, Bx.high] at *; omega
    · rw [Tr.bxK, Tr.bxK, ne 0 (by omega), ne 1 (by omega)]; simp only [BLe, Bx.high] at *; omega
  | chain a n g p =>
    simp only [Tr.nk] at hk
    have w : (b 0).1 + (fl n fun i => (b (i.1 + 1)).1).sum ≤ (b' 0).1 + (fl n fun i => (b' (i.1 + 1)).1).sum ∧ (b' 0).1 + (fl n fun i => (b' (i.1 + 1)).1).sum ≤ (b 0).1 + (fl n fun i => (b (i.1 + 1)).1).sum + c := by
      by_cases q : k = 0
      · subst q
        have : (fl n fun i => (b' (i.1 + 1)).1).sum = (fl n fun i => (b (i.1 + 1)).1).sum := sum_fl_same fun i => by rw [ne _ (by omega)]
        simp only [BLe] at h; omega
      · have := sum_fl_one (f := fun i : Fin n => (b (i.1 + 1)).1) (f' := fun i : Fin n => (b' (i.1 + 1)).1) (k := ⟨k - 1, by omega⟩) hc (by
          have : k - 1 + 1 = k := by omega
          dsimp only
          rw [this]; exact ⟨h.1, h.2.1⟩) fun i hi => by
          rw [ne _ fun q2 => hi (Fin.ext (by simp; omega))]
        rw [ne 0 (Ne.symm q)]; omega
    have du : 0 ≤ (b' k).2.1 - (b k).2.1 := by have := h.2.2.1; omega
    have dd : 0 ≤ (b' k).2.2 - (b k).2.2 := by have := h.2.2.2.1; omega
    have pu : ∀ i, (b i).2.1 ≤ (b' i).2.1 ∧ (b' i).2.1 ≤ (b i).2.1 + ((b' k).2.1 - (b k).2.1) := fun i => by
      by_cases q : i = k
      · subst q; omega
      · rw [ne i q]; omega
    have pd : ∀ i, (b i).2.2 ≤ (b' i).2.2 ∧ (b' i).2.2 ≤ (b i).2.2 + ((b' k).2.2 - (b k).2.2) := fun i => by
      by_cases q : i = k
      · subst q; omega
      · rw [ne i q]; omega
    have mu := maxI_cfl_le (n := n) du (pu 0) (f := fun i => (b (i.1 + 1)).2.1) (f' := fun i => (b' (i.1 + 1)).2.1) fun i => pu _
    have md := maxI_cfl_le (n := n) dd (pd 0) (f := fun i => (b (i.1 + 1)).2.2) (f' := fun i => (b' (i.1 + 1)).2.2) fun i => pd _
    have hs := h.2.2.2.2
    simp only [Tr.bxK, BLe]
    omega
  | table hh ww m =>
    simp only [Tr.nk] at hk
    have w0 : 0 < ww := by
      rcases Nat.eq_zero_or_pos ww with q | q
      · subst q; simp at hk
      · exact q
    have hi : k / ww < hh := Nat.div_lt_of_lt_mul (by rw [Nat.mul_comm]; exact hk)
    have hj : k % ww < ww := Nat.mod_lt _ w0
    have hkk : k / ww * ww + k % ww = k := by rw [Nat.mul_comm]; exact Nat.div_add_mod k ww
    have inj : ∀ (i : Fin hh) (j : Fin ww), i.1 * ww + j.1 = k → i.1 = k / ww ∧ j.1 = k % ww := fun i j q => by
      subst q
      rw [Nat.mul_comm, Nat.mul_add_div w0, Nat.mul_add_mod, Nat.div_eq_of_lt j.2, Nat.mod_eq_of_lt j.2]
      exact ⟨by omega, rfl⟩
    have du : 0 ≤ (b' k).2.1 - (b k).2.1 := by have := h.2.2.1; omega
    have dd : 0 ≤ (b' k).2.2 - (b k).2.2 := by have := h.2.2.2.1; omega
    have pu : ∀ i, (b i).2.1 ≤ (b' i).2.1 ∧ (b' i).2.1 ≤ (b i).2.1 + ((b' k).2.1 - (b k).2.1) := fun i => by
      by_cases q : i = k
      · subst q; omega
      · rw [ne i q]; omega
    have pd : ∀ i, (b i).2.2 ≤ (b' i).2.2 ∧ (b' i).2.2 ≤ (b i).2.2 + ((b' k).2.2 - (b k).2.2) := fun i => by
      by_cases q : i = k
      · subst q; omega
      · rw [ne i q]; omega
    have hs := h.2.2.2.2
    have W : (fl ww fun j => colW (fun (i : Fin hh) (j : Fin ww) => b (i.1 * ww + j.1)) j).sum ≤ (fl ww fun j => colW (fun (i : Fin hh) (j : Fin ww) => b' (i.1 * ww + j.1)) j).sum ∧ (fl ww fun j => colW (fun (i : Fin hh) (j : Fin ww) => b' (i.1 * ww + j.1)) j).sum ≤ (fl ww fun j => colW (fun (i : Fin hh) (j : Fin ww) => b (i.1 * ww + j.1)) j).sum + c :=
      sum_fl_one (k := ⟨k % ww, hj⟩) hc (maxI_fl_le hc fun i => ⟨(all _).1, (all _).2.1⟩) fun j q => by
        unfold colW
        congr 1
        refine List.map_congr_left fun i _ => ?_
        dsimp only
        rw [ne _ fun q2 => q (Fin.ext (inj i j q2).2)]
    have H : (fl hh fun i => rowU (fun (i : Fin hh) (j : Fin ww) => b (i.1 * ww + j.1)) i + rowD (fun (i : Fin hh) (j : Fin ww) => b (i.1 * ww + j.1)) i + 1).sum ≤ (fl hh fun i => rowU (fun (i : Fin hh) (j : Fin ww) => b' (i.1 * ww + j.1)) i + rowD (fun (i : Fin hh) (j : Fin ww) => b' (i.1 * ww + j.1)) i + 1).sum ∧ (fl hh fun i => rowU (fun (i : Fin hh) (j : Fin ww) => b' (i.1 * ww + j.1)) i + rowD (fun (i : Fin hh) (j : Fin ww) => b' (i.1 * ww + j.1)) i + 1).sum ≤ (fl hh fun i => rowU (fun (i : Fin hh) (j : Fin ww) => b (i.1 * ww + j.1)) i + rowD (fun (i : Fin hh) (j : Fin ww) => b (i.1 * ww + j.1)) i + 1).sum + e :=
      sum_fl_one (k := ⟨k / ww, hi⟩) he (by
        have a1 := maxI_fl_le (n := ww) du (f := fun j => (b (k / ww * ww + j.1)).2.1) (f' := fun j => (b' (k / ww * ww + j.1)).2.1) fun j => pu _
        have a2 := maxI_fl_le (n := ww) dd (f := fun j => (b (k / ww * ww + j.1)).2.2) (f' := fun j => (b' (k / ww * ww + j.1)).2.2) fun j => pd _
        simp only [rowU, rowD]
        omega) fun i q => by
        have : ∀ j : Fin ww, b' (i.1 * ww + j.1) = b (i.1 * ww + j.1) := fun j => ne _ fun q2 => q (Fin.ext (inj i j q2).1)
        simp only [rowU, rowD, this]
    simp only [Tr.bxK, BLe, tabW, tabH]
    omega
theorem Tr.bx_rebuild (s : Tr) (ks : List Tr) : (s.rebuild ks).bx = s.bxK fun k => (ks.getD k s).bx := Tr.bx_withK _ _
/-- of two parts put at one way -/
theorem Tr.put_le {c e : Int} (hc : 0 ≤ c) (he : 0 ≤ e) : ∀ (w : List Int) (s x y s1 s2 : Tr), BLe c e x.bx y.bx → s.put w x = some s1 → s.put w y = some s2 → BLe c e s1.bx s2.bx
  | [], s, x, y, s1, s2, h, h1, h2 => by cases h1; cases h2; exact h
  | k :: w, s, x, y, s1, s2, h, h1, h2 => by
    rw [Tr.put] at h1 h2
    cases hk : s.kidI k with
    | none => rw [hk] at h1; cases h1
    | some p =>
      rw [hk] at h1 h2
      obtain ⟨m, rfl, hm⟩ := Tr.kidI_some hk
      simp only [Option.bind_some] at h1 h2
      cases q1 : p.put w x with
      | none => rw [q1] at h1; cases h1
      | some p1 =>
        cases q2 : p.put w y with
        | none => rw [q2] at h2; cases h2
        | some p2 =>
          rw [q1] at h1; rw [q2] at h2
          simp only [Option.bind_some, Int.toNat_natCast] at h1 h2
          split at h1 <;> cases h1
          split at h2 <;> cases h2
          have hml : m < s.kids.length := (List.getElem?_eq_some_iff.mp hm).1
          rw [Tr.bx_rebuild, Tr.bx_rebuild]
          refine Tr.bxK_le s m (by rw [← s.kids_len]; exact hml) _ _ hc he ?_ fun i q => ?_
          · simp only [List.getD_eq_getElem?_getD, List.getElem?_set_self hml, Option.getD_some]
            exact Tr.put_le hc he w p x y p1 p2 h q1 q2
          · simp only [List.getD_eq_getElem?_getD]
            rw [List.getElem?_set_ne (Ne.symm q), List.getElem?_set_ne (Ne.symm q)]
/-- put where it stood -/
theorem Tr.rebuild_self (s : Tr) : s.rebuild s.kids = s := by
  have gd : ∀ (l : List Tr) (d : Tr) (i : Nat) (x : Tr), l[i]? = some x → l.getD i d = x := fun l d i x h => by rw [List.getD_eq_getElem?_getD, h]; rfl
  cases s with
  | chain a n g p =>
    simp only [Tr.rebuild, Tr.withK]
    have : ∀ i : Fin n, (Tr.chain a n g p).kids.getD (i.1 + 1) (Tr.chain a n g p) = p i := fun i => gd _ _ _ _ (by
      simp only [Tr.kids, List.getElem?_cons_succ]
      rw [List.getElem?_map, List.getElem?_eq_getElem (by rw [List.length_finRange]; exact i.2)]; simp)
    rw [show (fun i : Fin n => (Tr.chain a n g p).kids.getD (i.1 + 1) (Tr.chain a n g p)) = p from funext this]
    rfl
  | table h w m =>
    simp only [Tr.rebuild, Tr.withK]
    have fi : ∀ (i : Fin h) (j : Fin w), (Tr.table h w m).kids[i.1 * w + j.1]? = some (m i j) := fun i j => by
      have e := tab_flat h w fun k => if q : k / w < h ∧ k % w < w then m ⟨k / w, q.1⟩ ⟨k % w, q.2⟩ else .word []
      have e2 : (fl h fun i => fl w fun j => m i j) = fl h fun i : Fin h => fl w fun j : Fin w => if q : (i.1 * w + j.1) / w < h ∧ (i.1 * w + j.1) % w < w then m ⟨(i.1 * w + j.1) / w, q.1⟩ ⟨(i.1 * w + j.1) % w, q.2⟩ else .word [] := by
        refine List.map_congr_left fun i _ => List.map_congr_left fun j _ => ?_
        have w0 : 0 < w := Nat.lt_of_le_of_lt (Nat.zero_le _) j.2
        have d1 : (i.1 * w + j.1) / w = i.1 := by rw [Nat.mul_comm, Nat.mul_add_div w0, Nat.div_eq_of_lt j.2]; omega
        have d2 : (i.1 * w + j.1) % w = j.1 := by rw [Nat.mul_comm, Nat.mul_add_mod, Nat.mod_eq_of_lt j.2]
        rw [dif_pos ⟨by rw [d1]; exact i.2, by rw [d2]; exact j.2⟩]
        congr 1
        · exact Fin.ext d1.symm
        · exact Fin.ext d2.symm
      simp only [Tr.kids]
      rw [e2, e]
      have w0 : 0 < w := Nat.lt_of_le_of_lt (Nat.zero_le _) j.2
      have d1 : (i.1 * w + j.1) / w = i.1 := by rw [Nat.mul_comm, Nat.mul_add_div w0, Nat.div_eq_of_lt j.2]; omega
      have d2 : (i.1 * w + j.1) % w = j.1 := by rw [Nat.mul_comm, Nat.mul_add_mod, Nat.mod_eq_of_lt j.2]
      have lt : i.1 * w + j.1 < h * w := by
        have : (i.1 + 1) * w ≤ h * w := Nat.mul_le_mul_right _ i.2
        rw [Nat.add_mul] at this
        have := j.2; omega
      rw [List.getElem?_map, List.getElem?_range lt, Option.map_some, dif_pos ⟨by rw [d1]; exact i.2, by rw [d2]; exact j.2⟩]
      congr 2
      · exact Fin.ext d1
      · exact Fin.ext d2
    have : ∀ (i : Fin h) (j : Fin w), (Tr.table h w m).kids.getD (i.1 * w + j.1) (Tr.table h w m) = m i j := fun i j => gd _ _ _ _ (fi i j)
    rw [show (fun (i : Fin h) (j : Fin w) => (Tr.table h w m).kids.getD (i.1 * w + j.1) (Tr.table h w m)) = m from funext fun i => funext fun j => this i j]
  | _ => rfl
end Ly
namespace Ly
/-! ### parts that may stand where they stand -/
theorem Tr.mayBe_like {s p q : Tr} {k : Int} (h1 : p.isChain = q.isChain) (h2 : p.isBase = q.isBase) : s.mayBe k p = s.mayBe k q := by
  cases s <;> simp only [Tr.mayBe, h1, h2]
theorem Tr.rebuild_like (s : Tr) (ks : List Tr) : (s.rebuild ks).isChain = s.isChain ∧ (s.rebuild ks).isBase = s.isBase := by cases s <;> exact ⟨rfl, rfl⟩
/-- all parts, and parts of parts, may stand where they stand -/
def Tr.Gd (s : Tr) : Prop := ∀ (w : List Int) (q : Tr), s.at w = some q → ∀ (k : Nat) (p : Tr), q.kids[k]? = some p → q.mayBe k p = true
theorem Tr.Gd.kid {s p : Tr} {k : Nat} (h : s.Gd) (hk : s.kids[k]? = some p) : p.Gd := fun w q hq => h (k :: w) q (by rw [Tr.at, Tr.kidI_nat, hk]; exact hq)
theorem Tr.Gd.here {s p : Tr} {k : Nat} (h : s.Gd) (hk : s.kids[k]? = some p) : s.mayBe k p = true := h [] s rfl k p hk
theorem Tr.Gd.mk {s : Tr} (h : ∀ (k : Nat) (p : Tr), s.kids[k]? = some p → s.mayBe k p = true ∧ p.Gd) : s.Gd := fun w => by
  cases w with
  | nil => intro q hq k p hp; cases hq; exact (h k p hp).1
  | cons a w =>
    intro q hq
    rw [Tr.at] at hq
    cases hk : s.kidI a with
    | none => rw [hk] at hq; cases hq
    | some p =>
      rw [hk] at hq
      obtain ⟨m, rfl, hm⟩ := Tr.kidI_some hk
      exact (h m p hm).2 w q hq
theorem Tr.Dr.here {s p : Tr} {k : Nat} (h : s.Dr) (hk : s.kids[k]? = some p) : s.mayBe k p = true := by
  cases s <;> simp only [Tr.mayBe]
  all_goals (simp only [Tr.Dr] at h; simp only [Tr.kids] at hk)
  · cases k with
    | zero => simp at hk; subst hk; simp [h.1]
    | succ k => simp
  · cases k with
    | zero => simp at hk; subst hk; simp [h.1]
    | succ k => simp
  · cases k with
    | zero => simp at hk; subst hk; simp [h.1]
    | succ k => simp
  · cases k with
    | zero => simp at hk; subst hk; simp [h.2.1.1]
    | succ k =>
      simp only [List.getElem?_cons_succ] at hk
      obtain ⟨i, _, rfl⟩ := List.mem_map.mp (List.mem_of_getElem? hk)
      simp [(h.2.2 i).2.1]
theorem Tr.Dr.gd : ∀ {s : Tr}, s.Dr → s.Gd := fun {s} => by
  refine Tr.ind (P := fun s => s.Dr → s.Gd) (fun s ih h => Tr.Gd.mk fun k p hp => ?_) s
  have hm := List.mem_of_getElem? hp
  exact ⟨h.here hp, ih p hm (h.kid hm)⟩
/-- the way to what stands around, and the last number -/
theorem Tr.at_last {s q : Tr} {w : List Int} {k : Int} (h : s.at (w ++ [k]) = some q) : ∃ p, s.at w = some p ∧ p.kidI k = some q := by
  rw [Tr.at_app] at h
  cases e : s.at w with
  | none => rw [e] at h; cases h
  | some p =>
    rw [e] at h
    refine ⟨p, rfl, ?_⟩
    simp only [Option.bind_some, Tr.at] at h
    cases e2 : p.kidI k with
    | none => rw [e2] at h; cases h
    | some x => rw [e2] at h; simpa using h
/-- when a part can stand at a way -/
def Tr.fits (s : Tr) : List Int → Tr → Bool
  | [], _ => true
  | [k], new => s.mayBe k new
  | k :: w, new => match s.kidI k with
    | some p => p.fits w new
    | none => false
theorem Tr.put_some : ∀ (w : List Int) (s new q : Tr), s.Gd → s.at w = some q → s.fits w new = true → ∃ r, s.put w new = some r
  | [], s, new, q, _, _, _ => ⟨new, rfl⟩
  | [k], s, new, q, g, h, f => by
    rw [Tr.at] at h
    rw [Tr.fits] at f
    cases hk : s.kidI k with
    | none => rw [hk] at h; cases h
    | some p =>
      refine ⟨_, by rw [Tr.put, hk, Option.bind_some, Tr.put, Option.bind_some, if_pos f]⟩
  | k :: k2 :: w, s, new, q, g, h, f => by
    rw [Tr.at] at h
    rw [Tr.fits] at f
    · cases hk : s.kidI k with
      | none => rw [hk] at h; cases h
      | some p =>
        rw [hk] at h f
        obtain ⟨m, rfl, hm⟩ := Tr.kidI_some hk
        obtain ⟨r, hr⟩ := Tr.put_some (k2 :: w) p new q (g.kid hm) h f
        have like : r.isChain = p.isChain ∧ r.isBase = p.isBase := by
          rw [Tr.put] at hr
          cases h2 : p.kidI k2 with
          | none => rw [h2] at hr; cases hr
          | some p2 =>
            rw [h2] at hr
            cases h3 : p2.put w new with
            | none => rw [Option.bind_some, h3] at hr; cases hr
            | some p3 =>
              rw [Option.bind_some, h3, Option.bind_some] at hr
              split at hr <;> cases hr
              exact Tr.rebuild_like _ _
        refine ⟨_, by rw [Tr.put, hk, Option.bind_some, hr, Option.bind_some, if_pos]; rw [Tr.mayBe_like like.1 like.2]; exact g.here hm⟩
    · intro h; cases h
theorem Tr.withK_Wf (s : Tr) (f : Nat → Tr) (W : s.Wf) (h : ∀ k, k < s.nk → (f k).Wf) : (s.withK f).Wf := by
  cases s <;> simp only [Tr.withK, Tr.Wf, Tr.nk] at *
  · exact W
  · exact h 0 (by omega)
  · exact h 0 (by omega)
  · exact ⟨h 0 (by omega), h 1 (by omega)⟩
  · exact ⟨h 0 (by omega), h 1 (by omega)⟩
  · exact ⟨h 0 (by omega), h 1 (by omega)⟩
  · exact ⟨h 0 (by omega), h 1 (by omega), h 2 (by omega)⟩
  · exact ⟨W.1, h 0 (by omega), fun i => h _ (by omega)⟩
  · refine ⟨W.1, W.2.1, fun i j => h _ ?_⟩
    rename_i hh ww m
    have : (i.1 + 1) * ww ≤ hh * ww := Nat.mul_le_mul_right _ i.2
    rw [Nat.add_mul] at this
    have := j.2
    omega
theorem Tr.withK_ht (s : Tr) (f : Nat → Tr) {M : Nat} (h : ∀ k, k < s.nk → (f k).ht ≤ M) : (s.withK f).ht ≤ 1 + M := by
  have : ∀ p ∈ (s.withK f).kids, p.ht ≤ M := fun p hp => by
    rw [Tr.withK_kids] at hp
    obtain ⟨k, hk, rfl⟩ := List.mem_map.mp hp
    exact h k (List.mem_range.mp hk)
  revert this
  generalize s.withK f = t
  intro this
  cases t <;> simp only [Tr.ht, Tr.kids, List.mem_cons, List.not_mem_nil, or_false, forall_eq, forall_eq_or_imp] at *
  · omega
  · omega
  · omega
  · omega
  · omega
  · omega
  · omega
  · have := maxN_flo (M := M) (f := fun i => _) fun i => this.2 _ (List.mem_map_of_mem (List.mem_finRange i))
    have := this
    omega
  · rename_i hh ww m
    have := maxN_flo (M := M) (f := fun i => maxN (fl ww fun j => (m i j).ht)) fun i => maxN_flo fun j => this _ (List.mem_flatten_of_mem (List.mem_map_of_mem (List.mem_finRange i)) (List.mem_map_of_mem (List.mem_finRange j)))
    omega
theorem Tr.put_Wf : ∀ (w : List Int) (s new r : Tr), s.Wf → new.Wf → s.put w new = some r → r.Wf ∧ r.ht ≤ s.ht + new.ht
  | [], s, new, r, _, W2, h => by cases h; exact ⟨W2, by omega⟩
  | k :: w, s, new, r, W, W2, h => by
    rw [Tr.put] at h
    cases hk : s.kidI k with
    | none => rw [hk] at h; cases h
    | some p =>
      obtain ⟨m, rfl, hm⟩ := Tr.kidI_some hk
      have hp := List.mem_of_getElem? hm
      cases h3 : p.put w new with
      | none => rw [hk, Option.bind_some, h3] at h; cases h
      | some p3 =>
        rw [hk, Option.bind_some, h3, Option.bind_some, Int.toNat_natCast] at h
        split at h <;> cases h
        obtain ⟨w1, w2⟩ := Tr.put_Wf w p new p3 (W.kid hp) W2 h3
        have hh := Tr.kids_ht hp
        have all : ∀ k, k < s.nk → ((s.kids.set m p3).getD k s).Wf ∧ ((s.kids.set m p3).getD k s).ht + 1 ≤ s.ht + new.ht := fun k hk => by
          rw [← s.kids_len] at hk
          rw [List.getD_eq_getElem?_getD, List.getElem?_eq_getElem (by rw [List.length_set]; exact hk), Option.getD_some, List.getElem_set]
          split
          · exact ⟨w1, by omega⟩
          · have := Tr.kids_ht (List.getElem_mem hk)
            have := new.ht_pos
            exact ⟨W.kid (List.getElem_mem hk), by omega⟩
        have z := new.ht_pos
        exact ⟨Tr.withK_Wf s _ W fun k hk => (all k hk).1, Nat.le_trans (Tr.withK_ht s _ (M := s.ht + new.ht - 1) fun k hk => by have := (all k hk).2; omega) (by omega)⟩
theorem Tr.put_self : ∀ (w : List Int) (s q r : Tr), s.at w = some q → s.put w q = some r → r = s
  | [], s, q, r, h, k => by cases h; cases k; rfl
  | k :: w, s, q, r, h, h2 => by
    rw [Tr.at] at h
    rw [Tr.put] at h2
    cases hk : s.kidI k with
    | none => rw [hk] at h; cases h
    | some p =>
      rw [hk] at h h2
      obtain ⟨m, rfl, hm⟩ := Tr.kidI_some hk
      cases h3 : p.put w q with
      | none => rw [Option.bind_some, h3] at h2; cases h2
      | some p3 =>
        rw [Option.bind_some, h3, Option.bind_some, Int.toNat_natCast] at h2
        have := Tr.put_self w p q p3 h h3
        subst this
        split at h2 <;> cases h2
        have e : s.kids.set m p3 = s.kids := by
          have hml := (List.getElem?_eq_some_iff.mp hm).1
          have := (List.getElem?_eq_some_iff.mp hm).2
          rw [← this, List.set_getElem_self]
        rw [e, Tr.rebuild_self]
/-- a drawn sum is not too large -/
theorem sum_le {l : List Nat} {M : Nat} (h : ∀ x ∈ l, x ≤ M) : l.sum ≤ l.length * M := by
  induction l with
  | nil => simp
  | cons a l ih =>
    rw [List.sum_cons, List.length_cons, Nat.add_mul]
    have := h a List.mem_cons_self
    have := ih fun x hx => h x (List.mem_cons_of_mem _ hx)
    omega
theorem Tr.Dr.nk_le {s : Tr} (h : s.Dr) : s.nk ≤ 9 := by
  cases s <;> simp only [Tr.nk, Tr.Dr] at * <;> first | omega | skip
  have := Nat.mul_le_mul h.1.2 h.2.1.2
  omega
theorem Tr.Dr.size_le : ∀ {s : Tr}, s.Dr → s.size ≤ 10 ^ s.ht := fun {s} => by
  refine Tr.ind (P := fun s => s.Dr → s.size ≤ 10 ^ s.ht) (fun s ih h => ?_) s
  have hp := s.ht_pos
  obtain ⟨k, hk⟩ : ∃ k, s.ht = k + 1 := ⟨s.ht - 1, by omega⟩
  have : (s.kids.map Tr.size).sum ≤ (s.kids.map Tr.size).length * 10 ^ k := sum_le fun x hx => by
    obtain ⟨p, hp, rfl⟩ := List.mem_map.mp hx
    have h1 := ih p hp (h.kid hp)
    have h2 := Tr.kids_ht hp
    exact Nat.le_trans h1 (Nat.pow_le_pow_right (by omega) (by omega))
  rw [List.length_map, s.kids_len] at this
  have h9 : s.nk * 10 ^ k ≤ 9 * 10 ^ k := Nat.mul_le_mul_right _ h.nk_le
  have p1 : 1 ≤ 10 ^ k := Nat.one_le_pow _ _ (by omega)
  rw [s.size_eq, hk, Nat.pow_succ]
  omega
theorem Tr.Dr.size_7 {s : Tr} (h : s.Dr) (k : s.ht ≤ 6) : s.size ≤ 1000000 := Nat.le_trans h.size_le (Nat.le_trans (Nat.pow_le_pow_right (by omega) k) (by decide))
end Ly
namespace Ly
open PySem hiding Fin
open PySem.Spec
/-- the last of a way -/
theorem sub_m1 {l : List T} {x : T} : T.sub? (.tup (l ++ [x])) (.int (-1)) = some x := by
  simp only [T.sub?, ixOf, List.length_append, List.length_cons, List.length_nil]
  rw [if_neg (by omega), if_pos (by omega)]
  have : (-1 + ((l.length + (0 + 1) : Nat) : Int)).toNat = l.length := by omega
  rw [Option.bind_some, this]
  simp
theorem slc_m1 {l : List T} {x : T} : T.slc (.tup (l ++ [x])) none (some (-1)) = some (.tup l) := by
  simp only [T.slc, cutL, clip, List.length_append, List.length_cons, List.length_nil, List.drop_zero, Nat.sub_zero]
  rw [if_pos (by omega)]
  have : (-1 + ((l.length + (0 + 1) : Nat) : Int)).toNat = l.length := by omega
  rw [this, List.take_left']
  rfl
theorem way_m1 {w : List Int} {k : Int} : T.sub? (wayT (w ++ [k])) (.int (-1)) = some (.int k) := by
  rw [wayT, List.map_append]; exact sub_m1
theorem way_s1 {w : List Int} {k : Int} : T.slc (wayT (w ++ [k])) none (some (-1)) = some (wayT w) := by
  rw [wayT, List.map_append]; exact slc_m1
/-- whether at a way stands the base of a script -/
def Tr.baseAt (s : Tr) (w : List Int) : Bool := match w.getLast? with
  | some 0 => (match s.at w.dropLast with
    | some p => p.kd == ([115, 99, 114, 105, 112, 116] : List Nat)
    | none => false)
  | _ => false
theorem Tr.toT_sub0 (s : Tr) : T.sub? s.toT (.int 0) = some (.str s.kd) := by cases s <;> exact sub_t0
section
variable {tab : List FnI} (P : Pre tab) {n : Nat} {S : Store}
include P
theorem w_room {s : Tr} (h : ∀ S, callF tab n i_box [s.toT] S = .ok (boxT s.bx) S) : callF tab (n + 1) i_lw_room [s.toT] S = .ok (.tup [.int s.bx.1, .int s.bx.high]) S := by
  rw [c_lw_room P]
  simp! [u_lw_room, h, boxT, Bx.high]
theorem w_is_base {s : Tr} (W : s.Wf) {w : List Int} (h : (s.at w).isSome = true) : callF tab (n + 4) i_lw_is_base [s.toT, wayT w] S = .ok (.bl (s.baseAt w)) S := by
  rw [c_lw_is_base P]
  rcases List.eq_nil_or_concat w with rfl | ⟨v, k, rfl⟩
  · simp! [u_lw_is_base, dep_way, dep_nil, eqv_way_nil, List.isEmpty_nil, Tr.baseAt, List.getLast?_nil]
  · rw [List.concat_eq_append] at h ⊢
    obtain ⟨q, hq⟩ := Option.isSome_iff_exists.mp h
    obtain ⟨p, hp, _⟩ := Tr.at_last hq
    have h1 := fun S => w_part_at P (n := n) (S := S) v s W
    rw [hp] at h1
    have h1 : ∀ S, callF tab (n + 3) i_part_at [s.toT, wayT v] S = .ok p.toT S := h1
    have em : (v ++ [k]).isEmpty = false := by simp
    have bb : s.baseAt (v ++ [k]) = ((k == 0) && (p.kd == ([115, 99, 114, 105, 112, 116] : List Nat))) := by
      unfold Tr.baseAt
      rw [List.getLast?_concat, List.dropLast_concat, hp]
      by_cases hk : k = 0
      · subst hk; simp
      · have : (k == 0) = false := by simpa using hk
        rw [this, Bool.false_and]
        split
        · rename_i q; cases q; exact absurd rfl hk
        · rfl
    simp! [u_lw_is_base, dep_way, dep_nil, eqv_way_nil, em, way_m1, way_s1, h1, p.toT_sub0, bb]
end
/-! ### what can be put -/
theorem Tr.fits_of : ∀ (w : List Int) (s new q : Tr), s.at w = some q → ((∀ (v : List Int) (k : Int) (p : Tr), w = v ++ [k] → s.at v = some p → p.mayBe k new = true) → s.fits w new = true)
  | [], s, new, q, h, f => rfl
  | [k], s, new, q, h, f => by rw [Tr.fits]; exact f [] k s rfl rfl
  | k :: k2 :: w, s, new, q, h, f => by
    rw [Tr.at] at h
    rw [Tr.fits]
    · cases hk : s.kidI k with
      | none => rw [hk] at h; cases h
      | some p =>
        rw [hk] at h
        refine Tr.fits_of (k2 :: w) p new q h fun v k' p' e e2 => f (k :: v) k' p' (by rw [e]; rfl) (by rw [Tr.at, hk]; exact e2)
    · intro h; cases h
/-- a held fits wherever something stands -/
theorem Tr.fits_held {w : List Int} {s q a : Tr} (h : s.at w = some q) : s.fits w (.held a) = true := Tr.fits_of w s _ q h fun v k p e e2 => by
  cases p <;> simp [Tr.mayBe, Tr.isChain, Tr.isBase]
theorem Tr.fits_word {w : List Int} {s q : Tr} {x : List Nat} (h : s.at w = some q) : s.fits w (.word x) = true := Tr.fits_of w s _ q h fun v k p e e2 => by
  cases p <;> simp [Tr.mayBe, Tr.isChain, Tr.isBase]
/-- but for bases a root too -/
theorem Tr.fits_root {w : List Int} {s q a : Tr} (h : s.at w = some q) (nb : s.baseAt w = false) : s.fits w (.root a) = true := Tr.fits_of w s _ q h fun v k p e e2 => by
  subst e
  obtain ⟨p', h1, h2⟩ := Tr.at_last h
  rw [e2] at h1
  cases h1
  obtain ⟨m, rfl, _⟩ := Tr.kidI_some h2
  unfold Tr.baseAt at nb
  rw [List.getLast?_concat, List.dropLast_concat, e2] at nb
  have hm : p.kd = ([115, 99, 114, 105, 112, 116] : List Nat) → 0 < (m : Int) := fun q => by
    by_cases z : m = 0
    · subst z
      simp [q] at nb
    · omega
  cases p <;> simp only [Tr.mayBe, Tr.isChain, Tr.isBase, Bool.or_false, Bool.not_false, decide_eq_true_eq] <;> exact hm rfl
theorem Tr.fits_self {w : List Int} {s q : Tr} (G : s.Gd) (h : s.at w = some q) : s.fits w q = true := Tr.fits_of w s _ q h fun v k p e e2 => by
  subst e
  obtain ⟨p', h1, h2⟩ := Tr.at_last h
  rw [e2] at h1
  cases h1
  obtain ⟨m, rfl, hm⟩ := Tr.kidI_some h2
  exact G v p e2 m q hm
end Ly
namespace Ly
/-! ### rooms of parts -/
theorem le_maxI {l : List Int} {x : Int} (h : x ∈ l) : x ≤ maxI l := by
  induction l with
  | nil => simp at h
  | cons a l ih =>
    cases l with
    | nil =>
      have : x = a := by simpa using h
      subst this; exact Int.le_refl _
    | cons b l =>
      simp only [maxI]
      rcases List.mem_cons.mp h with rfl | h
      · exact Int.le_max_left _ _
      · exact Int.le_trans (ih h) (Int.le_max_right _ _)
theorem le_maxI_fl {n : Nat} {f : Fin n → Int} (i : Fin n) : f i ≤ maxI (fl n f) := le_maxI (List.mem_map_of_mem (List.mem_finRange i))
theorem le_sumI {l : List Int} (nn : ∀ x ∈ l, 0 ≤ x) {x : Int} (h : x ∈ l) : x ≤ l.sum := by
  induction l with
  | nil => simp at h
  | cons a l ih =>
    rw [List.sum_cons]
    have h0 := nn a List.mem_cons_self
    have h1 : 0 ≤ l.sum := sum_nn fun y hy => nn y (List.mem_cons_of_mem _ hy)
    rcases List.mem_cons.mp h with rfl | h
    · omega
    · have := ih (fun y hy => nn y (List.mem_cons_of_mem _ hy)) h; omega
theorem le_sum_fl {n : Nat} {f : Fin n → Int} (nn : ∀ i, 0 ≤ f i) (i : Fin n) : f i ≤ (fl n f).sum := le_sumI (fun x hx => by
  obtain ⟨i, _, rfl⟩ := List.mem_map.mp hx
  exact nn i) (List.mem_map_of_mem (List.mem_finRange i))
theorem Tr.kid_room {s p : Tr} (W : s.Wf) (h : p ∈ s.kids) : p.bx.1 ≤ s.bx.1 ∧ p.bx.high ≤ s.bx.high := by
  have nn : ∀ q ∈ s.kids, 1 ≤ q.bx.1 ∧ 0 ≤ q.bx.2.1 ∧ 0 ≤ q.bx.2.2 := fun q hq => q.bx_nn (W.kid hq)
  cases s <;> simp only [Tr.kids, List.mem_cons, List.not_mem_nil, or_false, forall_eq_or_imp, forall_eq] at h nn
  · subst h; simp only [Tr.bx, Bx.high]; omega
  · subst h; simp only [Tr.bx, Bx.high]; omega
  · rcases h with rfl | rfl <;> (simp only [Tr.bx, Bx.high] at *; omega)
  · rcases h with rfl | rfl <;> (simp only [Tr.bx, Bx.high] at *; omega)
  · rcases h with rfl | rfl <;> (simp only [Tr.bx, Bx.high] at *; omega)
  · rcases h with rfl | rfl | rfl <;> (simp only [Tr.bx, Bx.high] at *; omega)
  · rename_i a n g q
    have hq : ∀ i, 1 ≤ (q i).bx.1 ∧ 0 ≤ (q i).bx.2.1 ∧ 0 ≤ (q i).bx.2.2 := fun i => nn.2 _ (List.mem_map_of_mem (List.mem_finRange i))
    have s0 := sum_fl (f := fun i => (q i).bx.1) fun i => by have := (hq i).1; omega
    have u0 := le_maxI (l := a.bx.2.1 :: fl n fun i => (q i).bx.2.1) List.mem_cons_self
    have d0 := le_maxI (l := a.bx.2.2 :: fl n fun i => (q i).bx.2.2) List.mem_cons_self
    rcases h with rfl | h
    · simp only [Tr.bx, Bx.high]; omega
    · obtain ⟨i, _, rfl⟩ := List.mem_map.mp h
      have s1 := le_sum_fl (f := fun i => (q i).bx.1) (fun i => by have := (hq i).1; omega) i
      have u1 := le_maxI (l := a.bx.2.1 :: fl n fun i => (q i).bx.2.1) (List.mem_cons_of_mem _ (List.mem_map_of_mem (List.mem_finRange i)))
      have d1 := le_maxI (l := a.bx.2.2 :: fl n fun i => (q i).bx.2.2) (List.mem_cons_of_mem _ (List.mem_map_of_mem (List.mem_finRange i)))
      simp only [Tr.bx, Bx.high] at *; omega
  · rename_i hh ww m
    obtain ⟨l, h1, h2⟩ := List.mem_flatten.mp h
    obtain ⟨i, _, rfl⟩ := List.mem_map.mp h1
    obtain ⟨j, _, rfl⟩ := List.mem_map.mp h2
    have k : ∀ i j, 1 ≤ (m i j).bx.1 ∧ 0 ≤ (m i j).bx.2.1 ∧ 0 ≤ (m i j).bx.2.2 := fun i j => (m i j).bx_nn (W.2.2 i j)
    have cw := le_maxI_fl (f := fun i => (m i j).bx.1) i
    have cn : ∀ j, 0 ≤ colW (fun i j => (m i j).bx) j := fun j => maxI_fl fun i => by have := (k i j).1; dsimp only; omega
    have cs := le_sum_fl (f := fun j => colW (fun i j => (m i j).bx) j) cn j
    have ru := le_maxI_fl (f := fun j => (m i j).bx.2.1) j
    have rd := le_maxI_fl (f := fun j => (m i j).bx.2.2) j
    have rn : ∀ i, 1 ≤ rowU (fun i j => (m i j).bx) i + rowD (fun i j => (m i j).bx) i + 1 := fun i => by
      have := maxI_fl (f := fun j => (m i j).bx.2.1) fun j => (k i j).2.1
      have := maxI_fl (f := fun j => (m i j).bx.2.2) fun j => (k i j).2.2
      simp only [rowU, rowD]; omega
    have rs := le_sum_fl (f := fun i => rowU (fun i j => (m i j).bx) i + rowD (fun i j => (m i j).bx) i + 1) (fun i => by have := rn i; omega) i
    have h1 := W.1.1
    have h2 := W.2.1.1
    have e1 : rowU (fun i j => (m i j).bx) i = maxI (fl ww fun j => (m i j).bx.2.1) := rfl
    have e2 : rowD (fun i j => (m i j).bx) i = maxI (fl ww fun j => (m i j).bx.2.2) := rfl
    have e3 : colW (fun i j => (m i j).bx) j = maxI (fl hh fun i => (m i j).bx.1) := rfl
    simp only [Tr.bx, Bx.high, tabW, tabH] at *
    omega
theorem Tr.at_room : ∀ (w : List Int) (s p : Tr), s.Wf → s.at w = some p → p.bx.1 ≤ s.bx.1 ∧ p.bx.high ≤ s.bx.high
  | [], s, p, _, h => by
    simp only [Tr.at] at h
    cases h
    exact ⟨Int.le_refl _, Int.le_refl _⟩
  | k :: w, s, p, W, h => by
    rw [Tr.at] at h
    obtain ⟨q, h1, h2⟩ := Option.bind_eq_some_iff.mp h
    obtain ⟨m, _, hm⟩ := Tr.kidI_some h1
    have hq := List.mem_of_getElem? hm
    have a := Tr.at_room w q p (W.kid hq) h2
    have b := Tr.kid_room W hq
    omega
def Tr.many (s : Tr) : Int := s.bx.1 * s.bx.high
theorem Tr.many_pos {s : Tr} (W : s.Wf) : 1 ≤ s.many := by
  have := s.bx_nn W
  have h : 1 ≤ s.bx.high := by simp only [Bx.high]; omega
  have := Int.mul_le_mul this.1 h (by omega) (by omega)
  simpa [Tr.many] using this
theorem Tr.at_many {w : List Int} {s p : Tr} (W : s.Wf) (h : s.at w = some p) : p.many ≤ s.many := by
  have r := Tr.at_room w s p W h
  have Wp := (Tr.at_Wf W h).1
  have n1 := s.bx_nn W
  have n2 := p.bx_nn Wp
  exact Int.mul_le_mul r.1 r.2 (by simp only [Bx.high]; omega) (by omega)
/-! ### the first of those with the most room -/
def Tr.manyAt (s : Tr) (w : List Int) : Int := match s.at w with | some p => p.many | none => 0
abbrev Bst := Option (Int × List Int)
def stepB (f : List Int → Int) (b : Bst) (w : List Int) : Bst := match b with
  | none => some (f w, w)
  | some x => if f w > x.1 then some (f w, w) else some x
def bestB (f : List Int → Int) (l : List (List Int)) : Bst := l.foldl (stepB f) none
theorem bestB_stay {f : List Int → Int} {x : Int × List Int} : ∀ {l : List (List Int)}, (∀ w ∈ l, f w ≤ x.1) → l.foldl (stepB f) (some x) = some x
  | [], _ => rfl
  | w :: l, h => by
    have h1 := h w List.mem_cons_self
    rw [List.foldl_cons, stepB, if_neg (by omega)]
    exact bestB_stay fun v hv => h v (List.mem_cons_of_mem _ hv)
theorem bestB_first {f : List Int → Int} {w : List Int} {l : List (List Int)} (h : ∀ v ∈ l, f v ≤ f w) : bestB f (w :: l) = some (f w, w) := by
  rw [bestB, List.foldl_cons, stepB]
  exact bestB_stay h
theorem bestB_second {f : List Int → Int} {w v : List Int} {l : List (List Int)} (g : f v > f w) (h : ∀ u ∈ l, f u ≤ f v) : bestB f (w :: v :: l) = some (f v, v) := by
  rw [bestB, List.foldl_cons, List.foldl_cons, stepB, stepB, if_pos g]
  exact bestB_stay h
/-- it is the least of the couples, the ways being in order -/
theorem bestB_min {f : List Int → Int} : ∀ {l : List (List Int)} {w : List Int}, (∀ v ∈ l, w < v) → l.Pairwise (· < ·) → l.foldl (stepB f) (some (f w, w)) = some (f (minK (- f w, w) (l.map fun v => (- f v, v))).2, (minK (- f w, w) (l.map fun v => (- f v, v))).2) ∧ (minK (- f w, w) (l.map fun v => (- f v, v))).1 = - f (minK (- f w, w) (l.map fun v => (- f v, v))).2
  | [], w, _, _ => ⟨rfl, rfl⟩
  | v :: l, w, h, p => by
    rw [List.pairwise_cons] at p
    have hv := h v List.mem_cons_self
    have nlt : ¬ v < w := List.lt_asymm hv
    simp only [List.foldl_cons, List.map_cons, minK]
    by_cases g : f v > f w
    · have e1 : stepB f (some (f w, w)) v = some (f v, v) := by rw [stepB, if_pos g]
      have e2 : ltK (- f v, v) (- f w, w) = true := by simp only [ltK, decide_eq_true_eq]; exact .inl (by omega)
      rw [e1, e2]
      exact bestB_min p.1 p.2
    · have e1 : stepB f (some (f w, w)) v = some (f w, w) := by rw [stepB, if_neg g]
      have e2 : ltK (- f v, v) (- f w, w) = false := by
        simp only [ltK, decide_eq_false_iff_not]
        rintro (q | q)
        · omega
        · exact nlt q.2
      rw [e1, e2]
      exact bestB_min (fun u hu => h u (List.mem_cons_of_mem _ hu)) p.2
/-! ### ways are in order -/
theorem pre1_sorted {k : Nat} {l : List (List Int)} (h : l.Pairwise (· < ·)) : (pre1 k l).Pairwise (· < ·) := by
  rw [pre1, List.pairwise_map]
  refine h.imp fun {a b} q => ?_
  rw [List.cons_lt_cons_iff]
  exact .inr ⟨rfl, q⟩
theorem waysK_sorted (l : List (List (List Int))) (h : ∀ x ∈ l, x.Pairwise (· < ·)) : (waysK l).Pairwise (· < ·) := by
  unfold waysK
  have : ∀ (l : List (List (List Int))) (k : Nat), (∀ x ∈ l, x.Pairwise (· < ·)) → ((l.zipIdx k).map fun q => pre1 q.2 q.1).flatten.Pairwise (· < ·) ∧ ∀ w ∈ ((l.zipIdx k).map fun q => pre1 q.2 q.1).flatten, ∃ (j : Nat) (v : List Int), k ≤ j ∧ w = (j : Int) :: v := fun l => by
    induction l with
    | nil => intro k _; exact ⟨List.Pairwise.nil, fun w hw => by simp at hw⟩
    | cons a l ih =>
      intro k h
      obtain ⟨i1, i2⟩ := ih (k + 1) fun x hx => h x (List.mem_cons_of_mem _ hx)
      rw [List.zipIdx_cons, List.map_cons, List.flatten_cons]
      refine ⟨List.pairwise_append.mpr ⟨pre1_sorted (h a List.mem_cons_self), i1, fun x hx y hy => ?_⟩, fun w hw => ?_⟩
      · obtain ⟨v, _, rfl⟩ := List.mem_map.mp hx
        obtain ⟨j, u, hj, rfl⟩ := i2 y hy
        rw [List.cons_lt_cons_iff]
        exact .inl (by dsimp only; omega)
      · rcases List.mem_append.mp hw with hw | hw
        · obtain ⟨v, _, rfl⟩ := List.mem_map.mp hw
          exact ⟨k, v, Nat.le_refl _, rfl⟩
        · obtain ⟨j, v, hj, rfl⟩ := i2 w hw
          exact ⟨j, v, by omega, rfl⟩
  exact (this l 0 h).1
theorem Tr.ways_sorted : ∀ s : Tr, s.ways.Pairwise (· < ·) := Tr.ind fun s ih => by
  rw [s.ways_eq, List.pairwise_cons]
  refine ⟨fun w hw => ?_, waysK_sorted _ fun x hx => ?_⟩
  · obtain ⟨k, v, _, _, _, rfl⟩ := mem_waysK hw
    exact List.nil_lt_cons _ _
  · obtain ⟨p, hp, rfl⟩ := List.mem_map.mp hx
    exact ih p hp
theorem Tr.ways_cons (s : Tr) : s.ways = [] :: s.ways.tail := by rw [s.ways_eq]; rfl
theorem Tr.tail_kid {s : Tr} {w : List Int} (h : w ∈ s.ways.tail) : ∃ (k : Nat) (v : List Int) (p : Tr), s.kids[k]? = some p ∧ v ∈ p.ways ∧ w = (k : Int) :: v := by
  rcases Tr.mem_ways.mp (List.mem_of_mem_tail h) with rfl | h'
  · rw [s.ways_eq] at h
    obtain ⟨k, v, _, _, _, q⟩ := mem_waysK (by simpa using h)
    cases q
  · exact h'
theorem Tr.manyAt_kid {s p : Tr} {k : Nat} {v : List Int} (W : s.Wf) (h : s.kids[k]? = some p) (hv : v ∈ p.ways) : s.manyAt ((k : Int) :: v) ≤ p.many ∧ (v = [] → s.manyAt ((k : Int) :: v) = p.many) := by
  unfold Tr.manyAt
  rw [Tr.at, Tr.kidI_nat, h, Option.bind_some]
  refine ⟨?_, fun q => by rw [q, Tr.at]⟩
  obtain ⟨q, hq⟩ := Option.isSome_iff_exists.mp ((Tr.at_ways v p).mpr hv)
  rw [hq]
  exact Tr.at_many (W.kid (List.mem_of_getElem? h)) hq
theorem Tr.tail_head {s k0 : Tr} {ks : List Tr} (h : s.kids = k0 :: ks) : ∃ r, s.ways.tail = [0] :: r := by
  rw [s.ways_eq, h, List.map_cons, k0.ways_eq]
  exact ⟨_, rfl⟩
/-- the first part has the most room -/
theorem Tr.best_first {s k0 : Tr} {ks : List Tr} (W : s.Wf) (h : s.kids = k0 :: ks) (g : ∀ p ∈ ks, p.many ≤ k0.many) : bestB s.manyAt s.ways.tail = some (k0.many, [0]) := by
  obtain ⟨r, hr⟩ := Tr.tail_head h
  have e0 : s.kids[0]? = some k0 := by rw [h]; rfl
  have m0 : s.manyAt [0] = k0.many := (Tr.manyAt_kid (k := 0) (v := []) W e0 (by rw [k0.ways_eq]; exact List.mem_cons_self)).2 rfl
  rw [hr, bestB_first fun v hv => ?_, m0]
  have : v ∈ s.ways.tail := by rw [hr]; exact List.mem_cons_of_mem _ hv
  obtain ⟨k, u, p, hk, hu, rfl⟩ := Tr.tail_kid this
  have a := (Tr.manyAt_kid W hk hu).1
  have hp := List.mem_of_getElem? hk
  rw [h] at hp
  rw [m0]
  rcases List.mem_cons.mp hp with rfl | hp
  · exact a
  · have := g p hp; omega
/-- beside a word -/
theorem Tr.best_second {s b : Tr} {x : List Nat} (W : s.Wf) (h : s.kids = [.word x, b]) (g : b.many > (Tr.word x).many) : bestB s.manyAt s.ways.tail = some (b.many, [1]) := by
  have hr : ∃ r, s.ways.tail = [0] :: [1] :: r := by
    rw [s.ways_eq, h]
    show ∃ r, waysK [(Tr.word x).ways, b.ways] = [0] :: [1] :: r
    rw [b.ways_eq, Tr.ways]
    exact ⟨_, rfl⟩
  obtain ⟨r, hr⟩ := hr
  have e0 : s.kids[0]? = some (.word x) := by rw [h]; rfl
  have e1 : s.kids[1]? = some b := by rw [h]; rfl
  have m0 : s.manyAt [0] = (Tr.word x).many := (Tr.manyAt_kid (k := 0) (v := []) W e0 (by rw [Tr.ways_eq]; exact List.mem_cons_self)).2 rfl
  have m1 : s.manyAt [1] = b.many := (Tr.manyAt_kid (k := 1) (v := []) W e1 (by rw [Tr.ways_eq]; exact List.mem_cons_self)).2 rfl
  rw [hr, bestB_second (by rw [m0, m1]; exact g) fun v hv => ?_, m1]
  have : v ∈ s.ways.tail := by rw [hr]; exact List.mem_cons_of_mem _ (List.mem_cons_of_mem _ hv)
  obtain ⟨k, u, p, hk, hu, rfl⟩ := Tr.tail_kid this
  have a := (Tr.manyAt_kid W hk hu).1
  have hp := List.mem_of_getElem? hk
  rw [h] at hp
  rw [m1]
  simp only [List.mem_cons, List.not_mem_nil, or_false] at hp
  rcases hp with rfl | rfl <;> omega
/-! ### how wide at most -/
theorem sum_fl_le {n : Nat} {f : Fin n → Int} {M : Int} (h : ∀ i, f i ≤ M) : (fl n f).sum ≤ n * M := by
  have : ∀ l : List (Fin n), (l.map f).sum ≤ l.length * M := fun l => by
    induction l with
    | nil => simp
    | cons a l ih =>
      rw [List.map_cons, List.sum_cons, List.length_cons]
      have := h a
      have e : ((l.length + 1 : Nat) : Int) * M = l.length * M + M := by rw [Int.natCast_add, Int.add_mul]; simp
      omega
  have := this (List.finRange n)
  rwa [List.length_finRange] at this
theorem maxI_fl_to {n : Nat} {f : Fin n → Int} {M : Int} (hM : 0 ≤ M) (h : ∀ i, f i ≤ M) : maxI (fl n f) ≤ M := by
  have : ∀ l : List Int, (∀ x ∈ l, x ≤ M) → maxI l ≤ M := fun l => by
    induction l with
    | nil => intro _; simpa [maxI] using hM
    | cons a l ih =>
      intro k
      cases l with
      | nil => simpa [maxI] using k a (by simp)
      | cons b l => simp only [maxI]; have := k a (by simp); have := ih fun x hx => k x (by simp [hx]); omega
  exact this _ fun x hx => by
    obtain ⟨i, _, rfl⟩ := List.mem_map.mp hx
    exact h i
theorem Tr.wide_le : ∀ s : Tr, s.Wf → ∀ k, s.ht ≤ k → s.bx.1 ≤ 5000 ^ k := Tr.ind fun s ih W k hk => by
  have hp := s.ht_pos
  obtain ⟨k, rfl⟩ : ∃ j, k = j + 1 := ⟨k - 1, by omega⟩
  have h5 : ∀ p ∈ s.kids, p.bx.1 ≤ 5000 ^ k := fun p q => ih p q (W.kid q) k (by have := Tr.kids_ht q; omega)
  have pos : (1 : Int) ≤ 5000 ^ k := by
    have := Int.pow_pos (n := 5000) (m := k) (by decide)
    omega
  rw [Int.pow_succ]
  generalize (5000 : Int) ^ k = M at *
  cases s <;> simp only [Tr.kids, List.mem_cons, List.not_mem_nil, or_false, forall_eq_or_imp, forall_eq] at h5
  · simp only [Tr.Wf] at W; simp only [Tr.bx]; omega
  · simp only [Tr.bx]; omega
  · simp only [Tr.bx]; omega
  · simp only [Tr.bx]; omega
  · simp only [Tr.bx]; omega
  · simp only [Tr.bx]; omega
  · simp only [Tr.bx]; omega
  · rename_i a n g p
    have hq : ∀ i, (p i).bx.1 ≤ M := fun i => h5.2 _ (List.mem_map_of_mem (List.mem_finRange i))
    have s1 := sum_fl_le hq
    have n1 := W.1.2
    have : (n : Int) * M ≤ 1000 * M := Int.mul_le_mul_of_nonneg_right (by omega) (by omega)
    simp only [Tr.bx]
    omega
  · rename_i h w m
    have hq : ∀ i j, (m i j).bx.1 ≤ M := fun i j => h5 _ (List.mem_flatten.mpr ⟨_, List.mem_map_of_mem (List.mem_finRange i), List.mem_map_of_mem (f := fun j => m i j) (List.mem_finRange j)⟩)
    have s1 := sum_fl_le (f := fun j => colW (fun i j => (m i j).bx) j) (M := M) fun j => maxI_fl_to (by omega) fun i => hq i j
    have n1 := W.2.1.2
    have : (w : Int) * M ≤ 1000 * M := Int.mul_le_mul_of_nonneg_right (by omega) (by omega)
    simp only [Tr.bx, tabW]
    omega
theorem Tr.wide_ok {s : Tr} (W : s.Wf) (h : s.ht ≤ 5) : (decide (-18446744073709551616 < s.bx.1) && decide (s.bx.1 < 18446744073709551616)) = true := by
  have a := (s.bx_nn W).1
  have b := s.wide_le W 5 h
  have c : (5000 : Int) ^ 5 = 3125000000000000000 := by decide
  rw [c] at b
  simp only [Bool.and_eq_true, decide_eq_true_eq]
  omega
end Ly
namespace Ly
open PySem hiding Fin
open PySem.Spec
/-- the best, as the program keeps it -/
def bstT : Bst → T
  | none => .non
  | some x => .tup [.int x.1, wayT x.2]
def bstW : Bst → T
  | none => .non
  | some x => wayT x.2
section
variable {tab : List FnI} (P : Pre tab) {n : Nat} {S : Store}
include P
theorem w_longest (s : Tr) (W : s.Wf) (hz : s.size ≤ 1000000) (hh : s.ht ≤ 5) (hn : 95 ≤ n) : callF tab n i_longest [s.toT] S = .ok (bstW (bestB s.manyAt s.ways.tail)) S := by
  obtain ⟨m, rfl⟩ : ∃ m, n = m + 95 := ⟨n - 95, by omega⟩
  rw [c_longest P]
  have hw := fun S => w_ways P s W hz (m + 94) (by omega) S
  rw [s.ways_cons] at hw
  simp! [u_longest, hw, L_longest_1]
  rw [forG_nx (b0 := T.non) (fun pre : List (List Int) => bstT (bestB s.manyAt pre)) rfl fun pre w post e => by
    have ht : w ∈ s.ways.tail := by rw [e]; simp
    have hm : w ∈ s.ways := List.mem_of_mem_tail ht
    obtain ⟨p, hp⟩ := Option.isSome_iff_exists.mp ((Tr.at_ways w s).mpr hm)
    obtain ⟨Wp, hpt⟩ := Tr.at_Wf W hp
    have c1 := fun S => w_part_at P (n := m + 91) (S := S) w s W
    rw [hp] at c1
    have c1 : ∀ S, callF tab (m + 94) i_part_at [s.toT, wayT w] S = .ok p.toT S := c1
    have b := fun S => w_box P p Wp (m + 94) (by omega) S
    have r := fun S => w_rows_of P (n := m + 93) (S := S) (b := p.bx)
    have mu := mul_il (j := p.bx.high) (Tr.wide_ok Wp (by omega))
    have e1 : s.manyAt w = p.bx.1 * p.bx.high := by unfold Tr.manyAt; rw [hp]; rfl
    have e2 : bestB s.manyAt (pre ++ [w]) = stepB s.manyAt (bestB s.manyAt pre) w := by unfold bestB; rw [List.foldl_append]; rfl
    simp only [boxT] at b r
    rw [e2]
    cases bestB s.manyAt pre with
    | none => simp! [u_longest_1, c1, b, r, mu, bstT, stepB, e1]
    | some x =>
      simp only [stepB, e1]
      by_cases g : x.1 < p.bx.1 * p.bx.high
      · simp! [u_longest_1, c1, b, r, mu, bstT, g]
      · simp! [u_longest_1, c1, b, r, mu, bstT, g]]
  cases bestB s.manyAt s.ways.tail with
  | none => simp! [bstT, bstW]
  | some x => simp! [bstT, bstW]
end
end Ly
namespace Ly
def Tr.isScript : Tr → Bool
  | .scU .. => true
  | .scD .. => true
  | .scB .. => true
  | _ => false
/-- a part without its helds: keep, where one must stand; ch, in a chain -/
def Tr.opn (keep ch : Bool) : Tr → Tr
  | .held a => if keep || (ch && a.isChain) then .held a else a.opn keep ch
  | .word x => .word x
  | .root a => .root a
  | .over a b => .over a b
  | .scU a u => .scU a u
  | .scD a d => .scD a d
  | .scB a u d => .scB a u d
  | .chain a n g p => .chain a n g p
  | .table h w m => .table h w m
/-- freed, all its parts too -/
def Tr.fpo : Tr → Bool → Bool → Tr
  | .held a, keep, ch => if keep || (ch && a.isChain) then .held (a.fpo false false) else a.fpo keep ch
  | .word x, _, _ => .word x
  | .root a, _, _ => .root (a.fpo false false)
  | .over a b, _, _ => .over (a.fpo false false) (b.fpo false false)
  | .scU a u, _, _ => .scU (a.fpo true false) (u.fpo false false)
  | .scD a d, _, _ => .scD (a.fpo true false) (d.fpo false false)
  | .scB a u d, _, _ => .scB (a.fpo true false) (u.fpo false false) (d.fpo false false)
  | .chain a n g p, _, _ => .chain (a.fpo false true) n g fun i => (p i).fpo false true
  | .table h w m, _, _ => .table h w fun i j => (m i j).fpo false false
theorem Tr.fpo_opn : ∀ (s : Tr) (k c : Bool), s.fpo k c = (s.opn k c).fpo true c := fun s => by
  induction s with
  | held a ih =>
    intro k c
    rw [Tr.fpo, Tr.opn]
    split
    · rw [Tr.fpo]; simp
    · exact ih k c
  | _ => intro k c; rfl
theorem Tr.fpo_ch : ∀ (s : Tr) (c : Bool), s.fpo true c = s.fpo true false := fun s c => by cases s <;> simp [Tr.fpo]
theorem Tr.opn_ht : ∀ (s : Tr) (k c : Bool), (s.opn k c).ht ≤ s.ht := fun s => by
  induction s with
  | held a ih =>
    intro k c
    rw [Tr.opn]
    split
    · exact Nat.le_refl _
    · have := ih k c; simp only [Tr.ht]; omega
  | _ => intro k c; exact Nat.le_refl _
theorem Tr.opn_Wf : ∀ (s : Tr) (k c : Bool), s.Wf → (s.opn k c).Wf := fun s => by
  induction s with
  | held a ih =>
    intro k c W
    rw [Tr.opn]
    split
    · exact W
    · exact ih k c W
  | _ => intro k c W; exact W
/-- by its parts -/
theorem Tr.fpo_kids (s : Tr) : s.fpo true false = s.withK fun i => (s.kids.getD i s).fpo (s.isScript && i == 0) s.isChain := by
  cases s with
  | chain a n g p =>
    simp only [Tr.fpo, Tr.withK, Tr.kids, Tr.isScript, Tr.isChain, Bool.false_and]
    congr 1
    funext i
    have : (a :: fl n p).getD (i.1 + 1) (Tr.chain a n g p) = p i := by simp
    rw [this]
  | table h w m =>
    simp only [Tr.fpo, Tr.withK, Tr.kids, Tr.isScript, Tr.isChain, Bool.false_and]
    congr 1
    funext i j
    have e := Tr.rebuild_self (.table h w m)
    simp only [Tr.rebuild, Tr.withK, Tr.kids, Tr.table.injEq, heq_eq_eq, true_and] at e
    rw [congrFun (congrFun e i) j]
  | _ => rfl
def Tr.isHeld : Tr → Bool
  | .held _ => true
  | _ => false
theorem Tr.fpo_kept {s : Tr} (h : s.isHeld = false) (k c : Bool) : s.fpo k c = s.fpo true false := by cases s <;> first | rfl | (simp [Tr.isHeld] at h)
theorem Tr.fpo_chain : ∀ {s : Tr} (k c : Bool), s.isChain = true → (s.fpo k c).isChain = true := fun {s} k c h => by
  cases s <;> first | rfl | (simp [Tr.isChain] at h)
/-- once is as good as twice -/
theorem Tr.fpo_twice : ∀ (s : Tr) (k c : Bool), (s.fpo k c).fpo k c = s.fpo k c := fun s => by
  induction s with
  | held a ih =>
    intro k c
    rw [Tr.fpo]
    split
    · rename_i h
      rw [Tr.fpo, if_pos, ih]
      cases k with
      | true => rfl
      | false =>
        simp only [Bool.false_or, Bool.and_eq_true] at h ⊢
        exact ⟨h.1, Tr.fpo_chain _ _ h.2⟩
    · exact ih k c
  | word x => intro k c; rfl
  | root a ih => intro k c; simp only [Tr.fpo, ih]
  | over a b i1 i2 => intro k c; simp only [Tr.fpo, i1, i2]
  | scU a b i1 i2 => intro k c; simp only [Tr.fpo, i1, i2]
  | scD a b i1 i2 => intro k c; simp only [Tr.fpo, i1, i2]
  | scB a b d i1 i2 i3 => intro k c; simp only [Tr.fpo, i1, i2, i3]
  | chain a n g p i1 i2 => intro k c; simp only [Tr.fpo, i1, i2]
  | table h w m ih => intro k c; simp only [Tr.fpo, ih]
/-! ### no wider, no higher -/
def BMo (b b' : Bx) : Prop := b.1 ≤ b'.1 ∧ b.2.1 ≤ b'.2.1 ∧ b.2.2 ≤ b'.2.2
theorem maxI_mo {n : Nat} {f f' : Fin n → Int} (h : ∀ i, f i ≤ f' i) (nn : ∀ i, 0 ≤ f' i) : maxI (fl n f) ≤ maxI (fl n f') := maxI_fl_to (maxI_fl nn) fun i => Int.le_trans (h i) (le_maxI_fl (f := f') i)
theorem maxI_cmo {n : Nat} {a a' : Int} {f f' : Fin n → Int} (ha : a ≤ a') (h : ∀ i, f i ≤ f' i) : maxI (a :: fl n f) ≤ maxI (a' :: fl n f') := by
  have : ∀ l : List Int, ∀ M, l ≠ [] → (∀ x ∈ l, x ≤ M) → maxI l ≤ M := fun l => by
    induction l with
    | nil => intro M h; exact absurd rfl h
    | cons a l ih =>
      intro M _ k
      cases l with
      | nil => simpa [maxI] using k a (by simp)
      | cons b l => simp only [maxI]; have := k a (by simp); have := ih M (by simp) fun x hx => k x (by simp [hx]); omega
  refine this _ _ (by simp) fun x hx => ?_
  rcases List.mem_cons.mp hx with rfl | hx
  · exact Int.le_trans ha (le_maxI List.mem_cons_self)
  · obtain ⟨i, _, rfl⟩ := List.mem_map.mp hx
    exact Int.le_trans (h i) (le_maxI (List.mem_cons_of_mem _ (List.mem_map_of_mem (List.mem_finRange i))))
theorem sum_mo {n : Nat} {f f' : Fin n → Int} (h : ∀ i, f i ≤ f' i) : (fl n f).sum ≤ (fl n f').sum := by
  have : ∀ l : List (Fin n), (l.map f).sum ≤ (l.map f').sum := fun l => by
    induction l with
    | nil => simp
    | cons a l ih => rw [List.map_cons, List.map_cons, List.sum_cons, List.sum_cons]; have := h a; omega
  exact this _
theorem Tr.fpo_bx : ∀ (s : Tr), s.Wf → ∀ (k c : Bool), BMo (s.fpo k c).bx s.bx := fun s => by
  induction s with
  | held a ih =>
    intro W k c
    rw [Tr.fpo]
    split
    · have := ih W false false; simp only [Tr.bx, BMo] at *; omega
    · have := ih W k c; simp only [Tr.bx, BMo] at *; omega
  | word x => intro _ k c; exact ⟨Int.le_refl _, Int.le_refl _, Int.le_refl _⟩
  | root a ih => intro W k c; have := ih W false false; simp only [Tr.fpo, Tr.bx, BMo] at *; omega
  | over a b i1 i2 => intro W k c; have := i1 W.1 false false; have := i2 W.2 false false; simp only [Tr.fpo, Tr.bx, BMo, Bx.high] at *; omega
  | scU a b i1 i2 => intro W k c; have := i1 W.1 true false; have := i2 W.2 false false; simp only [Tr.fpo, Tr.bx, BMo, Bx.high] at *; omega
  | scD a b i1 i2 => intro W k c; have := i1 W.1 true false; have := i2 W.2 false false; simp only [Tr.fpo, Tr.bx, BMo, Bx.high] at *; omega
  | scB a b d i1 i2 i3 => intro W k c; have := i1 W.1 true false; have := i2 W.2.1 false false; have := i3 W.2.2 false false; simp only [Tr.fpo, Tr.bx, BMo, Bx.high] at *; omega
  | chain a n g p i1 i2 =>
    intro W k c
    have h0 := i1 W.2.1 false true
    have hi := fun i => i2 i (W.2.2 i) false true
    have w := sum_mo (f := fun i => ((p i).fpo false true).bx.1) (f' := fun i => (p i).bx.1) fun i => (hi i).1
    have u := maxI_cmo (f := fun i => ((p i).fpo false true).bx.2.1) (f' := fun i => (p i).bx.2.1) h0.2.1 fun i => (hi i).2.1
    have d := maxI_cmo (f := fun i => ((p i).fpo false true).bx.2.2) (f' := fun i => (p i).bx.2.2) h0.2.2 fun i => (hi i).2.2
    have := h0.1
    simp only [Tr.fpo, Tr.bx, BMo] at *
    omega
  | table h w m ih =>
    intro W k c
    have hi := fun i j => ih i j (W.2.2 i j) false false
    have nn := fun i j => (m i j).bx_nn (W.2.2 i j)
    have cw := sum_mo (f := fun j => colW (fun i j => ((m i j).fpo false false).bx) j) (f' := fun j => colW (fun i j => (m i j).bx) j) fun j => maxI_mo (fun i => (hi i j).1) fun i => by have := (nn i j).1; dsimp only; omega
    have rh := sum_mo (f := fun i => rowU (fun i j => ((m i j).fpo false false).bx) i + rowD (fun i j => ((m i j).fpo false false).bx) i + 1) (f' := fun i => rowU (fun i j => (m i j).bx) i + rowD (fun i j => (m i j).bx) i + 1) fun i => by
      have a := maxI_mo (f := fun j => ((m i j).fpo false false).bx.2.1) (f' := fun j => (m i j).bx.2.1) (fun j => (hi i j).2.1) fun j => (nn i j).2.1
      have b := maxI_mo (f := fun j => ((m i j).fpo false false).bx.2.2) (f' := fun j => (m i j).bx.2.2) (fun j => (hi i j).2.2) fun j => (nn i j).2.2
      simp only [rowU, rowD] at *
      omega
    simp only [Tr.fpo, Tr.bx, BMo, tabW, tabH] at *
    omega
end Ly
namespace Ly
theorem Tr.withK_withK (s : Tr) (f g : Nat → Tr) : (s.withK f).withK g = s.withK g := by cases s <;> rfl
theorem Tr.withK_nk (s : Tr) (f : Nat → Tr) : (s.withK f).nk = s.nk := by cases s <;> rfl
theorem Tr.withK_isScript (s : Tr) (f : Nat → Tr) : (s.withK f).isScript = s.isScript := by cases s <;> rfl
theorem Tr.withK_isChain (s : Tr) (f : Nat → Tr) : (s.withK f).isChain = s.isChain := by cases s <;> rfl
theorem Tr.withK_isHeld (s : Tr) (f : Nat → Tr) : (s.withK f).isHeld = s.isHeld := by cases s <;> rfl
theorem Tr.kd_script (s : Tr) : (s.kd == ([115, 99, 114, 105, 112, 116] : List Nat)) = s.isScript := by cases s <;> rfl
theorem Tr.withK_congr (s : Tr) {f g : Nat → Tr} (h : ∀ i, i < s.nk → f i = g i) : s.withK f = s.withK g := by
  cases s <;> simp only [Tr.nk] at h
  · rfl
  · simp only [Tr.withK, h 0 (by omega)]
  · simp only [Tr.withK, h 0 (by omega)]
  · simp only [Tr.withK, h 0 (by omega), h 1 (by omega)]
  · simp only [Tr.withK, h 0 (by omega), h 1 (by omega)]
  · simp only [Tr.withK, h 0 (by omega), h 1 (by omega)]
  · simp only [Tr.withK, h 0 (by omega), h 1 (by omega), h 2 (by omega)]
  · simp only [Tr.withK, h 0 (by omega)]
    congr 1
    funext i
    exact h _ (by have := i.2; omega)
  · rename_i hh w m
    simp only [Tr.withK]
    congr 1
    funext i j
    refine h _ ?_
    have : (i.1 + 1) * w ≤ hh * w := Nat.mul_le_mul_right _ i.2
    have := j.2
    rw [Nat.add_mul] at *
    omega
theorem baseAt_cons {s q : Tr} {k : Int} {w : List Int} (hw : w ≠ []) (h : s.kidI k = some q) : s.baseAt (k :: w) = q.baseAt w := by
  obtain ⟨a, w, rfl⟩ : ∃ a v, w = a :: v := by
    cases w with
    | nil => exact absurd rfl hw
    | cons a v => exact ⟨a, v, rfl⟩
  unfold Tr.baseAt
  rw [List.getLast?_cons_cons, List.dropLast_cons₂, Tr.at, h, Option.bind_some]
theorem baseAt_one {s : Tr} {m : Nat} : s.baseAt [(m : Int)] = (s.isScript && (m == 0)) := by
  unfold Tr.baseAt
  rw [List.getLast?_singleton]
  show (match some (m : Int) with | some 0 => (match s.at [] with | some p => p.kd == ([115, 99, 114, 105, 112, 116] : List Nat) | none => false) | _ => false) = _
  by_cases h : m = 0
  · subst h
    show (s.kd == ([115, 99, 114, 105, 112, 116] : List Nat)) = _
    rw [s.kd_script]; simp
  · have e : (m == 0) = false := by simpa using h
    rw [e, Bool.and_false]
    split
    · rename_i q
      have : (m : Int) = 0 := Option.some.inj q
      omega
    · rfl
theorem Tr.put_chain {s r new : Tr} {w : List Int} (hw : w ≠ []) (h : s.put w new = some r) : r.isChain = s.isChain := by
  cases w with
  | nil => exact absurd rfl hw
  | cons k w =>
    rw [Tr.put] at h
    cases hk : s.kidI k with
    | none => rw [hk] at h; cases h
    | some p =>
      rw [hk, Option.bind_some] at h
      cases hp : p.put w new with
      | none => rw [hp] at h; cases h
      | some p' =>
        rw [hp, Option.bind_some] at h
        split at h <;> cases h
        exact (s.rebuild_like _).1
theorem Tr.fpo_put {p new : Tr} (hN : ∀ c, new.fpo false c = (Tr.held p).fpo false c) (hC : new.isChain = false) : ∀ (w : List Int) (s r : Tr) (k c : Bool), s.Gd → s.at w = some p → s.put w new = some r → (w = [] → k = false ∧ (c = true → p.isChain = false)) → s.baseAt w = false → r.fpo k c = s.fpo k c
  | [], s, r, k, c, _, h, e, cd, _ => by
    cases h
    cases e
    obtain ⟨rfl, cc⟩ := cd rfl
    rw [hN, Tr.fpo, if_neg]
    cases c with
    | false => simp
    | true => simp [cc rfl]
  | j :: w, s, r, k, c, G, h, e, _, nb => by
    rw [Tr.at] at h
    rw [Tr.put] at e
    obtain ⟨q, hq, hx⟩ := Option.bind_eq_some_iff.mp h
    clear h
    rw [hq, Option.bind_some] at e
    obtain ⟨q', hq', e⟩ := Option.bind_eq_some_iff.mp e
    obtain ⟨m, rfl, hm⟩ := Tr.kidI_some hq
    split at e <;> cases e
    rw [Int.toNat_natCast]
    have Gq := G.kid hm
    have mb := G.here hm
    cases hh : s.isHeld with
    | true =>
      obtain ⟨a, rfl⟩ : ∃ a, s = .held a := by cases s <;> first | exact ⟨_, rfl⟩ | (simp [Tr.isHeld] at hh)
      have : m = 0 ∧ q = a := by
        cases m with
        | zero => simp [Tr.kids] at hm; exact ⟨rfl, hm.symm⟩
        | succ m => simp [Tr.kids] at hm
      obtain ⟨rfl, rfl⟩ := this
      show (Tr.held q').fpo k c = _
      cases hw : w with
      | nil =>
        subst hw
        cases hx
        cases hq'
        rw [Tr.fpo, hC, Bool.and_false, Bool.or_false]
        cases k with
        | false => rw [if_neg Bool.false_ne_true]; exact hN c
        | true =>
          have := hN false
          rw [Tr.fpo] at this
          simp only [Bool.or_self, Bool.false_and, Bool.false_eq_true, if_false] at this
          rw [if_pos rfl, Tr.fpo, Bool.true_or, if_pos rfl, this]
      | cons b v =>
        have wn : w ≠ [] := by rw [hw]; simp
        rw [baseAt_cons wn hq] at nb
        rw [Tr.fpo, Tr.fpo, Tr.put_chain wn hq']
        split
        · rw [Tr.fpo_put hN hC w q q' false false Gq hx hq' (fun q => absurd q wn) nb]
        · exact Tr.fpo_put hN hC w q q' k c Gq hx hq' (fun q => absurd q wn) nb
    | false =>
      have hml : m < s.kids.length := (List.getElem?_eq_some_iff.mp hm).1
      have hk : (s.kids.set m q').length = s.nk := by rw [List.length_set, s.kids_len]
      have hr : (s.rebuild (s.kids.set m q')).isHeld = false := by rw [Tr.rebuild, Tr.withK_isHeld, hh]
      rw [Tr.fpo_kept hr, Tr.fpo_kept hh, Tr.fpo_kids, Tr.fpo_kids s, Tr.rebuild_kids s hk]
      rw [show (s.rebuild (s.kids.set m q')).isScript = s.isScript from Tr.withK_isScript _ _, show (s.rebuild (s.kids.set m q')).isChain = s.isChain from Tr.withK_isChain _ _]
      rw [show ∀ f, (s.rebuild (s.kids.set m q')).withK f = s.withK f from fun f => Tr.withK_withK _ _ _]
      refine Tr.withK_congr s fun i hi => ?_
      simp only [List.getD_eq_getElem?_getD]
      by_cases him : i = m
      · subst him
        rw [List.getElem?_set_self hml, hm, Option.getD_some, Option.getD_some]
        cases hw : w with
        | nil =>
          subst hw
          rw [baseAt_one] at nb
          refine Tr.fpo_put hN hC [] q q' _ _ Gq hx hq' (fun _ => ⟨nb, fun hc => ?_⟩) (by rfl)
          cases hx
          cases s <;> simp only [Tr.isChain, Bool.false_eq_true] at hc
          simpa [Tr.mayBe] using mb
        | cons b v =>
          have wn : w ≠ [] := by rw [hw]; simp
          rw [baseAt_cons wn hq] at nb
          exact Tr.fpo_put hN hC w q q' _ _ Gq hx hq' (fun q => absurd q wn) nb
      · rw [List.getElem?_set_ne (Ne.symm him)]
        have : i < s.kids.length := by rw [s.kids_len]; exact hi
        rw [List.getElem?_eq_getElem this, Option.getD_some, Option.getD_some]
/-! ### which helds are left -/
theorem Tr.fpo_kid {s q : Tr} {k c : Bool} {i : Nat} (h : (s.fpo k c).kids[i]? = some q) : ∃ s' : Tr, q = s'.fpo ((s.fpo k c).isScript && i == 0) (s.fpo k c).isChain := by
  induction s generalizing k c with
  | held a ih =>
    rw [Tr.fpo] at h ⊢
    split
    · rename_i g
      rw [if_pos g] at h
      have : q = a.fpo false false := by
        cases i with
        | zero => simp [Tr.kids] at h; exact h.symm
        | succ i => simp [Tr.kids] at h
      exact ⟨a, this⟩
    · rename_i g
      rw [if_neg g] at h
      exact ih h
  | _ =>
    rw [Tr.fpo_kept rfl] at h ⊢
    rw [Tr.fpo_kids] at h ⊢
    rw [Tr.withK_kids, List.getElem?_map] at h
    obtain ⟨j, hj, rfl⟩ := Option.map_eq_some_iff.mp h
    obtain ⟨hj1, hj2⟩ := List.getElem?_eq_some_iff.mp hj
    rw [List.getElem_range] at hj2
    subst hj2
    rw [Tr.withK_isScript, Tr.withK_isChain]
    exact ⟨_, rfl⟩
theorem Tr.fpo_held {s a : Tr} {k c : Bool} (h : s.fpo k c = .held a) : k = true ∨ c = true ∧ a.isChain = true := by
  induction s generalizing k c with
  | held b ih =>
    rw [Tr.fpo] at h
    split at h
    · rename_i g
      cases h
      cases k with
      | true => exact .inl rfl
      | false =>
        simp only [Bool.false_or, Bool.and_eq_true] at g
        exact .inr ⟨g.1, Tr.fpo_chain _ _ g.2⟩
    · exact ih h
  | _ => cases h
theorem Tr.fpo_at {s : Tr} : ∀ (w : List Int) (k c : Bool) (s q : Tr), (s.fpo k c).at w = some q → ∃ (k' c' : Bool) (s' : Tr), q = s'.fpo k' c'
  | [], k, c, s, q, h => by cases h; exact ⟨k, c, s, rfl⟩
  | j :: w, k, c, s, q, h => by
    rw [Tr.at] at h
    obtain ⟨p, hp, h⟩ := Option.bind_eq_some_iff.mp h
    obtain ⟨m, rfl, hm⟩ := Tr.kidI_some hp
    obtain ⟨s', rfl⟩ := Tr.fpo_kid hm
    exact Tr.fpo_at (s := s) w _ _ s' q h
/-- a held that is left stands as a base, or around a chain in a chain -/
theorem Tr.fpo_needed {s a : Tr} {w : List Int} (h : (s.fpo false false).at w = some (.held a)) : (s.fpo false false).baseAt w = true ∨ ∃ v j p, w = v ++ [j] ∧ (s.fpo false false).at v = some p ∧ p.isChain = true ∧ a.isChain = true := by
  rcases List.eq_nil_or_concat w with rfl | ⟨v, j, rfl⟩
  · have : s.fpo false false = .held a := by rw [Tr.at] at h; exact Option.some.inj h
    rcases Tr.fpo_held this with h | h <;> simp at h
  · rw [List.concat_eq_append] at h ⊢
    obtain ⟨p, hp, hj⟩ := Tr.at_last h
    obtain ⟨k', c', s', rfl⟩ := Tr.fpo_at (s := s) v _ _ _ _ hp
    obtain ⟨m, rfl, hm⟩ := Tr.kidI_some hj
    obtain ⟨s2, e⟩ := Tr.fpo_kid hm
    rcases Tr.fpo_held e.symm with h1 | ⟨h1, h2⟩
    · left
      unfold Tr.baseAt
      rw [List.getLast?_concat, List.dropLast_concat, hp]
      simp only [Bool.and_eq_true, beq_iff_eq] at h1
      obtain ⟨h1, rfl⟩ := h1
      show ((s'.fpo k' c').kd == ([115, 99, 114, 105, 112, 116] : List Nat)) = true
      rw [Tr.kd_script, h1]
    · exact .inr ⟨v, _, _, rfl, hp, h1, h2⟩
/-! ### what it keeps -/
theorem Tr.fpo_ht : ∀ (s : Tr) (k c : Bool), (s.fpo k c).ht ≤ s.ht := fun s => by
  induction s with
  | held a ih =>
    intro k c
    rw [Tr.fpo]
    split
    · have := ih false false; simp only [Tr.ht]; omega
    · have := ih k c; simp only [Tr.ht]; omega
  | word x => intro k c; exact Nat.le_refl _
  | root a ih => intro k c; have := ih false false; simp only [Tr.fpo, Tr.ht]; omega
  | over a b i1 i2 => intro k c; have := i1 false false; have := i2 false false; simp only [Tr.fpo, Tr.ht]; omega
  | scU a b i1 i2 => intro k c; have := i1 true false; have := i2 false false; simp only [Tr.fpo, Tr.ht]; omega
  | scD a b i1 i2 => intro k c; have := i1 true false; have := i2 false false; simp only [Tr.fpo, Tr.ht]; omega
  | scB a b d i1 i2 i3 => intro k c; have := i1 true false; have := i2 false false; have := i3 false false; simp only [Tr.fpo, Tr.ht]; omega
  | chain a n g p i1 i2 =>
    intro k c
    have := i1 false true
    have : maxN (fl n fun i => ((p i).fpo false true).ht) ≤ maxN (fl n fun i => (p i).ht) := maxN_flo fun i => Nat.le_trans (i2 i false true) (maxN_fl (f := fun i => (p i).ht) i)
    simp only [Tr.fpo, Tr.ht]; omega
  | table h w m ih =>
    intro k c
    have : maxN (fl h fun i => maxN (fl w fun j => ((m i j).fpo false false).ht)) ≤ maxN (fl h fun i => maxN (fl w fun j => (m i j).ht)) := maxN_flo fun i => Nat.le_trans (maxN_flo fun j => Nat.le_trans (ih i j false false) (maxN_fl (f := fun j => (m i j).ht) j)) (maxN_fl (f := fun i => maxN (fl w fun j => (m i j).ht)) i)
    simp only [Tr.fpo, Tr.ht]; omega
theorem Tr.fpo_Wf : ∀ (s : Tr) (k c : Bool), s.Wf → (s.fpo k c).Wf := fun s => by
  induction s with
  | held a ih =>
    intro k c W
    rw [Tr.fpo]
    split
    · exact ih false false W
    · exact ih k c W
  | word x => intro k c W; exact W
  | root a ih => intro k c W; exact ih _ _ W
  | over a b i1 i2 => intro k c W; exact ⟨i1 _ _ W.1, i2 _ _ W.2⟩
  | scU a b i1 i2 => intro k c W; exact ⟨i1 _ _ W.1, i2 _ _ W.2⟩
  | scD a b i1 i2 => intro k c W; exact ⟨i1 _ _ W.1, i2 _ _ W.2⟩
  | scB a b d i1 i2 i3 => intro k c W; exact ⟨i1 _ _ W.1, i2 _ _ W.2.1, i3 _ _ W.2.2⟩
  | chain a n g p i1 i2 => intro k c W; exact ⟨W.1, i1 _ _ W.2.1, fun i => i2 i _ _ (W.2.2 i)⟩
  | table h w m ih => intro k c W; exact ⟨W.1, W.2.1, fun i j => ih i j _ _ (W.2.2 i j)⟩
end Ly
namespace Ly
section
variable {d : Lenv → Store → Out T} {f : Lenv → Store → OutS}
theorem whlN_more : ∀ {n m : Nat} {ρ : Lenv} {S : Store}, whlN d f n ρ S ≠ .stk → n ≤ m → whlN d f m ρ S = whlN d f n ρ S
  | 0, _, _, _, h, _ => absurd rfl h
  | n + 1, 0, _, _, _, k => absurd k (by omega)
  | n + 1, m + 1, ρ, S, h, k => by
    rw [whlN] at h ⊢
    rw [whlN]
    cases q : d ρ S with
    | stk => rfl
    | exc e S1 => rfl
    | ok t S1 =>
      rw [q] at h
      simp only [Out.st] at h ⊢
      cases q1 : t.tru with
      | none => rfl
      | some b =>
        cases b with
        | false => rfl
        | true =>
          rw [q1] at h
          simp only at h ⊢
          cases q2 : f ρ S1 with
          | nx ρ2 S2 => rw [q2] at h; exact whlN_more h (by omega)
          | ct ρ2 S2 => rw [q2] at h; exact whlN_more h (by omega)
          | _ => rfl
theorem whlL_of {n : Nat} {ρ : Lenv} {S : Store} (h : whlN d f n ρ S ≠ .stk) : whlL d f ρ S = whlN d f n ρ S := by
  have ex : ∃ n, whlN d f n ρ S ≠ .stk := ⟨n, h⟩
  rw [whlL, dif_pos ex]
  have hc := Classical.choose_spec ex
  rcases Nat.le_total n (Classical.choose ex) with k | k
  · exact whlN_more h k
  · exact (whlN_more hc k).symm
theorem whlL_stk {ρ : Lenv} {S : Store} (h : ∀ n, whlN d f n ρ S = .stk) : whlL d f ρ S = .stk := by
  rw [whlL, dif_neg]
  rintro ⟨n, k⟩
  exact k (h n)
/-- one turn -/
theorem whlL_eq {ρ : Lenv} {S : Store} : whlL d f ρ S = (d ρ S).st ρ fun t S => match t.tru with
    | none => .stk
    | some false => .nx ρ S
    | some true => match f ρ S with
      | .nx ρ S => whlL d f ρ S
      | .ct ρ S => whlL d f ρ S
      | .bk ρ S => .nx ρ S
      | o => o := by
  have key : ∀ n, whlN d f (n + 1) ρ S = (d ρ S).st ρ fun t S => match t.tru with
    | none => .stk
    | some false => .nx ρ S
    | some true => match f ρ S with
      | .nx ρ S => whlN d f n ρ S
      | .ct ρ S => whlN d f n ρ S
      | .bk ρ S => .nx ρ S
      | o => o := fun n => by
    rw [whlN]
    first | done | rfl
  have nxt : ∀ ρ2 S2, (∀ n, whlN d f (n + 1) ρ S = whlN d f n ρ2 S2) → whlL d f ρ S = whlL d f ρ2 S2 := fun ρ2 S2 k => by
    by_cases h : ∃ n, whlN d f n ρ2 S2 ≠ .stk
    · obtain ⟨n, hn⟩ := h
      rw [whlL_of hn, whlL_of (n := n + 1) (by rw [k]; exact hn), k]
    · have h : ∀ n, whlN d f n ρ2 S2 = .stk := fun n => Classical.byContradiction fun q => h ⟨n, q⟩
      rw [whlL_stk h, whlL_stk fun n => ?_]
      cases n with
      | zero => rfl
      | succ n => rw [k, h]
  have one : ∀ r, (∀ n, whlN d f (n + 1) ρ S = r) → whlL d f ρ S = r := fun r k => by
    by_cases h : r = .stk
    · subst h
      refine whlL_stk fun n => ?_
      cases n with
      | zero => rfl
      | succ n => rw [k]
    · rw [whlL_of (n := 1) (by rw [k]; exact h), k]
  cases q : d ρ S with
  | stk => exact one _ fun n => by rw [key, q]; rfl
  | exc e S1 => exact one _ fun n => by rw [key, q]; rfl
  | ok t S1 =>
    simp only [Out.st]
    cases q1 : t.tru with
    | none => exact one _ fun n => by rw [key, q]; simp only [Out.st, q1]
    | some b =>
      cases b with
      | false => exact one _ fun n => by rw [key, q]; simp only [Out.st, q1]
      | true =>
        simp only
        cases q2 : f ρ S1 with
        | nx ρ2 S2 => exact nxt _ _ fun n => by rw [key, q]; simp only [Out.st, q1, q2]
        | ct ρ2 S2 => exact nxt _ _ fun n => by rw [key, q]; simp only [Out.st, q1, q2]
        | _ => exact one _ fun n => by rw [key, q]; simp only [Out.st, q1, q2]
end
section
variable {c : Call} {d : Ex} {body : Sms} {lv : List (Nat × Bool)} {tmp : List Nat} {ρ : Lenv} {S : Store}
/-- a while loop from here on -/
noncomputable def whlS (c : Call) (d : Ex) (body : Sms) (lv : List (Nat × Bool)) (tmp : List Nat) (ρ : Lenv) (S : Store) : OutS :=
  whlL (fun ρ S => bor ρ d S (ev c d ρ S)) (fun ρ S => (exs c body ρ S).fix lv tmp) ρ S
noncomputable def whT (c : Call) (d : Ex) (body : Sms) (lv : List (Nat × Bool)) (tmp : List Nat) : OutS → OutS
  | .nx ρ S => whlS c d body lv tmp ρ S
  | .ct ρ S => whlS c d body lv tmp ρ S
  | .bk ρ S => .nx ρ S
  | o => o
noncomputable def wh1 (c : Call) (d : Ex) (body : Sms) (lv : List (Nat × Bool)) (tmp : List Nat) (ρ : Lenv) (S : Store) : Option Bool → OutS
  | none => .stk
  | some p => cond p (whT c d body lv tmp ((exs c body ρ S).fix lv tmp)) (.nx ρ S)
noncomputable def kWh (c : Call) (d : Ex) (body : Sms) (lv : List (Nat × Bool)) (tmp : List Nat) (ρ : Lenv) : KS T := ⟨fun t S => wh1 c d body lv tmp ρ S t.tru⟩
theorem ex_whl : ex c (.whl d body lv tmp) ρ S = whlS c d body lv tmp (wipeR ρ tmp) S := by rw [ex]; rfl
theorem kWh_r {t : T} : (kWh c d body lv tmp ρ).run t S = wh1 c d body lv tmp ρ S t.tru := prf rfl
theorem wh1_s {p : Bool} : wh1 c d body lv tmp ρ S (some p) = cond p (whT c d body lv tmp ((exs c body ρ S).fix lv tmp)) (.nx ρ S) := prf rfl
theorem whT_nx : whT c d body lv tmp (.nx ρ S) = whlS c d body lv tmp ρ S := prf rfl
theorem whT_ct : whT c d body lv tmp (.ct ρ S) = whlS c d body lv tmp ρ S := prf rfl
theorem whT_bk : whT c d body lv tmp (.bk ρ S) = .nx ρ S := prf rfl
theorem whT_rt {t : T} : whT c d body lv tmp (.rt t S) = .rt t S := prf rfl
theorem whT_ex {k : Nat} : whT c d body lv tmp (.ex k ρ S) = .ex k ρ S := prf rfl
theorem whT_cond {p : Bool} {x y : OutS} : whT c d body lv tmp (cond p x y) = cond p (whT c d body lv tmp x) (whT c d body lv tmp y) := by cases p <;> rfl
theorem whlS_eq : whlS c d body lv tmp ρ S = bst ρ (evo c d ρ S) (kWh c d body lv tmp ρ) := by
  rw [whlS, whlL_eq]
  show _ = (evo c d ρ S).st ρ fun t S => wh1 c d body lv tmp ρ S t.tru
  show (evo c d ρ S).st ρ _ = _
  congr 1
  funext t S
  cases t.tru with
  | none => rfl
  | some b => cases b with
    | false => rfl
    | true =>
      show _ = whT c d body lv tmp ((exs c body ρ S).fix lv tmp)
      cases (exs c body ρ S).fix lv tmp <;> rfl
end
end Ly
namespace Ly
open PySem hiding Fin
open PySem.Spec
theorem Tr.toT_kd (s : Tr) : ∃ l, s.toT = .tup (.str s.kd :: l) := by cases s <;> exact ⟨_, rfl⟩
section
variable {tab : List FnI} (P : Pre tab) {n : Nat} {S : Store}
include P
theorem w_kd {s : Tr} : callF tab (n + 1) i_kind [s.toT] S = .ok (.str s.kd) S := by
  obtain ⟨l, e⟩ := s.toT_kd
  rw [e]
  exact w_kind P
theorem w_opened (s : Tr) (k : Nat) (p : Tr) : callF tab (n + 2) i_opened [s.toT, .int (k : Nat), p.toT] S = .ok (p.opn (s.isScript && k == 0) s.isChain).toT S := by
  rw [c_opened P]
  have wk := fun (s : Tr) S => w_kd P (n := n) (S := S) (s := s)
  have k0 : ((k : Int) == 0) = (k == 0) := by
    by_cases h : k = 0
    · subst h; rfl
    · rw [beq_eq_false_iff_ne.mpr h, beq_eq_false_iff_ne.mpr (by omega)]
  rw [u_opened]
  generalize hss : (s.isScript && k == 0) = ss
  have key : ∀ p : Tr, (nxS (callF tab (n + 1)) (Sms.cons (Sm.ret (Ex.var 2)) Sms.nil) (whlS (callF tab (n + 1)) (Ex.and (Ex.cmp .eq (Ex.call i_kind (Exs.cons (Ex.var 2) Exs.nil)) (Ex.lit (T.str [104, 101, 108, 100]))) (Ex.one (Ex.not (Ex.and (Ex.cmp .eq (Ex.call i_kind (Exs.cons (Ex.var 0) Exs.nil)) (Ex.lit (T.str [115, 99, 114, 105, 112, 116]))) (Ex.one (Ex.cmp .eq (Ex.var 1) (Ex.lit (T.int 0)))))))) l_opened_1 [(2, false)] [] [.val s.toT, .val (.int (k : Nat)), .val p.toT] S)).fin = .ok (p.opn ss s.isChain).toT S := fun p => by
    induction p with
    | held a ih =>
      have hs : T.sub? (Tr.held a).toT (.int 1) = some a.toT := sub_t1
      rw [whlS_eq, Tr.opn]
      cases ss with
      | true => simp! [wk, kd_word, kd_held, kd_root, kd_over, kd_scU, kd_scD, kd_scB, kd_chn, kd_tab, Tr.kd_script, k0, hss, kWh_r, wh1_s]
      | false =>
        cases hc : (a.isChain && s.isChain) with
        | true =>
          have hc' : (s.isChain && a.isChain) = true := by rw [Bool.and_comm]; exact hc
          simp! [wk, kd_word, kd_held, kd_root, kd_over, kd_scU, kd_scD, kd_scB, kd_chn, kd_tab, Tr.kd_script, Tr.kd_chain, k0, hss, kWh_r, wh1_s, u_opened_1, whT_rt, hs, hc, hc']
        | false =>
          have hc' : (s.isChain && a.isChain) = false := by rw [Bool.and_comm]; exact hc
          simp! [wk, kd_word, kd_held, kd_root, kd_over, kd_scU, kd_scD, kd_scB, kd_chn, kd_tab, Tr.kd_script, Tr.kd_chain, k0, hss, kWh_r, wh1_s, u_opened_1, whT_nx, hs, hc, hc', ih]
    | _ =>
      rw [whlS_eq]
      simp! [wk, kd_word, kd_held, kd_root, kd_over, kd_scU, kd_scD, kd_scB, kd_chn, kd_tab, kWh_r, wh1_s, Tr.opn]
  rw [exs_cons', ex_whl]
  exact key p
theorem w_strip (p : Tr) : exs (callF tab (n + 1)) b_freed [.val p.toT] S = exs (callF tab (n + 1)) (Sms.cons (Sm.ret (Ex.call i_freed_parts (Exs.cons (Ex.var 0) Exs.nil))) Sms.nil) [.val (p.opn false false).toT] S := by
  have wk := fun (s : Tr) S => w_kd P (n := n) (S := S) (s := s)
  rw [u_freed, exs_cons', ex_whl]
  have : ∀ p : Tr, whlS (callF tab (n + 1)) (Ex.cmp .eq (Ex.call i_kind (Exs.cons (Ex.var 0) Exs.nil)) (Ex.lit (T.str [104, 101, 108, 100]))) l_freed_1 [(0, false)] [] [.val p.toT] S = .nx [.val (p.opn false false).toT] S := fun p => by
    induction p with
    | held a ih =>
      have hs : T.sub? (Tr.held a).toT (.int 1) = some a.toT := sub_t1
      rw [whlS_eq, Tr.opn]
      simp! [wk, kd_word, kd_held, kd_root, kd_over, kd_scU, kd_scD, kd_scB, kd_chn, kd_tab, kWh_r, wh1_s, u_freed_1, whT_nx, hs, ih]
    | _ =>
      rw [whlS_eq]
      simp! [wk, kd_word, kd_held, kd_root, kd_over, kd_scU, kd_scD, kd_scB, kd_chn, kd_tab, kWh_r, wh1_s, u_freed_1, whT_nx, Tr.opn]
  show nxS _ _ (whlS _ _ _ _ _ [.val p.toT] S) = _
  rw [this, nxS_nx]
theorem w_freed_parts : ∀ s : Tr, s.Wf → Ev tab i_freed_parts [s.toT] (s.fpo true false).toT (s.ht + 3) := fun s => by
  have : ∀ N, ∀ s : Tr, s.ht ≤ N → s.Wf → Ev tab i_freed_parts [s.toT] (s.fpo true false).toT (s.ht + 3) := fun N => by
    induction N with
    | zero => intro s h; have := s.ht_pos; omega
    | succ N ih =>
      intro s hN W n hn S
      obtain ⟨k, rfl⟩ : ∃ k, n = k + 4 := ⟨n - 4, by have := s.ht_pos; omega⟩
      rw [c_freed_parts P]
      have hpart := fun S => w_parts P (n := k + 1) (S := S) s W
      have hw := fun S => w_with_parts P (n := k + 1) (S := S) s W fun i => (s.kids.getD i s).fpo (s.isScript && i == 0) s.isChain
      have hop := fun (q : Tr × Nat) S => w_opened P (n := k + 1) (S := S) s q.2 q.1
      have hk : ∀ q ∈ s.kids.zipIdx, ∀ S, callF tab (k + 3) i_freed_parts [(q.1.opn (s.isScript && q.2 == 0) s.isChain).toT] S = .ok ((q.1.fpo (s.isScript && q.2 == 0) s.isChain)).toT S := fun q hq => by
        have hm : q.1 ∈ s.kids := List.mem_of_getElem? (List.mem_zipIdx_iff_getElem?.mp hq)
        have h1 := Tr.kids_ht hm
        have h2 := Tr.opn_ht q.1 (s.isScript && q.2 == 0) s.isChain
        have := ih (q.1.opn (s.isScript && q.2 == 0) s.isChain) (by omega) (Tr.opn_Wf _ _ _ (W.kid hm)) (k + 3) (by omega)
        rw [← Tr.fpo_ch _ s.isChain, ← Tr.fpo_opn] at this
        exact this
      have hz : (s.kids.zipIdx.attach.map fun q => (q.1.1.fpo (s.isScript && q.1.2 == 0) s.isChain).toT) = (List.range s.nk).map fun i => ((s.kids.getD i s).fpo (s.isScript && i == 0) s.isChain).toT := by
        have e : (s.kids.zipIdx.attach.map fun q => (q.1.1.fpo (s.isScript && q.1.2 == 0) s.isChain).toT) = s.kids.zipIdx.map fun q => (q.1.fpo (s.isScript && q.2 == 0) s.isChain).toT := by
          conv => rhs; rw [← List.attach_map_subtype_val s.kids.zipIdx, List.map_map]
          rfl
        rw [e]
        refine List.ext_getElem? fun i => ?_
        rw [List.getElem?_map, List.getElem?_map, List.getElem?_zipIdx]
        by_cases hi : i < s.nk
        · rw [List.getElem?_range hi]
          have : i < s.kids.length := by rw [s.kids_len]; exact hi
          simp [List.getElem?_eq_getElem this, List.getD_eq_getElem?_getD]
        · rw [List.getElem?_eq_none (by rw [s.kids_len]; omega), List.getElem?_eq_none (by rw [List.length_range]; omega)]
          rfl
      have hk2 : ∀ (q : {q // q ∈ s.kids.zipIdx}) S, callF tab (k + 3) i_freed_parts [(q.1.1.opn (s.isScript && q.1.2 == 0) s.isChain).toT] S = .ok ((q.1.1.fpo (s.isScript && q.1.2 == 0) s.isChain)).toT S := fun q => hk q.1 q.2
      have hop2 : ∀ (q : {q // q ∈ s.kids.zipIdx}) S, callF tab (k + 3) i_opened [s.toT, .int ((q.1.2 : Nat) : Int), q.1.1.toT] S = .ok (q.1.1.opn (s.isScript && q.1.2 == 0) s.isChain).toT S := fun q => hop q.1
      have hzi : (s.kids.map Tr.toT).zipIdx = s.kids.zipIdx.attach.map fun q => (q.1.1.toT, q.1.2) := by
        rw [List.zipIdx_map]
        conv => lhs; rw [← List.attach_map_subtype_val s.kids.zipIdx, List.map_map]
        rfl
      rw [Tr.fpo_kids]
      simp! [u_freed_parts, hpart, hzi, hop2, hk2, hz, hw]
  exact this s.ht s (Nat.le_refl _)
theorem w_freed (s : Tr) (W : s.Wf) (hn : s.ht + 4 ≤ n) : callF tab n i_freed [s.toT] S = .ok (s.fpo false false).toT S := by
  obtain ⟨k, rfl⟩ : ∃ k, n = k + 2 := ⟨n - 2, by omega⟩
  rw [c_freed P, w_strip P]
  have h := fun S => w_freed_parts P (s.opn false false) (Tr.opn_Wf _ _ _ W) (k + 1) (by have := Tr.opn_ht s false false; omega) S
  rw [← Tr.fpo_opn] at h
  simp! [h]
end
end Ly
namespace Ly
mutual
theorem T.eqv_self : ∀ t : T, t.dep < 1000 → T.eqv t t = true
  | .non, _ => rfl
  | .bl b, _ => by simp [T.eqv]
  | .int i, _ => by simp [T.eqv]
  | .str x, _ => by simp [T.eqv]
  | .tup l, h => by
    simp only [T.dep] at h
    simp only [T.eqv]
    exact T.eqvs_self l (by omega)
  | .lst l, h => by
    simp only [T.dep] at h
    simp only [T.eqv]
    exact T.eqvs_self l (by omega)
  | .obj _, h => by simp [T.dep] at h
  | .scr _, h => by simp [T.dep] at h
theorem T.eqvs_self : ∀ l : List T, T.deps l < 1000 → T.eqvs l l = true
  | [], _ => rfl
  | t :: l, h => by
    simp only [T.deps] at h
    have h1 : t.dep < 1000 := Nat.lt_of_le_of_lt (Nat.le_max_left _ _) h
    have h2 : T.deps l < 1000 := Nat.lt_of_le_of_lt (Nat.le_max_right _ _) h
    simp only [T.eqvs, T.eqv_self t h1, T.eqvs_self l h2, Bool.and_self]
end
theorem deps_of {l : List T} {M : Nat} (h : ∀ t ∈ l, t.dep ≤ M) : T.deps l ≤ M := by
  induction l with
  | nil => exact Nat.zero_le _
  | cons a l ih =>
    rw [T.deps]
    exact Nat.max_le.mpr ⟨h a List.mem_cons_self, ih fun t ht => h t (List.mem_cons_of_mem _ ht)⟩
theorem deps_fl {n M : Nat} {f : Fin n → T} (h : ∀ i, (f i).dep ≤ M) : T.deps (fl n f) ≤ M := deps_of fun t ht => by
  obtain ⟨i, _, rfl⟩ := List.mem_map.mp ht
  exact h i
theorem Tr.dep_le : ∀ s : Tr, T.dep s.toT ≤ 3 * s.ht := fun s => by
  have nm : ∀ a b : Nat, Nat.max a b = max a b := fun _ _ => rfl
  induction s with
  | word x => simp [Tr.toT, T.dep, T.deps, Tr.ht]
  | held a ih => simp only [Tr.toT, T.dep, T.deps, Tr.ht, nm]; omega
  | root a ih => simp only [Tr.toT, T.dep, T.deps, Tr.ht, nm]; omega
  | over a b i1 i2 => simp only [Tr.toT, T.dep, T.deps, Tr.ht, nm]; omega
  | scU a b i1 i2 => simp only [Tr.toT, T.dep, T.deps, Tr.ht, nm]; omega
  | scD a b i1 i2 => simp only [Tr.toT, T.dep, T.deps, Tr.ht, nm]; omega
  | scB a b d i1 i2 i3 => simp only [Tr.toT, T.dep, T.deps, Tr.ht, nm]; omega
  | chain a n g p i1 i2 =>
    have h : T.deps (fl n fun i => T.tup [.str [g i], (p i).toT]) ≤ 3 * maxN (fl n fun i => (p i).ht) + 1 := deps_fl fun i => by
      have := i2 i
      have := maxN_fl (f := fun i => (p i).ht) i
      simp only [T.dep, T.deps, nm] at *; omega
    simp only [Tr.toT, T.dep, T.deps, Tr.ht, nm] at *; omega
  | table h w m ih =>
    have hh : T.deps (fl h fun i => T.tup (fl w fun j => (m i j).toT)) ≤ 3 * maxN (fl h fun i => maxN (fl w fun j => (m i j).ht)) + 1 := deps_fl fun i => by
      have : T.deps (fl w fun j => (m i j).toT) ≤ 3 * maxN (fl w fun j => (m i j).ht) := deps_fl fun j => by
        have := ih i j
        have := maxN_fl (f := fun j => (m i j).ht) j
        omega
      have := maxN_fl (f := fun i => maxN (fl w fun j => (m i j).ht)) i
      simp only [T.dep] at *; omega
    simp only [Tr.toT, T.dep, T.deps, Tr.ht, nm] at *; omega
theorem Tr.dep_ok {s : Tr} (h : s.ht ≤ 20) : T.dep s.toT < 64 := by have := s.dep_le; omega
theorem Tr.eqv_self {s : Tr} (h : s.ht ≤ 20) : T.eqv s.toT s.toT = true := T.eqv_self _ (by have := Tr.dep_ok h; omega)
theorem compG_none {α : Type} {l : List α} {S : Store} : compG (fun _ S => .ok none S) l S = .ok [] S := by
  induction l with
  | nil => rfl
  | cons a l ih => simp only [compG, Out.bind, ih]
end Ly
namespace Ly
/-! ### pictures: rows of signs -/
abbrev Rows := List (List Nat)
def chrs (c : Nat) (k : Int) : List Nat := List.replicate k.toNat c
abbrev sp (k : Int) : List Nat := chrs 32 k
def blk (w k : Int) : Rows := List.replicate k.toNat (sp w)
def pad (w : Int) (l : List Nat) : List Nat := sp ((w - l.length) / 2) ++ l ++ sp (w - l.length - (w - l.length) / 2)
def rais (p : Rows) (b : Bx) (u d : Int) : Rows := blk b.1 (u - b.2.1) ++ p ++ blk b.1 (d - b.2.2)
def zip2 (p q : Rows) : Rows := List.zipWith (fun x y => x ++ y) p q
def besd : List Rows → Rows
  | [] => []
  | p :: ps => ps.foldl zip2 p
/-- the pictures side by side of a table's row -/
def rowPics {w : Nat} (q : Fin w → Rows) (b : Fin w → Bx) (W : Fin w → Int) (u d : Int) : List Rows := (fl w fun j => [(rais (q j) (b j) u d).map (pad (W j)), blk 2 (u + d + 1)]).flatten.dropLast
def Tr.pic : Tr → Rows
  | .word x => [x]
  | .held a => a.pic.map fun l => 40 :: (l ++ [41])
  | .root a => (32 :: chrs 95 ((Tr.root a).bx.1 - 1)) :: a.pic.map fun l => 124 :: l
  | .over a b => a.pic.map (pad (Tr.over a b).bx.1) ++ [chrs 45 (Tr.over a b).bx.1] ++ b.pic.map (pad (Tr.over a b).bx.1)
  | .scU a u => (u.pic.map fun l => sp a.bx.1 ++ l ++ sp ((Tr.scU a u).bx.1 - a.bx.1 - l.length)) ++ zip2 a.pic (a.pic.map fun _ => sp ((Tr.scU a u).bx.1 - a.bx.1))
  | .scD a d => zip2 a.pic (a.pic.map fun _ => sp ((Tr.scD a d).bx.1 - a.bx.1)) ++ (d.pic.map fun l => sp a.bx.1 ++ l ++ sp ((Tr.scD a d).bx.1 - a.bx.1 - l.length))
  | .scB a u d => (u.pic.map fun l => sp a.bx.1 ++ l ++ sp ((Tr.scB a u d).bx.1 - a.bx.1 - l.length)) ++ zip2 a.pic (a.pic.map fun _ => sp ((Tr.scB a u d).bx.1 - a.bx.1)) ++ (d.pic.map fun l => sp a.bx.1 ++ l ++ sp ((Tr.scB a u d).bx.1 - a.bx.1 - l.length))
  | .chain a n g p => besd (rais a.pic a.bx (Tr.chain a n g p).bx.2.1 (Tr.chain a n g p).bx.2.2 :: (fl n fun i => [blk 3 (Tr.chain a n g p).bx.2.1 ++ [[32, g i, 32]] ++ blk 3 (Tr.chain a n g p).bx.2.2, rais (p i).pic (p i).bx (Tr.chain a n g p).bx.2.1 (Tr.chain a n g p).bx.2.2]).flatten)
  | .table h w m => (fl h fun k => (if 0 < k.1 then blk ((fl w fun j => colW (fun i j => (m i j).bx) j).sum + 2 * ((w : Int) - 1)) 1 else []) ++ besd (rowPics (fun j => (m k j).pic) (fun j => (m k j).bx) (fun j => colW (fun i j => (m i j).bx) j) (rowU (fun i j => (m i j).bx) k) (rowD (fun i j => (m i j).bx) k))).flatten.map fun l => 91 :: (l ++ [93])
/-! ### how wide, how high -/
def Dim (p : Rows) (w h : Int) : Prop := (p.length : Int) = h ∧ ∀ l ∈ p, (l.length : Int) = w
theorem chrs_len {c : Nat} {k : Int} (h : 0 ≤ k) : ((chrs c k).length : Int) = k := by simp [chrs]; omega
theorem Dim.blk {w k : Int} (hw : 0 ≤ w) (hk : 0 ≤ k) : Dim (blk w k) w k := by
  refine ⟨by simp [Ly.blk]; omega, fun l hl => ?_⟩
  rw [List.eq_of_mem_replicate hl]
  exact chrs_len hw
theorem Dim.app {p q : Rows} {w h h' : Int} (a : Dim p w h) (b : Dim q w h') : Dim (p ++ q) w (h + h') := by
  refine ⟨by rw [List.length_append, ← a.1, ← b.1]; omega, fun l hl => ?_⟩
  rcases List.mem_append.mp hl with hl | hl
  · exact a.2 l hl
  · exact b.2 l hl
theorem Dim.map {p : Rows} {w w' h : Int} {f : List Nat → List Nat} (a : Dim p w h) (k : ∀ l, (l.length : Int) = w → ((f l).length : Int) = w') : Dim (p.map f) w' h := by
  refine ⟨by rw [List.length_map]; exact a.1, fun l hl => ?_⟩
  obtain ⟨x, hx, rfl⟩ := List.mem_map.mp hl
  exact k x (a.2 x hx)
theorem Dim.one {l : List Nat} {w : Int} (h : (l.length : Int) = w) : Dim [l] w 1 := ⟨rfl, fun x hx => by
  have : x = l := by simpa using hx
  rw [this]; exact h⟩
theorem Dim.nil {w : Int} : Dim [] w 0 := ⟨rfl, fun x hx => by simp at hx⟩
theorem Dim.zip2 {p q : Rows} {w w' h : Int} (a : Dim p w h) (b : Dim q w' h) : Dim (zip2 p q) (w + w') h := by
  have e : p.length = q.length := by have := a.1; have := b.1; omega
  refine ⟨by rw [Ly.zip2, List.length_zipWith, e, Nat.min_self]; exact b.1, fun l hl => ?_⟩
  obtain ⟨i, hi, rfl⟩ := List.mem_iff_getElem.mp hl
  simp only [Ly.zip2, List.length_zipWith] at hi
  simp only [Ly.zip2, List.getElem_zipWith, List.length_append]
  have h1 := a.2 _ (List.getElem_mem (show i < p.length by omega))
  have h2 := b.2 _ (List.getElem_mem (show i < q.length by omega))
  omega
theorem pad_len {w : Int} {l : List Nat} (h : (l.length : Int) ≤ w) : ((pad w l).length : Int) = w := by
  simp only [pad, List.length_append, Int.natCast_add]
  rw [chrs_len (by omega), chrs_len (by omega)]
  omega
theorem Dim.rais {p : Rows} {b : Bx} {u d : Int} (a : Dim p b.1 b.high) (hw : 0 ≤ b.1) (hu : b.2.1 ≤ u) (hd : b.2.2 ≤ d) : Dim (rais p b u d) b.1 (u + d + 1) := by
  have := ((Dim.blk hw (show 0 ≤ u - b.2.1 by omega)).app a).app (Dim.blk hw (show 0 ≤ d - b.2.2 by omega))
  rwa [show u - b.2.1 + b.high + (d - b.2.2) = u + d + 1 by simp only [Bx.high]; omega] at this
/-- side by side -/
inductive Dims : List Rows → List Int → Int → Prop
  | nil {h : Int} : Dims [] [] h
  | cons {p : Rows} {ps : List Rows} {w h : Int} {ws : List Int} : Dim p w h → Dims ps ws h → Dims (p :: ps) (w :: ws) h
theorem Dims.fold {ps : List Rows} {ws : List Int} {h : Int} (a : Dims ps ws h) : ∀ {p : Rows} {w : Int}, Dim p w h → Dim (ps.foldl Ly.zip2 p) (w + ws.sum) h := by
  induction a with
  | nil => intro p w d; simpa using d
  | cons d _ ih =>
    intro p w e
    rw [List.foldl_cons, List.sum_cons, ← Int.add_assoc]
    exact ih (e.zip2 d)
theorem Dims.besd {ps : List Rows} {ws : List Int} {h : Int} (a : Dims ps ws h) (ne : ps ≠ []) : Dim (besd ps) ws.sum h := by
  cases a with
  | nil => exact absurd rfl ne
  | cons d a => rw [List.sum_cons]; exact a.fold d
theorem Dims.append {ps qs : List Rows} {ws vs : List Int} {h : Int} (a : Dims ps ws h) (b : Dims qs vs h) : Dims (ps ++ qs) (ws ++ vs) h := by
  induction a with
  | nil => exact b
  | cons d _ ih => exact .cons d (ih b)
theorem Dims.pairs {α : Type} {l : List α} {f g : α → Rows} {v w : α → Int} {h : Int} (k : ∀ a ∈ l, Dim (f a) (v a) h ∧ Dim (g a) (w a) h) : Dims (l.map fun a => [f a, g a]).flatten (l.map fun a => [v a, w a]).flatten h := by
  induction l with
  | nil => exact .nil
  | cons a l ih =>
    have := k a List.mem_cons_self
    exact .cons this.1 (.cons this.2 (ih fun b hb => k b (List.mem_cons_of_mem _ hb)))
theorem Dims.drop {ps : List Rows} {ws : List Int} {h : Int} (a : Dims ps ws h) : Dims ps.dropLast ws.dropLast h := by
  induction a with
  | nil => exact .nil
  | cons d a ih =>
    cases a with
    | nil => exact .nil
    | cons e a => exact .cons d ih
theorem sum_pairs {α : Type} {l : List α} {v w : α → Int} : (l.map fun a => [v a, w a]).flatten.sum = (l.map v).sum + (l.map w).sum := by
  induction l with
  | nil => rfl
  | cons a l ih => simp only [List.map_cons, List.flatten_cons, List.sum_append, List.sum_cons, List.sum_nil, ih]; omega
theorem sum_pairs_drop {α : Type} {l : List α} {v : α → Int} {c : Int} (ne : l ≠ []) : (l.map fun a => [v a, c]).flatten.dropLast.sum = (l.map v).sum + c * ((l.length : Int) - 1) := by
  induction l with
  | nil => exact absurd rfl ne
  | cons a l ih =>
    cases l with
    | nil => simp
    | cons b l =>
      have := ih (by simp)
      have e : ∀ (x y : Int) (r : List Int), r ≠ [] → ([x, y] ++ r).dropLast = x :: y :: r.dropLast := fun x y r h => by
        cases r with
        | nil => exact absurd rfl h
        | cons z r => rfl
      rw [List.map_cons, List.flatten_cons, e _ _ _ (by simp), List.sum_cons, List.sum_cons, this]
      simp only [List.map_cons, List.sum_cons, List.length_cons]
      rw [show ((l.length + 1 + 1 : Nat) : Int) - 1 = ((l.length + 1 : Nat) : Int) - 1 + 1 by omega, Int.mul_add]
      omega
theorem Dim.flat {α : Type} {l : List α} {f : α → Rows} {w : Int} {h : α → Int} (k : ∀ a ∈ l, Dim (f a) w (h a)) : Dim (l.map f).flatten w (l.map h).sum := by
  induction l with
  | nil => exact Dim.nil
  | cons a l ih =>
    rw [List.map_cons, List.flatten_cons, List.map_cons, List.sum_cons]
    exact (k a List.mem_cons_self).app (ih fun b hb => k b (List.mem_cons_of_mem _ hb))
theorem Tr.pic_dim : ∀ s : Tr, s.Wf → Dim s.pic s.bx.1 s.bx.high := fun s => by
  induction s with
  | word x => intro W; exact Dim.one rfl
  | held a ih =>
    intro W
    have := (ih W).map (f := fun l => 40 :: (l ++ [41])) (w' := a.bx.1 + 2) fun l h => by simp only [List.length_cons, List.length_append, List.length_nil]; omega
    exact this
  | root a ih =>
    intro W
    have nn := a.bx_nn W
    have h1 := (ih W).map (f := fun l => 124 :: l) (w' := a.bx.1 + 1) fun l h => by simp only [List.length_cons]; omega
    have h0 : Dim [32 :: chrs 95 ((Tr.root a).bx.1 - 1)] (a.bx.1 + 1) 1 := Dim.one (by
      rw [List.length_cons]
      have := chrs_len (c := 95) (k := (Tr.root a).bx.1 - 1) (by simp only [Tr.bx]; omega)
      simp only [Tr.bx] at this ⊢
      omega)
    have := h0.app h1
    rw [show (1 + a.bx.high : Int) = (Tr.root a).bx.high by simp only [Tr.bx, Bx.high]; omega] at this
    exact this
  | over a b i1 i2 =>
    intro W
    have n1 := a.bx_nn W.1
    have n2 := b.bx_nn W.2
    have h1 := (i1 W.1).map (f := pad (Tr.over a b).bx.1) (w' := (Tr.over a b).bx.1) fun l h => pad_len (by rw [h]; simp only [Tr.bx]; omega)
    have h2 := (i2 W.2).map (f := pad (Tr.over a b).bx.1) (w' := (Tr.over a b).bx.1) fun l h => pad_len (by rw [h]; simp only [Tr.bx]; omega)
    have h0 : Dim [chrs 45 (Tr.over a b).bx.1] (Tr.over a b).bx.1 1 := Dim.one (chrs_len (by simp only [Tr.bx]; omega))
    have := (h1.app h0).app h2
    rwa [show a.bx.high + 1 + b.bx.high = (Tr.over a b).bx.high by simp only [Tr.bx, Bx.high]; omega] at this
  | scU a u i1 i2 =>
    intro W
    have n1 := a.bx_nn W.1
    have n2 := u.bx_nn W.2
    have h1 := (i2 W.2).map (f := fun l => sp a.bx.1 ++ l ++ sp ((Tr.scU a u).bx.1 - a.bx.1 - l.length)) (w' := (Tr.scU a u).bx.1) fun l h => by
      simp only [List.length_append, Int.natCast_add]
      rw [chrs_len (by omega), chrs_len (by rw [h]; simp only [Tr.bx]; omega)]
      simp only [Tr.bx]; omega
    have h0 := (i1 W.1).zip2 ((i1 W.1).map (f := fun _ => sp ((Tr.scU a u).bx.1 - a.bx.1)) (w' := (Tr.scU a u).bx.1 - a.bx.1) fun l h => chrs_len (by simp only [Tr.bx]; omega))
    rw [show a.bx.1 + ((Tr.scU a u).bx.1 - a.bx.1) = (Tr.scU a u).bx.1 by omega] at h0
    have := h1.app h0
    rwa [show u.bx.high + a.bx.high = (Tr.scU a u).bx.high by simp only [Tr.bx, Bx.high]; omega] at this
  | scD a u i1 i2 =>
    intro W
    have n1 := a.bx_nn W.1
    have n2 := u.bx_nn W.2
    have h1 := (i2 W.2).map (f := fun l => sp a.bx.1 ++ l ++ sp ((Tr.scD a u).bx.1 - a.bx.1 - l.length)) (w' := (Tr.scD a u).bx.1) fun l h => by
      simp only [List.length_append, Int.natCast_add]
      rw [chrs_len (by omega), chrs_len (by rw [h]; simp only [Tr.bx]; omega)]
      simp only [Tr.bx]; omega
    have h0 := (i1 W.1).zip2 ((i1 W.1).map (f := fun _ => sp ((Tr.scD a u).bx.1 - a.bx.1)) (w' := (Tr.scD a u).bx.1 - a.bx.1) fun l h => chrs_len (by simp only [Tr.bx]; omega))
    rw [show a.bx.1 + ((Tr.scD a u).bx.1 - a.bx.1) = (Tr.scD a u).bx.1 by omega] at h0
    have := h0.app h1
    rwa [show a.bx.high + u.bx.high = (Tr.scD a u).bx.high by simp only [Tr.bx, Bx.high]; omega] at this
  | scB a u d i1 i2 i3 =>
    intro W
    have n1 := a.bx_nn W.1
    have n2 := u.bx_nn W.2.1
    have n3 := d.bx_nn W.2.2
    have h1 := (i2 W.2.1).map (f := fun l => sp a.bx.1 ++ l ++ sp ((Tr.scB a u d).bx.1 - a.bx.1 - l.length)) (w' := (Tr.scB a u d).bx.1) fun l h => by
      simp only [List.length_append, Int.natCast_add]
      rw [chrs_len (by omega), chrs_len (by rw [h]; simp only [Tr.bx]; omega)]
      simp only [Tr.bx]; omega
    have h2 := (i3 W.2.2).map (f := fun l => sp a.bx.1 ++ l ++ sp ((Tr.scB a u d).bx.1 - a.bx.1 - l.length)) (w' := (Tr.scB a u d).bx.1) fun l h => by
      simp only [List.length_append, Int.natCast_add]
      rw [chrs_len (by omega), chrs_len (by rw [h]; simp only [Tr.bx]; omega)]
      simp only [Tr.bx]; omega
    have h0 := (i1 W.1).zip2 ((i1 W.1).map (f := fun _ => sp ((Tr.scB a u d).bx.1 - a.bx.1)) (w' := (Tr.scB a u d).bx.1 - a.bx.1) fun l h => chrs_len (by simp only [Tr.bx]; omega))
    rw [show a.bx.1 + ((Tr.scB a u d).bx.1 - a.bx.1) = (Tr.scB a u d).bx.1 by omega] at h0
    have := (h1.app h0).app h2
    rwa [show u.bx.high + a.bx.high + d.bx.high = (Tr.scB a u d).bx.high by simp only [Tr.bx, Bx.high]; omega] at this
  | chain a n g p i1 i2 =>
    intro W
    have n1 := a.bx_nn W.2.1
    have n2 := fun i => (p i).bx_nn (W.2.2 i)
    have eu : (Tr.chain a n g p).bx.2.1 = maxI (a.bx.2.1 :: fl n fun i => (p i).bx.2.1) := rfl
    have ed : (Tr.chain a n g p).bx.2.2 = maxI (a.bx.2.2 :: fl n fun i => (p i).bx.2.2) := rfl
    have hu : ∀ x ∈ a.bx.2.1 :: fl n fun i => (p i).bx.2.1, x ≤ (Tr.chain a n g p).bx.2.1 := fun x hx => by rw [eu]; exact le_maxI hx
    have hd : ∀ x ∈ a.bx.2.2 :: fl n fun i => (p i).bx.2.2, x ≤ (Tr.chain a n g p).bx.2.2 := fun x hx => by rw [ed]; exact le_maxI hx
    have nn := (Tr.chain a n g p).bx_nn W
    have ew : (Tr.chain a n g p).bx.1 = a.bx.1 + (fl n fun i => (p i).bx.1).sum + 3 * n := rfl
    have hi : (Tr.chain a n g p).bx.high = (Tr.chain a n g p).bx.2.1 + (Tr.chain a n g p).bx.2.2 + 1 := rfl
    rw [Tr.pic, hi, ew]
    generalize (Tr.chain a n g p).bx.2.1 = U at *
    generalize (Tr.chain a n g p).bx.2.2 = D at *
    have d0 := (i1 W.2.1).rais (u := U) (d := D) (by omega) (hu _ List.mem_cons_self) (hd _ List.mem_cons_self)
    have dp := Dims.pairs (l := List.finRange n) (f := fun i => blk 3 U ++ [[32, g i, 32]] ++ blk 3 D) (g := fun i => rais (p i).pic (p i).bx U D) (v := fun _ => 3) (w := fun i => (p i).bx.1) (h := U + D + 1) fun i _ => ⟨by
        have := ((Dim.blk (w := 3) (by omega) nn.2.1).app (Dim.one (l := [32, g i, 32]) (w := 3) rfl)).app (Dim.blk (w := 3) (by omega) nn.2.2)
        rwa [show U + 1 + D = U + D + 1 by omega] at this, (i2 i (W.2.2 i)).rais (by have := (n2 i).1; omega) (hu _ (List.mem_cons_of_mem _ (List.mem_map_of_mem (List.mem_finRange i)))) (hd _ (List.mem_cons_of_mem _ (List.mem_map_of_mem (List.mem_finRange i))))⟩
    have := (Dims.cons d0 dp).besd (by simp)
    rw [List.sum_cons, sum_pairs] at this
    have e3 : ((List.finRange n).map fun _ => (3 : Int)).sum = 3 * n := by
      have : ∀ l : List (Fin n), (l.map fun _ => (3 : Int)).sum = 3 * l.length := fun l => by
        induction l with
        | nil => rfl
        | cons a l ih => rw [List.map_cons, List.sum_cons, ih, List.length_cons]; omega
      have := this (List.finRange n)
      rwa [List.length_finRange] at this
    rw [e3, show a.bx.1 + (3 * (n : Int) + (fl n fun i => (p i).bx.1).sum) = a.bx.1 + (fl n fun i => (p i).bx.1).sum + 3 * n by omega] at this
    exact this
  | table h w m ih =>
    intro W
    have n2 := fun i j => (m i j).bx_nn (W.2.2 i j)
    have h1 := W.1.1
    have w1 := W.2.1.1
    have ru := fun i => maxI_fl (f := fun j => (m i j).bx.2.1) fun j => (n2 i j).2.1
    have rd := fun i => maxI_fl (f := fun j => (m i j).bx.2.2) fun j => (n2 i j).2.2
    have cn : ∀ j, 0 ≤ colW (fun i j => (m i j).bx) j := fun j => maxI_fl fun i => by have := (n2 i j).1; dsimp only; omega
    have cs : 0 ≤ (fl w fun j => colW (fun i j => (m i j).bx) j).sum := sum_fl cn
    have row : ∀ k : Fin h, Dim (besd (rowPics (fun j => (m k j).pic) (fun j => (m k j).bx) (fun j => colW (fun i j => (m i j).bx) j) (rowU (fun i j => (m i j).bx) k) (rowD (fun i j => (m i j).bx) k))) ((fl w fun j => colW (fun i j => (m i j).bx) j).sum + 2 * ((w : Int) - 1)) (rowU (fun i j => (m i j).bx) k + rowD (fun i j => (m i j).bx) k + 1) := fun k => by
      have ne : List.finRange w ≠ [] := by
        intro q
        have := List.length_finRange (n := w)
        rw [q] at this
        simp at this; omega
      have dp := Dims.pairs (l := List.finRange w) (f := fun j => (rais (m k j).pic (m k j).bx (rowU (fun i j => (m i j).bx) k) (rowD (fun i j => (m i j).bx) k)).map (pad (colW (fun i j => (m i j).bx) j))) (g := fun j => blk 2 (rowU (fun i j => (m i j).bx) k + rowD (fun i j => (m i j).bx) k + 1)) (v := fun j => colW (fun i j => (m i j).bx) j) (w := fun _ => 2) (h := rowU (fun i j => (m i j).bx) k + rowD (fun i j => (m i j).bx) k + 1) fun j _ => ⟨by
          refine Dim.map ((ih k j (W.2.2 k j)).rais (by have := (n2 k j).1; omega) (le_maxI_fl (f := fun j => (m k j).bx.2.1) j) (le_maxI_fl (f := fun j => (m k j).bx.2.2) j)) fun l hl => pad_len ?_
          rw [hl]
          exact le_maxI_fl (f := fun i => (m i j).bx.1) k, Dim.blk (by omega) (by have := ru k; have := rd k; simp only [rowU, rowD]; omega)⟩
      have := dp.drop.besd (by
        cases q : List.finRange w with
        | nil => exact absurd q ne
        | cons a l => cases l <;> simp)
      rw [sum_pairs_drop ne, List.length_finRange] at this
      exact this
    have all := Dim.flat (l := List.finRange h) (w := (fl w fun j => colW (fun i j => (m i j).bx) j).sum + 2 * ((w : Int) - 1)) (f := fun k : Fin h => (if 0 < k.1 then blk ((fl w fun j => colW (fun i j => (m i j).bx) j).sum + 2 * ((w : Int) - 1)) 1 else []) ++ besd (rowPics (fun j => (m k j).pic) (fun j => (m k j).bx) (fun j => colW (fun i j => (m i j).bx) j) (rowU (fun i j => (m i j).bx) k) (rowD (fun i j => (m i j).bx) k))) (h := fun k => (if 0 < k.1 then 1 else 0) + (rowU (fun i j => (m i j).bx) k + rowD (fun i j => (m i j).bx) k + 1)) fun k _ => by
      refine Dim.app ?_ (row k)
      split
      · exact Dim.blk (by omega) (by omega)
      · exact Dim.nil
    have fin := all.map (f := fun l => 91 :: (l ++ [93])) (w' := (Tr.table h w m).bx.1) fun l hl => by
      simp only [List.length_cons, List.length_append, List.length_nil, Tr.bx, tabW]
      omega
    have hs : ((List.finRange h).map fun k : Fin h => (if 0 < k.1 then (1 : Int) else 0) + (rowU (fun i j => (m i j).bx) k + rowD (fun i j => (m i j).bx) k + 1)).sum = (Tr.table h w m).bx.high := by
      have e1 : ∀ (l : List (Fin h)) (f g : Fin h → Int), (l.map fun k => f k + g k).sum = (l.map f).sum + (l.map g).sum := fun l f g => by
        induction l with
        | nil => rfl
        | cons a l ih => simp only [List.map_cons, List.sum_cons, ih]; omega
      have e2 : ((List.finRange h).map fun k : Fin h => (if 0 < k.1 then (1 : Int) else 0)).sum = (h : Int) - 1 := by
        obtain ⟨h, rfl⟩ : ∃ k, h = k + 1 := ⟨h - 1, by omega⟩
        rw [List.finRange_succ, List.map_cons, List.sum_cons, List.map_map]
        have : ∀ l : List (Fin h), (l.map ((fun k : Fin (h + 1) => (if 0 < k.1 then (1 : Int) else 0)) ∘ Fin.succ)).sum = l.length := fun l => by
          induction l with
          | nil => rfl
          | cons a l ih => rw [List.map_cons, List.sum_cons, ih, List.length_cons]; simp; omega
        rw [this, List.length_finRange]
        simp
      rw [e1, e2]
      simp only [Tr.bx, Bx.high, tabH, fl]
      omega
    rw [hs] at fin
    exact fin
end Ly
namespace Ly
open PySem hiding Fin
open PySem.Spec
def rowsT (p : Rows) : List T := p.map T.str
theorem rowsT_len {p : Rows} : (rowsT p).length = p.length := by rw [rowsT, List.length_map]
theorem rowsT_app {p q : Rows} : rowsT p ++ rowsT q = rowsT (p ++ q) := by rw [rowsT, rowsT, rowsT, List.map_append]
theorem rowsT_one {l : List Nat} : [T.str l] = rowsT [l] := rfl
theorem reps_one {x : Nat} {k : Int} : reps [x] k = chrs x k := by
  unfold reps chrs
  induction k.toNat with
  | zero => rfl
  | succ n ih => rw [List.replicate_succ, List.flatten_cons, ih, List.replicate_succ]; rfl
theorem mul_s1 {x : Nat} {k : Int} (h0 : -1000000 ≤ k) (h : k ≤ 1000000) : T.mul (.str [x]) (.int k) = some (.str (chrs x k)) := by
  rw [mul_s, szL, if_pos (by simp only [List.length_cons, List.length_nil]; omega), reps_one]
theorem repsT_one {t : T} {k : Int} : reps [t] k = List.replicate k.toNat t := by
  unfold reps
  induction k.toNat with
  | zero => rfl
  | succ n ih => rw [List.replicate_succ, List.flatten_cons, ih, List.replicate_succ]; rfl
theorem mul_blk {w k : Int} (h0 : -1000 ≤ k) (h : k ≤ 1000) : T.mul (.tup [.str (sp w)]) (.int k) = some (.tup (rowsT (blk w k))) := by
  rw [T.mul, if_pos ⟨by simp, by simp, h, h0⟩, repsT_one, rowsT, blk, List.map_replicate]
theorem zip2_map : ∀ p q : Rows, zip2 p q = (p.zip q).map fun a => a.1 ++ a.2
  | [], _ => rfl
  | _ :: _, [] => rfl
  | x :: p, y :: q => by
    have := zip2_map p q
    simp only [zip2] at this ⊢
    rw [List.zipWith_cons_cons, List.zip_cons_cons, List.map_cons, this]
theorem Dims.mid {ps : List Rows} {ws : List Int} {h : Int} (a : Dims ps ws h) : ∀ {p : Rows} {w M : Int}, Dim p w h → w + ws.sum ≤ M → (∀ x ∈ ws, 0 ≤ x) → ∀ {pre : List Rows} {q : Rows} {post : List Rows}, ps = pre ++ q :: post → ∃ w' w2, Dim (pre.foldl zip2 p) w' h ∧ Dim q w2 h ∧ w' + w2 ≤ M := by
  induction a with
  | nil => intro p w M _ _ _ pre q post e; simp at e
  | cons d a ih =>
    rename_i v _ _
    intro p w M dp hM nn pre q post e
    rw [List.sum_cons] at hM
    have n0 := nn _ List.mem_cons_self
    cases pre with
    | nil =>
      rw [List.nil_append] at e
      cases e
      have := sum_nn fun x hx => nn x (List.mem_cons_of_mem _ hx)
      exact ⟨_, _, dp, d, by omega⟩
    | cons r pre =>
      rw [List.cons_append] at e
      injection e with e1 e2
      subst e1
      exact ih (dp.zip2 d) (by omega) (fun x hx => nn x (List.mem_cons_of_mem _ hx)) e2
section
variable {tab : List FnI} (P : Pre tab) {n : Nat} {S : Store}
include P
theorem w_blanks {w k : Int} (hw0 : 0 ≤ w) (hw : w ≤ 1000000) (hk0 : 0 ≤ k) (hk : k ≤ 1000) : callF tab (n + 1) i_blanks [.int w, .int k] S = .ok (.tup (rowsT (blk w k))) S := by
  rw [c_blanks P]
  have a := mul_s1 (x := 32) (k := w) (by omega) hw
  have b := mul_blk (w := w) (k := k) (by omega) hk
  simp! [u_blanks, a, b]
theorem w_padded {w : Int} {l : List Nat} (hw : w ≤ 1000000) (hl : (l.length : Int) ≤ w) : callF tab (n + 1) i_padded [.str l, .int w] S = .ok (.str (pad w l)) S := by
  rw [c_padded P]
  have a := mul_s1 (x := 32) (k := (w - l.length) / 2) (by omega) (by omega)
  have b := mul_s1 (x := 32) (k := w - l.length - (w - l.length) / 2) (by omega) (by omega)
  have c1 : ((sp ((w - l.length) / 2)).length : Int) = (w - l.length) / 2 := chrs_len (by omega)
  have c2 : ((sp (w - l.length - (w - l.length) / 2)).length : Int) = w - l.length - (w - l.length) / 2 := chrs_len (by omega)
  have s1 : T.add (.str (sp ((w - l.length) / 2))) (.str l) = some (.str (sp ((w - l.length) / 2) ++ l)) := by rw [add_s, szL, if_pos (by omega)]
  have s2 : T.add (.str (sp ((w - l.length) / 2) ++ l)) (.str (sp (w - l.length - (w - l.length) / 2))) = some (.str (pad w l)) := by rw [add_s, szL, if_pos (by rw [List.length_append]; omega)]; rfl
  have d : T.fdv (.int (w - l.length)) (.int 2) = some (.int ((w - l.length) / 2)) := by simp [T.fdv]
  simp! [u_padded, a, b, s1, s2, d]
theorem w_raised {s : Tr} (W : s.Wf) {u d : Int} (hu : s.bx.2.1 ≤ u) (hd : s.bx.2.2 ≤ d) (hu' : u ≤ 500) (hd' : d ≤ 500) (hw : s.bx.1 ≤ 1000000) (hp : ∀ S, callF tab (n + 1) i_picture [s.toT] S = .ok (.tup (rowsT s.pic)) S) (hb : ∀ S, callF tab (n + 1) i_box [s.toT] S = .ok (boxT s.bx) S) : callF tab (n + 2) i_raised [s.toT, .int u, .int d] S = .ok (.tup (rowsT (rais s.pic s.bx u d))) S := by
  have nn := s.bx_nn W
  have dm := (s.pic_dim W).1
  have b1 := fun S => w_blanks P (n := n) (S := S) (w := s.bx.1) (k := u - s.bx.2.1) (by omega) hw (by omega) (by omega)
  have b2 := fun S => w_blanks P (n := n) (S := S) (w := s.bx.1) (k := d - s.bx.2.2) (by omega) hw (by omega) (by omega)
  have l1 : ((blk s.bx.1 (u - s.bx.2.1)).length : Int) = u - s.bx.2.1 := (Dim.blk (by omega) (by omega)).1
  have l2 : ((blk s.bx.1 (d - s.bx.2.2)).length : Int) = d - s.bx.2.2 := (Dim.blk (by omega) (by omega)).1
  simp only [Bx.high] at dm
  have s1 : T.add (.tup (rowsT (blk s.bx.1 (u - s.bx.2.1)))) (.tup (rowsT s.pic)) = some (.tup (rowsT (blk s.bx.1 (u - s.bx.2.1) ++ s.pic))) := by
    rw [add_t, szL, if_pos (by rw [rowsT_len, rowsT_len]; omega), rowsT_app]
  have s2 : T.add (.tup (rowsT (blk s.bx.1 (u - s.bx.2.1) ++ s.pic))) (.tup (rowsT (blk s.bx.1 (d - s.bx.2.2)))) = some (.tup (rowsT (rais s.pic s.bx u d))) := by
    rw [add_t, szL, if_pos (by rw [rowsT_len, rowsT_len, List.length_append]; omega), rowsT_app]; rfl
  rw [c_raised P]
  simp only [boxT] at hb
  simp! [u_raised, hb, hp, b1, b2, s1, s2]
theorem w_beside {ps : List Rows} {ws : List Int} {p : Rows} {w h : Int} (hp : Dim p w h) (hps : Dims ps ws h) (hw : w + ws.sum ≤ 1000000) (nn : ∀ x ∈ ws, 0 ≤ x) : callF tab (n + 1) i_beside [.lst ((p :: ps).map fun q => .tup (rowsT q))] S = .ok (.tup (rowsT (besd (p :: ps)))) S := by
  rw [c_beside P]
  have s1 : T.slc (.lst ((p :: ps).map fun q => .tup (rowsT q))) (some 1) none = some (.lst (ps.map fun q => .tup (rowsT q))) := by
    rw [List.map_cons]
    simp [T.slc, cutL, clip, List.take_of_length_le]
  simp only [List.map_cons] at s1 ⊢
  simp! [u_beside, s1, L_beside_1]
  rw [forG_nx (b0 := T.lst (rowsT p)) (fun pre : List Rows => T.lst (rowsT (pre.foldl zip2 p))) rfl fun pre q post e => by
    obtain ⟨w', w2, d1, d2, hw2⟩ := Dims.mid hps hp hw nn e
    have hz : ((rowsT (pre.foldl zip2 p)).zip (rowsT q)) = ((pre.foldl zip2 p).zip q).attach.map fun a => (T.str a.1.1, T.str a.1.2) := by
      rw [rowsT, rowsT, List.zip_map, ← List.attach_map_subtype_val ((pre.foldl zip2 p).zip q), List.map_map, List.attach_map_subtype_val]
      rfl
    have ad : ∀ a : {a // a ∈ (pre.foldl zip2 p).zip q}, T.add (.str a.1.1) (.str a.1.2) = some (.str (a.1.1 ++ a.1.2)) := fun a => by
      have h1 : (a.1.1.length : Int) = w' := d1.2 _ (List.of_mem_zip (show (a.1.1, a.1.2) ∈ _ from a.2)).1
      have h2 : (a.1.2.length : Int) = w2 := d2.2 _ (List.of_mem_zip (show (a.1.1, a.1.2) ∈ _ from a.2)).2
      rw [add_s, szL, if_pos (by omega)]
    have fin : (((pre.foldl zip2 p).zip q).attach.map fun a => T.str (a.1.1 ++ a.1.2)) = rowsT (zip2 (pre.foldl zip2 p) q) := by
      rw [zip2_map, rowsT, List.map_map]
      conv => rhs; rw [← List.attach_map_subtype_val ((pre.foldl zip2 p).zip q), List.map_map]
      rfl
    simp! [u_beside_1, it_zip_lt, hz, ad, fin]
    rw [List.foldl_append]
    rfl]
  simp! []
  rfl
end
end Ly
namespace Ly
open PySem hiding Fin
open PySem.Spec
/-- small enough -/
def Tr.Ft (s : Tr) : Prop := s.bx.1 ≤ 1000000 ∧ s.bx.high ≤ 500
theorem Tr.Ft.kid {s p : Tr} (F : s.Ft) (W : s.Wf) (h : p ∈ s.kids) : p.Ft := by
  have := Tr.kid_room W h
  exact ⟨by have := F.1; omega, by have := F.2; omega⟩
theorem att (p : Rows) (f : List Nat → List Nat) : (p.attach.map fun l => T.str (f l.1)) = rowsT (p.map f) := by
  conv => rhs; rw [← List.attach_map_subtype_val p, List.map_map, rowsT, List.map_map]
  rfl
theorem att0 (p : Rows) : rowsT p = p.attach.map fun l => T.str l.1 := by
  have := att p id
  rw [List.map_id] at this
  exact this.symm
section
variable {tab : List FnI} (P : Pre tab) {n : Nat} {S : Store}
include P
theorem pic_held {a : Tr} (W : a.Wf) (F : (Tr.held a).Ft) (hb : ∀ S, callF tab (n + 1) i_box [(Tr.held a).toT] S = .ok (boxT (Tr.held a).bx) S) (hp : ∀ S, callF tab (n + 1) i_picture [a.toT] S = .ok (.tup (rowsT a.pic)) S) : callF tab (n + 2) i_picture [(Tr.held a).toT] S = .ok (.tup (rowsT (Tr.held a).pic)) S := by
  rw [c_picture P]
  have dm := a.pic_dim W
  have wd := F.1
  have bw : (Tr.held a).bx.1 = a.bx.1 + 2 := rfl
  rw [att0] at hp
  have s1 : ∀ l : {l // l ∈ a.pic}, T.add (.str [40]) (.str l.1) = some (.str (40 :: l.1)) := fun l => by
    have := dm.2 _ l.2
    rw [add_s, szL, if_pos (by simp only [List.length_cons, List.length_nil]; omega)]; rfl
  have s2 : ∀ l : {l // l ∈ a.pic}, T.add (.str (40 :: l.1)) (.str [41]) = some (.str (40 :: (l.1 ++ [41]))) := fun l => by
    have := dm.2 _ l.2
    rw [add_s, szL, if_pos (by simp only [List.length_cons, List.length_nil]; omega)]; rfl
  have fin := att a.pic fun l => 40 :: (l ++ [41])
  simp only [Tr.toT, boxT] at hb
  simp! [u_picture, Tr.toT, w_kind P, hb, hp, s1, s2, fin, Tr.pic]
theorem pic_word {x : List Nat} (hb : ∀ S, callF tab (n + 1) i_box [(Tr.word x).toT] S = .ok (boxT (Tr.word x).bx) S) : callF tab (n + 2) i_picture [(Tr.word x).toT] S = .ok (.tup (rowsT (Tr.word x).pic)) S := by
  rw [c_picture P]
  simp only [Tr.toT, boxT] at hb
  simp! [u_picture, Tr.toT, w_kind P, hb, Tr.pic, rowsT]
theorem pic_root {a : Tr} (W : a.Wf) (F : (Tr.root a).Ft) (hb : ∀ S, callF tab (n + 1) i_box [(Tr.root a).toT] S = .ok (boxT (Tr.root a).bx) S) (hp : ∀ S, callF tab (n + 1) i_picture [a.toT] S = .ok (.tup (rowsT a.pic)) S) : callF tab (n + 2) i_picture [(Tr.root a).toT] S = .ok (.tup (rowsT (Tr.root a).pic)) S := by
  rw [c_picture P]
  have dm := a.pic_dim W
  have nn := a.bx_nn W
  have wd := F.1
  have hd := F.2
  have bw : (Tr.root a).bx.1 = a.bx.1 + 1 := rfl
  have bh : (Tr.root a).bx.high = a.bx.high + 1 := by simp only [Tr.bx, Bx.high]; omega
  rw [att0] at hp
  have m1 := mul_s1 (x := 95) (k := (Tr.root a).bx.1 - 1) (by omega) (by omega)
  have l0 := chrs_len (c := 95) (k := (Tr.root a).bx.1 - 1) (by omega)
  have s0 : T.add (.str [32]) (.str (chrs 95 ((Tr.root a).bx.1 - 1))) = some (.str (32 :: chrs 95 ((Tr.root a).bx.1 - 1))) := by
    rw [add_s, szL, if_pos (by simp only [List.length_cons, List.length_nil]; omega)]; rfl
  have s1 : ∀ l : {l // l ∈ a.pic}, T.add (.str [124]) (.str l.1) = some (.str (124 :: l.1)) := fun l => by
    have := dm.2 _ l.2
    rw [add_s, szL, if_pos (by simp only [List.length_cons, List.length_nil]; omega)]; rfl
  have fin := att a.pic fun l => 124 :: l
  have s2 : T.add (.tup [.str (32 :: chrs 95 ((Tr.root a).bx.1 - 1))]) (.tup (rowsT (a.pic.map fun l => 124 :: l))) = some (.tup (rowsT (Tr.root a).pic)) := by
    have := dm.1
    rw [add_t, szL, if_pos (by simp only [List.length_cons, List.length_nil, rowsT_len, List.length_map]; omega)]; rfl
  simp only [boxT] at hb
  have hk := fun S => w_kd P (n := n) (S := S) (s := .root a)
  have h1 : T.sub? (Tr.root a).toT (.int 1) = some a.toT := sub_t1
  simp only [kd_root] at hk
  simp! [u_picture, hk, hb, h1, hp, m1, s0, s1, fin, s2]
theorem pic_over {a b : Tr} (W : (Tr.over a b).Wf) (F : (Tr.over a b).Ft) (hb : ∀ S, callF tab (n + 1) i_box [(Tr.over a b).toT] S = .ok (boxT (Tr.over a b).bx) S) (hp : ∀ S, callF tab (n + 1) i_picture [a.toT] S = .ok (.tup (rowsT a.pic)) S) (hq : ∀ S, callF tab (n + 1) i_picture [b.toT] S = .ok (.tup (rowsT b.pic)) S) : callF tab (n + 2) i_picture [(Tr.over a b).toT] S = .ok (.tup (rowsT (Tr.over a b).pic)) S := by
  rw [c_picture P]
  have da := a.pic_dim W.1
  have db := b.pic_dim W.2
  have na := a.bx_nn W.1
  have nb := b.bx_nn W.2
  have wd := F.1
  have hd := F.2
  have bw : (Tr.over a b).bx.1 = max a.bx.1 b.bx.1 + 2 := rfl
  have bh : (Tr.over a b).bx.high = a.bx.high + b.bx.high + 1 := rfl
  have ha : 1 ≤ a.bx.high := by simp only [Bx.high]; omega
  have hb1 : 1 ≤ b.bx.high := by simp only [Bx.high]; omega
  rw [att0] at hp hq
  have m1 := mul_s1 (x := 45) (k := (Tr.over a b).bx.1) (by omega) (by omega)
  have p1 : ∀ (l : {l // l ∈ a.pic}) S, callF tab (n + 1) i_padded [.str l.1, .int (Tr.over a b).bx.1] S = .ok (.str (pad (Tr.over a b).bx.1 l.1)) S := fun l S => w_padded P (by omega) (by have := da.2 _ l.2; omega)
  have p2 : ∀ (l : {l // l ∈ b.pic}) S, callF tab (n + 1) i_padded [.str l.1, .int (Tr.over a b).bx.1] S = .ok (.str (pad (Tr.over a b).bx.1 l.1)) S := fun l S => w_padded P (by omega) (by have := db.2 _ l.2; omega)
  have f1 := att a.pic (pad (Tr.over a b).bx.1)
  have f2 := att b.pic (pad (Tr.over a b).bx.1)
  have s1 : T.add (.tup (rowsT (a.pic.map (pad (Tr.over a b).bx.1)))) (.tup [.str (chrs 45 (Tr.over a b).bx.1)]) = some (.tup (rowsT (a.pic.map (pad (Tr.over a b).bx.1) ++ [chrs 45 (Tr.over a b).bx.1]))) := by
    have := da.1
    rw [add_t, szL, if_pos (by simp only [List.length_cons, List.length_nil, rowsT_len, List.length_map]; omega), rowsT_one, rowsT_app]
  have s2 : T.add (.tup (rowsT (a.pic.map (pad (Tr.over a b).bx.1) ++ [chrs 45 (Tr.over a b).bx.1]))) (.tup (rowsT (b.pic.map (pad (Tr.over a b).bx.1)))) = some (.tup (rowsT (Tr.over a b).pic)) := by
    have := da.1
    have := db.1
    rw [add_t, szL, if_pos (by simp only [List.length_cons, List.length_nil, rowsT_len, List.length_map, List.length_append]; omega), rowsT_app]; rfl
  have h1 : T.slc (Tr.over a b).toT (some 1) none = some (.tup [a.toT, b.toT]) := slc_t1
  simp only [boxT] at hb
  have hk := fun S => w_kd P (n := n) (S := S) (s := .over a b)
  simp only [kd_over] at hk
  simp! [u_picture, hk, hb, h1, hp, hq, m1, p1, p2, f1, f2, s1, s2]
theorem pic_scU {a u : Tr} (W : (Tr.scU a u).Wf) (F : (Tr.scU a u).Ft) (hb : ∀ S, callF tab (n + 1) i_box [(Tr.scU a u).toT] S = .ok (boxT (Tr.scU a u).bx) S) (hba : ∀ S, callF tab (n + 1) i_box [a.toT] S = .ok (boxT a.bx) S) (hpa : ∀ S, callF tab (n + 1) i_picture [a.toT] S = .ok (.tup (rowsT a.pic)) S) (hpu : ∀ S, callF tab (n + 1) i_picture [u.toT] S = .ok (.tup (rowsT u.pic)) S) : callF tab (n + 2) i_script_picture [(Tr.scU a u).toT] S = .ok (.tup (rowsT (Tr.scU a u).pic)) S := by
  rw [c_script_picture P]
  have wd := F.1
  have hd := F.2
  have da := a.pic_dim W.1
  have na := a.bx_nn W.1
  have ha : 1 ≤ a.bx.high := by simp only [Bx.high]; omega
  have du := u.pic_dim W.2
  have nu := u.bx_nn W.2
  have hu : 1 ≤ u.bx.high := by simp only [Bx.high]; omega
  have bw : (Tr.scU a u).bx.1 = a.bx.1 + u.bx.1 := rfl
  have bh : (Tr.scU a u).bx.high = u.bx.high + a.bx.high := by simp only [Tr.bx, Bx.high]; omega
  have m1 := mul_s1 (x := 32) (k := (Tr.scU a u).bx.1 - a.bx.1) (by omega) (by omega)
  have m2 := mul_s1 (x := 32) (k := a.bx.1) (by omega) (by omega)
  have l2 : ((sp a.bx.1).length : Int) = a.bx.1 := chrs_len (by omega)
  have dz : Dim (a.pic.map fun _ => sp ((Tr.scU a u).bx.1 - a.bx.1)) ((Tr.scU a u).bx.1 - a.bx.1) a.bx.high := da.map fun _ _ => chrs_len (by omega)
  have bs := fun S => w_beside P (n := n) (S := S) (ps := [a.pic.map fun _ => sp ((Tr.scU a u).bx.1 - a.bx.1)]) da (.cons dz .nil) (by simp only [List.sum_cons, List.sum_nil]; omega) (fun x hx => by
    have : x = (Tr.scU a u).bx.1 - a.bx.1 := by simpa using hx
    omega)
  have rr : besd [a.pic, a.pic.map fun _ => sp ((Tr.scU a u).bx.1 - a.bx.1)] = zip2 a.pic (a.pic.map fun _ => sp ((Tr.scU a u).bx.1 - a.bx.1)) := rfl
  have dr : Dim (zip2 a.pic (a.pic.map fun _ => sp ((Tr.scU a u).bx.1 - a.bx.1))) (Tr.scU a u).bx.1 a.bx.high := by
    have := da.zip2 dz
    rwa [show a.bx.1 + ((Tr.scU a u).bx.1 - a.bx.1) = (Tr.scU a u).bx.1 by omega] at this
  simp only [List.map_cons, List.map_nil, rr] at bs
  rw [att0 a.pic] at bs hpa
  have f0 := att a.pic fun _ => sp ((Tr.scU a u).bx.1 - a.bx.1)
  rw [att0] at hpu
  have mu : ∀ l : {l // l ∈ u.pic}, T.mul (.str [32]) (.int ((Tr.scU a u).bx.1 - a.bx.1 - (l.1.length : Nat))) = some (.str (sp ((Tr.scU a u).bx.1 - a.bx.1 - (l.1.length : Nat)))) := fun l => by
    have := du.2 _ l.2
    exact mul_s1 (by omega) (by omega)
  have s1u : ∀ l : {l // l ∈ u.pic}, T.add (.str (sp a.bx.1)) (.str l.1) = some (.str (sp a.bx.1 ++ l.1)) := fun l => by
    have := du.2 _ l.2
    rw [add_s, szL, if_pos (by omega)]
  have s2u : ∀ l : {l // l ∈ u.pic}, T.add (.str (sp a.bx.1 ++ l.1)) (.str (sp ((Tr.scU a u).bx.1 - a.bx.1 - (l.1.length : Nat)))) = some (.str (sp a.bx.1 ++ l.1 ++ sp ((Tr.scU a u).bx.1 - a.bx.1 - (l.1.length : Nat)))) := fun l => by
    have := du.2 _ l.2
    have l3 : ((sp ((Tr.scU a u).bx.1 - a.bx.1 - (l.1.length : Nat))).length : Int) = (Tr.scU a u).bx.1 - a.bx.1 - (l.1.length : Nat) := chrs_len (by omega)
    rw [add_s, szL, if_pos (by rw [List.length_append]; omega)]
  have fu := att u.pic fun l => sp a.bx.1 ++ l ++ sp ((Tr.scU a u).bx.1 - a.bx.1 - (l.length : Nat))
  have a1 : T.add (.tup (rowsT (u.pic.map fun l => sp a.bx.1 ++ l ++ sp ((Tr.scU a u).bx.1 - a.bx.1 - (l.length : Nat))))) (.tup (rowsT (zip2 a.pic (a.pic.map fun _ => sp ((Tr.scU a u).bx.1 - a.bx.1))))) = some (.tup (rowsT ((u.pic.map fun l => sp a.bx.1 ++ l ++ sp ((Tr.scU a u).bx.1 - a.bx.1 - (l.length : Nat))) ++ (zip2 a.pic (a.pic.map fun _ => sp ((Tr.scU a u).bx.1 - a.bx.1)))))) := by
    have := dr.1
    have := du.1
    rw [add_t, szL, if_pos (by simp only [rowsT_len, List.length_map, List.length_nil]; omega), rowsT_app]
  have a2 : T.add (.tup (rowsT ((u.pic.map fun l => sp a.bx.1 ++ l ++ sp ((Tr.scU a u).bx.1 - a.bx.1 - (l.length : Nat))) ++ (zip2 a.pic (a.pic.map fun _ => sp ((Tr.scU a u).bx.1 - a.bx.1)))))) (.tup []) = some (.tup (rowsT (Tr.scU a u).pic)) := by
    have := dr.1
    have := du.1
    rw [add_t, szL, if_pos (by simp only [rowsT_len, List.length_map, List.length_append, List.length_nil]; omega), List.append_nil]; rfl
  have h1 : T.slc (Tr.scU a u).toT (some 1) none = some (.tup [a.toT, u.toT, .non]) := slc_t1
  have i1 : T.isNon (Tr.toT a) = false := a.isNon
  simp only [boxT] at hb hba
  simp! [u_script_picture, h1, hb, hba, hpa, m1, m2, bs, f0, a1, a2, Tr.isNon, hpu, mu, s1u, s2u, fu]
theorem pic_scD {a d : Tr} (W : (Tr.scD a d).Wf) (F : (Tr.scD a d).Ft) (hb : ∀ S, callF tab (n + 1) i_box [(Tr.scD a d).toT] S = .ok (boxT (Tr.scD a d).bx) S) (hba : ∀ S, callF tab (n + 1) i_box [a.toT] S = .ok (boxT a.bx) S) (hpa : ∀ S, callF tab (n + 1) i_picture [a.toT] S = .ok (.tup (rowsT a.pic)) S) (hpd : ∀ S, callF tab (n + 1) i_picture [d.toT] S = .ok (.tup (rowsT d.pic)) S) : callF tab (n + 2) i_script_picture [(Tr.scD a d).toT] S = .ok (.tup (rowsT (Tr.scD a d).pic)) S := by
  rw [c_script_picture P]
  have wd := F.1
  have hd := F.2
  have da := a.pic_dim W.1
  have na := a.bx_nn W.1
  have ha : 1 ≤ a.bx.high := by simp only [Bx.high]; omega
  have dd := d.pic_dim W.2
  have nd := d.bx_nn W.2
  have hd : 1 ≤ d.bx.high := by simp only [Bx.high]; omega
  have bw : (Tr.scD a d).bx.1 = a.bx.1 + d.bx.1 := rfl
  have bh : (Tr.scD a d).bx.high = a.bx.high + d.bx.high := by simp only [Tr.bx, Bx.high]; omega
  have m1 := mul_s1 (x := 32) (k := (Tr.scD a d).bx.1 - a.bx.1) (by omega) (by omega)
  have m2 := mul_s1 (x := 32) (k := a.bx.1) (by omega) (by omega)
  have l2 : ((sp a.bx.1).length : Int) = a.bx.1 := chrs_len (by omega)
  have dz : Dim (a.pic.map fun _ => sp ((Tr.scD a d).bx.1 - a.bx.1)) ((Tr.scD a d).bx.1 - a.bx.1) a.bx.high := da.map fun _ _ => chrs_len (by omega)
  have bs := fun S => w_beside P (n := n) (S := S) (ps := [a.pic.map fun _ => sp ((Tr.scD a d).bx.1 - a.bx.1)]) da (.cons dz .nil) (by simp only [List.sum_cons, List.sum_nil]; omega) (fun x hx => by
    have : x = (Tr.scD a d).bx.1 - a.bx.1 := by simpa using hx
    omega)
  have rr : besd [a.pic, a.pic.map fun _ => sp ((Tr.scD a d).bx.1 - a.bx.1)] = zip2 a.pic (a.pic.map fun _ => sp ((Tr.scD a d).bx.1 - a.bx.1)) := rfl
  have dr : Dim (zip2 a.pic (a.pic.map fun _ => sp ((Tr.scD a d).bx.1 - a.bx.1))) (Tr.scD a d).bx.1 a.bx.high := by
    have := da.zip2 dz
    rwa [show a.bx.1 + ((Tr.scD a d).bx.1 - a.bx.1) = (Tr.scD a d).bx.1 by omega] at this
  simp only [List.map_cons, List.map_nil, rr] at bs
  rw [att0 a.pic] at bs hpa
  have f0 := att a.pic fun _ => sp ((Tr.scD a d).bx.1 - a.bx.1)
  rw [att0] at hpd
  have md : ∀ l : {l // l ∈ d.pic}, T.mul (.str [32]) (.int ((Tr.scD a d).bx.1 - a.bx.1 - (l.1.length : Nat))) = some (.str (sp ((Tr.scD a d).bx.1 - a.bx.1 - (l.1.length : Nat)))) := fun l => by
    have := dd.2 _ l.2
    exact mul_s1 (by omega) (by omega)
  have s1d : ∀ l : {l // l ∈ d.pic}, T.add (.str (sp a.bx.1)) (.str l.1) = some (.str (sp a.bx.1 ++ l.1)) := fun l => by
    have := dd.2 _ l.2
    rw [add_s, szL, if_pos (by omega)]
  have s2d : ∀ l : {l // l ∈ d.pic}, T.add (.str (sp a.bx.1 ++ l.1)) (.str (sp ((Tr.scD a d).bx.1 - a.bx.1 - (l.1.length : Nat)))) = some (.str (sp a.bx.1 ++ l.1 ++ sp ((Tr.scD a d).bx.1 - a.bx.1 - (l.1.length : Nat)))) := fun l => by
    have := dd.2 _ l.2
    have l3 : ((sp ((Tr.scD a d).bx.1 - a.bx.1 - (l.1.length : Nat))).length : Int) = (Tr.scD a d).bx.1 - a.bx.1 - (l.1.length : Nat) := chrs_len (by omega)
    rw [add_s, szL, if_pos (by rw [List.length_append]; omega)]
  have fd := att d.pic fun l => sp a.bx.1 ++ l ++ sp ((Tr.scD a d).bx.1 - a.bx.1 - (l.length : Nat))
  have a1 : T.add (.tup []) (.tup (rowsT (zip2 a.pic (a.pic.map fun _ => sp ((Tr.scD a d).bx.1 - a.bx.1))))) = some (.tup (rowsT (zip2 a.pic (a.pic.map fun _ => sp ((Tr.scD a d).bx.1 - a.bx.1))))) := by
    have := dr.1
    have := dd.1
    rw [add_t, szL, if_pos (by simp only [rowsT_len, List.length_map, List.length_nil]; omega), List.nil_append]
  have a2 : T.add (.tup (rowsT (zip2 a.pic (a.pic.map fun _ => sp ((Tr.scD a d).bx.1 - a.bx.1))))) (.tup (rowsT (d.pic.map fun l => sp a.bx.1 ++ l ++ sp ((Tr.scD a d).bx.1 - a.bx.1 - (l.length : Nat))))) = some (.tup (rowsT (Tr.scD a d).pic)) := by
    have := dr.1
    have := dd.1
    rw [add_t, szL, if_pos (by simp only [rowsT_len, List.length_map, List.length_append, List.length_nil]; omega), rowsT_app]; rfl
  have h1 : T.slc (Tr.scD a d).toT (some 1) none = some (.tup [a.toT, .non, d.toT]) := slc_t1
  have i1 : T.isNon (Tr.toT a) = false := a.isNon
  simp only [boxT] at hb hba
  simp! [u_script_picture, h1, hb, hba, hpa, m1, m2, bs, f0, a1, a2, Tr.isNon, hpd, md, s1d, s2d, fd]
theorem pic_scB {a u d : Tr} (W : (Tr.scB a u d).Wf) (F : (Tr.scB a u d).Ft) (hb : ∀ S, callF tab (n + 1) i_box [(Tr.scB a u d).toT] S = .ok (boxT (Tr.scB a u d).bx) S) (hba : ∀ S, callF tab (n + 1) i_box [a.toT] S = .ok (boxT a.bx) S) (hpa : ∀ S, callF tab (n + 1) i_picture [a.toT] S = .ok (.tup (rowsT a.pic)) S) (hpu : ∀ S, callF tab (n + 1) i_picture [u.toT] S = .ok (.tup (rowsT u.pic)) S) (hpd : ∀ S, callF tab (n + 1) i_picture [d.toT] S = .ok (.tup (rowsT d.pic)) S) : callF tab (n + 2) i_script_picture [(Tr.scB a u d).toT] S = .ok (.tup (rowsT (Tr.scB a u d).pic)) S := by
  rw [c_script_picture P]
  have wd := F.1
  have hd := F.2
  have da := a.pic_dim W.1
  have na := a.bx_nn W.1
  have ha : 1 ≤ a.bx.high := by simp only [Bx.high]; omega
  have du := u.pic_dim W.2.1
  have nu := u.bx_nn W.2.1
  have hu : 1 ≤ u.bx.high := by simp only [Bx.high]; omega
  have dd := d.pic_dim W.2.2
  have nd := d.bx_nn W.2.2
  have hd : 1 ≤ d.bx.high := by simp only [Bx.high]; omega
  have bw : (Tr.scB a u d).bx.1 = a.bx.1 + max u.bx.1 d.bx.1 := rfl
  have bh : (Tr.scB a u d).bx.high = u.bx.high + a.bx.high + d.bx.high := by simp only [Tr.bx, Bx.high]; omega
  have m1 := mul_s1 (x := 32) (k := (Tr.scB a u d).bx.1 - a.bx.1) (by omega) (by omega)
  have m2 := mul_s1 (x := 32) (k := a.bx.1) (by omega) (by omega)
  have l2 : ((sp a.bx.1).length : Int) = a.bx.1 := chrs_len (by omega)
  have dz : Dim (a.pic.map fun _ => sp ((Tr.scB a u d).bx.1 - a.bx.1)) ((Tr.scB a u d).bx.1 - a.bx.1) a.bx.high := da.map fun _ _ => chrs_len (by omega)
  have bs := fun S => w_beside P (n := n) (S := S) (ps := [a.pic.map fun _ => sp ((Tr.scB a u d).bx.1 - a.bx.1)]) da (.cons dz .nil) (by simp only [List.sum_cons, List.sum_nil]; omega) (fun x hx => by
    have : x = (Tr.scB a u d).bx.1 - a.bx.1 := by simpa using hx
    omega)
  have rr : besd [a.pic, a.pic.map fun _ => sp ((Tr.scB a u d).bx.1 - a.bx.1)] = zip2 a.pic (a.pic.map fun _ => sp ((Tr.scB a u d).bx.1 - a.bx.1)) := rfl
  have dr : Dim (zip2 a.pic (a.pic.map fun _ => sp ((Tr.scB a u d).bx.1 - a.bx.1))) (Tr.scB a u d).bx.1 a.bx.high := by
    have := da.zip2 dz
    rwa [show a.bx.1 + ((Tr.scB a u d).bx.1 - a.bx.1) = (Tr.scB a u d).bx.1 by omega] at this
  simp only [List.map_cons, List.map_nil, rr] at bs
  rw [att0 a.pic] at bs hpa
  have f0 := att a.pic fun _ => sp ((Tr.scB a u d).bx.1 - a.bx.1)
  rw [att0] at hpu
  have mu : ∀ l : {l // l ∈ u.pic}, T.mul (.str [32]) (.int ((Tr.scB a u d).bx.1 - a.bx.1 - (l.1.length : Nat))) = some (.str (sp ((Tr.scB a u d).bx.1 - a.bx.1 - (l.1.length : Nat)))) := fun l => by
    have := du.2 _ l.2
    exact mul_s1 (by omega) (by omega)
  have s1u : ∀ l : {l // l ∈ u.pic}, T.add (.str (sp a.bx.1)) (.str l.1) = some (.str (sp a.bx.1 ++ l.1)) := fun l => by
    have := du.2 _ l.2
    rw [add_s, szL, if_pos (by omega)]
  have s2u : ∀ l : {l // l ∈ u.pic}, T.add (.str (sp a.bx.1 ++ l.1)) (.str (sp ((Tr.scB a u d).bx.1 - a.bx.1 - (l.1.length : Nat)))) = some (.str (sp a.bx.1 ++ l.1 ++ sp ((Tr.scB a u d).bx.1 - a.bx.1 - (l.1.length : Nat)))) := fun l => by
    have := du.2 _ l.2
    have l3 : ((sp ((Tr.scB a u d).bx.1 - a.bx.1 - (l.1.length : Nat))).length : Int) = (Tr.scB a u d).bx.1 - a.bx.1 - (l.1.length : Nat) := chrs_len (by omega)
    rw [add_s, szL, if_pos (by rw [List.length_append]; omega)]
  have fu := att u.pic fun l => sp a.bx.1 ++ l ++ sp ((Tr.scB a u d).bx.1 - a.bx.1 - (l.length : Nat))
  rw [att0] at hpd
  have md : ∀ l : {l // l ∈ d.pic}, T.mul (.str [32]) (.int ((Tr.scB a u d).bx.1 - a.bx.1 - (l.1.length : Nat))) = some (.str (sp ((Tr.scB a u d).bx.1 - a.bx.1 - (l.1.length : Nat)))) := fun l => by
    have := dd.2 _ l.2
    exact mul_s1 (by omega) (by omega)
  have s1d : ∀ l : {l // l ∈ d.pic}, T.add (.str (sp a.bx.1)) (.str l.1) = some (.str (sp a.bx.1 ++ l.1)) := fun l => by
    have := dd.2 _ l.2
    rw [add_s, szL, if_pos (by omega)]
  have s2d : ∀ l : {l // l ∈ d.pic}, T.add (.str (sp a.bx.1 ++ l.1)) (.str (sp ((Tr.scB a u d).bx.1 - a.bx.1 - (l.1.length : Nat)))) = some (.str (sp a.bx.1 ++ l.1 ++ sp ((Tr.scB a u d).bx.1 - a.bx.1 - (l.1.length : Nat)))) := fun l => by
    have := dd.2 _ l.2
    have l3 : ((sp ((Tr.scB a u d).bx.1 - a.bx.1 - (l.1.length : Nat))).length : Int) = (Tr.scB a u d).bx.1 - a.bx.1 - (l.1.length : Nat) := chrs_len (by omega)
    rw [add_s, szL, if_pos (by rw [List.length_append]; omega)]
  have fd := att d.pic fun l => sp a.bx.1 ++ l ++ sp ((Tr.scB a u d).bx.1 - a.bx.1 - (l.length : Nat))
  have a1 : T.add (.tup (rowsT (u.pic.map fun l => sp a.bx.1 ++ l ++ sp ((Tr.scB a u d).bx.1 - a.bx.1 - (l.length : Nat))))) (.tup (rowsT (zip2 a.pic (a.pic.map fun _ => sp ((Tr.scB a u d).bx.1 - a.bx.1))))) = some (.tup (rowsT ((u.pic.map fun l => sp a.bx.1 ++ l ++ sp ((Tr.scB a u d).bx.1 - a.bx.1 - (l.length : Nat))) ++ (zip2 a.pic (a.pic.map fun _ => sp ((Tr.scB a u d).bx.1 - a.bx.1)))))) := by
    have := dr.1
    have := du.1
    have := dd.1
    rw [add_t, szL, if_pos (by simp only [rowsT_len, List.length_map, List.length_nil]; omega), rowsT_app]
  have a2 : T.add (.tup (rowsT ((u.pic.map fun l => sp a.bx.1 ++ l ++ sp ((Tr.scB a u d).bx.1 - a.bx.1 - (l.length : Nat))) ++ (zip2 a.pic (a.pic.map fun _ => sp ((Tr.scB a u d).bx.1 - a.bx.1)))))) (.tup (rowsT (d.pic.map fun l => sp a.bx.1 ++ l ++ sp ((Tr.scB a u d).bx.1 - a.bx.1 - (l.length : Nat))))) = some (.tup (rowsT (Tr.scB a u d).pic)) := by
    have := dr.1
    have := du.1
    have := dd.1
    rw [add_t, szL, if_pos (by simp only [rowsT_len, List.length_map, List.length_append, List.length_nil]; omega), rowsT_app]; rfl
  have h1 : T.slc (Tr.scB a u d).toT (some 1) none = some (.tup [a.toT, u.toT, d.toT]) := slc_t1
  have i1 : T.isNon (Tr.toT a) = false := a.isNon
  simp only [boxT] at hb hba
  simp! [u_script_picture, h1, hb, hba, hpa, m1, m2, bs, f0, a1, a2, Tr.isNon, hpu, mu, s1u, s2u, fu, hpd, md, s1d, s2d, fd]
end
end Ly
namespace Ly
open PySem hiding Fin
open PySem.Spec
section
variable {tab : List FnI} (P : Pre tab) {n : Nat} {S : Store}
include P
theorem pic_chain {a : Tr} {m : Nat} {g : _root_.Fin m → Nat} {p : _root_.Fin m → Tr} (W : (Tr.chain a m g p).Wf) (F : (Tr.chain a m g p).Ft) (hb : ∀ S, callF tab (n + 2) i_box [(Tr.chain a m g p).toT] S = .ok (boxT (Tr.chain a m g p).bx) S)
    (hba : ∀ S, callF tab (n + 1) i_box [a.toT] S = .ok (boxT a.bx) S) (hbp : ∀ i S, callF tab (n + 1) i_box [(p i).toT] S = .ok (boxT (p i).bx) S)
    (hp : ∀ S, callF tab (n + 1) i_picture [a.toT] S = .ok (.tup (rowsT a.pic)) S) (hq : ∀ i S, callF tab (n + 1) i_picture [(p i).toT] S = .ok (.tup (rowsT (p i).pic)) S) : callF tab (n + 3) i_chain_picture [(Tr.chain a m g p).toT] S = .ok (.tup (rowsT (Tr.chain a m g p).pic)) S := by
  rw [c_chain_picture P]
  have wd := F.1
  have hd := F.2
  have na := a.bx_nn W.2.1
  have np := fun i => (p i).bx_nn (W.2.2 i)
  have nn := (Tr.chain a m g p).bx_nn W
  have m1 := W.1.2
  have ew : (Tr.chain a m g p).bx.1 = a.bx.1 + (fl m fun i => (p i).bx.1).sum + 3 * m := rfl
  have eh : (Tr.chain a m g p).bx.high = (Tr.chain a m g p).bx.2.1 + (Tr.chain a m g p).bx.2.2 + 1 := rfl
  have hu : ∀ x ∈ a.bx.2.1 :: fl m fun i => (p i).bx.2.1, x ≤ (Tr.chain a m g p).bx.2.1 := fun x hx => le_maxI hx
  have hdn : ∀ x ∈ a.bx.2.2 :: fl m fun i => (p i).bx.2.2, x ≤ (Tr.chain a m g p).bx.2.2 := fun x hx => le_maxI hx
  have kw : ∀ q ∈ (Tr.chain a m g p).kids, q.bx.1 ≤ (Tr.chain a m g p).bx.1 := fun q hq => (Tr.kid_room W hq).1
  have s0 : (fl m fun i => (p i).bx.1).sum + 3 * m ≤ 1000000 := by omega
  have epic : (Tr.chain a m g p).pic = besd (rais a.pic a.bx (Tr.chain a m g p).bx.2.1 (Tr.chain a m g p).bx.2.2 :: (fl m fun i => [blk 3 (Tr.chain a m g p).bx.2.1 ++ [[32, g i, 32]] ++ blk 3 (Tr.chain a m g p).bx.2.2, rais (p i).pic (p i).bx (Tr.chain a m g p).bx.2.1 (Tr.chain a m g p).bx.2.2]).flatten) := rfl
  have h1 : T.sub? (Tr.chain a m g p).toT (.int 1) = some a.toT := sub_t1
  have h2 : T.sub? (Tr.chain a m g p).toT (.int 2) = some (.tup (fl m fun i => .tup [.str [g i], (p i).toT])) := sub_t2
  simp only [boxT] at hb
  rw [epic]
  generalize (Tr.chain a m g p).bx = B at *
  obtain ⟨w, U, D⟩ := B
  dsimp only at *
  have ra := fun S => w_raised P (n := n) (S := S) W.2.1 (hu _ List.mem_cons_self) (hdn _ List.mem_cons_self) (by omega) (by omega) (by have := kw a (by simp [Tr.kids]); omega) hp hba
  have rp := fun i S => w_raised P (n := n) (S := S) (W.2.2 i) (hu _ (List.mem_cons_of_mem _ (List.mem_map_of_mem (List.mem_finRange i)))) (hdn _ (List.mem_cons_of_mem _ (List.mem_map_of_mem (List.mem_finRange i)))) (by omega) (by omega) (by have := kw (p i) (by simp only [Tr.kids]; exact List.mem_cons_of_mem _ (List.mem_map_of_mem (List.mem_finRange i))); omega) (hq i) (hbp i)
  have b1 := fun S => w_blanks P (n := n + 1) (S := S) (w := 3) (k := U) (by omega) (by omega) (by omega) (by omega)
  have b2 := fun S => w_blanks P (n := n + 1) (S := S) (w := 3) (k := D) (by omega) (by omega) (by omega) (by omega)
  have l1 : ((blk 3 U).length : Int) = U := (Dim.blk (w := 3) (by omega) (by omega)).1
  have l2 : ((blk 3 D).length : Int) = D := (Dim.blk (w := 3) (by omega) (by omega)).1
  have t1 : ∀ i, T.add (.tup (rowsT (blk 3 U))) (.tup [.str [32, g i, 32]]) = some (.tup (rowsT (blk 3 U ++ [[32, g i, 32]]))) := fun i => by
    rw [add_t, szL, if_pos (by simp only [rowsT_len, List.length_cons, List.length_nil]; omega), rowsT_one, rowsT_app]
  have t2 : ∀ i, T.add (.tup (rowsT (blk 3 U ++ [[32, g i, 32]]))) (.tup (rowsT (blk 3 D))) = some (.tup (rowsT (blk 3 U ++ [[32, g i, 32]] ++ blk 3 D))) := fun i => by
    rw [add_t, szL, if_pos (by simp only [rowsT_len, List.length_append, List.length_cons, List.length_nil]; omega), rowsT_app]
  have da := (a.pic_dim W.2.1).rais (u := U) (d := D) (by omega) (hu _ List.mem_cons_self) (hdn _ List.mem_cons_self)
  have dp := Dims.pairs (l := List.finRange m) (f := fun i => blk 3 U ++ [[32, g i, 32]] ++ blk 3 D) (g := fun i => rais (p i).pic (p i).bx U D) (v := fun _ => 3) (w := fun i => (p i).bx.1) (h := U + D + 1) fun i _ => ⟨by
      have := ((Dim.blk (w := 3) (by omega) nn.2.1).app (Dim.one (l := [32, g i, 32]) (w := 3) rfl)).app (Dim.blk (w := 3) (by omega) nn.2.2)
      rwa [show U + 1 + D = U + D + 1 by omega] at this, ((p i).pic_dim (W.2.2 i)).rais (by have := (np i).1; omega) (hu _ (List.mem_cons_of_mem _ (List.mem_map_of_mem (List.mem_finRange i)))) (hdn _ (List.mem_cons_of_mem _ (List.mem_map_of_mem (List.mem_finRange i))))⟩
  have e3 : ((List.finRange m).map fun _ => (3 : Int)).sum = 3 * m := by
    have : ∀ l : List (_root_.Fin m), (l.map fun _ => (3 : Int)).sum = 3 * l.length := fun l => by
      induction l with
      | nil => rfl
      | cons a l ih => rw [List.map_cons, List.sum_cons, ih, List.length_cons]; omega
    have := this (List.finRange m)
    rwa [List.length_finRange] at this
  have bs := fun S => w_beside P (n := n + 1) (S := S) da dp (by rw [sum_pairs, e3]; simp only [fl] at s0 ew; omega) (fun x hx => by
    obtain ⟨l, hl, hx⟩ := List.mem_flatten.mp hx
    obtain ⟨i, _, rfl⟩ := List.mem_map.mp hl
    simp only [List.mem_cons, List.not_mem_nil, or_false] at hx
    have := (np i).1
    rcases hx with rfl | rfl <;> omega)
  simp only [List.map_cons] at bs
  simp! [u_chain_picture, hb, h1, h2, ra, L_chain_picture_1]
  rw [forG_nx (b0 := [T.tup (rowsT (rais a.pic a.bx U D))]) (fun pre : List (_root_.Fin m) => (rais a.pic a.bx U D :: (pre.map fun i => [blk 3 U ++ [[32, g i, 32]] ++ blk 3 D, rais (p i).pic (p i).bx U D]).flatten).map fun q => T.tup (rowsT q)) rfl fun pre i post e => by
    have sz : pre.length ≤ m := by
      have : (List.finRange m).length = m := List.length_finRange
      rw [e] at this
      simp at this; omega
    have fz : (pre.map fun i => [blk 3 U ++ [[32, g i, 32]] ++ blk 3 D, rais (p i).pic (p i).bx U D]).flatten.length = 2 * pre.length := by
      rw [flatten_len (w := 2) fun i => rfl]; omega
    have z1 : (pre.map fun i => [blk 3 U ++ [[32, g i, 32]] ++ blk 3 D, rais (p i).pic (p i).bx U D]).flatten.length + 1 < 16777216 := by omega
    have z2 : (pre.map fun i => [blk 3 U ++ [[32, g i, 32]] ++ blk 3 D, rais (p i).pic (p i).bx U D]).flatten.length + 1 + 1 < 16777216 := by omega
    simp! [u_chain_picture_1, b1, b2, t1, t2, rp, z1, z2, List.length_append]
    rw [List.map_append, List.flatten_append, List.map_append, List.append_assoc]
    rfl]
  simp! [bs]
end
end Ly
namespace Ly
open PySem hiding Fin
open PySem.Spec
theorem slc_drop {l : List T} (ne : l ≠ []) : T.slc (.lst l) none (some (-1)) = some (.lst l.dropLast) := by
  have : 0 < l.length := List.length_pos_iff.mpr ne
  simp only [T.slc, cutL, clip, List.drop_zero, Nat.sub_zero]
  rw [if_pos (by omega), List.dropLast_eq_take]
  have : (-1 + (l.length : Int)).toNat = l.length - 1 := by omega
  rw [this]
section
variable {tab : List FnI} (P : Pre tab) {n : Nat} {S : Store}
include P
theorem w_besideL {ps : List Rows} {ws : List Int} {h : Int} (ne : ps ≠ []) (hps : Dims ps ws h) (hw : ws.sum ≤ 1000000) (nn : ∀ x ∈ ws, 0 ≤ x) : callF tab (n + 1) i_beside [.lst (ps.map fun q => .tup (rowsT q))] S = .ok (.tup (rowsT (besd ps))) S := by
  cases hps with
  | nil => exact absurd rfl ne
  | cons d a =>
    rw [List.sum_cons] at hw
    exact w_beside P d a hw fun x hx => nn x (List.mem_cons_of_mem _ hx)
theorem table_walk {h w : Nat} {m : _root_.Fin h → _root_.Fin w → Tr} (w1 : 1 ≤ w) (w2 : w ≤ 1000) {cw : _root_.Fin w → Int} {U D : _root_.Fin h → Int} {M : _root_.Fin h → _root_.Fin w → Rows}
    (co : ∀ S, callF tab (n + 2) i_columns [.tup (fl h fun i => .tup (fl w fun j => (m i j).toT))] S = .ok (.lst (fl w fun j => .int (cw j))) S)
    (he : ∀ S, callF tab (n + 2) i_heights [.tup (fl h fun i => .tup (fl w fun j => (m i j).toT))] S = .ok (.lst (fl h fun i => .tup [.int (U i), .int (D i)])) S)
    (ra : ∀ i j S, callF tab (n + 2) i_raised [(m i j).toT, .int (U i), .int (D i)] S = .ok (.tup (rowsT (M i j))) S)
    (dM : ∀ i j, ∀ l ∈ M i j, (l.length : Int) ≤ cw j) (hM : ∀ i j, ((M i j).length : Int) = U i + D i + 1)
    (U0 : ∀ i, 0 ≤ U i) (D0 : ∀ i, 0 ≤ D i) (hh : ∀ i, U i + D i + 1 ≤ 500) (c0 : ∀ j, 0 ≤ cw j) (c1 : ∀ j, cw j ≤ 1000000) (tot : (fl w cw).sum + 2 * ((w : Int) - 1) ≤ 1000000) (s0 : 0 ≤ (fl w cw).sum)
    (big : ((fl h fun k => (if 0 < k.1 then blk ((fl w cw).sum + 2 * ((w : Int) - 1)) 1 else []) ++ besd (fl w fun j => [(M k j).map (pad (cw j)), blk 2 (U k + D k + 1)]).flatten.dropLast).flatten.length : Int) ≤ 500)
    (wid : ∀ l ∈ (fl h fun k => (if 0 < k.1 then blk ((fl w cw).sum + 2 * ((w : Int) - 1)) 1 else []) ++ besd (fl w fun j => [(M k j).map (pad (cw j)), blk 2 (U k + D k + 1)]).flatten.dropLast).flatten, (l.length : Int) ≤ 1000000) :
    callF tab (n + 3) i_table_picture [(Tr.table h w m).toT] S = .ok (.tup (rowsT ((fl h fun k => (if 0 < k.1 then blk ((fl w cw).sum + 2 * ((w : Int) - 1)) 1 else []) ++ besd (fl w fun j => [(M k j).map (pad (cw j)), blk 2 (U k + D k + 1)]).flatten.dropLast).flatten.map fun l => 91 :: (l ++ [93])))) S := by
  rw [c_table_picture P]
  have h1 : T.sub? (Tr.table h w m).toT (.int 1) = some (.tup (fl h fun i => .tup (fl w fun j => (m i j).toT))) := sub_t1
  have ne : List.finRange w ≠ [] := finRange_ne w1
  have bl := fun k S => w_blanks P (n := n + 1) (S := S) (w := 2) (k := U k + D k + 1) (by omega) (by omega) (by have := U0 k; have := D0 k; omega) (by have := hh k; omega)
  have b1 := fun S => w_blanks P (n := n + 1) (S := S) (w := (fl w cw).sum + 2 * ((w : Int) - 1)) (k := 1) (by omega) (by omega) (by omega) (by omega)
  have ra' : ∀ i j S, callF tab (n + 2) i_raised [(m i j).toT, .int (U i), .int (D i)] S = .ok (.tup ((M i j).attach.map fun l => T.str l.1)) S := fun i j S => by rw [ra, att0]
  have pd : ∀ i j (l : {l // l ∈ M i j}) S, callF tab (n + 2) i_padded [.str l.1, .int (cw j)] S = .ok (.str (pad (cw j) l.1)) S := fun i j l S => w_padded P (c1 j) (dM i j l.1 l.2)
  have fp := fun i j => att (M i j) (pad (cw j))
  have sk : ∀ k : _root_.Fin h, T.sub? (.tup (fl h fun i => .tup (fl w fun j => (m i j).toT))) (.int (k.1 : Nat)) = some (.tup (fl w fun j => (m k j).toT)) := fun k => sub_tf k
  have pne : ∀ k, (fl w fun j => [(M k j).map (pad (cw j)), blk 2 (U k + D k + 1)]).flatten ≠ [] := fun k => by
    intro q
    have := congrArg List.length q
    rw [flatten_len (w := 2) (fun _ => rfl), List.length_finRange] at this
    simp at this; omega
  have dne : ∀ k, (fl w fun j => [(M k j).map (pad (cw j)), blk 2 (U k + D k + 1)]).flatten.dropLast ≠ [] := fun k => by
    intro q
    have := congrArg List.length q
    rw [List.length_dropLast, flatten_len (w := 2) (fun _ => rfl), List.length_finRange] at this
    simp at this; omega
  have dims : ∀ k, Dims (fl w fun j => [(M k j).map (pad (cw j)), blk 2 (U k + D k + 1)]).flatten (fl w fun j => [cw j, 2]).flatten (U k + D k + 1) := fun k => Dims.pairs fun j _ => ⟨⟨by rw [List.length_map]; exact hM k j, fun l hl => by
    obtain ⟨x, hx, rfl⟩ := List.mem_map.mp hl
    exact pad_len (dM k j x hx)⟩, Dim.blk (by omega) (by have := U0 k; have := D0 k; omega)⟩
  have bs := fun k S => w_besideL P (n := n + 1) (S := S) (dne k) (dims k).drop (by rw [sum_pairs_drop ne, List.length_finRange]; exact tot) (fun x hx => by
    have hx := List.dropLast_subset _ hx
    obtain ⟨l, hl, hx⟩ := List.mem_flatten.mp hx
    obtain ⟨j, _, rfl⟩ := List.mem_map.mp hl
    simp only [List.mem_cons, List.not_mem_nil, or_false] at hx
    have := c0 j
    rcases hx with rfl | rfl <;> omega)
  have sd : ∀ k, T.slc (.lst ((fl w fun j => [(M k j).map (pad (cw j)), blk 2 (U k + D k + 1)]).flatten.map fun q => T.tup (rowsT q))) none (some (-1)) = some (.lst ((fl w fun j => [(M k j).map (pad (cw j)), blk 2 (U k + D k + 1)]).flatten.dropLast.map fun q => T.tup (rowsT q))) := fun k => by
    rw [slc_drop (by simpa using pne k), List.map_dropLast]
  simp! [u_table_picture, h1, co, he, L_table_picture_1]
  rw [forG_nx (b0 := T.tup []) (fun pre : List (_root_.Fin h) => T.tup (rowsT (pre.map fun k => (if 0 < k.1 then blk ((fl w cw).sum + 2 * ((w : Int) - 1)) 1 else []) ++ besd (fl w fun j => [(M k j).map (pad (cw j)), blk 2 (U k + D k + 1)]).flatten.dropLast).flatten)) rfl fun pre k post e => by
    simp! [u_table_picture_1, sk, L_table_picture_2]
    rw [forG_nx (b0 := ([] : List T)) (fun pr : List (_root_.Fin w) => (pr.map fun j => [(M k j).map (pad (cw j)), blk 2 (U k + D k + 1)]).flatten.map fun q => T.tup (rowsT q)) rfl fun pr j po e2 => by
      have sz : pr.length ≤ w := by
        have : (List.finRange w).length = w := List.length_finRange
        rw [e2] at this
        simp at this; omega
      have fz : (pr.map fun j => [(M k j).map (pad (cw j)), blk 2 (U k + D k + 1)]).flatten.length = 2 * pr.length := by
        rw [flatten_len (w := 2) fun i => rfl]; omega
      have z1 : (pr.map fun j => [(M k j).map (pad (cw j)), blk 2 (U k + D k + 1)]).flatten.length < 16777216 := by omega
      have z2 : (pr.map fun j => [(M k j).map (pad (cw j)), blk 2 (U k + D k + 1)]).flatten.length + 1 < 16777216 := by omega
      have bl' := bl k
      simp! [u_table_picture_2, ra', pd, fp, bl', z1, z2, List.length_append]
      rw [List.map_append, List.flatten_append, List.map_append, List.append_assoc]
      rfl]
    have tl : ((pre.map fun k => (if 0 < k.1 then blk ((fl w cw).sum + 2 * ((w : Int) - 1)) 1 else []) ++ besd (fl w fun j => [(M k j).map (pad (cw j)), blk 2 (U k + D k + 1)]).flatten.dropLast).flatten.length : Int) + (((if 0 < k.1 then blk ((fl w cw).sum + 2 * ((w : Int) - 1)) 1 else []) ++ besd (fl w fun j => [(M k j).map (pad (cw j)), blk 2 (U k + D k + 1)]).flatten.dropLast).length : Int) ≤ 500 := by
      rw [fl, e, List.map_append, List.flatten_append, List.length_append, List.map_cons, List.flatten_cons, List.length_append] at big
      omega
    have sdk := sd k
    have bsk := bs k
    have lf : (List.finRange w).length = w := List.length_finRange
    have suc : ∀ X : _root_.Fin h → Rows, ((pre ++ [k]).map X).flatten = (pre.map X).flatten ++ X k := fun X => by rw [List.map_append, List.flatten_append]; simp
    rw [suc]
    generalize hq : (pre.map fun k => (if 0 < k.1 then blk ((fl w cw).sum + 2 * ((w : Int) - 1)) 1 else []) ++ besd (fl w fun j => [(M k j).map (pad (cw j)), blk 2 (U k + D k + 1)]).flatten.dropLast).flatten = Q at *
    rw [List.length_append] at tl
    by_cases k0 : 0 < k.1
    · have k1 : (0 : Int) < (k.1 : Nat) := by omega
      rw [if_pos k0] at tl ⊢
      have a1 : T.add (.tup (rowsT Q)) (.tup (rowsT (blk ((fl w cw).sum + 2 * ((w : Int) - 1)) 1))) = some (.tup (rowsT (Q ++ blk ((fl w cw).sum + 2 * ((w : Int) - 1)) 1))) := by
        rw [add_t, szL, if_pos (by rw [rowsT_len, rowsT_len]; omega), rowsT_app]
      have a2 : T.add (.tup (rowsT (Q ++ blk ((fl w cw).sum + 2 * ((w : Int) - 1)) 1))) (.tup (rowsT (besd (fl w fun j => [(M k j).map (pad (cw j)), blk 2 (U k + D k + 1)]).flatten.dropLast))) = some (.tup (rowsT (Q ++ (blk ((fl w cw).sum + 2 * ((w : Int) - 1)) 1 ++ besd (fl w fun j => [(M k j).map (pad (cw j)), blk 2 (U k + D k + 1)]).flatten.dropLast)))) := by
        rw [add_t, szL, if_pos (by rw [rowsT_len, rowsT_len, List.length_append]; omega), rowsT_app, List.append_assoc]
      simp! [k1, lf, sdk, bsk, b1, a1, a2]
    · have k1 : ¬ (0 : Int) < (k.1 : Nat) := by omega
      rw [if_neg k0] at tl ⊢
      have a2 : T.add (.tup (rowsT Q)) (.tup (rowsT (besd (fl w fun j => [(M k j).map (pad (cw j)), blk 2 (U k + D k + 1)]).flatten.dropLast))) = some (.tup (rowsT (Q ++ besd (fl w fun j => [(M k j).map (pad (cw j)), blk 2 (U k + D k + 1)]).flatten.dropLast))) := by
        rw [List.length_nil] at tl
        rw [add_t, szL, if_pos (by rw [rowsT_len, rowsT_len]; omega), rowsT_app]
      simp! [k1, lf, sdk, bsk, b1, a2]
    skip]
  generalize hq : (fl h fun k => (if 0 < k.1 then blk ((fl w cw).sum + 2 * ((w : Int) - 1)) 1 else []) ++ besd (fl w fun j => [(M k j).map (pad (cw j)), blk 2 (U k + D k + 1)]).flatten.dropLast).flatten = Q at *
  have hQ := att0 Q
  have s1 : ∀ l : {l // l ∈ Q}, T.add (.str [91]) (.str l.1) = some (.str (91 :: l.1)) := fun l => by
    have := wid _ l.2
    rw [add_s, szL, if_pos (by simp only [List.length_cons, List.length_nil]; omega)]; rfl
  have s2 : ∀ l : {l // l ∈ Q}, T.add (.str (91 :: l.1)) (.str [93]) = some (.str (91 :: (l.1 ++ [93]))) := fun l => by
    have := wid _ l.2
    rw [add_s, szL, if_pos (by simp only [List.length_cons, List.length_nil]; omega)]; rfl
  have fin := att Q fun l => 91 :: (l ++ [93])
  simp! [hQ, s1, s2, fin]
theorem pic_table {h w : Nat} {m : _root_.Fin h → _root_.Fin w → Tr} (W : (Tr.table h w m).Wf) (F : (Tr.table h w m).Ft)
    (hb : ∀ i j S, callF tab (n + 1) i_box [(m i j).toT] S = .ok (boxT (m i j).bx) S)
    (hp : ∀ i j S, callF tab (n + 1) i_picture [(m i j).toT] S = .ok (.tup (rowsT (m i j).pic)) S) : callF tab (n + 3) i_table_picture [(Tr.table h w m).toT] S = .ok (.tup (rowsT (Tr.table h w m).pic)) S := by
  have wd := F.1
  have hd := F.2
  have h1 := W.1.1
  have w1 := W.2.1.1
  have w2 := W.2.1.2
  have nn := fun i j => (m i j).bx_nn (W.2.2 i j)
  have dm := (Tr.table h w m).pic_dim W
  have u0 : ∀ i, 0 ≤ rowU (fun i j => (m i j).bx) i := fun i => maxI_fl (f := fun j => (m i j).bx.2.1) fun j => (nn i j).2.1
  have d0 : ∀ i, 0 ≤ rowD (fun i j => (m i j).bx) i := fun i => maxI_fl (f := fun j => (m i j).bx.2.2) fun j => (nn i j).2.2
  have lu : ∀ i j, (m i j).bx.2.1 ≤ rowU (fun i j => (m i j).bx) i := fun i j => le_maxI_fl (f := fun j => (m i j).bx.2.1) j
  have ld : ∀ i j, (m i j).bx.2.2 ≤ rowD (fun i j => (m i j).bx) i := fun i j => le_maxI_fl (f := fun j => (m i j).bx.2.2) j
  have lc : ∀ i j, (m i j).bx.1 ≤ colW (fun i j => (m i j).bx) j := fun i j => le_maxI_fl (f := fun i => (m i j).bx.1) i
  have cn : ∀ j, 0 ≤ colW (fun i j => (m i j).bx) j := fun j => maxI_fl fun i => by have := (nn i j).1; dsimp only; omega
  have cs : 0 ≤ (fl w (colW fun i j => (m i j).bx)).sum := sum_fl cn
  have ew : (Tr.table h w m).bx.1 = (fl w (colW fun i j => (m i j).bx)).sum + 2 * ((w : Int) - 1) + 2 := rfl
  have eh : (Tr.table h w m).bx.high = (fl h fun i => rowU (fun i j => (m i j).bx) i + rowD (fun i j => (m i j).bx) i + 1).sum + h - 1 := by simp only [Tr.bx, Bx.high, tabH]; omega
  have rh : ∀ i, rowU (fun i j => (m i j).bx) i + rowD (fun i j => (m i j).bx) i + 1 ≤ 500 := fun i => by
    have : rowU (fun i j => (m i j).bx) i + rowD (fun i j => (m i j).bx) i + 1 ≤ (fl h fun i => rowU (fun i j => (m i j).bx) i + rowD (fun i j => (m i j).bx) i + 1).sum := le_sum_fl (f := fun i => rowU (fun i j => (m i j).bx) i + rowD (fun i j => (m i j).bx) i + 1) (fun i => by have := u0 i; have := d0 i; omega) i
    omega
  have clw : ∀ j, colW (fun i j => (m i j).bx) j ≤ 1000000 := fun j => by
    have : colW (fun i j => (m i j).bx) j ≤ (fl w (colW fun i j => (m i j).bx)).sum := le_sum_fl cn j
    omega
  have ra := fun i j S => w_raised P (n := n) (S := S) (W.2.2 i j) (lu i j) (ld i j) (by have := rh i; have := d0 i; omega) (by have := rh i; have := u0 i; omega) (by have := lc i j; have := clw j; omega) (hp i j) (hb i j)
  have dr := fun i j => ((m i j).pic_dim (W.2.2 i j)).rais (u := rowU (fun i j => (m i j).bx) i) (d := rowD (fun i j => (m i j).bx) i) (by have := (nn i j).1; omega) (lu i j) (ld i j)
  refine table_walk P w1 w2 (fun S => w_columns P (n := n + 1) (S := S) h1 w2 hb) (fun S => w_heights P (n := n + 1) (S := S) w1 hb) ra (fun i j l hl => ?_) (fun i j => (dr i j).1) u0 d0 rh cn clw (show (fl w (colW fun i j => (m i j).bx)).sum + 2 * ((w : Int) - 1) ≤ 1000000 by omega) cs ?_ ?_
  · rw [(dr i j).2 l hl]; exact lc i j
  · have := dm.1
    rw [Tr.pic, List.length_map] at this
    have e : ∀ X : Rows, (X.length : Int) = (Tr.table h w m).bx.high → (X.length : Int) ≤ 500 := fun X hX => by omega
    exact e _ this
  · intro l hl
    have := dm.2 (91 :: (l ++ [93])) (by rw [Tr.pic]; exact List.mem_map_of_mem (f := fun l => 91 :: (l ++ [93])) hl)
    simp only [List.length_cons, List.length_append, List.length_nil] at this
    omega
theorem w_picture : ∀ s : Tr, s.Wf → s.Ft → Ev tab i_picture [s.toT] (.tup (rowsT s.pic)) (4 * s.ht + 2) := Tr.ind fun s ih W F n hn S => by
  have hpos := s.ht_pos
  obtain ⟨k, rfl⟩ : ∃ k, n = k + 4 := ⟨n - 4, by omega⟩
  have kp : ∀ p ∈ s.kids, ∀ j, j ≥ 4 * s.ht - 2 → ∀ S, callF tab j i_picture [p.toT] S = .ok (.tup (rowsT p.pic)) S := fun p hp j hj S => by
    have := Tr.kids_ht hp
    exact ih p hp (W.kid hp) (F.kid W hp) j (by omega) S
  have kb : ∀ p ∈ s.kids, ∀ j, j ≥ 4 * s.ht - 2 → ∀ S, callF tab j i_box [p.toT] S = .ok (boxT p.bx) S := fun p hp j hj S => by
    have := Tr.kids_ht hp
    exact w_box P p (W.kid hp) j (by omega) S
  have hb : ∀ j, j ≥ 4 * s.ht - 1 → ∀ S, callF tab j i_box [s.toT] S = .ok (boxT s.bx) S := fun j hj S => w_box P s W j (by omega) S
  have kd := fun S => w_kd P (n := k + 2) (S := S) (s := s)
  cases s with
  | word x => exact pic_word P (hb _ (by omega))
  | held a => exact pic_held P W F (hb _ (by omega)) (kp a (by simp [Tr.kids]) _ (by omega))
  | root a => exact pic_root P W F (hb _ (by omega)) (kp a (by simp [Tr.kids]) _ (by omega))
  | over a b => exact pic_over P W F (hb _ (by omega)) (kp a (by simp [Tr.kids]) _ (by omega)) (kp b (by simp [Tr.kids]) _ (by omega))
  | scU a u =>
    have h := fun S => pic_scU P (n := k + 1) (S := S) W F (hb _ (by omega)) (kb a (by simp [Tr.kids]) _ (by omega)) (kp a (by simp [Tr.kids]) _ (by omega)) (kp u (by simp [Tr.kids]) _ (by omega))
    have hb' := hb (k + 3) (by omega)
    simp only [boxT] at hb'
    simp only [kd_scU] at kd
    rw [c_picture P]
    simp! [u_picture, kd, hb', h]
  | scD a u =>
    have h := fun S => pic_scD P (n := k + 1) (S := S) W F (hb _ (by omega)) (kb a (by simp [Tr.kids]) _ (by omega)) (kp a (by simp [Tr.kids]) _ (by omega)) (kp u (by simp [Tr.kids]) _ (by omega))
    have hb' := hb (k + 3) (by omega)
    simp only [boxT] at hb'
    simp only [kd_scD] at kd
    rw [c_picture P]
    simp! [u_picture, kd, hb', h]
  | scB a u d =>
    have h := fun S => pic_scB P (n := k + 1) (S := S) W F (hb _ (by omega)) (kb a (by simp [Tr.kids]) _ (by omega)) (kp a (by simp [Tr.kids]) _ (by omega)) (kp u (by simp [Tr.kids]) _ (by omega)) (kp d (by simp [Tr.kids]) _ (by omega))
    have hb' := hb (k + 3) (by omega)
    simp only [boxT] at hb'
    simp only [kd_scB] at kd
    rw [c_picture P]
    simp! [u_picture, kd, hb', h]
  | chain a m g p =>
    have mem : ∀ i, p i ∈ (Tr.chain a m g p).kids := fun i => List.mem_cons_of_mem _ (List.mem_map_of_mem (List.mem_finRange i))
    have h := fun S => pic_chain P (n := k) (S := S) W F (hb _ (by omega)) (kb a (by simp [Tr.kids]) _ (by omega)) (fun i => kb (p i) (mem i) _ (by omega)) (kp a (by simp [Tr.kids]) _ (by omega)) (fun i => kp (p i) (mem i) _ (by omega))
    have hb' := hb (k + 3) (by omega)
    simp only [boxT] at hb'
    simp only [kd_chn] at kd
    rw [c_picture P]
    simp! [u_picture, kd, hb', h]
  | table h w m =>
    have mem : ∀ i j, m i j ∈ (Tr.table h w m).kids := fun i j => List.mem_flatten.mpr ⟨_, List.mem_map_of_mem (List.mem_finRange i), List.mem_map_of_mem (f := fun j => m i j) (List.mem_finRange j)⟩
    have h := fun S => pic_table P (n := k) (S := S) W F (fun i j => kb (m i j) (mem i j) _ (by omega)) (fun i j => kp (m i j) (mem i j) _ (by omega))
    have hb' := hb (k + 3) (by omega)
    simp only [boxT] at hb'
    simp only [kd_tab] at kd
    rw [c_picture P]
    simp! [u_picture, kd, hb', h]
end
end Ly
namespace Ly
/-- drawn sums are small -/
theorem Tr.Dr.small : ∀ s : Tr, s.Dr → ∀ j, s.ht ≤ j + 1 → s.bx.2.1 ≤ 3 ^ j - 1 ∧ s.bx.2.2 ≤ 3 ^ j - 1 ∧ s.bx.1 ≤ 9 * 4 ^ j - 3 := Tr.ind fun s ih D j hj => by
  have hkid : ∀ p ∈ s.kids, 1 ≤ j := fun p hp => by have := Tr.kids_ht hp; have := p.ht_pos; omega
  have nnk : ∀ p ∈ s.kids, 1 ≤ p.bx.1 ∧ 0 ≤ p.bx.2.1 ∧ 0 ≤ p.bx.2.2 := fun p hp => p.bx_nn (D.wf.kid hp)
  have h5 : ∀ i, j = i + 1 → ∀ p ∈ s.kids, p.bx.2.1 ≤ 3 ^ i - 1 ∧ p.bx.2.2 ≤ 3 ^ i - 1 ∧ p.bx.1 ≤ 9 * 4 ^ i - 3 := fun i e p q => ih p q (D.kid q) i (by have := Tr.kids_ht q; omega)
  have p3 : (1 : Int) ≤ 3 ^ j := by have := Int.pow_pos (n := 3) (m := j) (by decide); omega
  have p4 : (1 : Int) ≤ 4 ^ j := by have := Int.pow_pos (n := 4) (m := j) (by decide); omega
  cases s with
  | word x => have := atoms_len D; simp only [Tr.bx]; omega
  | chain a n g p =>
    obtain ⟨i, rfl⟩ : ∃ i, j = i + 1 := ⟨j - 1, by have := hkid a (by simp [Tr.kids]); omega⟩
    have h5 := h5 i rfl
    have q3 : (1 : Int) ≤ 3 ^ i := by have := Int.pow_pos (n := 3) (m := i) (by decide); omega
    have q4 : (1 : Int) ≤ 4 ^ i := by have := Int.pow_pos (n := 4) (m := i) (by decide); omega
    rw [Int.pow_succ, Int.pow_succ]
    generalize (3 : Int) ^ i = A at *
    generalize (4 : Int) ^ i = B at *
    have ha := h5 a (by simp [Tr.kids])
    have hp := fun i => h5 (p i) (List.mem_cons_of_mem _ (List.mem_map_of_mem (List.mem_finRange i)))
    have n3 := D.1.2
    have s1 := sum_fl_le (f := fun i => (p i).bx.1) (M := 9 * B - 3) fun i => (hp i).2.2
    have m3 : (n : Int) * (9 * B - 3) ≤ 3 * (9 * B - 3) := Int.mul_le_mul_of_nonneg_right (by omega) (by omega)
    have mx : ∀ (x : Int) (f : Fin n → Int), x ≤ A - 1 → (∀ i, f i ≤ A - 1) → maxI (x :: fl n f) ≤ A - 1 := fun x f hx hf => by
      have : ∀ l : List Int, l ≠ [] → (∀ y ∈ l, y ≤ A - 1) → maxI l ≤ A - 1 := fun l => by
        induction l with
        | nil => intro h; exact absurd rfl h
        | cons a l ih =>
          intro _ k
          cases l with
          | nil => simpa [maxI] using k a (by simp)
          | cons b l => simp only [maxI]; have := k a (by simp); have := ih (by simp) fun x hx => k x (by simp [hx]); omega
      refine this _ (by simp) fun y hy => ?_
      rcases List.mem_cons.mp hy with rfl | hy
      · exact hx
      · obtain ⟨i, _, rfl⟩ := List.mem_map.mp hy
        exact hf i
    have m1 := mx a.bx.2.1 (fun i => (p i).bx.2.1) ha.1 fun i => (hp i).1
    have m2 := mx a.bx.2.2 (fun i => (p i).bx.2.2) ha.2.1 fun i => (hp i).2.1
    simp only [Tr.bx]
    omega
  | table h w m =>
    have h1 := D.1
    have w1 := D.2.1
    have mem : ∀ i j, m i j ∈ (Tr.table h w m).kids := fun i j => List.mem_flatten.mpr ⟨_, List.mem_map_of_mem (List.mem_finRange i), List.mem_map_of_mem (f := fun j => m i j) (List.mem_finRange j)⟩
    obtain ⟨i, rfl⟩ : ∃ i, j = i + 1 := ⟨j - 1, by have := hkid (m ⟨0, by omega⟩ ⟨0, by omega⟩) (mem _ _); omega⟩
    have h5 := fun a b => h5 i rfl (m a b) (mem a b)
    have nn := fun a b => nnk (m a b) (mem a b)
    have q3 : (1 : Int) ≤ 3 ^ i := by have := Int.pow_pos (n := 3) (m := i) (by decide); omega
    have q4 : (1 : Int) ≤ 4 ^ i := by have := Int.pow_pos (n := 4) (m := i) (by decide); omega
    rw [Int.pow_succ, Int.pow_succ]
    generalize (3 : Int) ^ i = A at *
    generalize (4 : Int) ^ i = B at *
    have s1 := sum_fl_le (f := fun j => colW (fun i j => (m i j).bx) j) (M := 9 * B - 3) fun j => maxI_fl_to (by omega) fun a => (h5 a j).2.2
    have m3 : (w : Int) * (9 * B - 3) ≤ 3 * (9 * B - 3) := Int.mul_le_mul_of_nonneg_right (by omega) (by omega)
    have s2 := sum_fl_le (f := fun a => rowU (fun i j => (m i j).bx) a + rowD (fun i j => (m i j).bx) a + 1) (M := 2 * A - 1) fun a => by
      have a1 : rowU (fun i j => (m i j).bx) a ≤ A - 1 := maxI_fl_to (by omega) fun b => (h5 a b).1
      have a2 : rowD (fun i j => (m i j).bx) a ≤ A - 1 := maxI_fl_to (by omega) fun b => (h5 a b).2.1
      omega
    have m4 : (h : Int) * (2 * A - 1) ≤ 3 * (2 * A - 1) := Int.mul_le_mul_of_nonneg_right (by omega) (by omega)
    simp only [Tr.bx, tabW, tabH]
    omega
  | _ =>
    obtain ⟨i, rfl⟩ : ∃ i, j = i + 1 := ⟨j - 1, by have := hkid _ (by simp only [Tr.kids]; exact List.mem_cons_self); omega⟩
    have h5 := h5 i rfl
    have q3 : (1 : Int) ≤ 3 ^ i := by have := Int.pow_pos (n := 3) (m := i) (by decide); omega
    have q4 : (1 : Int) ≤ 4 ^ i := by have := Int.pow_pos (n := 4) (m := i) (by decide); omega
    rw [Int.pow_succ, Int.pow_succ]
    generalize (3 : Int) ^ i = A at *
    generalize (4 : Int) ^ i = B at *
    simp only [Tr.kids, List.mem_cons, List.not_mem_nil, or_false, forall_eq_or_imp, forall_eq] at h5 nnk
    simp only [Tr.bx, Bx.high]
    omega
theorem Tr.Dr.ft {s : Tr} (D : s.Dr) (h : s.ht ≤ 6) : s.Ft := by
  have := Tr.Dr.small s D 5 h
  rw [show (3 : Int) ^ 5 = 243 by decide, show (4 : Int) ^ 5 = 1024 by decide] at this
  simp only [Tr.Ft, Bx.high]
  omega
end Ly
namespace Ly
open PySem hiding Fin
open PySem.Spec
/-- one behind the other, each at a place further on -/
def scanC {α β : Type} (wd : α → Int) (g : α → Int → β) : List α → Int → List β
  | [], _ => []
  | a :: l, x => g a x :: scanC wd g l (x + wd a)
theorem scanC_snoc {α β : Type} {wd : α → Int} {g : α → Int → β} {a : α} : ∀ {l : List α} {x : Int}, scanC wd g (l ++ [a]) x = scanC wd g l x ++ [g a (x + (l.map wd).sum)]
  | [], x => by simp [scanC]
  | b :: l, x => by
    rw [List.cons_append, scanC, scanC, scanC_snoc, List.map_cons, List.sum_cons, Int.add_assoc]
    rfl
theorem scanC_len {α β : Type} {wd : α → Int} {g : α → Int → β} : ∀ {l : List α} {x : Int}, (scanC wd g l x).length = l.length
  | [], x => rfl
  | b :: l, x => by rw [scanC, List.length_cons, scanC_len, List.length_cons]
theorem scanC_flat {α β : Type} {wd : α → Int} {g : α → Int → List β} {w : Nat} (h : ∀ a x, (g a x).length = w) : ∀ {l : List α} {x : Int}, (scanC wd g l x).flatten.length = l.length * w
  | [], x => by simp [scanC]
  | b :: l, x => by rw [scanC, List.flatten_cons, List.length_append, h, scanC_flat h, List.length_cons, Nat.add_mul]; omega
def ptT (p : Int × Int) : T := .tup [.int p.1, .int p.2]
/-- where a table's parts stand -/
def tabC {h w : Nat} (b : Fin h → Fin w → Bx) : List (Int × Int) :=
  (scanC (fun i => rowU b i + rowD b i + 2) (fun i top => scanC (fun j => colW b j + 2) (fun j left => (left + (colW b j - (b i j).1) / 2, top + rowU b i - (b i j).2.1)) (List.finRange w) 1) (List.finRange h) 0).flatten
section
variable {tab : List FnI} (P : Pre tab) {n : Nat} {S : Store}
include P
theorem w_middle {a b : Int} : callF tab (n + 1) i_middle [.int a, .int b] S = .ok (.int ((a - b) / 2)) S := by
  rw [c_middle P]
  have d : T.fdv (.int (a - b)) (.int 2) = some (.int ((a - b) / 2)) := by simp [T.fdv]
  simp! [u_middle, d]
theorem corners_walk {h w : Nat} {m : _root_.Fin h → _root_.Fin w → Tr} (h2 : h ≤ 1000) (w2 : w ≤ 1000) {cw : _root_.Fin w → Int} {U D : _root_.Fin h → Int}
    (co : ∀ S, callF tab (n + 1) i_columns [.tup (fl h fun i => .tup (fl w fun j => (m i j).toT))] S = .ok (.lst (fl w fun j => .int (cw j))) S)
    (he : ∀ S, callF tab (n + 1) i_heights [.tup (fl h fun i => .tup (fl w fun j => (m i j).toT))] S = .ok (.lst (fl h fun i => .tup [.int (U i), .int (D i)])) S)
    (hb : ∀ i j S, callF tab (n + 1) i_box [(m i j).toT] S = .ok (.tup [.int (m i j).bx.1, .int (m i j).bx.2.1, .int (m i j).bx.2.2]) S) :
    callF tab (n + 2) i_table_corners [(Tr.table h w m).toT] S = .ok (.lst ((scanC (fun i => U i + D i + 2) (fun i top => scanC (fun j => cw j + 2) (fun j left => (left + (cw j - (m i j).bx.1) / 2, top + U i - (m i j).bx.2.1)) (List.finRange w) 1) (List.finRange h) 0).flatten.map ptT)) S := by
  rw [c_table_corners P]
  have t1 : T.sub? (Tr.table h w m).toT (.int 1) = some (.tup (fl h fun i => .tup (fl w fun j => (m i j).toT))) := sub_t1
  have mi := fun a b S => w_middle P (n := n) (S := S) (a := a) (b := b)
  simp! [u_table_corners, t1, he, it_zip_tl, zip_mm, L_table_corners_1]
  rw [forG_nx (b0 := (([], T.int 0) : List T × T)) (fun pre : List (_root_.Fin h) => (((scanC (fun i => U i + D i + 2) (fun i top => scanC (fun j => cw j + 2) (fun j left => (left + (cw j - (m i j).bx.1) / 2, top + U i - (m i j).bx.2.1)) (List.finRange w) 1) pre 0).flatten.map ptT, T.int (pre.map fun i => U i + D i + 2).sum) : List T × T)) rfl fun pre i post e => by
    have lq : (scanC (fun i => U i + D i + 2) (fun i top => scanC (fun j => cw j + 2) (fun j left => (left + (cw j - (m i j).bx.1) / 2, top + U i - (m i j).bx.2.1)) (List.finRange w) 1) pre 0).flatten.length ≤ 1000000 := by
      rw [scanC_flat (w := w) fun a x => by rw [scanC_len, List.length_finRange]]
      have : pre.length ≤ h := by
        have : (List.finRange h).length = h := List.length_finRange
        rw [e] at this
        simp at this; omega
      exact Nat.mul_le_mul (show pre.length ≤ 1000 by omega) w2
    rw [scanC_snoc, List.flatten_append, List.map_append (l₁ := pre), List.sum_append, Int.zero_add]
    generalize (scanC (fun i => U i + D i + 2) (fun i top => scanC (fun j => cw j + 2) (fun j left => (left + (cw j - (m i j).bx.1) / 2, top + U i - (m i j).bx.2.1)) (List.finRange w) 1) pre 0).flatten = Q at *
    generalize (pre.map fun i => U i + D i + 2).sum = top at *
    simp! [u_table_corners_1, co, it_zip_tl, zip_mm, L_table_corners_2]
    rw [forG_nx (b0 := ((Q.map ptT, T.int 1) : List T × T)) (fun pr : List (_root_.Fin w) => (((Q ++ scanC (fun j => cw j + 2) (fun j left => (left + (cw j - (m i j).bx.1) / 2, top + U i - (m i j).bx.2.1)) pr 1).map ptT, T.int (1 + (pr.map fun j => cw j + 2).sum)) : List T × T)) (by simp [scanC]) fun pr j po e2 => by
      have sz : pr.length ≤ w := by
        have : (List.finRange w).length = w := List.length_finRange
        rw [e2] at this
        simp at this; omega
      have z : (Q ++ scanC (fun j => cw j + 2) (fun j left => (left + (cw j - (m i j).bx.1) / 2, top + U i - (m i j).bx.2.1)) pr 1).length < 16777216 := by
        rw [List.length_append, scanC_len]; omega
      rw [scanC_snoc, ← List.append_assoc, List.map_append (l₁ := Q ++ _)]
      generalize Q ++ scanC (fun j => cw j + 2) (fun j left => (left + (cw j - (m i j).bx.1) / 2, top + U i - (m i j).bx.2.1)) pr 1 = R at *
      rw [List.map_append (l₁ := pr), List.sum_append]
      generalize (pr.map fun j => cw j + 2).sum = left at *
      simp! [u_table_corners_2, hb, mi, z]
      simp only [ptT, List.sum_cons, List.sum_nil, Int.add_zero, Int.add_assoc]]
    simp! []
    simp only [List.flatten_cons, List.flatten_nil, List.append_nil, List.sum_cons, List.sum_nil, Int.add_zero, Int.add_assoc]]
  simp! []
theorem w_table_corners {h w : Nat} {m : _root_.Fin h → _root_.Fin w → Tr} (W : (Tr.table h w m).Wf) (hb : ∀ i j S, callF tab (n + 2) i_box [(m i j).toT] S = .ok (boxT (m i j).bx) S) (hb0 : ∀ i j S, callF tab (n + 1) i_box [(m i j).toT] S = .ok (boxT (m i j).bx) S) :
    callF tab (n + 3) i_table_corners [(Tr.table h w m).toT] S = .ok (.lst ((tabC fun i j => (m i j).bx).map ptT)) S :=
  corners_walk P W.1.2 W.2.1.2 (fun S => w_columns P (n := n + 1) (S := S) W.1.1 W.2.1.2 hb0) (fun S => w_heights P (n := n + 1) (S := S) W.2.1.1 hb0) hb
end
end Ly
namespace Ly
theorem scanC_get {α β : Type} {wd : α → Int} {g : α → Int → β} : ∀ {l : List α} {x : Int} {i : Nat}, (scanC wd g l x)[i]? = l[i]?.map fun a => g a (x + ((l.take i).map wd).sum)
  | [], x, i => by simp [scanC]
  | b :: l, x, 0 => by simp [scanC]
  | b :: l, x, i + 1 => by
    rw [scanC, List.getElem?_cons_succ, scanC_get, List.getElem?_cons_succ, List.take_succ_cons, List.map_cons, List.sum_cons, Int.add_assoc]
theorem flatten_get {α : Type} {w : Nat} : ∀ {l : List (List α)} (_ : ∀ r ∈ l, r.length = w) {i j : Nat} (_ : j < w), l.flatten[i * w + j]? = l[i]?.bind fun r => r[j]?
  | [], _, i, j, _ => by simp
  | r :: l, h, 0, j, hj => by
    have hr := h r List.mem_cons_self
    rw [List.flatten_cons, Nat.zero_mul, Nat.zero_add, List.getElem?_append_left (by omega)]
    rfl
  | r :: l, h, i + 1, j, hj => by
    have hr := h r List.mem_cons_self
    have : (i + 1) * w + j = w + (i * w + j) := by rw [Nat.add_mul, Nat.one_mul]; omega
    rw [List.flatten_cons, this, List.getElem?_append_right (by omega), hr, Nat.add_sub_cancel_left, flatten_get (fun r hr => h r (List.mem_cons_of_mem _ hr)) hj]
    rfl
theorem scanC_rows {α β : Type} {wd : α → Int} {g : α → Int → List β} {w : Nat} (h : ∀ a x, (g a x).length = w) : ∀ {l : List α} {x : Int}, ∀ r ∈ scanC wd g l x, r.length = w
  | [], x, r, hr => by simp [scanC] at hr
  | b :: l, x, r, hr => by
    rw [scanC] at hr
    rcases List.mem_cons.mp hr with rfl | hr
    · exact h _ _
    · exact scanC_rows h r hr
/-- left of a column, top of a row -/
def tabL {h w : Nat} (b : Fin h → Fin w → Bx) (j : Fin w) : Int := 1 + (((List.finRange w).take j.1).map fun j => colW b j + 2).sum
def tabT {h w : Nat} (b : Fin h → Fin w → Bx) (i : Fin h) : Int := (((List.finRange h).take i.1).map fun i => rowU b i + rowD b i + 2).sum
theorem tabC_get {h w : Nat} (b : Fin h → Fin w → Bx) (i : Fin h) (j : Fin w) : (tabC b)[i.1 * w + j.1]? = some (tabL b j + (colW b j - (b i j).1) / 2, tabT b i + rowU b i - (b i j).2.1) := by
  rw [tabC, flatten_get (scanC_rows fun a x => by rw [scanC_len, List.length_finRange]) j.2, scanC_get, List.getElem?_eq_getElem (by rw [List.length_finRange]; exact i.2)]
  simp only [Option.map_some, Option.bind_some, List.getElem_finRange, scanC_get]
  rw [List.getElem?_eq_getElem (by rw [List.length_finRange]; exact j.2)]
  simp only [Option.map_some, List.getElem_finRange, Fin.cast_mk, Fin.eta, Int.zero_add]
  rfl
theorem Tr.kids_get {h w : Nat} {m : Fin h → Fin w → Tr} (i : Fin h) (j : Fin w) : (Tr.table h w m).kids[i.1 * w + j.1]? = some (m i j) := by
  rw [Tr.kids, flatten_get (fun r hr => by
    obtain ⟨i, _, rfl⟩ := List.mem_map.mp hr
    exact fl_length) j.2, List.getElem?_map, List.getElem?_eq_getElem (by rw [List.length_finRange]; exact i.2)]
  simp only [Option.map_some, Option.bind_some, List.getElem_finRange, List.getElem?_map]
  rw [List.getElem?_eq_getElem (by rw [List.length_finRange]; exact j.2)]
  simp only [Option.map_some, List.getElem_finRange, Fin.cast_mk, Fin.eta]
theorem sum_rev {n : Nat} {f : Fin n → Int} : (fl n fun i => f i.rev).sum = (fl n f).sum := by
  have e : (fl n fun i => f i.rev) = (fl n f).reverse := by
    rw [← List.map_reverse, List.finRange_reverse, List.map_map]
    rfl
  rw [e, List.sum_reverse]
theorem maxI_rev {n : Nat} {f : Fin n → Int} (nn : ∀ i, 0 ≤ f i) : maxI (fl n fun i => f i.rev) = maxI (fl n f) := by
  refine Int.le_antisymm (maxI_fl_to (maxI_fl nn) fun i => le_maxI_fl (f := f) i.rev) (maxI_fl_to (maxI_fl fun i => nn i.rev) fun i => ?_)
  have := le_maxI_fl (f := fun i => f i.rev) i.rev
  simpa using this
end Ly
namespace Ly
section
variable {h w : Nat} {b : Fin h → Fin w → Bx} (nn : ∀ i j, 0 ≤ (b i j).1 ∧ 0 ≤ (b i j).2.1 ∧ 0 ≤ (b i j).2.2)
/-! ### columns the other way about -/
theorem rev_colW (j : Fin w) : colW (fun i j => b i j.rev) j = colW b j.rev := rfl
include nn
theorem rev_rowU (i : Fin h) : rowU (fun i j => b i j.rev) i = rowU b i := maxI_rev (f := fun j => (b i j).2.1) fun j => (nn i j).2.1
theorem rev_rowD (i : Fin h) : rowD (fun i j => b i j.rev) i = rowD b i := maxI_rev (f := fun j => (b i j).2.2) fun j => (nn i j).2.2
theorem rev_tabH : tabH (fun i j => b i j.rev) = tabH b := by
  unfold tabH
  simp only [rev_rowU nn, rev_rowD nn]
omit nn in
theorem rev_tabW : tabW (fun (i : Fin h) (j : Fin w) => b i j.rev) = tabW b := by
  unfold tabW
  rw [show (fl w fun j => colW (fun i j => b i j.rev) j) = fl w fun j => colW b j.rev from rfl, sum_rev (f := fun j => colW b j)]
theorem rev_tabT (i : Fin h) : tabT (fun i j => b i j.rev) i = tabT b i := by
  unfold tabT
  simp only [rev_rowU nn, rev_rowD nn]
/-! ### rows the other way about -/
omit nn in
theorem abt_rowU (i : Fin h) : rowU (fun i j => b i.rev j) i = rowU b i.rev := rfl
omit nn in
theorem abt_rowD (i : Fin h) : rowD (fun i j => b i.rev j) i = rowD b i.rev := rfl
theorem abt_colW (j : Fin w) : colW (fun i j => b i.rev j) j = colW b j := maxI_rev (f := fun i => (b i j).1) fun i => (nn i j).1
theorem abt_tabW : tabW (fun i j => b i.rev j) = tabW b := by
  unfold tabW
  simp only [abt_colW nn]
omit nn in
theorem abt_tabH : tabH (fun (i : Fin h) (j : Fin w) => b i.rev j) = tabH b := by
  unfold tabH
  rw [show (fl h fun i => rowU (fun i j => b i.rev j) i + rowD (fun i j => b i.rev j) i + 1) = fl h fun i => (fun i => rowU b i + rowD b i + 1) i.rev from rfl, sum_rev (f := fun i => rowU b i + rowD b i + 1)]
theorem abt_tabL (j : Fin w) : tabL (fun i j => b i.rev j) j = tabL b j := by
  unfold tabL
  simp only [abt_colW nn]
end
end Ly
namespace Ly
/-! ### tables with a row more -/
theorem row_dim {w : Nat} (w1 : 1 ≤ w) {q : Fin w → Rows} {b : Fin w → Bx} {C : Fin w → Int} {U D : Int} (hU : 0 ≤ U) (hD : 0 ≤ D)
    (d : ∀ j, Dim (q j) (b j).1 (b j).high) (b0 : ∀ j, 0 ≤ (b j).1) (bu : ∀ j, (b j).2.1 ≤ U) (bd : ∀ j, (b j).2.2 ≤ D) (bc : ∀ j, (b j).1 ≤ C j) :
    Dim (besd (rowPics q b C U D)) ((fl w C).sum + 2 * ((w : Int) - 1)) (U + D + 1) := by
  have ne : List.finRange w ≠ [] := by
    intro q
    have := List.length_finRange (n := w)
    rw [q] at this
    simp at this; omega
  have dp := Dims.pairs (l := List.finRange w) (f := fun j => (rais (q j) (b j) U D).map (pad (C j))) (g := fun j => blk 2 (U + D + 1)) (v := C) (w := fun _ => 2) (h := U + D + 1) fun j _ => ⟨by
      refine Dim.map ((d j).rais (b0 j) (bu j) (bd j)) fun l hl => pad_len ?_
      rw [hl]
      exact bc j, Dim.blk (by omega) (by omega)⟩
  have := dp.drop.besd (by
    cases q : List.finRange w with
    | nil => exact absurd q ne
    | cons a l => cases l <;> simp)
  rw [sum_pairs_drop ne, List.length_finRange] at this
  exact this
def moreR {α : Type} {h w : Nat} (m : Fin (h + 1) → Fin w → α) : Fin (h + 2) → Fin w → α := fun i j => if hi : i.1 < h + 1 then m ⟨i.1, hi⟩ j else m 0 j
theorem more_cast {α : Type} {h w : Nat} {m : Fin (h + 1) → Fin w → α} (i : Fin (h + 1)) (j : Fin w) : moreR m i.castSucc j = m i j := by
  unfold moreR
  rw [dif_pos (show i.castSucc.1 < h + 1 by simp)]
  rfl
theorem more_last {α : Type} {h w : Nat} {m : Fin (h + 1) → Fin w → α} (j : Fin w) : moreR m (Fin.last (h + 1)) j = m 0 j := by
  unfold moreR
  rw [dif_neg (by simp)]
theorem fl_last {α : Type} {n : Nat} {f : Fin (n + 1) → α} : fl (n + 1) f = fl n (fun i => f i.castSucc) ++ [f (Fin.last n)] := by
  unfold fl
  rw [List.finRange_succ_last, List.map_append, List.map_map]
  rfl
section
variable {h w : Nat} {m : Fin (h + 1) → Fin w → Tr}
theorem more_bx (i : Fin (h + 2)) (j : Fin w) : (moreR m i j).bx = moreR (fun i j => (m i j).bx) i j := by
  unfold moreR
  split <;> rfl
theorem maxI_snoc {l : List Int} {x : Int} (nn : ∀ y ∈ l, 0 ≤ y) (hx : x ∈ l) : maxI (l ++ [x]) = maxI l := by
  refine Int.le_antisymm ?_ ?_
  · have : ∀ k : List Int, k ≠ [] → (∀ y ∈ k, y ≤ maxI l) → maxI k ≤ maxI l := fun k => by
      induction k with
      | nil => intro h; exact absurd rfl h
      | cons a k ih =>
        intro _ q
        cases k with
        | nil => simpa [maxI] using q a (by simp)
        | cons b k => simp only [maxI]; have := q a (by simp); have := ih (by simp) fun y hy => q y (by simp [hy]); omega
    refine this _ (by simp) fun y hy => ?_
    rcases List.mem_append.mp hy with hy | hy
    · exact le_maxI hy
    · rw [List.mem_singleton] at hy; rw [hy]; exact le_maxI hx
  · have : ∀ k : List Int, k ≠ [] → (∀ y ∈ k, y ≤ maxI (l ++ [x])) → maxI k ≤ maxI (l ++ [x]) := fun k => by
      induction k with
      | nil => intro h; exact absurd rfl h
      | cons a k ih =>
        intro _ q
        cases k with
        | nil => simpa [maxI] using q a (by simp)
        | cons b k => simp only [maxI]; have := q a (by simp); have := ih (by simp) fun y hy => q y (by simp [hy]); omega
    exact this l (by intro q; rw [q] at hx; simp at hx) fun y hy => le_maxI (List.mem_append_left _ hy)
variable {b : Fin (h + 1) → Fin w → Bx} (nn : ∀ i j, 0 ≤ (b i j).1 ∧ 0 ≤ (b i j).2.1 ∧ 0 ≤ (b i j).2.2)
include nn in
theorem more_colW (j : Fin w) : colW (moreR b) j = colW b j := by
  unfold colW
  rw [fl_last]
  simp only [more_cast, more_last]
  refine maxI_snoc (fun y hy => ?_) (List.mem_map_of_mem (f := fun i => (b i j).1) (List.mem_finRange 0))
  obtain ⟨i, _, rfl⟩ := List.mem_map.mp hy
  exact (nn i j).1
theorem more_rowU (i : Fin (h + 1)) : rowU (moreR b) i.castSucc = rowU b i := by unfold rowU; simp only [more_cast]
theorem more_rowD (i : Fin (h + 1)) : rowD (moreR b) i.castSucc = rowD b i := by unfold rowD; simp only [more_cast]
theorem last_rowU : rowU (moreR b) (Fin.last (h + 1)) = rowU b 0 := by unfold rowU; simp only [more_last]
theorem last_rowD : rowD (moreR b) (Fin.last (h + 1)) = rowD b 0 := by unfold rowD; simp only [more_last]
end
def wrp (l : List Nat) : List Nat := 91 :: (l ++ [93])
/-- a row more: the table's own picture, a row of blanks, and its first row's -/
theorem more_pic {h w : Nat} {m : Fin (h + 1) → Fin w → Tr} (W : (Tr.table (h + 1) w m).Wf) : ∃ R0 rest, (Tr.table (h + 1) w m).pic = R0 ++ rest ∧
    (Tr.table (h + 2) w (moreR m)).pic = (R0 ++ rest) ++ (wrp (sp ((Tr.table (h + 1) w m).bx.1 - 2)) :: R0) ∧ (R0.length : Int) = rowU (fun i j => (m i j).bx) 0 + rowD (fun i j => (m i j).bx) 0 + 1 := by
  have n2 := fun i j => (m i j).bx_nn (W.2.2 i j)
  have nn : ∀ i j, 0 ≤ (m i j).bx.1 ∧ 0 ≤ (m i j).bx.2.1 ∧ 0 ≤ (m i j).bx.2.2 := fun i j => by have := n2 i j; omega
  have ec : ∀ j, colW (fun i j => (moreR m i j).bx) j = colW (fun i j => (m i j).bx) j := fun j => by
    rw [show (fun i j => (moreR m i j).bx) = moreR (fun i j => (m i j).bx) from funext fun i => funext fun j => more_bx i j]
    exact more_colW nn j
  have em : (fun i j => (moreR m i j).bx) = moreR (fun i j => (m i j).bx) := funext fun i => funext fun j => more_bx i j
  have dim := row_dim (w := w) W.2.1.1 (q := fun j => (m 0 j).pic) (b := fun j => (m 0 j).bx) (C := fun j => colW (fun i j => (m i j).bx) j) (U := rowU (fun i j => (m i j).bx) 0) (D := rowD (fun i j => (m i j).bx) 0)
    (maxI_fl fun j => (nn 0 j).2.1) (maxI_fl fun j => (nn 0 j).2.2) (fun j => (m 0 j).pic_dim (W.2.2 0 j)) (fun j => (nn 0 j).1) (fun j => le_maxI_fl (f := fun j => (m 0 j).bx.2.1) j) (fun j => le_maxI_fl (f := fun j => (m 0 j).bx.2.2) j) (fun j => le_maxI_fl (f := fun i => (m i j).bx.1) 0)
  have bw : (Tr.table (h + 1) w m).bx.1 - 2 = (fl w fun j => colW (fun i j => (m i j).bx) j).sum + 2 * ((w : Int) - 1) := by simp only [Tr.bx, tabW]; omega
  refine ⟨(besd (rowPics (fun j => (m 0 j).pic) (fun j => (m 0 j).bx) (fun j => colW (fun i j => (m i j).bx) j) (rowU (fun i j => (m i j).bx) 0) (rowD (fun i j => (m i j).bx) 0))).map wrp, ?_, ?_⟩
  · exact ((fl h fun k => (if 0 < (k.succ).1 then blk ((fl w fun j => colW (fun i j => (m i j).bx) j).sum + 2 * ((w : Int) - 1)) 1 else []) ++ besd (rowPics (fun j => (m k.succ j).pic) (fun j => (m k.succ j).bx) (fun j => colW (fun i j => (m i j).bx) j) (rowU (fun i j => (m i j).bx) k.succ) (rowD (fun i j => (m i j).bx) k.succ))).flatten).map wrp
  have e1 : (Tr.table (h + 1) w m).pic = (besd (rowPics (fun j => (m 0 j).pic) (fun j => (m 0 j).bx) (fun j => colW (fun i j => (m i j).bx) j) (rowU (fun i j => (m i j).bx) 0) (rowD (fun i j => (m i j).bx) 0))).map wrp ++ ((fl h fun k => (if 0 < (k.succ).1 then blk ((fl w fun j => colW (fun i j => (m i j).bx) j).sum + 2 * ((w : Int) - 1)) 1 else []) ++ besd (rowPics (fun j => (m k.succ j).pic) (fun j => (m k.succ j).bx) (fun j => colW (fun i j => (m i j).bx) j) (rowU (fun i j => (m i j).bx) k.succ) (rowD (fun i j => (m i j).bx) k.succ))).flatten).map wrp := by
    rw [Tr.pic, fl, List.finRange_succ, List.map_cons, List.flatten_cons, List.map_append, List.map_map]
    rfl
  refine ⟨e1, ?_, by rw [List.length_map]; exact dim.1⟩
  rw [← e1, Tr.pic, fl_last, List.flatten_append, List.map_append]
  have ea : (fl (h + 1) fun (k : Fin (h + 1)) => (if 0 < k.castSucc.1 then blk ((fl w fun j => colW (fun i j => (moreR m i j).bx) j).sum + 2 * ((w : Int) - 1)) 1 else []) ++ besd (rowPics (fun j => (moreR m k.castSucc j).pic) (fun j => (moreR m k.castSucc j).bx) (fun j => colW (fun i j => (moreR m i j).bx) j) (rowU (fun i j => (moreR m i j).bx) k.castSucc) (rowD (fun i j => (moreR m i j).bx) k.castSucc))) =
      (fl (h + 1) fun k => (if 0 < k.1 then blk ((fl w fun j => colW (fun i j => (m i j).bx) j).sum + 2 * ((w : Int) - 1)) 1 else []) ++ besd (rowPics (fun j => (m k j).pic) (fun j => (m k j).bx) (fun j => colW (fun i j => (m i j).bx) j) (rowU (fun i j => (m i j).bx) k) (rowD (fun i j => (m i j).bx) k))) := by
    refine List.map_congr_left fun k _ => ?_
    simp only [more_cast, ec]
    rw [em, more_rowU, more_rowD]
    rfl
  rw [ea]
  have eb : ∀ (a a' c c' : Rows), a = a' → c = c' → a ++ c = a' ++ c' := fun a a' c c' p q => by rw [p, q]
  refine eb _ _ _ _ (by rw [Tr.pic]) ?_
  simp only [more_last, ec]
  rw [em, last_rowU, last_rowD, if_pos (by simp), bw]
  simp only [List.flatten_cons, List.flatten_nil, List.append_nil, List.map_append]
  rfl
/-- its rows' ends -/
theorem tab_ends {h w : Nat} {m : Fin h → Fin w → Tr} {l : List Nat} (hl : l ∈ (Tr.table h w m).pic) : ∃ r, l = 91 :: (r ++ [93]) := by
  rw [Tr.pic] at hl
  obtain ⟨r, _, rfl⟩ := List.mem_map.mp hl
  exact ⟨r, rfl⟩
theorem fl_rev {α : Type} {n : Nat} {f : Fin n → α} : (List.map f (List.finRange n)).reverse = fl n fun i => f i.rev := by
  rw [← List.map_reverse, List.finRange_reverse, List.map_map]
  rfl
end Ly
namespace Ly
/-! ### pictures as families of rows -/
theorem fl_self {α : Type} (l : List α) : l = fl l.length fun i => l[i] := by
  refine List.ext_getElem? fun i => ?_
  rw [List.getElem?_map]
  by_cases h : i < l.length
  · rw [List.getElem?_eq_getElem h, List.getElem?_eq_getElem (by rw [List.length_finRange]; exact h)]; simp
  · rw [List.getElem?_eq_none (by omega), List.getElem?_eq_none (by rw [List.length_finRange]; omega)]; rfl
structure Fam (s : Tr) (n : Nat) (A : Fin n → List Nat) : Prop where
  pic : s.pic = fl n A
  high : (n : Int) = s.bx.high
  wide : ∀ i, ((A i).length : Int) = s.bx.1
theorem pic_fam (s : Tr) (W : s.Wf) : ∃ (n : Nat) (A : Fin n → List Nat), Fam s n A := by
  have d := s.pic_dim W
  exact ⟨s.pic.length, fun i => s.pic[i], fl_self s.pic, d.1, fun i => d.2 _ (List.getElem_mem _)⟩
theorem fl_map {α β : Type} {n : Nat} {f : Fin n → α} {g : α → β} : (fl n f).map g = fl n fun i => g (f i) := by rw [fl, List.map_map]; rfl
theorem zip2_fl {n : Nat} {f g : Fin n → List Nat} : zip2 (fl n f) (fl n g) = fl n fun i => f i ++ g i := by
  rw [zip2, fl, fl, List.zipWith_map]
  have : ∀ l : List (Fin n), List.zipWith (fun x y => f x ++ g y) l l = l.map fun i => f i ++ g i := fun l => by
    induction l with
    | nil => rfl
    | cons a l ih => rw [List.zipWith_cons_cons, ih, List.map_cons]
  exact this _
theorem chrs_zero {c : Nat} {k : Int} (h : k ≤ 0) : chrs c k = [] := by
  unfold chrs
  rw [show k.toNat = 0 by omega]; rfl
theorem pad_same {w : Int} {l : List Nat} (h : (l.length : Int) = w) : pad w l = l := by
  unfold pad
  rw [show w - (l.length : Int) = 0 by omega]
  simp [chrs_zero]
theorem blk_zero {w k : Int} (h : k ≤ 0) : blk w k = [] := by
  unfold blk
  rw [show k.toNat = 0 by omega]; rfl
section
variable {a b : Tr} {n m : Nat} {A : Fin n → List Nat} {B : Fin m → List Nat} (HA : Fam a n A)
include HA
theorem fam_root : (Tr.root a).pic = (32 :: chrs 95 a.bx.1) :: fl n fun i => 124 :: A i := by
  rw [Tr.pic, HA.pic, fl_map, show (Tr.root a).bx.1 - 1 = a.bx.1 by simp only [Tr.bx]; omega]
theorem fam_held : (Tr.held a).pic = fl n fun i => 40 :: (A i ++ [41]) := by rw [Tr.pic, HA.pic, fl_map]
theorem fam_table : (Tr.table 1 1 fun _ _ => a).pic = fl n fun i => 91 :: (A i ++ [93]) := by
  have h1 : colW (fun (_ : Fin 1) (_ : Fin 1) => a.bx) 0 = a.bx.1 := rfl
  have h2 : rowU (fun (_ : Fin 1) (_ : Fin 1) => a.bx) 0 = a.bx.2.1 := rfl
  have h3 : rowD (fun (_ : Fin 1) (_ : Fin 1) => a.bx) 0 = a.bx.2.2 := rfl
  have e : (List.finRange 1) = [(0 : Fin 1)] := rfl
  rw [Tr.pic, fl, e]
  simp only [rowPics, fl, e, List.map_cons, List.map_nil, List.flatten_cons, List.flatten_nil, List.append_nil, h1, h2, h3, List.dropLast_cons₂, List.dropLast_singleton, besd, List.foldl_nil]
  rw [rais, blk_zero (k := a.bx.2.1 - a.bx.2.1) (by omega), blk_zero (k := a.bx.2.2 - a.bx.2.2) (by omega)]
  simp only [Fin.isValue, Fin.val_zero, Nat.lt_irrefl, if_false, List.nil_append, List.append_nil, List.map_map]
  rw [HA.pic, fl_map]
  refine List.map_congr_left fun i _ => ?_
  simp only [Function.comp]
  rw [pad_same (HA.wide i)]
variable (HB : Fam b m B)
include HB
theorem fam_over : (Tr.over a b).pic = (fl n fun i => pad (max a.bx.1 b.bx.1 + 2) (A i)) ++ [chrs 45 (max a.bx.1 b.bx.1 + 2)] ++ fl m fun i => pad (max a.bx.1 b.bx.1 + 2) (B i) := by
  rw [Tr.pic, HA.pic, HB.pic, fl_map, fl_map]; rfl
theorem fam_scU : (Tr.scU a b).pic = (fl m fun i => sp a.bx.1 ++ B i) ++ fl n fun i => A i ++ sp b.bx.1 := by
  have e : (Tr.scU a b).bx.1 - a.bx.1 = b.bx.1 := by simp only [Tr.bx]; omega
  rw [Tr.pic, e, HA.pic, HB.pic, fl_map, fl_map, zip2_fl]
  congr 1
  refine List.map_congr_left fun i _ => ?_
  rw [HB.wide i, show b.bx.1 - b.bx.1 = 0 by omega, show sp 0 = [] from rfl, List.append_nil]
theorem fam_scD : (Tr.scD a b).pic = (fl n fun i => A i ++ sp b.bx.1) ++ fl m fun i => sp a.bx.1 ++ B i := by
  have e : (Tr.scD a b).bx.1 - a.bx.1 = b.bx.1 := by simp only [Tr.bx]; omega
  rw [Tr.pic, e, HA.pic, HB.pic, fl_map, fl_map, zip2_fl]
  congr 1
  refine List.map_congr_left fun i _ => ?_
  rw [HB.wide i, show b.bx.1 - b.bx.1 = 0 by omega, show sp 0 = [] from rfl, List.append_nil]
theorem fam_scB : (Tr.scB a b b).pic = (fl m fun i => sp a.bx.1 ++ B i) ++ (fl n fun i => A i ++ sp b.bx.1) ++ fl m fun i => sp a.bx.1 ++ B i := by
  have e : (Tr.scB a b b).bx.1 - a.bx.1 = b.bx.1 := by simp only [Tr.bx]; omega
  have q : (fl m B).map (fun l => sp a.bx.1 ++ l ++ sp (b.bx.1 - (l.length : Nat))) = fl m fun i => sp a.bx.1 ++ B i := by
    rw [fl_map]
    refine List.map_congr_left fun i _ => ?_
    rw [HB.wide i, show b.bx.1 - b.bx.1 = 0 by omega, show sp 0 = [] from rfl, List.append_nil]
  rw [Tr.pic, e, HA.pic, HB.pic, q, fl_map, zip2_fl]
end
/-- a held one, a sign and a word of one letter -/
theorem fam_chain {a : Tr} {n : Nat} {A : Fin n → List Nat} (HA : Fam a n A) (W : a.Wf) {c d : Nat} : (Tr.chain a 1 (fun _ => c) fun _ => .word [d]).pic = fl n fun i => A i ++ (if (i.1 : Int) = a.bx.2.1 then [32, c, 32, d] else [32, 32, 32, 32]) := by
  have nn := a.bx_nn W
  have e : (List.finRange 1) = [(0 : Fin 1)] := rfl
  have eu : (Tr.chain a 1 (fun _ => c) fun _ => .word [d]).bx.2.1 = a.bx.2.1 := by
    simp only [Tr.bx, fl, e, List.map_cons, List.map_nil, maxI]; omega
  have ed : (Tr.chain a 1 (fun _ => c) fun _ => .word [d]).bx.2.2 = a.bx.2.2 := by
    simp only [Tr.bx, fl, e, List.map_cons, List.map_nil, maxI]; omega
  rw [Tr.pic, eu, ed, fl, e]
  simp only [List.map_cons, List.map_nil, List.flatten_cons, List.flatten_nil, List.append_nil, besd, List.foldl_cons, List.foldl_nil, Tr.pic, Tr.bx]
  have hh := HA.high
  simp only [Bx.high] at hh
  have r0 : rais a.pic a.bx a.bx.2.1 a.bx.2.2 = fl n A := by
    rw [rais, blk_zero (by omega), blk_zero (by omega), List.nil_append, List.append_nil, HA.pic]
  have r1 : blk 3 a.bx.2.1 ++ [[32, c, 32]] ++ blk 3 a.bx.2.2 = fl n fun i => if (i.1 : Int) = a.bx.2.1 then [32, c, 32] else [32, 32, 32] := by
    refine List.ext_getElem? fun i => ?_
    obtain ⟨u, hu⟩ : ∃ u : Nat, a.bx.2.1 = u := ⟨a.bx.2.1.toNat, by omega⟩
    obtain ⟨v, hv⟩ : ∃ v : Nat, a.bx.2.2 = v := ⟨a.bx.2.2.toNat, by omega⟩
    rw [hu, hv, List.getElem?_map]
    have hn : n = u + v + 1 := by omega
    subst hn
    simp only [blk, Int.toNat_natCast]
    have s3 : sp 3 = [32, 32, 32] := rfl
    by_cases h1 : i < u
    · rw [List.append_assoc, List.getElem?_append_left (by rw [List.length_replicate]; exact h1), List.getElem?_replicate, if_pos h1, List.getElem?_eq_getElem (by rw [List.length_finRange]; omega), s3]
      simp
      intro q; omega
    · by_cases h2 : i = u
      · subst h2
        rw [List.append_assoc, List.getElem?_append_right (by simp), List.getElem?_eq_getElem (l := List.finRange _) (by rw [List.length_finRange]; omega)]
        simp
      · by_cases h3 : i < u + v + 1
        · rw [List.getElem?_append_right (by simp; omega), List.getElem?_replicate, if_pos (by simp; omega), List.getElem?_eq_getElem (l := List.finRange _) (by rw [List.length_finRange]; omega), s3]
          simp
          intro q; omega
        · rw [List.getElem?_eq_none (by simp; omega), List.getElem?_eq_none (l := List.finRange _) (by rw [List.length_finRange]; omega)]; rfl
  have r2 : rais [[d]] ((([d] : List Nat).length : Int), 0, 0) a.bx.2.1 a.bx.2.2 = fl n fun i => if (i.1 : Int) = a.bx.2.1 then [d] else [32] := by
    rw [rais]
    refine List.ext_getElem? fun i => ?_
    obtain ⟨u, hu⟩ : ∃ u : Nat, a.bx.2.1 = u := ⟨a.bx.2.1.toNat, by omega⟩
    obtain ⟨v, hv⟩ : ∃ v : Nat, a.bx.2.2 = v := ⟨a.bx.2.2.toNat, by omega⟩
    rw [hu, hv, List.getElem?_map]
    have hn : n = u + v + 1 := by omega
    subst hn
    simp only [blk, Int.sub_zero, Int.toNat_natCast]
    have s3 : sp ((([d] : List Nat).length : Nat) : Int) = [32] := rfl
    by_cases h1 : i < u
    · rw [List.append_assoc, List.getElem?_append_left (by rw [List.length_replicate]; exact h1), List.getElem?_replicate, if_pos h1, List.getElem?_eq_getElem (by rw [List.length_finRange]; omega), s3]
      simp
      intro q; omega
    · by_cases h2 : i = u
      · subst h2
        rw [List.append_assoc, List.getElem?_append_right (by simp), List.getElem?_eq_getElem (l := List.finRange _) (by rw [List.length_finRange]; omega)]
        simp
      · by_cases h3 : i < u + v + 1
        · rw [List.getElem?_append_right (by simp; omega), List.getElem?_replicate, if_pos (by simp; omega), List.getElem?_eq_getElem (l := List.finRange _) (by rw [List.length_finRange]; omega), s3]
          simp
          intro q; omega
        · rw [List.getElem?_eq_none (by simp; omega), List.getElem?_eq_none (l := List.finRange _) (by rw [List.length_finRange]; omega)]; rfl
  rw [r0, r1, r2, zip2_fl, zip2_fl]
  refine List.map_congr_left fun i _ => ?_
  split <;> simp
theorem Fam.held {a : Tr} {n : Nat} {A : Fin n → List Nat} (HA : Fam a n A) : Fam (.held a) n fun i => 40 :: (A i ++ [41]) := ⟨fam_held HA, HA.high, fun i => by have := HA.wide i; simp only [Tr.bx, List.length_cons, List.length_append, List.length_nil]; omega⟩
end Ly
namespace Ly
/-! ### the signs of a picture -/
def AllC (P : Nat → Prop) (p : Rows) : Prop := ∀ l ∈ p, ∀ c ∈ l, P c
section
variable {P : Nat → Prop} {p q : Rows}
theorem chrs_mem {c d : Nat} {k : Int} (h : d ∈ chrs c k) : d = c := List.eq_of_mem_replicate h
theorem AllC.app (a : AllC P p) (b : AllC P q) : AllC P (p ++ q) := fun l hl => (List.mem_append.mp hl).elim (a l) (b l)
theorem AllC.map {f : List Nat → List Nat} (a : AllC P p) (h : ∀ l, (∀ c ∈ l, P c) → ∀ c ∈ f l, P c) : AllC P (p.map f) := fun l hl => by
  obtain ⟨x, hx, rfl⟩ := List.mem_map.mp hl
  exact h x (a x hx)
theorem AllC.zip2 (a : AllC P p) (b : AllC P q) : AllC P (zip2 p q) := fun l hl => by
  obtain ⟨i, hi, rfl⟩ := List.mem_iff_getElem.mp hl
  simp only [Ly.zip2, List.length_zipWith] at hi
  simp only [Ly.zip2, List.getElem_zipWith]
  intro c hc
  rcases List.mem_append.mp hc with hc | hc
  · exact a _ (List.getElem_mem _) c hc
  · exact b _ (List.getElem_mem _) c hc
theorem AllC.fold : ∀ {ps : List Rows} {p : Rows}, AllC P p → (∀ q ∈ ps, AllC P q) → AllC P (ps.foldl Ly.zip2 p)
  | [], p, a, _ => a
  | q :: ps, p, a, h => by
    rw [List.foldl_cons]
    exact AllC.fold (ps := ps) (a.zip2 (h q List.mem_cons_self)) fun r hr => h r (List.mem_cons_of_mem _ hr)
theorem AllC.besd {ps : List Rows} (h : ∀ q ∈ ps, AllC P q) : AllC P (besd ps) := by
  cases ps with
  | nil => exact fun l hl => by simp [Ly.besd] at hl
  | cons p ps => exact AllC.fold (h p List.mem_cons_self) fun q hq => h q (List.mem_cons_of_mem _ hq)
variable (h32 : P 32)
include h32
theorem AllC.blk {w k : Int} : AllC P (blk w k) := fun l hl c hc => by
  rw [List.eq_of_mem_replicate hl] at hc
  rw [chrs_mem hc]; exact h32
theorem AllC.rais {b : Bx} {u d : Int} (a : AllC P p) : AllC P (rais p b u d) := ((AllC.blk h32).app a).app (AllC.blk h32)
theorem pad_chars {w : Int} {l : List Nat} (h : ∀ c ∈ l, P c) : ∀ c ∈ pad w l, P c := fun c hc => by
  simp only [pad, List.mem_append] at hc
  rcases hc with (hc | hc) | hc
  · rw [chrs_mem hc]; exact h32
  · exact h c hc
  · rw [chrs_mem hc]; exact h32
end
/-- all letters and signs of a sum -/
def Tr.Chr (P : Nat → Prop) : Tr → Prop
  | .word x => ∀ c ∈ x, P c
  | .held a => a.Chr P
  | .root a => a.Chr P
  | .over a b => a.Chr P ∧ b.Chr P
  | .scU a u => a.Chr P ∧ u.Chr P
  | .scD a d => a.Chr P ∧ d.Chr P
  | .scB a u d => a.Chr P ∧ u.Chr P ∧ d.Chr P
  | .chain a n g p => a.Chr P ∧ ∀ i, P (g i) ∧ (p i).Chr P
  | .table h w m => ∀ i j, (m i j).Chr P
theorem Tr.pic_chars {P : Nat → Prop} (hm : ∀ c ∈ [32, 95, 124, 45, 40, 41, 91, 93], P c) : ∀ s : Tr, s.Chr P → AllC P s.pic := fun s => by
  have h32 : P 32 := hm 32 (by decide)
  have side : ∀ (l : List Nat) (x y : Int), (∀ c ∈ l, P c) → ∀ c ∈ sp x ++ l ++ sp y, P c := fun l x y h c hc => by
    simp only [List.mem_append] at hc
    rcases hc with (hc | hc) | hc
    · rw [chrs_mem hc]; exact h32
    · exact h c hc
    · rw [chrs_mem hc]; exact h32
  have blank : ∀ (p : Rows) (x : Int), AllC P (p.map fun _ => sp x) := fun p x l hl c hc => by
    obtain ⟨_, _, rfl⟩ := List.mem_map.mp hl
    rw [chrs_mem hc]; exact h32
  induction s with
  | word x =>
    intro C l hl
    have : l = x := by simpa [Tr.pic] using hl
    rw [this]; exact C
  | held a ih =>
    intro C
    exact (ih C).map fun l h c hc => by
      simp only [List.mem_cons, List.mem_append, List.not_mem_nil, or_false] at hc
      rcases hc with rfl | hc | rfl
      · exact hm _ (by decide)
      · exact h c hc
      · exact hm _ (by decide)
  | root a ih =>
    intro C l hl
    rw [Tr.pic] at hl
    rcases List.mem_cons.mp hl with rfl | hl
    · intro c hc
      rcases List.mem_cons.mp hc with rfl | hc
      · exact h32
      · rw [chrs_mem hc]; exact hm _ (by decide)
    · exact (ih C).map (f := fun l => 124 :: l) (fun l h c hc => by
        rcases List.mem_cons.mp hc with rfl | hc
        · exact hm _ (by decide)
        · exact h c hc) l hl
  | over a b i1 i2 =>
    intro C
    refine (((i1 C.1).map fun l h => pad_chars h32 h).app ?_).app ((i2 C.2).map fun l h => pad_chars h32 h)
    intro l hl c hc
    rw [List.mem_singleton.mp hl] at hc
    rw [chrs_mem hc]; exact hm _ (by decide)
  | scU a u i1 i2 => exact fun C => ((i2 C.2).map fun l h => side l _ _ h).app ((i1 C.1).zip2 (blank _ _))
  | scD a d i1 i2 => exact fun C => ((i1 C.1).zip2 (blank _ _)).app ((i2 C.2).map fun l h => side l _ _ h)
  | scB a u d i1 i2 i3 => exact fun C => (((i2 C.2.1).map fun l h => side l _ _ h).app ((i1 C.1).zip2 (blank _ _))).app ((i3 C.2.2).map fun l h => side l _ _ h)
  | chain a n g p i1 i2 =>
    intro C
    rw [Tr.pic]
    refine AllC.besd fun q hq => ?_
    rcases List.mem_cons.mp hq with rfl | hq
    · exact (i1 C.1).rais h32
    · obtain ⟨r, hr, hq⟩ := List.mem_flatten.mp hq
      obtain ⟨i, _, rfl⟩ := List.mem_map.mp hr
      simp only [List.mem_cons, List.not_mem_nil, or_false] at hq
      rcases hq with rfl | rfl
      · refine ((AllC.blk h32).app ?_).app (AllC.blk h32)
        intro l hl c hc
        rw [List.mem_singleton.mp hl] at hc
        simp only [List.mem_cons, List.not_mem_nil, or_false] at hc
        rcases hc with rfl | rfl | rfl
        · exact h32
        · exact (C.2 i).1
        · exact h32
      · exact (i2 i (C.2 i).2).rais h32
  | table h w m i1 =>
    intro C
    rw [Tr.pic]
    refine AllC.map (f := fun l => 91 :: (l ++ [93])) ?_ fun l h c hc => by
      simp only [List.mem_cons, List.mem_append, List.not_mem_nil, or_false] at hc
      rcases hc with rfl | hc | rfl
      · exact hm _ (by decide)
      · exact h c hc
      · exact hm _ (by decide)
    intro l hl
    obtain ⟨r, hr, hl⟩ := List.mem_flatten.mp hl
    obtain ⟨k, _, rfl⟩ := List.mem_map.mp hr
    refine AllC.app ?_ ?_ l hl
    · split
      · exact AllC.blk h32
      · exact fun l hl => by simp at hl
    · refine AllC.besd fun q hq => ?_
      have hq := List.dropLast_subset _ hq
      obtain ⟨r, hr, hq⟩ := List.mem_flatten.mp hq
      obtain ⟨j, _, rfl⟩ := List.mem_map.mp hr
      simp only [List.mem_cons, List.not_mem_nil, or_false] at hq
      rcases hq with rfl | rfl
      · exact ((i1 k j (C k j)).rais h32).map fun l h => pad_chars h32 h
      · exact AllC.blk h32
theorem Tr.Dr.chr {P : Nat → Prop} (ha : ∀ x ∈ atoms, ∀ c ∈ x, P c) (hs : ∀ c ∈ sgns, P c) : ∀ {s : Tr}, s.Dr → s.Chr P := fun {s} => by
  induction s with
  | word x => exact fun D => ha x D
  | held a ih => exact ih
  | root a ih => exact ih
  | over a b i1 i2 => exact fun h => ⟨i1 h.1, i2 h.2⟩
  | scU a u i1 i2 => exact fun h => ⟨i1 h.2.1, i2 h.2.2⟩
  | scD a d i1 i2 => exact fun h => ⟨i1 h.2.1, i2 h.2.2⟩
  | scB a u d i1 i2 i3 => exact fun h => ⟨i1 h.2.1, i2 h.2.2.1, i3 h.2.2.2⟩
  | chain a n g p i1 i2 => exact fun h => ⟨i1 h.2.1.2, fun i => ⟨hs _ (h.2.2 i).1, i2 i (h.2.2 i).2.2⟩⟩
  | table h w m i1 => exact fun k => fun i j => i1 i j (k.2.2 i j)
theorem Tr.Dr.chr_of {P : Nat → Prop} (h : ∀ c, 33 ≤ c → c ≤ 126 → P c) {s : Tr} (D : s.Dr) : s.Chr P := D.chr (fun x hx c hc => by
  simp only [atoms, List.mem_cons, List.not_mem_nil, or_false] at hx
  rcases hx with rfl | rfl | rfl | rfl | rfl | rfl <;> (simp only [List.mem_cons, List.not_mem_nil, or_false] at hc; exact h c (by omega) (by omega))) fun c hc => by
  simp only [sgns, List.mem_cons, List.not_mem_nil, or_false] at hc
  exact h c (by omega) (by omega)
/-! ### rows as one text -/
def shw (p : Rows) : List Nat := joinL [] (p.map fun l => cutB [32] l ++ [10])
theorem joinL_nil : ∀ p : Rows, joinL [] p = p.flatten
  | [] => rfl
  | [x] => by simp [joinL]
  | x :: y :: r => by
    show x ++ [] ++ joinL [] (y :: r) = _
    rw [joinL_nil (y :: r), List.append_nil]
    simp
theorem splitL_free' {c : Nat} : ∀ {z : List Nat}, c ∉ z → splitL c z = [z]
  | [], _ => rfl
  | a :: z, h => by
    simp only [List.mem_cons, not_or] at h
    rw [splitL, if_neg (Ne.symm h.1), splitL_free' h.2]
theorem splitL_cut' {c : Nat} {L : List Nat} : ∀ {z : List Nat}, c ∉ z → splitL c (z ++ c :: L) = z :: splitL c L
  | [], _ => by rw [List.nil_append, splitL, if_pos rfl]
  | a :: z, h => by
    simp only [List.mem_cons, not_or] at h
    rw [List.cons_append, splitL, if_neg (Ne.symm h.1), splitL_cut' h.2]
theorem shw_split : ∀ {p : Rows}, AllC (fun c => c ≠ 10) p → splitL 10 (shw p) = (p.map (cutB [32])) ++ [[]]
  | [], _ => rfl
  | l :: p, h => by
    have e : shw (l :: p) = cutB [32] l ++ 10 :: shw p := by
      rw [shw, shw, joinL_nil, joinL_nil, List.map_cons, List.flatten_cons, List.append_assoc]; rfl
    have n : 10 ∉ cutB [32] l := fun q => by
      refine h l List.mem_cons_self 10 ?_ rfl
      unfold cutB at q
      rw [List.mem_reverse] at q
      exact List.mem_reverse.mp ((List.dropWhile_sublist _).subset q)
    rw [e, splitL_cut' n, shw_split fun x hx => h x (List.mem_cons_of_mem _ hx)]
    rfl
end Ly
namespace Ly
open PySem hiding Fin
open PySem.Spec
theorem mt_rstrip {x y : List Nat} : mtF .rstrip (.str x) [.str y] = some (.str (cutB y x)) := prf rfl
theorem mt_lstrip {x y : List Nat} : mtF .lstrip (.str x) [.str y] = some (.str (cutA y x)) := prf rfl
theorem mt_strip {x y : List Nat} : mtF .strip (.str x) [.str y] = some (.str (cutB y (cutA y x))) := prf rfl
theorem mt_join {s : List Nat} {l : List T} {xs : Rows} (h : allStr l = some xs) (z : (xs.map (·.length)).sum + xs.length * s.length ≤ sizeLine) : mtF .join (.str s) [.lst l] = some (.str (joinL s xs)) := by
  simp only [mtF, h]
  rw [if_pos z]
theorem cutB_len {y x : List Nat} : (cutB y x).length ≤ x.length := by
  unfold cutB
  rw [List.length_reverse]
  have := (List.dropWhile_sublist (fun c => y.contains c) (l := x.reverse)).length_le
  rwa [List.length_reverse] at this
theorem fl_rows {α : Type} {l : List α} {f : α → List Nat} : (l.map fun a => T.str (f a)) = rowsT (l.map f) := by rw [rowsT, List.map_map]; rfl
theorem sum_le_mul {l : List Nat} {M : Nat} (h : ∀ x ∈ l, x ≤ M) : l.sum ≤ l.length * M := by
  induction l with
  | nil => simp
  | cons a l ih =>
    rw [List.sum_cons, List.length_cons, Nat.add_mul, Nat.one_mul]
    have := h a List.mem_cons_self
    have := ih fun x hx => h x (List.mem_cons_of_mem _ hx)
    omega
theorem shw_len {h M : Nat} {A : _root_.Fin h → List Nat} (hw : ∀ i, (A i).length ≤ M) : (shw (fl h A)).length ≤ h * (M + 1) := by
  rw [shw, joinL_nil, List.length_flatten]
  have := sum_le_mul (l := ((fl h A).map fun l => cutB [32] l ++ [10]).map List.length) (M := M + 1) fun x hx => by
    obtain ⟨y, hy, rfl⟩ := List.mem_map.mp hx
    obtain ⟨l, hl, rfl⟩ := List.mem_map.mp hy
    obtain ⟨i, _, rfl⟩ := List.mem_map.mp hl
    have := cutB_len (y := [32]) (x := A i)
    have := hw i
    simp only [List.length_append, List.length_cons, List.length_nil]; omega
  rwa [List.length_map, List.length_map, fl_length] at this
theorem if_beq {α : Type} {a b : Int} {x y : α} : (if a = b then x else y) = cond (a == b) x y := by
  by_cases h : a = b
  · rw [if_pos h, beq_iff_eq.mpr h]; rfl
  · rw [if_neg h, beq_eq_false_iff_ne.mpr h]; rfl
/-! == of lists of texts: give dep_lst' dep_tup' deps_app deps_ms deps_cs deps_nil' Nat.max_self er to py -/
theorem dep_lst' {l : List T} : T.dep (.lst l) = T.deps l + 1 := by rw [T.dep]
theorem dep_tup' {l : List T} : T.dep (.tup l) = T.deps l + 1 := by rw [T.dep]
theorem deps_app {a b : List T} : T.deps (a ++ b) = max (T.deps a) (T.deps b) := by
  induction a with
  | nil => simp [T.deps]
  | cons x a ih => rw [List.cons_append, T.deps, T.deps, ih]; exact (Nat.max_assoc _ _ _).symm
theorem deps_ms {α : Type} {l : List α} {f : α → List Nat} : T.deps (l.map fun a => T.str (f a)) = 0 := by
  induction l with
  | nil => rfl
  | cons a l ih => rw [List.map_cons, T.deps, ih]; rfl
theorem deps_cs {x : List Nat} {l : List T} : T.deps (.str x :: l) = T.deps l := by rw [T.deps, dep_s]; exact Nat.zero_max _
theorem deps_nil' : T.deps [] = 0 := rfl
theorem er {l : List T} (h : T.deps l = 0) : T.eqvs l l = true := by
  have d : T.dep (.tup l) < 1000 := by rw [T.dep, h]; decide
  have := T.eqv_self (.tup l) d
  rwa [T.eqv] at this
theorem cond_okS {p : Bool} {α : Type} {a b : α} {S : Store} : cond p (Out.ok a S) (Out.ok b S) = .ok (cond p a b) S := by cases p <;> rfl
theorem cond_someT {p : Bool} {α : Type} {a b : α} : cond p (some a) (some b) = some (cond p a b) := by cases p <;> rfl
theorem cond_strT {p : Bool} {a b : List Nat} : cond p (T.str a) (T.str b) = .str (cond p a b) := by cases p <;> rfl
theorem cond_appL {p : Bool} {a b c : List Nat} : cond p (c ++ a) (c ++ b) = c ++ cond p a b := by cases p <;> rfl
/-- texts put together -/
theorem addS {x y : List Nat} (hx : x.length ≤ 8000000) (hy : y.length ≤ 8000000) : T.add (.str x) (.str y) = some (.str (x ++ y)) := by
  rw [add_s, szL, if_pos (by omega)]
section
variable {tab : List FnI} (P : Pre tab) {n : Nat} {S : Store}
include P
theorem w_shown {s : Tr} {h : Nat} {A : _root_.Fin h → List Nat} (HA : Fam s h A) (hp : ∀ S, callF tab n i_picture [s.toT] S = .ok (.tup (rowsT s.pic)) S) (hw : ∀ i, (A i).length ≤ 10000) (hh : h ≤ 1000) :
    callF tab (n + 1) i_shown [s.toT] S = .ok (.str (shw s.pic)) S := by
  rw [c_shown P]
  rw [HA.pic] at hp ⊢
  simp only [rowsT, fl_map] at hp
  have z : (((fl h A).map fun l => cutB [32] l ++ [10]).map (·.length)).sum + ((fl h A).map fun l => cutB [32] l ++ [10]).length * ([] : List Nat).length ≤ sizeLine := by
    have := sum_le_mul (l := ((fl h A).map fun l => cutB [32] l ++ [10]).map (·.length)) (M := 10001) fun x hx => by
      obtain ⟨y, hy, rfl⟩ := List.mem_map.mp hx
      obtain ⟨l, hl, rfl⟩ := List.mem_map.mp hy
      obtain ⟨i, _, rfl⟩ := List.mem_map.mp hl
      have := cutB_len (y := [32]) (x := A i)
      have := hw i
      simp only [List.length_append, List.length_cons, List.length_nil]; omega
    rw [List.length_map, List.length_map, fl_length] at this
    have : h * 10001 ≤ 1000 * 10001 := Nat.mul_le_mul_right _ hh
    rw [szL]
    simp only [List.length_nil, Nat.mul_zero]
    omega
  have j := mt_join (l := List.map (fun i => T.str (cutB [32] (A i) ++ [10])) (List.finRange h)) (xs := (fl h A).map fun l => cutB [32] l ++ [10]) (by rw [allStr_map, fl_map]) z
  have a : ∀ i, T.add (.str (cutB [32] (A i))) (.str [10]) = some (.str (cutB [32] (A i) ++ [10])) := fun i => by
    have := cutB_len (y := [32]) (x := A i)
    have := hw i
    rw [add_s, szL, if_pos (by simp only [List.length_cons, List.length_nil]; omega)]
  simp! [u_shown, hp, mt_rstrip, a, j, shw]
end
end Ly
namespace K40
open PySem hiding Fin
open PySem.Spec Ly
theorem w_mid {l : List Nat} {w : Int} (hw : w ≤ 1000000) (hl : (l.length : Int) ≤ w) : ∀ S, callF tab 99 i_xlw_middle [.str l, .int w] S = .ok (.str (pad w l)) S := fun S => by
  rw [c_xlw_middle]
  have m1 := mul_s1 (x := 32) (k := (w - (l.length : Int)) / 2) (by omega) (by omega)
  have m2 := mul_s1 (x := 32) (k := w - (w - (l.length : Int)) / 2 - (l.length : Int)) (by omega) (by omega)
  have c1 : ((sp ((w - (l.length : Int)) / 2)).length : Int) = (w - (l.length : Int)) / 2 := chrs_len (by omega)
  have c2 : ((sp (w - (w - (l.length : Int)) / 2 - (l.length : Int))).length : Int) = w - (w - (l.length : Int)) / 2 - (l.length : Int) := chrs_len (by omega)
  have a1 : T.add (.str (sp ((w - (l.length : Int)) / 2))) (.str l) = some (.str (sp ((w - (l.length : Int)) / 2) ++ l)) := by
    rw [add_s, szL, if_pos (by omega)]
  have a2 : T.add (.str (sp ((w - (l.length : Int)) / 2) ++ l)) (.str (sp (w - (w - (l.length : Int)) / 2 - (l.length : Int)))) = some (.str (pad w l)) := by
    rw [add_s, szL, if_pos (by rw [List.length_append]; omega)]
    unfold pad
    rw [show w - (w - (l.length : Int)) / 2 - (l.length : Int) = w - (l.length : Int) - (w - (l.length : Int)) / 2 by omega]
  simp! [u_xlw_middle, m1, m2, a1, a2]
/-- a turn -/
theorem turn (k : Nat) (ns : List Int) (S : Store) (hc : ∀ S, callF tab 99 i_lw_cell [.scr ns, .int ((k % 9 : Nat) : Int)] S = .ok (.int (cellI ns ((k % 9 : Nat) : Int))) S) (x y : Tr) (Dx : x.Dr) (Dy : y.Dr) (hx : x.ht ≤ 3) (hy : y.ht ≤ 3)
    (dx : ∀ S, callF tab 99 i_lw_draw [.int (cellI ns ((k % 9 : Nat) : Int) + 131 * (k : Int)), .int 3] S = .ok x.toT S) (dy : ∀ S, callF tab 99 i_lw_draw [.int (cellI ns ((k % 9 : Nat) : Int) + 131 * (k : Int) + 9), .int 3] S = .ok y.toT S) :
    lpG (lv := []) Lens.n (callF tab 99) (Tg.nm 1) l_law_1 [1, 2, 3, 4, 5, 6, 7, 8, 9, 10, 11, 12, 13, 14, 15, 16] (fun k : Nat => T.int (k : Int)) [.val (.scr ns), .un, .un, .un, .un, .un, .un, .un, .un, .un, .un, .un, .un, .un, .un, .un, .un, .un, .un] k () S = .nx () S := by
  have e9 : ((k : Int) % 9) = ((k % 9 : Nat) : Int) := by omega
  have Wx := Dx.wf
  have Wy := Dy.wf
  obtain ⟨n, A, HA⟩ := pic_fam x Wx
  obtain ⟨m, B, HB⟩ := pic_fam y Wy
  have bx := Tr.Dr.small x Dx 2 hx
  have by' := Tr.Dr.small y Dy 2 hy
  have nx := x.bx_nn Wx
  have ny := y.bx_nn Wy
  rw [show (3 : Int) ^ 2 = 9 by decide, show (4 : Int) ^ 2 = 16 by decide] at bx by'
  have hn := HA.high
  have hm := HB.high
  have wA := HA.wide
  have wB := HB.wide
  simp only [Bx.high] at hn hm
  -- pictures
  have pic : ∀ s : Tr, s.Wf → s.bx.1 ≤ 1000 → s.bx.high ≤ 400 → s.ht ≤ 5 → ∀ S, callF tab 99 i_picture [s.toT] S = .ok (.tup (rowsT s.pic)) S := fun s W h1 h2 h => w_picture pre s W ⟨by omega, by omega⟩ 99 (by omega)
  have p1 := pic x Wx (by omega) (by simp only [Bx.high]; omega) (by omega)
  have p2 := pic y Wy (by omega) (by simp only [Bx.high]; omega) (by omega)
  have pr := pic (.root x) Wx (by simp only [Tr.bx]; omega) (by simp only [Tr.bx, Bx.high]; omega) (by simp only [Tr.ht]; omega)
  have ph := pic (.held x) Wx (by simp only [Tr.bx]; omega) (by simp only [Tr.bx, Bx.high]; omega) (by simp only [Tr.ht]; omega)
  have po := pic (.over x y) ⟨Wx, Wy⟩ (by simp only [Tr.bx]; omega) (by simp only [Tr.bx, Bx.high]; omega) (by simp only [Tr.ht]; omega)
  have pu := pic (.scU (.held x) y) ⟨Wx, Wy⟩ (by simp only [Tr.bx]; omega) (by simp only [Tr.bx, Bx.high]; omega) (by simp only [Tr.ht]; omega)
  have pd := pic (.scD (.held x) y) ⟨Wx, Wy⟩ (by simp only [Tr.bx]; omega) (by simp only [Tr.bx, Bx.high]; omega) (by simp only [Tr.ht]; omega)
  have pb := pic (.scB (.held x) y y) ⟨Wx, Wy, Wy⟩ (by simp only [Tr.bx]; omega) (by simp only [Tr.bx, Bx.high]; omega) (by simp only [Tr.ht]; omega)
  have e1 : (List.finRange 1) = [(0 : _root_.Fin 1)] := rfl
  have pt := pic (.table 1 1 fun _ _ => x) ⟨by omega, by omega, fun _ _ => Wx⟩ (by simp only [Tr.bx, tabW, fl, e1, colW, List.map_cons, List.map_nil, maxI, List.sum_cons, List.sum_nil]; omega) (by simp only [Tr.bx, Bx.high, tabH, fl, e1, rowU, rowD, List.map_cons, List.map_nil, maxI, List.sum_cons, List.sum_nil]; omega) (by simp only [Tr.ht, fl, e1, List.map_cons, List.map_nil, maxN, List.foldr]; omega)
  have pc := pic (.chain (.held x) 1 (fun _ => 42) fun _ => .word [120]) ⟨by omega, Wx, fun _ => by simp [Tr.Wf]⟩ (by simp only [Tr.bx, fl, e1, List.map_cons, List.map_nil, List.length_cons, List.length_nil, List.sum_cons, List.sum_nil]; omega) (by simp only [Tr.bx, Bx.high, fl, e1, List.map_cons, List.map_nil, maxI]; omega) (by simp only [Tr.ht, fl, e1, List.map_cons, List.map_nil, maxN, List.foldr]; omega)
  have sh := fun S => w_shown pre (n := 98) (S := S) HA (fun S => w_picture pre x Wx (Dx.ft (by omega)) 98 (by omega) S) (fun i => by have := wA i; omega) (by omega)
  have bo := w_box pre x Wx 99 (by omega)
  -- as families
  have i0 : 0 < n := by omega
  have j0 : 0 < m := by omega
  have hh : (Tr.held x).bx.1 = x.bx.1 + 2 := rfl
  have hu : (Tr.held x).bx.2.1 = x.bx.2.1 := rfl
  rw [HA.pic, rowsT, fl_map] at p1
  rw [HB.pic, rowsT, fl_map] at p2
  rw [fam_root HA, rowsT, List.map_cons, fl_map] at pr
  rw [fam_held HA, rowsT, fl_map] at ph
  rw [fam_over HA HB, rowsT, List.map_append, List.map_append, fl_map, fl_map] at po
  rw [fam_scU HA.held HB, rowsT, List.map_append, fl_map, fl_map, hh] at pu
  rw [fam_scD HA.held HB, rowsT, List.map_append, fl_map, fl_map, hh] at pd
  rw [fam_scB HA.held HB, rowsT, List.map_append, List.map_append, fl_map, fl_map, hh] at pb
  rw [fam_table HA, rowsT, fl_map] at pt
  rw [fam_chain HA.held Wx, rowsT, fl_map, hu] at pc
  have spl : mtF .split (.str (shw x.pic)) [.str [10]] = some (.lst ((fl n fun i => T.str (cutB [32] (A i))) ++ [.str []])) := by
    have := mt_split (s := shw x.pic) (c := 10) (by
      have := shw_len (A := A) (M := 200) fun i => by have := wA i; omega
      rw [HA.pic, szL]
      have : n * (200 + 1) ≤ 400 * (200 + 1) := Nat.mul_le_mul_right _ (by omega)
      omega)
    rw [this, shw_split (Tr.pic_chars (by decide) x (Dx.chr_of fun c h1 h2 => by omega)), HA.pic, fl_map, List.map_append, fl_map]
    rfl
  simp only [Tr.toT, boxT] at pr ph po pu pd pb pt pc bo
  simp only [fl, e1, List.map_cons, List.map_nil] at pt pc
  have g0 : T.sub? (.tup (List.map (fun i => T.str (A i)) (List.finRange n))) (.int 0) = some (.str (A ⟨0, i0⟩)) := sub_tk (i := 0) (by
    rw [List.getElem?_map, List.getElem?_eq_getElem (by rw [List.length_finRange]; exact i0)]; simp)
  have g1 : T.sub? (.tup (List.map (fun i => T.str (B i)) (List.finRange m))) (.int 0) = some (.str (B ⟨0, j0⟩)) := sub_tk (i := 0) (by
    rw [List.getElem?_map, List.getElem?_eq_getElem (by rw [List.length_finRange]; exact j0)]; simp)
  -- texts
  have cl : ∀ (c : Nat) (k : Int), 0 ≤ k → ((chrs c k).length : Int) = k := fun c k h => chrs_len h
  have m95 : T.mul (.str [95]) (.int x.bx.1) = some (.str (chrs 95 x.bx.1)) := mul_s1 (by omega) (by omega)
  have m45 : T.mul (.str [45]) (.int (max x.bx.1 y.bx.1 + 2)) = some (.str (chrs 45 (max x.bx.1 y.bx.1 + 2))) := mul_s1 (by omega) (by omega)
  have m32 : T.mul (.str [32]) (.int (x.bx.1 + 2)) = some (.str (sp (x.bx.1 + 2))) := mul_s1 (by omega) (by omega)
  have m33 : T.mul (.str [32]) (.int y.bx.1) = some (.str (sp y.bx.1)) := mul_s1 (by omega) (by omega)
  have mA : ∀ i S, callF tab 99 i_xlw_middle [.str (A i), .int (max x.bx.1 y.bx.1 + 2)] S = .ok (.str (pad (max x.bx.1 y.bx.1 + 2) (A i))) S := fun i => w_mid (by omega) (by rw [wA i]; omega)
  have mB : ∀ i S, callF tab 99 i_xlw_middle [.str (B i), .int (max x.bx.1 y.bx.1 + 2)] S = .ok (.str (pad (max x.bx.1 y.bx.1 + 2) (B i))) S := fun i => w_mid (by omega) (by rw [wB i]; omega)
  have c95 := cl 95 x.bx.1 (by omega)
  have c1 := cl 32 (x.bx.1 + 2) (by omega)
  have c2 := cl 32 y.bx.1 (by omega)
  have a0 : T.add (.str [32]) (.str (chrs 95 x.bx.1)) = some (.str (32 :: chrs 95 x.bx.1)) := addS (by simp) (by omega)
  have a1 : ∀ i, T.add (.str [40]) (.str (A i)) = some (.str (40 :: A i)) := fun i => addS (by simp) (by have := wA i; omega)
  have a2 : ∀ i, T.add (.str (40 :: A i)) (.str [41]) = some (.str (40 :: (A i ++ [41]))) := fun i => addS (by have := wA i; simp only [List.length_cons]; omega) (by simp)
  have a3 : ∀ i, T.add (.str [124]) (.str (A i)) = some (.str (124 :: A i)) := fun i => addS (by simp) (by have := wA i; omega)
  have a4 : ∀ i, T.add (.str (sp (x.bx.1 + 2))) (.str (B i)) = some (.str (sp (x.bx.1 + 2) ++ B i)) := fun i => addS (by show (chrs 32 _).length ≤ _; omega) (by have := wB i; omega)
  have hl : ∀ i, (40 :: (A i ++ [41])).length ≤ 8000000 := fun i => by have := wA i; simp only [List.length_cons, List.length_append, List.length_nil]; omega
  have a5 : ∀ i, T.add (.str (40 :: (A i ++ [41]))) (.str (sp y.bx.1)) = some (.str (40 :: (A i ++ [41]) ++ sp y.bx.1)) := fun i => addS (hl i) (by show (chrs 32 _).length ≤ _; omega)
  have a6 : ∀ i, T.add (.str [91]) (.str (A i)) = some (.str (91 :: A i)) := fun i => addS (by simp) (by have := wA i; omega)
  have a7 : ∀ i, T.add (.str (91 :: A i)) (.str [93]) = some (.str (91 :: (A i ++ [93]))) := fun i => addS (by have := wA i; simp only [List.length_cons]; omega) (by simp)
  have a8 : ∀ i, T.add (.str (40 :: (A i ++ [41]))) (.str [32, 42, 32, 120]) = some (.str (40 :: (A i ++ [41]) ++ [32, 42, 32, 120])) := fun i => addS (hl i) (by simp)
  have a9 : ∀ i, T.add (.str (40 :: (A i ++ [41]))) (.str [32, 32, 32, 32]) = some (.str (40 :: (A i ++ [41]) ++ [32, 32, 32, 32])) := fun i => addS (hl i) (by simp)
  have q1 : 1 + n ≤ 16777216 := by omega
  have q1' : n ≤ 16777215 := by omega
  have q2 : n + 1 + m ≤ 16777216 := by omega
  have q3 : m + n ≤ 16777216 := by omega
  have q4 : n + m ≤ 16777216 := by omega
  have q5 : m + n + m ≤ 16777216 := by omega
  have lc : ∀ i (p : Bool), (A i).length + 1 + 1 + (cond p [32, 42, 32, 120] [32, 32, 32, 32] : List Nat).length ≤ 16777216 := fun i p => by
    have := wA i
    cases p <;> (simp only [cond, List.length_cons, List.length_nil]; omega)
  simp only [if_beq] at pc
  simp! [u_law_1, e9, hc, dx, dy, p1, p2, g0, g1, wA, wB, a0, a1, a2, a3, m95, List.length_finRange, q1, pr, ph, dep_lst', dep_tup', deps_app, deps_ms, deps_cs, deps_nil', Nat.max_self, er,
    mA, mB, m45, q1', q2, po, List.length_append, m32, m33, a4, a5, pu, pd, pb, q3, q4, q5, pt, a6, a7, pc, bo, cond_okS, cond_someT, cond_strT, cond_appL, a8, a9, sh, spl, mt_rstrip, lc]
theorem law_all (ns : List Int) (S : Store) : callF tab 100 i_law [.scr ns] S = .ok (.bl true) S := by
  rw [c_law]
  simp! [u_law, it_rng1, L_law_1]
  rw [forG_unit fun k hk => by
    obtain ⟨x, Dx, hx, dx⟩ := w_draw pre 3 (by decide) (cellI ns ((k % 9 : Nat) : Int) + 131 * (k : Int))
    obtain ⟨y, Dy, hy, dy⟩ := w_draw pre 3 (by decide) (cellI ns ((k % 9 : Nat) : Int) + 131 * (k : Int) + 9)
    exact turn k ns _ (fun S => w_cell pre (n := 98)) x y Dx Dy hx hy (fun S => dx 88 S) fun S => dy 88 S]
  simp! []
theorem law_plain : ∀ ns : List Int, ns.length ≤ 63 → ∃ S', callF tab 100 i_law [.scr ns] [] = .ok (.bl true) S' := fun ns _ => ⟨_, law_all ns _⟩
end K40
namespace K40
open PySem PySem.Spec L2 Ly
open PyProof.Rows hiding St

abbrev R : PySem.W.OpenRow := PySem.W.OpenLaw.row PySem.Challenge.rw_sumlays_k40_whole_around_pictures
def loose : List Str := ([(Str.ofString "__name__"), (Str.ofString "kind"), (Str.ofString "parts"), (Str.ofString "GAP"), (Str.ofString "BETWEEN"), (Str.ofString "rows_of"), (Str.ofString "box_or_none"), (Str.ofString "columns"), (Str.ofString "heights"), (Str.ofString "table_box"), (Str.ofString "box"), (Str.ofString "padded"), (Str.ofString "blanks"), (Str.ofString "raised"), (Str.ofString "beside"), (Str.ofString "chain_picture"), (Str.ofString "script_picture"), (Str.ofString "table_picture"), (Str.ofString "picture"), (Str.ofString "shown"), (Str.ofString "_law_cell"), (Str.ofString "_law_mix"), (Str.ofString "_law_atom"), (Str.ofString "_law_base"), (Str.ofString "_law_item"), (Str.ofString "_law_draw"), (Str.ofString "_law_middle")] : List Str)
def fa : List He.Fa := faOf tb glo exn
abbrev hk : PySem.W.Hook := hookY 4 fa ds glo
def ob (s : PySem.W.SharedT) : AlY := obsYG 4 fa ds glo (HandSHeadRun.getT s)
theorem ob_eq (s : PySem.W.SharedT) : ob s = hk.obs s.abs := obsYG_eq (HandSHeadRun.getT_eq s)
theorem run (w : World) : HandSHeadRun.RunEq R (PySem.W.view R.prog [30]) hk ob 4000 loose w := by
  intro os
  kernel_rfl
end K40
open PySem PySem.W PySem.Calls PyProof.Rows
theorem PySem.Challenge.cw_sumlays_k40_whole_around_pictures_holds : PySem.Challenge.rw_sumlays_k40_whole_around_pictures.Holds := by
  w_on; o_law
  refine HandSHeadRun.head_any (r := OpenLaw.row PySem.Challenge.rw_sumlays_k40_whole_around_pictures) (q := view (OpenLaw.row PySem.Challenge.rw_sumlays_k40_whole_around_pictures).prog [30]) (H := K40.hk) (ob := K40.ob) (M := 4000) (loose := K40.loose) (d := HandSHeadRun.topDef (OpenLaw.row PySem.Challenge.rw_sumlays_k40_whole_around_pictures).prog 30) (kwd := []) K40.ob_eq
    (by kernel_rfl) (fun s => by kernel_rfl) K40.run (by kernel_rfl) (by kernel_rfl) (by kernel_rfl) (by rfl) (by first | assumption | decide +kernel) (by decide +kernel) ⟨rfl, rfl, rfl, rfl, rfl, by decide +kernel⟩ ?hw ?hc
  case hw => w_witness2
  case hc =>
    refine Ly.walk_ofW (l := PySem.Challenge.rw_sumlays_k40_whole_around_pictures) (n := 63) (k := 100) (x := "_law_script") rfl (by decide) (by kernel_rfl) ⟨rfl, by decide, by decide⟩ ?F
    intro w mg fa h Y G hmg0
    obtain ⟨K, KX, c, ct⟩ := Y
    have hmg : mg (K40.h_law).name = some (.ref fa) := by
      have e : (HandSHeadRun.topDef (OpenLaw.row PySem.Challenge.rw_sumlays_k40_whole_around_pictures).prog 30).name = (K40.h_law).name := by kernel_rfl
      rw [← e]
      exact hmg0
    exact ⟨K, KX, Ly.law_def (tab := K40.tb) (n := 100) (li := K40.i_law) (fi := (K40.f_law, K40.h_law)) (x := "_law_script") KX G c ct K40.oks K40.bds (by decide +kernel) rfl rfl hmg K40.law_plain⟩
