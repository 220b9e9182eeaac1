import PyProof.Rows.All
import Wide.All
import OpenK.AllK
import Wide.FinOn
import PySem.Challenge.RW_sumlays_k03_boxes
import HandS.Base
import HandS.Call
import HandS.Ends
import HandS.Words
import HandS.TupMul
import HandS.TupLe
import HandS.List
import HandS.TupAny
import HandS.Text
import HandS.Style
import HandS.StrMore
import HandS.IsInst
import HandS.Comp
import HandS.Exc
import HandS.ExcOwn
import HandS.WordsExc
import HandS.Flow
import HandS.Walk
import HandS.NoneIn
import KE.GoesEnum
import HandS.Iter
import HandS.Zip
import HandS.HeadHook1
import HandS.ExcBuiltin
import HandS.Defaults
import HandS.Head0
import HandS.Head1
import HandS.Head2
import HandS.HeadEnd
import HandS.HeadHook2
import HandS.HeadHook4
set_option Elab.async false
set_option linter.all false
set_option maxRecDepth 100000
set_option maxHeartbeats 0
namespace Ly
open PySem PySem.Spec L2
open PyProof.Rows hiding St

/-- a value as a tree; obj: a thing that changes, by its number in the store -/
inductive T where
  | non | bl (b : Bool) | int (i : Int) | str (x : List Nat) | tup (xs : List T) | lst (xs : List T) | obj (i : Nat) | scr (ns : List Int)

def tx (x : List Nat) : Str := ⟨x.toArray⟩
theorem tx_len (x : List Nat) : (tx x).length = x.length := by simp [tx, Str.length]
theorem tx_inj {x y : List Nat} (h : tx x = tx y) : x = y := by
  have := congrArg Str.cps h
  simpa [tx] using this
theorem tx_list (z : Str) : tx z.cps.toList = z := by cases z; simp [tx]
theorem tx_cps (x : List Nat) : (tx x).cps.toList = x := by simp [tx]

mutual
/-- v is the tree t, over the heap F of what does not change -/
def Rep (K : PySem.W.Frag) (F : Hp) (μ : List Addr) : T → V → Prop
  | .non, v => v = .non
  | .bl b, v => v = .bl b
  | .int i, v => v = .int i
  | .str x, v => v = .str (tx x) ∧ x.length ≤ sizeLine ∧ ∀ c ∈ x, c < 1114112
  | .tup ts, v => ∃ a vs, v = .ref a ∧ SqT K F a vs ∧ ts.length ≤ sizeLine ∧ Reps K F μ ts vs
  | .lst ts, v => ∃ a vs, v = .ref a ∧ F a = some (.lst vs) ∧ ts.length ≤ sizeLine ∧ Reps K F μ ts vs
  | .scr ns, v => ∃ a, v = .ref a ∧ SqL K F a (ns.map V.int) ∧ ns.length ≤ sizeLine
  | .obj i, v => ∃ a, v = .ref a ∧ μ[i]? = some a
def Reps (K : PySem.W.Frag) (F : Hp) (μ : List Addr) : List T → List V → Prop
  | [], vs => vs = []
  | t :: ts, vs => ∃ v r, vs = v :: r ∧ Rep K F μ t v ∧ Reps K F μ ts r
end

theorem Same.seqT {K : PySem.W.Frag} {H H' : Hp} {a : Addr} {xs : List V} (e : Same H H') (h : SqT K H a xs) : SqT K H' a xs := by
  rcases h with (h | ⟨o, h⟩) | h
  · exact .inl (.inl (e _ _ h))
  · exact .inl (.inr ⟨o, e _ _ h⟩)
  · exact .inr h

mutual
theorem Rep.mono {K : PySem.W.Frag} {F F' : Hp} {μ r : List Addr} (s : Same F F') : ∀ (t : T) {v : V}, Rep K F μ t v → Rep K F' (μ ++ r) t v
  | .non, _, h => h
  | .bl _, _, h => h
  | .int _, _, h => h
  | .str _, _, h => h
  | .tup ts, v, h => by
    simp only [Rep] at h ⊢
    obtain ⟨a, vs, e, q, z, rs⟩ := h
    exact ⟨a, vs, e, Same.seqT s q, z, Reps.mono s ts rs⟩
  | .lst ts, v, h => by
    simp only [Rep] at h ⊢
    obtain ⟨a, vs, e, q, z, rs⟩ := h
    exact ⟨a, vs, e, s _ _ q, z, Reps.mono s ts rs⟩
  | .scr ns, v, h => by
    simp only [Rep] at h ⊢
    obtain ⟨a, e, q, z⟩ := h
    exact ⟨a, e, s.seq q, z⟩
  | .obj i, v, h => by
    simp only [Rep] at h ⊢
    obtain ⟨a, e, q⟩ := h
    have hi : i < μ.length := (List.getElem?_eq_some_iff.mp q).1
    exact ⟨a, e, by rw [List.getElem?_append_left hi]; exact q⟩
theorem Reps.mono {K : PySem.W.Frag} {F F' : Hp} {μ r : List Addr} (s : Same F F') : ∀ (ts : List T) {vs : List V}, Reps K F μ ts vs → Reps K F' (μ ++ r) ts vs
  | [], _, h => h
  | t :: ts, vs, h => by
    simp only [Reps] at h ⊢
    obtain ⟨v, rs, e, h1, h2⟩ := h
    exact ⟨v, rs, e, Rep.mono s t h1, Reps.mono s ts h2⟩
end

section
variable {K : PySem.W.Frag} {F : Hp} {μ : List Addr}
theorem Reps.length : ∀ {ts : List T} {vs : List V}, Reps K F μ ts vs → vs.length = ts.length
  | [], _, h => by simp only [Reps] at h; subst h; rfl
  | t :: ts, _, h => by
    simp only [Reps] at h
    obtain ⟨v, r, rfl, _, h2⟩ := h
    simp [Reps.length h2]
theorem Reps.get : ∀ {ts : List T} {vs : List V} {i : Nat} {t : T}, Reps K F μ ts vs → ts[i]? = some t → ∃ v, vs[i]? = some v ∧ Rep K F μ t v
  | [], _, _, _, h, e => by simp at e
  | a :: ts, _, i, t, h, e => by
    simp only [Reps] at h
    obtain ⟨v, r, rfl, h1, h2⟩ := h
    cases i with
    | zero => simp at e; subst e; exact ⟨v, rfl, h1⟩
    | succ i => simpa using Reps.get h2 (by simpa using e)
theorem Reps.nil : Reps K F μ [] [] := by simp [Reps]
theorem Reps.cons {t : T} {ts : List T} {v : V} {vs : List V} (h : Rep K F μ t v) (hs : Reps K F μ ts vs) : Reps K F μ (t :: ts) (v :: vs) := by
  simp only [Reps]; exact ⟨v, vs, rfl, h, hs⟩
theorem Reps.append : ∀ {ts us : List T} {vs ws : List V}, Reps K F μ ts vs → Reps K F μ us ws → Reps K F μ (ts ++ us) (vs ++ ws)
  | [], _, _, _, h, k => by simp only [Reps] at h; subst h; exact k
  | t :: ts, _, _, _, h, k => by
    simp only [Reps] at h
    obtain ⟨v, r, rfl, h1, h2⟩ := h
    exact Reps.cons h1 (Reps.append h2 k)
theorem Reps.take : ∀ {ts : List T} {vs : List V} (n : Nat), Reps K F μ ts vs → Reps K F μ (ts.take n) (vs.take n)
  | _, _, 0, _ => by simp [Reps]
  | [], _, n + 1, h => by simp only [Reps] at h; subst h; simp [Reps]
  | t :: ts, _, n + 1, h => by
    simp only [Reps] at h
    obtain ⟨v, r, rfl, h1, h2⟩ := h
    exact Reps.cons h1 (Reps.take n h2)
theorem Reps.drop : ∀ {ts : List T} {vs : List V} (n : Nat), Reps K F μ ts vs → Reps K F μ (ts.drop n) (vs.drop n)
  | _, _, 0, h => h
  | [], _, n + 1, h => by simp only [Reps] at h; subst h; simp [Reps]
  | t :: ts, _, n + 1, h => by
    simp only [Reps] at h
    obtain ⟨v, r, rfl, h1, h2⟩ := h
    simpa using Reps.drop n h2
theorem Reps.nil_iff {ts : List T} {vs : List V} (h : Reps K F μ ts vs) : vs.isEmpty = ts.isEmpty := by
  have := h.length
  cases ts <;> cases vs <;> simp_all
theorem Reps.set {t : T} {v : V} (q : Rep K F μ t v) : ∀ {ts : List T} {vs : List V} (i : Nat), Reps K F μ ts vs → Reps K F μ (ts.set i t) (vs.set i v)
  | [], _, _, h => by simp only [Reps] at h; subst h; simp [Reps]
  | _ :: ts, _, 0, h => by
    simp only [Reps] at h
    obtain ⟨_, r, rfl, _, h2⟩ := h
    exact Reps.cons q h2
  | _ :: ts, _, i + 1, h => by
    simp only [Reps] at h
    obtain ⟨_, r, rfl, h1, h2⟩ := h
    exact Reps.cons h1 (Reps.set q i h2)
theorem Reps.eraseIdx : ∀ {ts : List T} {vs : List V} (i : Nat), Reps K F μ ts vs → Reps K F μ (ts.eraseIdx i) (vs.eraseIdx i)
  | [], _, _, h => by simp only [Reps] at h; subst h; simp [Reps]
  | _ :: ts, _, 0, h => by
    simp only [Reps] at h
    obtain ⟨_, r, rfl, _, h2⟩ := h
    exact h2
  | _ :: ts, _, i + 1, h => by
    simp only [Reps] at h
    obtain ⟨_, r, rfl, h1, h2⟩ := h
    exact Reps.cons h1 (Reps.eraseIdx i h2)
theorem Reps.reverse : ∀ {ts : List T} {vs : List V}, Reps K F μ ts vs → Reps K F μ ts.reverse vs.reverse
  | [], _, h => by simp only [Reps] at h; subst h; simp [Reps]
  | _ :: ts, _, h => by
    simp only [Reps] at h
    obtain ⟨_, r, rfl, h1, h2⟩ := h
    rw [List.reverse_cons, List.reverse_cons]
    exact Reps.append (Reps.reverse h2) (Reps.cons h1 Reps.nil)
theorem Reps.ints : ∀ {ns : List Int} {vs : List V}, Reps K F μ (ns.map T.int) vs → vs = ns.map V.int
  | [], _, h => by simpa [Reps] using h
  | n :: ns, _, h => by
    simp only [List.map_cons, Reps] at h
    obtain ⟨v, r, rfl, h1, h2⟩ := h
    simp only [Rep] at h1
    rw [h1, Reps.ints h2, List.map_cons]
theorem Reps.of_ints : ∀ (ns : List Int), Reps K F μ (ns.map T.int) (ns.map V.int)
  | [] => by simp [Reps]
  | n :: ns => Reps.cons (by simp [Rep]) (Reps.of_ints ns)
theorem Reps.bls : ∀ {ns : List Bool} {vs : List V}, Reps K F μ (ns.map T.bl) vs → vs = ns.map V.bl
  | [], _, h => by simpa [Reps] using h
  | n :: ns, _, h => by
    simp only [List.map_cons, Reps] at h
    obtain ⟨v, r, rfl, h1, h2⟩ := h
    simp only [Rep] at h1
    rw [h1, Reps.bls h2, List.map_cons]
theorem Reps.strs : ∀ {ns : List (List Nat)} {vs : List V}, Reps K F μ (ns.map T.str) vs → vs = (ns.map tx).map V.str ∧ ∀ x ∈ ns, x.length ≤ sizeLine ∧ ∀ c ∈ x, c < 1114112
  | [], _, h => by refine ⟨by simpa [Reps] using h, by simp⟩
  | n :: ns, _, h => by
    simp only [List.map_cons, Reps] at h
    obtain ⟨v, r, rfl, h1, h2⟩ := h
    simp only [Rep] at h1
    obtain ⟨h3, h4⟩ := Reps.strs h2
    rw [h1.1, h3]
    refine ⟨by simp, fun x hx => ?_⟩
    rcases List.mem_cons.mp hx with rfl | hx
    · exact h1.2
    · exact h4 x hx
end

/-! ### the store -/
/-- what stands at a number of the store -/
inductive Cell where
  | lst (l : List T)
  /-- an instance of the class number c, its fields -/
  | ins (c : Nat) (fs : List (Str × T))
  | dK (kvs : List (Key × T)) | dT (kvs : List (List Key × T))
def Store : Type := List Cell
def Store.len (S : Store) : Nat := List.length S
def Store.at (S : Store) (i : Nat) : Option Cell := (show List Cell from S)[i]?
def Store.put (S : Store) (i : Nat) (c : Cell) : Store := List.set S i c
def Store.add (S : Store) (c : Cell) : Store := List.append S [c]

/-- one slot of a def: not set, a value, a list of its own that it may still change -/
inductive Sl where
  | un | val (t : T) | own (l : List T)
abbrev Lenv := List Sl

/-- from one moment to a later one -/
structure Ext (F H : Hp) (μ : List Addr) (F' H' : Hp) (μ' : List Addr) : Prop where
  ff : Same F F'
  hh : ∀ b u, H b = some u → b ∉ μ → H' b = some u
  hs : ∀ b u, H b = some u → ∃ u', H' b = some u'
  nf : ∀ b u, H b = some u → F b = none → F' b = none
  mm : ∃ r, μ' = μ ++ r
  nw : ∀ a ∈ μ', a ∉ μ → H a = none
theorem Ext.refl {F H : Hp} {μ : List Addr} : Ext F H μ F H μ :=
  ⟨Same.refl _, fun _ _ h _ => h, fun _ u h => ⟨u, h⟩, fun _ _ _ h => h, ⟨[], by simp⟩, fun a h n => absurd h n⟩
theorem Ext.trans {F H F1 H1 F2 H2 : Hp} {μ μ1 μ2 : List Addr} (a : Ext F H μ F1 H1 μ1) (b : Ext F1 H1 μ1 F2 H2 μ2) : Ext F H μ F2 H2 μ2 where
  ff := a.ff.trans b.ff
  hh := fun c u e n => by
    refine b.hh c u (a.hh c u e n) fun hm => ?_
    have := a.nw c hm n
    rw [e] at this; cases this
  hs := fun c u e => by
    obtain ⟨u1, e1⟩ := a.hs c u e
    exact b.hs c u1 e1
  nf := fun c u e n => by
    obtain ⟨u1, e1⟩ := a.hs c u e
    exact b.nf c u1 e1 (a.nf c u e n)
  mm := by
    obtain ⟨r, e⟩ := a.mm
    obtain ⟨r', e'⟩ := b.mm
    exact ⟨r ++ r', by rw [e', e, List.append_assoc]⟩
  nw := fun c hm n => by
    by_cases h1 : c ∈ μ1
    · exact a.nw c h1 n
    · have := b.nw c hm h1
      cases e : H c with
      | none => rfl
      | some u =>
        obtain ⟨u1, e1⟩ := a.hs c u e
        rw [e1] at this; cases this

section
variable {K : PySem.W.Frag}
theorem Ext.rep {F H F' H' : Hp} {μ μ' : List Addr} (x : Ext F H μ F' H' μ') {t : T} {v : V} (h : Rep K F μ t v) : Rep K F' μ' t v := by
  obtain ⟨r, e⟩ := x.mm
  rw [e]
  exact Rep.mono x.ff t h
theorem Ext.reps {F H F' H' : Hp} {μ μ' : List Addr} (x : Ext F H μ F' H' μ') {t : List T} {v : List V} (h : Reps K F μ t v) : Reps K F' μ' t v := by
  obtain ⟨r, e⟩ := x.mm
  rw [e]
  exact Reps.mono x.ff t h

/-- the class's addresses -/
structure Glo where
  K : PySem.W.Frag
  cls : Nat → Addr
  exc : Nat → Addr

/-- what a cell is in the heap -/
def CellR (G : Glo) (F H : Hp) (μ : List Addr) (a : Addr) : Cell → Prop
  | .lst l => ∃ vs, H a = some (.lst vs) ∧ l.length ≤ sizeLine ∧ Reps G.K F μ l vs
  | .ins c fs => ∃ dx vs, H a = some (.ins (G.cls c) dx vs) ∧ H dx = some (.own a) ∧ vs.map (·.1) = fs.map (·.1) ∧ Reps G.K F μ (fs.map (·.2)) (vs.map (·.2)) ∧ F dx = none ∧ dx ∉ μ
  | .dK kvs => ∃ vs, H a = some (.dK vs) ∧ vs.map (·.1) = kvs.map (·.1) ∧ kvs.length ≤ sizeLine ∧ Reps G.K F μ (kvs.map (·.2)) (vs.map (·.2))
  | .dT kvs => ∃ vs, H a = some (.dT vs) ∧ vs.map (·.1) = kvs.map (·.1) ∧ kvs.length ≤ sizeLine ∧ Reps G.K F μ (kvs.map (·.2)) (vs.map (·.2))

/-- the heap as it stands -/
structure Ok (G : Glo) (F H : Hp) (μ : List Addr) (S : Store) : Prop where
  fh : Same F H
  len : S.len = μ.length
  nd : μ.Nodup
  mf : ∀ a ∈ μ, F a = none
  cell : ∀ (i : Nat) c a, S.at i = some c → μ[i]? = some a → CellR G F H μ a c

/-- the slots; H₀ the heap at the def's entry -/
structure EnvR (G : Glo) (H₀ F H : Hp) (μ : List Addr) (ρ : Lenv) (σ : St) : Prop where
  len : ρ.length = σ.length
  val : ∀ (i : Nat) t, ρ[i]? = some (Sl.val t) → ∃ v, σ[i]? = some (some v) ∧ Rep G.K F μ t v
  own : ∀ (i : Nat) l, ρ[i]? = some (Sl.own l) → ∃ a vs, σ[i]? = some (some (.ref a)) ∧ H a = some (.lst vs) ∧ H₀ a = none ∧ F a = none ∧ a ∉ μ ∧ l.length ≤ sizeLine ∧ Reps G.K F μ l vs
  ne : ∀ (i j : Nat) l l', ρ[i]? = some (Sl.own l) → ρ[j]? = some (Sl.own l') → σ[i]? = σ[j]? → i = j

theorem EnvR.ext {G : Glo} {H₀ F H F' H' : Hp} {μ μ' : List Addr} {ρ : Lenv} {σ : St} (e : EnvR G H₀ F H μ ρ σ) (x : Ext F H μ F' H' μ') : EnvR G H₀ F' H' μ' ρ σ where
  len := e.len
  val := fun i t h => by
    obtain ⟨v, h1, h2⟩ := e.val i t h
    exact ⟨v, h1, x.rep h2⟩
  own := fun i l h => by
    obtain ⟨a, vs, h1, h2, h3, h4, h5, h6, h7⟩ := e.own i l h
    refine ⟨a, vs, h1, x.hh a _ h2 h5, h3, x.nf a _ h2 h4, fun hm => ?_, h6, x.reps h7⟩
    have := x.nw a hm h5
    rw [h2] at this; cases this
  ne := e.ne
end

/-! ### what new objects do -/
section
variable {G : Glo} {F H : Hp} {μ : List Addr} {S : Store} {p : Addr} {o : HO}
/-- a thing is laid that will not change -/
theorem Ext.new (s : Same F H) (hp : H p = none) : Ext F H μ (upd F p o) (upd H p o) μ where
  ff := fun b u h => by rw [upd_ne (ne_of_none (s b u h) hp)]; exact h
  hh := fun b u h _ => by rw [upd_ne (ne_of_none h hp)]; exact h
  hs := fun b u h => ⟨u, by rw [upd_ne (ne_of_none h hp)]; exact h⟩
  nf := fun b u h n => by rw [upd_ne (ne_of_none h hp)]; exact n
  mm := ⟨[], by simp⟩
  nw := fun a h n => absurd h n
/-- a thing is laid that may still change: F stays -/
theorem Ext.newH (hp : H p = none) : Ext F H μ F (upd H p o) μ where
  ff := Same.refl _
  hh := fun b u h _ => by rw [upd_ne (ne_of_none h hp)]; exact h
  hs := fun b u h => ⟨u, by rw [upd_ne (ne_of_none h hp)]; exact h⟩
  nf := fun b u h n => n
  mm := ⟨[], by simp⟩
  nw := fun a h n => absurd h n
theorem CellR.stay {F' H' : Hp} {r : List Addr} {a : Addr} {c : Cell} (h : CellR G F H μ a c) (f : Same F F') (k : ∀ b u, H b = some u → (b = a ∨ u = .own a) → H' b = some u) (fd : ∀ b u, H b = some u → F b = none → F' b = none) (nd : ∀ b u, H b = some u → b ∉ r) : CellR G F' H' (μ ++ r) a c := by
  cases c with
  | lst l =>
    obtain ⟨vs, h1, h2, h3⟩ := h
    exact ⟨vs, k _ _ h1 (.inl rfl), h2, Reps.mono f _ h3⟩
  | ins c fs =>
    obtain ⟨dx, vs, h1, h0, h2, h3, h4, h5⟩ := h
    exact ⟨dx, vs, k _ _ h1 (.inl rfl), k _ _ h0 (.inr rfl), h2, Reps.mono f _ h3, fd _ _ h0 h4, by simp [h5, nd _ _ h0]⟩
  | dK kvs =>
    obtain ⟨vs, h1, h2, h3, h4⟩ := h
    exact ⟨vs, k _ _ h1 (.inl rfl), h2, h3, Reps.mono f _ h4⟩
  | dT kvs =>
    obtain ⟨vs, h1, h2, h3, h4⟩ := h
    exact ⟨vs, k _ _ h1 (.inl rfl), h2, h3, Reps.mono f _ h4⟩
theorem CellR.there {a : Addr} {c : Cell} (h : CellR G F H μ a c) : ∃ u, H a = some u := by
  cases c with
  | lst l => obtain ⟨vs, h1, _⟩ := h; exact ⟨_, h1⟩
  | ins c fs => obtain ⟨dx, vs, h1, _⟩ := h; exact ⟨_, h1⟩
  | dK kvs => obtain ⟨vs, h1, _⟩ := h; exact ⟨_, h1⟩
  | dT kvs => obtain ⟨vs, h1, _⟩ := h; exact ⟨_, h1⟩
theorem Ok.there (k : Ok G F H μ S) {a : Addr} (h : a ∈ μ) : ∃ u, H a = some u := by
  obtain ⟨i, hi, e⟩ := List.getElem_of_mem h
  have e' : μ[i]? = some a := List.getElem?_eq_some_iff.mpr ⟨hi, e⟩
  have hl : i < S.len := by rw [k.len]; exact hi
  have : ∃ c, S.at i = some c := ⟨List.get S ⟨i, hl⟩, List.getElem?_eq_getElem hl⟩
  obtain ⟨c, hc⟩ := this
  exact (k.cell i c a hc e').there
theorem Ok.notin (k : Ok G F H μ S) (hp : H p = none) : p ∉ μ := fun h => by
  obtain ⟨u, e⟩ := k.there h
  rw [hp] at e; cases e
/-- a new frozen thing -/
theorem Ok.new (k : Ok G F H μ S) (hp : H p = none) : Ok G (upd F p o) (upd H p o) μ S where
  fh := fun b u e => by
    by_cases h : b = p
    · subst h; rw [upd_same] at e ⊢; exact e
    · rw [upd_ne h] at e ⊢; exact k.fh b u e
  len := k.len
  nd := k.nd
  mf := fun a h => by rw [upd_ne (fun e => k.notin hp (by rw [← e]; exact h))]; exact k.mf a h
  cell := fun i c a h1 h2 => by
    have := (k.cell i c a h1 h2).stay (F' := upd F p o) (H' := upd H p o) (r := []) (Ext.new (μ := μ) k.fh hp).ff (fun b u e _ => (by rw [upd_ne (ne_of_none e hp)]; exact e)) (Ext.new (μ := μ) k.fh hp).nf (fun _ _ _ => by simp)
    simpa using this
/-- a new thing that F does not know -/
theorem Ok.newH (k : Ok G F H μ S) (hp : H p = none) : Ok G F (upd H p o) μ S where
  fh := fun b u e => by rw [upd_ne (ne_of_none (k.fh b u e) hp)]; exact k.fh b u e
  len := k.len
  nd := k.nd
  mf := k.mf
  cell := fun i c a h1 h2 => by
    have := (k.cell i c a h1 h2).stay (F' := F) (H' := upd H p o) (r := []) (Same.refl _) (fun b u e _ => (by rw [upd_ne (ne_of_none e hp)]; exact e)) (fun _ _ _ n => n) (fun _ _ _ => by simp)
    simpa using this
end
end Ly
namespace Ly
open PySem PySem.Spec L2
open PyProof.Rows hiding St

/-! ### results -/
inductive Out (α : Type) where
  | stk | ok (a : α) (S : Store) | exc (c : Nat) (S : Store)
def Out.bind {α β : Type} (o : Out α) (f : α → Store → Out β) : Out β := match o with
  | .stk => .stk
  | .ok a S => f a S
  | .exc c S => .exc c S
def Out.of {α : Type} (o : Option α) (S : Store) : Out α := match o with
  | none => .stk
  | some a => .ok a S
def Out.noX {α : Type} : Out α → Out α
  | .ok a S => .ok a S
  | _ => .stk
def Out.opt {α β : Type} (o : Option α) (f : α → Out β) : Out β := match o with
  | none => .stk
  | some a => f a
abbrev Call := Nat → List T → Store → Out T

/-! ### values -/
inductive BOp where | add | sub | mul | fdv | mod
inductive COp where | eq | ne | lt | le | gt | ge | inn | nin | is | isn
inductive Bi where | len | max | min | sum | all | any | tup | lst | isT | isS | isI | isL | isB
inductive Mt where | join | strip | rstrip | lstrip
inductive SK where | val | rng | enm | zip | rev

def reps {α : Type} (l : List α) (k : Int) : List α := (List.replicate k.toNat l).flatten

def T.add : T → T → Option T
  | .int i, .int j => some (.int (i + j))
  | .str x, .str y => if x.length + y.length ≤ sizeLine then some (.str (x ++ y)) else none
  | .tup x, .tup y => if x.length + y.length ≤ sizeLine then some (.tup (x ++ y)) else none
  | .lst x, .lst y => if x.length + y.length ≤ sizeLine then some (.lst (x ++ y)) else none
  | _, _ => none
def T.sub : T → T → Option T
  | .int i, .int j => some (.int (i - j))
  | _, _ => none
def mulOk (i j : Int) : Bool := (-(2 ^ 64) < i && i < 2 ^ 64) || (-(2 ^ 64) < j && j < 2 ^ 64)
def T.mul : T → T → Option T
  | .int i, .int j => if mulOk i j then some (.int (i * j)) else none
  | .str x, .int k => if x.length * k.toNat ≤ sizeLine ∧ k < 2 ^ 62 ∧ -(2 ^ 62) < k then some (.str (reps x k)) else none
  | .tup x, .int k => if x ≠ [] ∧ x.length ≤ 1000 ∧ k ≤ 1000 ∧ -1000 ≤ k then some (.tup (reps x k)) else none
  | .lst x, .int k => if x.length * k.toNat ≤ sizeLine ∧ k < 2 ^ 62 ∧ -(2 ^ 62) < k then some (.lst (reps x k)) else none
  | _, _ => none
def T.fdv : T → T → Option T
  | .int i, .int j => if 0 < j ∧ j < 1073741824 then some (.int (i / j)) else none
  | _, _ => none
def T.mod : T → T → Option T
  | .int i, .int j => if 0 < j then some (.int (i % j)) else none
  | _, _ => none
def binF : BOp → T → T → Option T
  | .add => T.add | .sub => T.sub | .mul => T.mul | .fdv => T.fdv | .mod => T.mod

mutual
/-- == -/
def T.eqv : T → T → Bool
  | .non, .non => true
  | .bl a, .bl b => a == b
  | .bl a, .int j => (if a then 1 else 0) == j
  | .int i, .bl b => i == (if b then 1 else 0)
  | .int i, .int j => i == j
  | .str x, .str y => x == y
  | .lst xs, .lst ys => T.eqvs xs ys
  | .tup xs, .tup ys => T.eqvs xs ys
  | _, _ => false
def T.eqvs : List T → List T → Bool
  | [], [] => true
  | x :: xs, y :: ys => T.eqv x y && T.eqvs xs ys
  | _, _ => false
end
mutual
/-- how deep; 1000 of what has no == -/
def T.dep : T → Nat
  | .lst xs => T.deps xs + 1
  | .tup xs => T.deps xs + 1
  | .obj _ => 1000
  | .scr _ => 1000
  | _ => 0
def T.deps : List T → Nat
  | [] => 0
  | x :: xs => Nat.max (T.dep x) (T.deps xs)
end
def T.isNon : T → Bool
  | .non => true
  | _ => false
def strLt (x y : List Nat) : Bool := decide (x < y)
def T.lt : T → T → Option Bool
  | .int i, .int j => some (decide (i < j))
  | .str x, .str y => some (strLt x y)
  | _, _ => none
def T.le : T → T → Option Bool
  | .int i, .int j => some (decide (i ≤ j))
  | .str x, .str y => some (!strLt y x)
  | _, _ => none
/-- x in y: a sign in a text, a thing in a tuple or list -/
def T.inn : T → T → Option Bool
  | .str [c], .str y => some (y.contains c)
  | x, .tup ys => if x.dep < 64 ∧ T.deps ys < 64 then some (ys.any fun y => T.eqv y x) else none
  | x, .lst ys => if x.dep < 64 ∧ T.deps ys < 64 then some (ys.any fun y => T.eqv y x) else none
  | _, _ => none
def cmpF : COp → T → T → Option T
  | .eq, a, b => if a.dep < 64 ∧ b.dep < 64 then some (.bl (T.eqv a b)) else none
  | .ne, a, b => if a.dep < 64 ∧ b.dep < 64 then some (.bl (!T.eqv a b)) else none
  | .lt, a, b => (T.lt a b).map T.bl
  | .le, a, b => (T.le a b).map T.bl
  | .gt, a, b => (T.lt b a).map T.bl
  | .ge, a, b => (T.le b a).map T.bl
  | .inn, a, b => (T.inn a b).map T.bl
  | .nin, a, b => (T.inn a b).map fun k => T.bl (!k)
  | .is, a, .non => some (.bl a.isNon)
  | .isn, a, .non => some (.bl (!a.isNon))
  | .is, .bl a, .bl b => some (.bl (a == b))
  | .isn, .bl a, .bl b => some (.bl (a != b))
  | _, _, _ => none
def T.tru : T → Option Bool
  | .non => some false
  | .bl b => some b
  | .int i => some (i != 0)
  | .str x => some (!x.isEmpty)
  | .tup xs => some (!xs.isEmpty)
  | .lst xs => some (!xs.isEmpty)
  | .obj _ => none
  | .scr _ => none
def T.isBl : T → Option Bool
  | .bl b => some b
  | _ => none
def T.items : T → Option (List T)
  | .tup l => some l
  | .lst l => some l
  | .str x => some (x.map fun c => T.str [c])
  | _ => none
/-- items of a list or tuple -/
def T.seq : T → Option (List T)
  | .tup l => some l
  | .lst l => some l
  | _ => none
def T.toInt : T → Option Int
  | .int i => some i
  | _ => none
def T.toStr : T → Option (List Nat)
  | .str x => some x
  | _ => none
def T.toBl : T → Option Bool
  | .bl b => some b
  | _ => none
def rngL (a b c : Int) : List T := (List.range ((b - a + (c - 1)) / c).toNat).map fun (k : Nat) => T.int (a + k * c)
def itemsF : SK → List T → Option (List T)
  | .val, [t] => t.items
  | .rng, [.int n] => if -1000000 ≤ n ∧ n ≤ 1000000 then some ((List.range n.toNat).map fun (k : Nat) => T.int k) else none
  | .rng, [.int a, .int b] => if b - a ≤ 1000000 ∧ -1000000 ≤ a ∧ a ≤ 1000000 ∧ -1000000 ≤ b ∧ b ≤ 1000000 then some ((List.range (b - a).toNat).map fun (k : Nat) => T.int (a + k)) else none
  | .enm, [t] => t.items.map fun l => l.zipIdx.map fun p => T.tup [.int (p.2 : Nat), p.1]
  | .zip, [a, b] => match a.items, b.items with
    | some x, some y => some ((x.zip y).map fun p => T.tup [p.1, p.2])
    | _, _ => none
  | _, _ => none

/-- the place of index i among n -/
def ixOf (n : Nat) (i : Int) : Option Nat := if 0 ≤ i then (if i < n then some i.toNat else none) else if -(n : Int) ≤ i then some (i + n).toNat else none
def T.sub? : T → T → Option T
  | .scr l, .int i => (ixOf l.length i).bind fun k => l[k]?.map T.int
  | .tup l, .int i => (ixOf l.length i).bind fun k => l[k]?
  | .lst l, .int i => (ixOf l.length i).bind fun k => l[k]?
  | .str x, .int i => (ixOf x.length i).bind fun k => x[k]?.map fun c => T.str [c]
  | _, _ => none
/-- an end of a slice, within 0 .. n -/
def clip (n : Nat) (d : Nat) : Option Int → Nat
  | none => d
  | some i => if i < 0 then (i + n).toNat else min i.toNat n
def cutL {α : Type} (l : List α) (lo hi : Option Int) : List α := (l.drop (clip l.length 0 lo)).take (clip l.length l.length hi - clip l.length 0 lo)
def T.slc : T → Option Int → Option Int → Option T
  | .tup l, lo, hi => some (.tup (cutL l lo hi))
  | .lst l, lo, hi => some (.lst (cutL l lo hi))
  | .str l, lo, hi => some (.str (cutL l lo hi))
  | _, _, _ => none

def allInt : List T → Option (List Int)
  | [] => some []
  | .int i :: l => (allInt l).map (i :: ·)
  | _ :: _ => none
def allBl : List T → Option (List Bool)
  | [] => some []
  | .bl i :: l => (allBl l).map (i :: ·)
  | _ :: _ => none
def allStr : List T → Option (List (List Nat))
  | [] => some []
  | .str i :: l => (allStr l).map (i :: ·)
  | _ :: _ => none
def maxI : List Int → Int
  | [] => 0
  | [a] => a
  | a :: l => max a (maxI l)
def minI : List Int → Int
  | [] => 0
  | [a] => a
  | a :: l => min a (minI l)
def biF : Bi → List T → Option T
  | .len, [.str x] => some (.int x.length)
  | .len, [.tup x] => some (.int x.length)
  | .len, [.lst x] => some (.int x.length)
  | .len, [.scr x] => some (.int x.length)
  | .max, [.int i, .int j] => some (.int (max i j))
  | .min, [.int i, .int j] => some (.int (min i j))
  | .max, [.lst l] => match allInt l with
    | some (i :: r) => some (.int (maxI (i :: r)))
    | _ => none
  | .min, [.lst l] => match allInt l with
    | some (i :: r) => some (.int (minI (i :: r)))
    | _ => none
  | .sum, [.lst l] => (allInt l).map fun n => T.int n.sum
  | .all, [.lst l] => (allBl l).map fun n => T.bl (n.all id)
  | .any, [.lst l] => (allBl l).map fun n => T.bl (n.any id)
  | .tup, [.lst l] => some (.tup l)
  | .tup, [.tup l] => some (.tup l)
  | .lst, [.lst l] => some (.lst l)
  | .lst, [.tup l] => some (.lst l)
  | .isT, [t] => match t with | .obj _ => none | .scr _ => none | .tup _ => some (.bl true) | _ => some (.bl false)
  | .isB, [t] => match t with | .obj _ => none | .scr _ => none | .bl _ => some (.bl true) | _ => some (.bl false)
  | .isL, [t] => match t with | .obj _ => none | .scr _ => none | .lst _ => some (.bl true) | _ => some (.bl false)
  | .isS, [t] => match t with | .obj _ => none | .scr _ => none | .str _ => some (.bl true) | _ => some (.bl false)
  | .isI, [t] => match t with | .obj _ => none | .scr _ => none | .int _ => some (.bl true) | .bl _ => some (.bl true) | _ => some (.bl false)
  | _, _ => none
/-- isinstance(x, (int, str)) -/
def isISf : T → Option T
  | .obj _ => none
  | .scr _ => none
  | .int _ => some (.bl true)
  | .bl _ => some (.bl true)
  | .str _ => some (.bl true)
  | _ => some (.bl false)
def joinL (s : List Nat) : List (List Nat) → List Nat
  | [] => []
  | [x] => x
  | x :: r => x ++ s ++ joinL s r
def blankL : List Nat → List Nat
  | [] => []
  | c :: l => if c == 32 then blankL l else c :: l
def mtF : Mt → T → List T → Option T
  | .join, .str s, [.lst l] => match allStr l with
    | some xs => if (joinL s xs).length ≤ sizeLine then some (.str (joinL s xs)) else none
    | _ => none
  | .lstrip, .str s, [.str [32]] => some (.str (blankL s))
  | .rstrip, .str s, [.str [32]] => some (.str (blankL s.reverse).reverse)
  | .strip, .str s, [.str [32]] => some (.str (blankL (blankL s).reverse).reverse)
  | _, _, _ => none

/-! ### targets -/
mutual
inductive Tg where | nm (i : Nat) | tp (ts : Tgs)
inductive Tgs where | nil | cons (t : Tg) (ts : Tgs)
end
mutual
def Tg.put : Tg → T → Lenv → Option Lenv
  | .nm i, t, ρ => some (ρ.set i (.val t))
  | .tp ts, t, ρ => match t.seq with
    | some l => Tgs.put ts l ρ
    | none => none
def Tgs.put : Tgs → List T → Lenv → Option Lenv
  | .nil, [], ρ => some ρ
  | .cons g gs, t :: l, ρ => (Tg.put g t ρ).bind fun ρ' => Tgs.put gs l ρ'
  | _, _, _ => none
end
mutual
def Tg.slots : Tg → List Nat
  | .nm i => [i]
  | .tp ts => Tgs.slots ts
def Tgs.slots : Tgs → List Nat
  | .nil => []
  | .cons g gs => g.slots ++ gs.slots
end
def wipeR (ρ : Lenv) : List Nat → Lenv
  | [] => ρ
  | v :: vs => (wipeR ρ vs).set v .un

/-! ### the text -/
mutual
inductive Ex where
  | lit (t : T) | glb (x : Str) (t : T) | var (i : Nat) | bor (i : Nat)
  | bin (o : BOp) (a b : Ex) | neg (i : Int) | cmp (o : COp) (a b : Ex) | chn (o o' : COp) (a b c : Ex)
  | and (a b : Ex) | or (a b : Ex) | one (a : Ex) | not (a : Ex) | ife (c a b : Ex)
  | tup (es : Exs) | lst (es : Exs)
  | sub (a i : Ex) | slc (a lo hi : Ex) | nop
  | call (f : Nat) (es : Exs) | bi (b : Bi) (es : Exs) | mth (m : Mt) (a : Ex) (es : Exs)
  | isIS (a : Ex)
  | lc (elt : Ex) (tg : Tg) (k : SK) (src : Exs) (cond : Exs)
inductive Exs where | nil | cons (e : Ex) (es : Exs)
end

/-- a list that is borrowed for a look -/
def bor (ρ : Lenv) (a : Ex) (S : Store) (r : Out T) : Out T := match a with
  | .bor i => match ρ[i]? with
    | some (.own l) => .ok (.lst l) S
    | _ => .stk
  | _ => r
def compL (f : T → Store → Out (Option T)) : List T → Store → Out (List T)
  | [], S => .ok [] S
  | x :: l, S => (f x S).bind fun o S1 => (compL f l S1).bind fun r S2 => .ok (match o with | some y => y :: r | none => r) S2
def isNop : Ex → Bool
  | .nop => true
  | _ => false
def optI (e : Ex) (t : T) : Option (Option Int) := match e with
  | .nop => some none
  | _ => match t with
    | .int i => some (some i)
    | _ => none
def allTru : List T → Option Bool
  | [] => some true
  | t :: l => match t.tru with
    | none => none
    | some b => (allTru l).map (b && ·)
/-- go on by a truth -/
def ifBl (r : T) (t f : Out T) : Out T := match r with
  | .bl true => t
  | .bl false => f
  | _ => .stk
mutual
def ev (c : Call) : Ex → Lenv → Store → Out T
  | .lit t, _, S => .ok t S
  | .glb _ t, _, S => .ok t S
  | .var i, ρ, S => match ρ[i]? with
    | some (.val t) => .ok t S
    | _ => .stk
  | .bor _, _, _ => .stk
  | .neg i, _, S => .ok (.int (-i)) S
  | .nop, _, S => .ok .non S
  | .bin o a b, ρ, S => (bor ρ a S (ev c a ρ S)).bind fun x S1 => (bor ρ b S1 (ev c b ρ S1)).bind fun y S2 => .of (binF o x y) S2
  | .cmp o a b, ρ, S => (bor ρ a S (ev c a ρ S)).bind fun x S1 => (bor ρ b S1 (ev c b ρ S1)).bind fun y S2 => .of (cmpF o x y) S2
  | .chn o o' a b d, ρ, S => (ev c a ρ S).bind fun x S1 => (ev c b ρ S1).bind fun y S2 => (Out.of (cmpF o x y) S2).bind fun r S3 =>
    ifBl r ((ev c d ρ S3).bind fun z S4 => .of (cmpF o' y z) S4) (.ok (.bl false) S3)
  | .and a b, ρ, S => (ev c a ρ S).bind fun x S1 => ifBl x (ev c b ρ S1) (.ok (.bl false) S1)
  | .or a b, ρ, S => (ev c a ρ S).bind fun x S1 => ifBl x (.ok (.bl true) S1) (ev c b ρ S1)
  | .one a, ρ, S => ev c a ρ S
  | .not a, ρ, S => (bor ρ a S (ev c a ρ S)).bind fun x S1 => .of (x.tru.map fun k => T.bl (!k)) S1
  | .ife d a b, ρ, S => (ev c d ρ S).bind fun x S1 => match x.tru with
    | some true => ev c a ρ S1
    | some false => ev c b ρ S1
    | none => .stk
  | .tup es, ρ, S => (evs c es ρ S).bind fun l S1 => if l.length ≤ 1000 then .ok (.tup l) S1 else .stk
  | .lst es, ρ, S => (evs c es ρ S).bind fun l S1 => if l.length ≤ 1000 then .ok (.lst l) S1 else .stk
  | .sub a i, ρ, S => (bor ρ a S (ev c a ρ S)).bind fun x S1 => (ev c i ρ S1).bind fun y S2 => .of (T.sub? x y) S2
  | .slc a lo hi, ρ, S => (bor ρ a S (ev c a ρ S)).bind fun x S1 => (ev c lo ρ S1).bind fun l S2 => Out.opt (optI lo l) fun l =>
    (ev c hi ρ S2).bind fun h S3 => Out.opt (optI hi h) fun h => .of (T.slc x l h) S3
  | .call f es, ρ, S => (evs c es ρ S).bind fun l S1 => c f l S1
  | .bi b es, ρ, S => (evb c es ρ S).bind fun l S1 => .of (biF b l) S1
  | .mth m a es, ρ, S => (ev c a ρ S).bind fun x S1 => (evb c es ρ S1).bind fun l S2 => .of (mtF m x l) S2
  | .isIS a, ρ, S => (bor ρ a S (ev c a ρ S)).bind fun x S1 => .of (isISf x) S1
  | .lc elt tg k src cond, ρ, S => (evb c src ρ S).bind fun ts S1 => Out.opt (itemsF k ts) fun l => (compL (fun x S => Out.opt (tg.put x (wipeR ρ tg.slots)) fun ρ' =>
        ((evs c cond ρ' S).bind fun bs S1 => Out.opt (allTru bs) fun b =>
          if b then (ev c elt ρ' S1).bind fun y S2 => .ok (some y) S2 else .ok none S1).noX) l S1).bind fun r S2 => .ok (.lst r) S2
def evs (c : Call) : Exs → Lenv → Store → Out (List T)
  | .nil, _, S => .ok [] S
  | .cons e es, ρ, S => (ev c e ρ S).bind fun x S1 => (evs c es ρ S1).bind fun l S2 => .ok (x :: l) S2
def evb (c : Call) : Exs → Lenv → Store → Out (List T)
  | .nil, _, S => .ok [] S
  | .cons e es, ρ, S => (bor ρ e S (ev c e ρ S)).bind fun x S1 => (evb c es ρ S1).bind fun l S2 => .ok (x :: l) S2
end

/-! ### statements -/
inductive OutS where
  | stk | nx (ρ : Lenv) (S : Store) | rt (t : T) (S : Store) | bk (ρ : Lenv) (S : Store) | ct (ρ : Lenv) (S : Store) | ex (c : Nat) (ρ : Lenv) (S : Store)
def Out.st {α : Type} (o : Out α) (ρ : Lenv) (f : α → Store → OutS) : OutS := match o with
  | .stk => .stk
  | .ok a S => f a S
  | .exc c S => .ex c ρ S
def OutS.nxt (o : OutS) (f : Lenv → Store → OutS) : OutS := match o with
  | .nx ρ S => f ρ S
  | o => o
mutual
inductive Sm where
  | ret (e : Ex) | retN | expr (e : Ex)
  /-- x = e; x = [..] where the comprehension is stored straight -/
  | asg (i : Nat) (e : Ex) | asgC (i : Nat) (e : Ex)
  /-- x = a new list, which x may change -/
  | own (i : Nat) (e : Ex) | ownC (i : Nat) (e : Ex)
  /-- x's list will not be changed any more -/
  | rel (i : Nat)
  | app (i : Nat) (e : Ex) | ext (i : Nat) (e : Ex)
  | par2 (i j : Nat) (a b : Ex) | par3 (i j k : Nat) (a b d : Ex) | unp (tg : Tgs) (e : Ex)
  | iff (d : Ex) (a b : Sms)
  | for_ (tg : Tg) (k : SK) (src : Exs) (body : Sms)
  | whl (d : Ex) (body : Sms)
  | brk | cnt | pass
  | raise (c : Nat)
  | try_ (body : Sms) (c : Nat) (h : Sms)
inductive Sms where | nil | cons (s : Sm) (ss : Sms)
end
def fresh : Ex → Bool
  | .lst _ => true
  | .lc .. => true
  | .bi .lst _ => true
  | .bin .add _ _ => true
  | .bin .mul _ _ => true
  | .slc .. => true
  | _ => false
def forL (f : T → Lenv → Store → OutS) : List T → Lenv → Store → OutS
  | [], ρ, S => .nx ρ S
  | x :: l, ρ, S => match f x ρ S with
    | .nx ρ S => forL f l ρ S
    | .ct ρ S => forL f l ρ S
    | .bk ρ S => .nx ρ S
    | o => o
def whlN (d : Lenv → Store → Out T) (f : Lenv → Store → OutS) : Nat → Lenv → Store → OutS
  | 0, _, _ => .stk
  | n + 1, ρ, S => (d ρ S).st ρ fun t S => match t.tru with
    | none => .stk
    | some false => .nx ρ S
    | some true => match f ρ S with
      | .nx ρ S => whlN d f n ρ S
      | .ct ρ S => whlN d f n ρ S
      | .bk ρ S => .nx ρ S
      | o => o
open Classical in
noncomputable def whlL (d : Lenv → Store → Out T) (f : Lenv → Store → OutS) (ρ : Lenv) (S : Store) : OutS :=
  if h : ∃ n, whlN d f n ρ S ≠ .stk then whlN d f (Classical.choose h) ρ S else .stk
/-- class e is c or below it; 0 is below none and above all -/
def isSub (e c : Nat) : Bool := e == c || c == 0
def ownAt (ρ : Lenv) (i : Nat) (f : List T → OutS) : OutS := match ρ[i]? with
  | some (.own l) => f l
  | _ => .stk
def optS {α : Type} (o : Option α) (f : α → OutS) : OutS := match o with
  | none => .stk
  | some a => f a
mutual
noncomputable def ex (c : Call) : Sm → Lenv → Store → OutS
  | .ret e, ρ, S => (ev c e ρ S).st ρ fun t S => .rt t S
  | .retN, ρ, S => .rt .non S
  | .expr e, ρ, S => (ev c e ρ S).st ρ fun _ S => .nx ρ S
  | .asg i e, ρ, S => (ev c e ρ S).st ρ fun t S => .nx (ρ.set i (.val t)) S
  | .asgC i e, ρ, S => (ev c e ρ S).st ρ fun t S => .nx (ρ.set i (.val t)) S
  | .own i e, ρ, S => (ev c e ρ S).st ρ fun t S => match t with
    | .lst l => if fresh e then .nx (ρ.set i (.own l)) S else .stk
    | _ => .stk
  | .ownC i e, ρ, S => (ev c e ρ S).st ρ fun t S => match t with
    | .lst l => if fresh e then .nx (ρ.set i (.own l)) S else .stk
    | _ => .stk
  | .rel i, ρ, S => match ρ[i]? with
    | some (.own l) => .nx (ρ.set i (.val (.lst l))) S
    | some (.val t) => .nx ρ S
    | _ => .stk
  | .app i e, ρ, S => ownAt ρ i fun l => (ev c e ρ S).st ρ fun t S => if l.length < sizeLine then .nx (ρ.set i (.own (l ++ [t]))) S else .stk
  | .ext i e, ρ, S => ownAt ρ i fun l => (ev c e ρ S).st ρ fun t S => match t with
    | .lst m => if l.length + m.length ≤ sizeLine then .nx (ρ.set i (.own (l ++ m))) S else .stk
    | _ => .stk
  | .par2 i j a b, ρ, S => (ev c a ρ S).st ρ fun x S => (ev c b ρ S).st ρ fun y S => .nx ((ρ.set i (.val x)).set j (.val y)) S
  | .par3 i j k a b d, ρ, S => (ev c a ρ S).st ρ fun x S => (ev c b ρ S).st ρ fun y S => (ev c d ρ S).st ρ fun z S => .nx (((ρ.set i (.val x)).set j (.val y)).set k (.val z)) S
  | .unp tg e, ρ, S => (ev c e ρ S).st ρ fun t S => optS ((Tg.tp tg).put t ρ) fun ρ' => .nx ρ' S
  | .iff d a b, ρ, S => (bor ρ d S (ev c d ρ S)).st ρ fun t S => match t.tru with
    | none => .stk
    | some true => exs c a ρ S
    | some false => exs c b ρ S
  | .for_ tg k src body, ρ, S => (evs c src ρ S).st ρ fun ts S => optS (itemsF k ts) fun l =>
    forL (fun x ρ S => optS (tg.put x ρ) fun ρ' => exs c body ρ' S) l ρ S
  | .whl d body, ρ, S => whlL (fun ρ S => bor ρ d S (ev c d ρ S)) (fun ρ S => exs c body ρ S) ρ S
  | .brk, ρ, S => .bk ρ S
  | .cnt, ρ, S => .ct ρ S
  | .pass, ρ, S => .nx ρ S
  | .raise k, ρ, S => .ex k ρ S
  | .try_ body k h, ρ, S => match exs c body ρ S with
    | .ex e ρ' S' => if isSub e k then exs c h ρ' S' else .ex e ρ' S'
    | o => o
noncomputable def exs (c : Call) : Sms → Lenv → Store → OutS
  | .nil, ρ, S => .nx ρ S
  | .cons s ss, ρ, S => (ex c s ρ S).nxt fun ρ S => exs c ss ρ S
end

/-! ### defs -/
structure FnI where
  name : Str
  np : Nat
  N : List Str
  body : Sms
def OutS.fin (o : OutS) : Out T := match o with
  | .nx _ S => .ok .non S
  | .rt t S => .ok t S
  | .ex c _ S => .exc c S
  | _ => .stk
noncomputable def run1 (c : Call) (f : FnI) (ts : List T) (S : Store) : Out T :=
  if ts.length = f.np then (exs c f.body (ts.map Sl.val ++ List.replicate (f.N.length - f.np) Sl.un) S).fin else .stk
noncomputable def callF (tab : List FnI) : Nat → Call
  | 0 => fun _ _ _ => .stk
  | n + 1 => fun f ts S => match tab[f]? with
    | none => .stk
    | some fi => run1 (callF tab n) fi ts S
end Ly
namespace Ly
open PySem PySem.Spec L2
open PyProof.Rows hiding St

/-! ### a tuple times an int below two -/
theorem tuple_mul0 (l : Addr) (items : Array Value) (n : Nat) (dd : Option Addr) (sl : Array (Option Value)) (x : Int) (u : Tok) (c0 : (decide (x < -(2 ^ 63)) || decide (x ≥ 2 ^ 63)) = false) (c1 : (items.isEmpty || x == 1) = false) (c2 : (decide (x ≤ 0) || items.isEmpty) = true) :
    Meets (Builtin.«tuple.__mul__» ⟨[.ref l, .int x u], []⟩) (fun _ R s => s.heap.get? l = some { cls := .type "tuple", dict := dd, data := .seq items n, slots := sl } ∧
      R (.ok (.ret (Value.ref s.heap.objs.size))) { s with heap := s.heap.push { cls := Value.type "tuple", data := Data.seq #[] }, toks := s.toks }) :=
  .of_wp fun prog w A R s h => by
    obtain ⟨hp, g, d, tk, os⟩ := s
    obtain ⟨hl, h⟩ := h
    have f1 := AutoSeq1.idx_int
    have hsz : (#[] : Array Value).size ≤ sizeLine := by simp
    wp_walk using wpAny_loadPart' hl
    repeat (first
      | (refine wpAny_ite_false (decide_eq_false (by rw [c0]; exact Bool.false_ne_true)) ?_; wp_walk using wpAny_loadPart' hl)
      | (refine wpAny_ite_false (decide_eq_false (by rw [c1]; exact Bool.false_ne_true)) ?_; wp_walk using wpAny_loadPart' hl)
      | (refine wpAny_ite_true (decide_eq_true c2) ?_; wp_walk using wpAny_loadPart' hl)
      | (refine wpAny_ite_false (decide_eq_false (Nat.not_lt.mpr hsz)) ?_; wp_walk using wpAny_loadPart' hl))
    exact ⟨_, rfl, h⟩
theorem tuple_mul1 (l : Addr) (items : Array Value) (n : Nat) (sl : Array (Option Value)) (dd : Option Addr) (u : Tok) :
    Meets (Builtin.«tuple.__mul__» ⟨[.ref l, .int 1 u], []⟩) (fun _ R s => s.heap.get? l = some { cls := .type "tuple", dict := dd, data := .seq items n, slots := sl } ∧
      R (.ok (.ret (Value.ref l))) s) :=
  .of_wp fun prog w A R s h => by
    obtain ⟨hp, g, d, tk, os⟩ := s
    obtain ⟨hl, h⟩ := h
    have f1 := AutoSeq1.idx_int
    wp_walk using wpAny_loadPart' hl
    exact ⟨_, rfl, h⟩
section
variable {X : Cx}
def rRepA (K : PySem.W.Frag) : R2 := fun x y H Q => ∃ l k xs, x = .ref l ∧ y = .int k ∧ SqT K H l xs ∧ xs ≠ [] ∧ -1000 ≤ k ∧ k ≤ 1000 ∧ xs.length ≤ 1000 ∧ (k = 1 → Q (.ref l) H) ∧ (k ≠ 1 → ∀ p, H p = none → Q (.ref p) (upd H p (.tup (List.replicate k.toNat xs).flatten)))
theorem op_repA : OpR X (binaryOp .Mult) (rRepA X.K) := by
  intro pins s σ H x y v u Q I rx ry h
  obtain ⟨l, k, xs, rfl, rfl, hT, hne, h1, h2, hz, q1, q⟩ := h
  by_cases hk : 2 ≤ k
  · exact op_repT pins s σ H _ _ v u Q I rx ry ⟨l, k, xs, rfl, rfl, hT, hne, hk, h2, hz, q (by omega)⟩
  cases rx
  obtain ⟨t, rfl⟩ := ry
  obtain ⟨its, r, ⟨⟨cls, dd, data, sl⟩, ho, hc, n, hd⟩, hs⟩ := I.tuple hT
  simp only at hc hd
  subst hc hd
  have hle : its.length = xs.length := r.length.symm
  have hn : its ≠ [] := fun e => hne (by
    rw [e] at hle
    exact List.eq_nil_of_length_eq_zero hle.symm)
  have hi : its.toArray.isEmpty = false := by
    cases its with
    | nil => exact absurd rfl hn
    | cons a b => rfl
  by_cases k1 : k = 1
  · subst k1
    refine wpAny_binaryOp_repeat_ref (T := "tuple") (U := "int") (by decide) ⟨_, ho, rfl⟩ (fun s' => typeIs_int s' 1 t) noFill_tuple_mul F.fills_int_mul F.slot_int_rmul repeat_tuple F.slot_int_index.lookup
      (call_meets F.slot_int_rmul (typeIs_int s 1 t) F.entry_int_rmul (F.args_int_rmul_2 _ _) (int_rmul_tuple 1 t l its.toArray n dd sl)
        ⟨ho, rfl, ⟨_, ho, rfl⟩, call_meets F.slot_tuple_mul ⟨_, ho, rfl⟩ F.entry_tuple_mul (F.args_tuple_mul_2 _ _) (tuple_mul1 l its.toArray n sl dd t) ⟨ho, ?_⟩⟩)
    exact ⟨.ref l, H, I, rfl, q1 rfl⟩
  · have c0 : (decide (k < -(2 ^ 63)) || decide (k ≥ 2 ^ 63)) = false := by
      rw [decide_eq_false (by omega), decide_eq_false (by omega)] <;> rfl
    have c1 : (its.toArray.isEmpty || k == 1) = false := by
      rw [hi, Bool.false_or]
      exact beq_eq_false_iff_ne.mpr (by omega)
    have c2 : (decide (k ≤ 0) || its.toArray.isEmpty) = true := by
      rw [decide_eq_true (by omega)]; rfl
    refine wpAny_binaryOp_repeat_ref (T := "tuple") (U := "int") (by decide) ⟨_, ho, rfl⟩ (fun s' => typeIs_int s' k t) noFill_tuple_mul F.fills_int_mul F.slot_int_rmul repeat_tuple F.slot_int_index.lookup
      (call_meets F.slot_int_rmul (typeIs_int s k t) F.entry_int_rmul (F.args_int_rmul_2 _ _) (int_rmul_tuple k t l its.toArray n dd sl)
        ⟨ho, rfl, ⟨_, ho, rfl⟩, call_meets F.slot_tuple_mul ⟨_, ho, rfl⟩ F.entry_tuple_mul (F.args_tuple_mul_2 _ _) (tuple_mul0 l its.toArray n dd sl k t c0 c1 c2) ⟨ho, ?_⟩⟩)
    have e0 : k.toNat = 0 := by omega
    have qq := q k1
    rw [e0] at qq
    refine ⟨.ref s.heap.objs.size, _, I.laid (t' := s.toks) (o := .tup []) (fun b ob q => Heap.get?_push_of_some _ q) (Nat.le_refl _) ?_, rfl, qq _ (I.hok.fresh (Nat.le_refl _))⟩
    exact ⟨by simp, [], .nil, IsTup.new _ _⟩
def rMulS : R2 := fun x y H Q => ∃ z k, x = .str (tx z) ∧ y = .int k ∧ -(2 ^ 62) < k ∧ k < 2 ^ 62 ∧ z.length * k.toNat ≤ sizeLine ∧ Q (.str (tx (List.replicate k.toNat z).flatten)) H
theorem foldA (z : List Nat) : ∀ (m : Nat) (a : List Nat), (List.replicate m z.toArray).foldl (· ++ ·) a.toArray = (a ++ (List.replicate m z).flatten).toArray
  | 0, a => by simp
  | m + 1, a => by
    rw [List.replicate_succ, List.foldl_cons, List.replicate_succ, List.flatten_cons, ← List.append_assoc]
    have : a.toArray ++ z.toArray = (a ++ z).toArray := by simp
    rw [this]
    exact foldA z m (a ++ z)
theorem op_mulS : OpR X (binaryOp .Mult) rMulS := by
  intro pins s σ H x y v u Q I rx ry h
  obtain ⟨z, k, rfl, rfl, h1, h2, hz, q⟩ := h
  obtain ⟨t, rfl⟩ := rx
  obtain ⟨t', rfl⟩ := ry
  have f0 : (List.replicate k.toNat z.toArray).foldl (· ++ ·) #[] = ((List.replicate k.toNat z).flatten).toArray := by
    have := foldA z k.toNat []
    simpa using this
  have big : (2 : Nat) ^ 24 = sizeLine := rfl
  refine PySem.P.mul_str (by rw [decide_eq_false (by omega), decide_eq_false (by omega)]; rfl) (fun a b => ?_) (fun a b => ?_) ?_
  · have hk : 1 ≤ k := by omega
    rw [tx_len]
    have : (z.length : Int) ≤ (2 ^ 63 - 1) / k := by
      apply (Int.le_ediv_iff_mul_le (by omega)).mpr
      have e : ((z.length * k.toNat : Nat) : Int) ≤ sizeLine := by exact_mod_cast hz
      rw [Int.natCast_mul, Int.toNat_of_nonneg (by omega)] at e
      have : (sizeLine : Int) ≤ 2 ^ 63 - 1 := by decide
      omega
    omega
  · show decide (_ > sizeLine) = false
    rw [tx_len]
    exact decide_eq_false (by omega)
  · by_cases c1 : k < 1
    · rw [if_pos c1]
      have e0 : k.toNat = 0 := by omega
      rw [e0] at q
      exact ⟨by decide, .str _, H, I.tok _, ⟨_, rfl⟩, q⟩
    · rw [if_neg c1]
      by_cases c2 : (k == 1 || (tx z).length == 0) = true
      · rw [if_pos c2]
        have : (List.replicate k.toNat z).flatten = z := by
          rcases Bool.or_eq_true_iff.mp c2 with e | e
          · have : k = 1 := by simpa using e
            subst this; simp
          · rw [tx_len] at e
            have : z = [] := by simpa using e
            subst this; simp
        rw [this] at q
        exact ⟨.str _, H, I, ⟨_, rfl⟩, q⟩
      · rw [if_neg c2]
        show _ ∧ _
        have e2 : ((List.replicate k.toNat (tx z).cps).foldl (· ++ ·) #[]) = ((List.replicate k.toNat z).flatten).toArray := f0
        rw [e2]
        refine ⟨?_, .str (tx (List.replicate k.toNat z).flatten), H, I.tok _, ⟨_, rfl⟩, q⟩
        show (List.replicate k.toNat z).flatten.toArray.size ≤ _
        rw [List.size_toArray, PyProof.Rows.lm_len_rep_flat, Nat.mul_comm]
        exact hz
end
end Ly
namespace Ly
open PySem PySem.Spec L2
open PyProof.Rows hiding St

/-- what an operation on values ends in: a value that is t, the heap grown -/
def Res (G : Glo) (F H : Hp) (μ : List Addr) (t : T) (Q : VK) : Prop :=
  ∀ v F' H', Ext F H μ F' H' μ → (∀ S, Ok G F H μ S → Ok G F' H' μ S) → Rep G.K F' μ t v → Q v H'
/-- a value for a look: as it is, or a list of one's own -/
def RepB (G : Glo) (F H : Hp) (μ : List Addr) (t : T) (v : V) : Prop :=
  Rep G.K F μ t v ∨ ∃ a l vs, t = .lst l ∧ v = .ref a ∧ H a = some (.lst vs) ∧ l.length ≤ sizeLine ∧ Reps G.K F μ l vs ∧ a ∉ μ
section
variable {G : Glo} {F H : Hp} {μ : List Addr} {t : T} {v : V} {Q : VK} {S : Store}
theorem Res.now (r : Res G F H μ t Q) (h : Rep G.K F μ t v) : Q v H := r v F H .refl (fun _ k => k) h
theorem Res.tup {p : Addr} {ts : List T} {vs : List V} (r : Res G F H μ (.tup ts) Q) (s : Same F H) (hp : H p = none) (hl : ts.length ≤ sizeLine) (h : Reps G.K F μ ts vs) : Q (.ref p) (upd H p (.tup vs)) := by
  have x := Ext.new (μ := μ) (o := .tup vs) s hp
  refine r _ _ _ x (fun S k => k.new hp) ?_
  simp only [Rep]
  exact ⟨p, vs, rfl, SqT.of upd_same, hl, x.reps h⟩
theorem Res.lst {p : Addr} {ts : List T} {vs : List V} (r : Res G F H μ (.lst ts) Q) (s : Same F H) (hp : H p = none) (hl : ts.length ≤ sizeLine) (h : Reps G.K F μ ts vs) : Q (.ref p) (upd H p (.lst vs)) := by
  have x := Ext.new (μ := μ) (o := .lst vs) s hp
  refine r _ _ _ x (fun S k => k.new hp) ?_
  simp only [Rep]
  exact ⟨p, vs, rfl, upd_same, hl, x.reps h⟩
theorem RepB.of (h : Rep G.K F μ t v) : RepB G F H μ t v := .inl h
theorem RepB.lst {l : List T} (h : RepB G F H μ (.lst l) v) (s : Same F H) : ∃ a vs, v = .ref a ∧ H a = some (.lst vs) ∧ l.length ≤ sizeLine ∧ Reps G.K F μ l vs := by
  rcases h with h | ⟨a, l', vs, e, h1, h2, h3, h4, _⟩
  · simp only [Rep] at h
    obtain ⟨a, vs, e, q, z, r⟩ := h
    exact ⟨a, vs, e, s _ _ q, z, r⟩
  · cases e
    exact ⟨a, vs, h1, h2, h3, h4⟩
theorem RepB.tup {l : List T} (h : RepB G F H μ (.tup l) v) (s : Same F H) : ∃ a vs, v = .ref a ∧ SqT G.K H a vs ∧ l.length ≤ sizeLine ∧ Reps G.K F μ l vs := by
  rcases h with h | ⟨a, l', vs, e, _⟩
  · simp only [Rep] at h
    obtain ⟨a, vs, e, q, z, r⟩ := h
    exact ⟨a, vs, e, Same.seqT s q, z, r⟩
  · cases e
theorem RepB.int {i : Int} (h : RepB G F H μ (.int i) v) : v = .int i := by
  rcases h with h | ⟨a, l', vs, e, _⟩
  · simpa only [Rep] using h
  · cases e
theorem RepB.bl {i : Bool} (h : RepB G F H μ (.bl i) v) : v = .bl i := by
  rcases h with h | ⟨a, l', vs, e, _⟩
  · simpa only [Rep] using h
  · cases e
theorem RepB.non (h : RepB G F H μ .non v) : v = .non := by
  rcases h with h | ⟨a, l', vs, e, _⟩
  · simpa only [Rep] using h
  · cases e
theorem RepB.str {x : List Nat} (h : RepB G F H μ (.str x) v) : v = .str (tx x) ∧ x.length ≤ sizeLine ∧ ∀ c ∈ x, c < 1114112 := by
  rcases h with h | ⟨a, l', vs, e, _⟩
  · simpa only [Rep] using h
  · cases e
theorem Rep.int' {i : Int} : Rep G.K F μ (.int i) (.int i) := by simp [Rep]
theorem Rep.bl' {i : Bool} : Rep G.K F μ (.bl i) (.bl i) := by simp [Rep]
theorem Rep.non' : Rep G.K F μ .non .non := by simp [Rep]
theorem Rep.str' {x : List Nat} (h : x.length ≤ sizeLine) (c : ∀ c ∈ x, c < 1114112) : Rep G.K F μ (.str x) (.str (tx x)) := by simp only [Rep]; exact ⟨trivial, h, c⟩
end
/-- a rule for two values -/
def R2T (G : Glo) (f : T → T → Option T) : R2 := fun x y H Q => ∃ F μ a b t, Same F H ∧ RepB G F H μ a x ∧ RepB G F H μ b y ∧ f a b = some t ∧ Res G F H μ t Q

section
variable {X : Cx}
/-! ### arithmetic -/
theorem tx_app (x y : List Nat) : tx x ++ tx y = tx (x ++ y) := by
  show (⟨x.toArray ++ y.toArray⟩ : Str) = ⟨(x ++ y).toArray⟩
  simp
def bopE : BOp → Operator
  | .add => .Add | .sub => .Sub | .mul => .Mult | .fdv => .FloorDiv | .mod => .Mod
def copE : COp → CmpOp
  | .eq => .Eq | .ne => .NotEq | .lt => .Lt | .le => .LtE | .gt => .Gt | .ge => .GtE | .inn => .In | .nin => .NotIn | .is => .Is | .isn => .IsNot
theorem o_add {G : Glo} (hG : G.K = X.K) : OpR X (binaryOp .Add) (R2T G T.add) := by
  intro pins s σ H x y v u Q I rx ry h
  obtain ⟨F, μ, a, b, t, sf, ra, rb, e, r⟩ := h
  unfold T.add at e
  split at e
  · cases e
    have := ra.int; have := rb.int; subst_vars
    exact op_add pins s σ H _ _ v u Q I rx ry ⟨_, _, rfl, rfl, r.now Rep.int'⟩
  · split at e
    · cases e
      obtain ⟨rfl, l1, c1⟩ := ra.str
      obtain ⟨rfl, l2, c2⟩ := rb.str
      refine op_add_str pins s σ H _ _ v u Q I rx ry ⟨_, _, rfl, rfl, by rw [tx_len, tx_len]; assumption, ?_⟩
      rw [tx_app]
      exact r.now (Rep.str' (by simpa using ‹_›) fun c hc => (List.mem_append.mp hc).elim (c1 c) (c2 c))
    · cases e
  · rename_i p q
    split at e
    · cases e
      have fa : ∀ {l w}, RepB G F H μ (.tup l) w → Rep G.K F μ (.tup l) w := fun {l w} h => by
        rcases h with h | ⟨_, _, _, e, _⟩
        · exact h
        · cases e
      have ka := fa ra
      have kb := fa rb
      obtain ⟨a, vs, rfl, q1, l1, h1⟩ := ra.tup sf
      obtain ⟨b, ws, rfl, q2, l2, h2⟩ := rb.tup sf
      have e1 := h1.length
      have e2 := h2.length
      refine op_catA pins s σ H _ _ v u Q I rx ry ⟨_, _, vs, ws, rfl, rfl, hG ▸ q1, hG ▸ q2, by omega, fun z => ?_, fun _ z => ?_, fun _ _ p hp => ?_⟩
      · subst z
        have z : p = [] := List.eq_nil_of_length_eq_zero e1.symm
        subst z
        exact r.now kb
      · subst z
        have z : q = [] := List.eq_nil_of_length_eq_zero e2.symm
        subst z
        exact r.now (by simpa using ka)
      · exact r.tup sf hp (by simpa using ‹_›) (h1.append h2)
    · cases e
  · split at e
    · cases e
      obtain ⟨a, vs, rfl, q1, l1, h1⟩ := ra.lst sf
      obtain ⟨b, ws, rfl, q2, l2, h2⟩ := rb.lst sf
      have e1 := h1.length
      have e2 := h2.length
      exact op_cat pins s σ H _ _ v u Q I rx ry ⟨_, _, vs, ws, rfl, rfl, q1, q2, by omega, fun p hp => r.lst sf hp (by simpa using ‹_›) (h1.append h2)⟩
    · cases e
  · cases e
theorem o_sub {G : Glo} : OpR X (binaryOp .Sub) (R2T G T.sub) := by
  intro pins s σ H x y v u Q I rx ry h
  obtain ⟨F, μ, a, b, t, sf, ra, rb, e, r⟩ := h
  unfold T.sub at e
  split at e
  · cases e
    have := ra.int; have := rb.int; subst_vars
    exact op_sub pins s σ H _ _ v u Q I rx ry ⟨_, _, rfl, rfl, r.now Rep.int'⟩
  · cases e
theorem Reps.rep {K : PySem.W.Frag} {F : Hp} {μ : List Addr} {ts : List T} {vs : List V} (h : Reps K F μ ts vs) : ∀ n : Nat, Reps K F μ (List.replicate n ts).flatten (List.replicate n vs).flatten
  | 0 => by simp [Reps]
  | n + 1 => by
    rw [List.replicate_succ, List.replicate_succ, List.flatten_cons, List.flatten_cons]
    exact h.append (Reps.rep h n)
theorem o_mul {G : Glo} (hG : G.K = X.K) : OpR X (binaryOp .Mult) (R2T G T.mul) := by
  intro pins s σ H x y v u Q I rx ry h
  obtain ⟨F, μ, a, b, t, sf, ra, rb, e, r⟩ := h
  unfold T.mul at e
  split at e
  · split at e
    · cases e
      have := ra.int; have := rb.int; subst_vars
      rename_i i j hm
      refine op_mul pins s σ H _ _ v u Q I rx ry ⟨_, _, rfl, rfl, ?_, r.now Rep.int'⟩
      unfold mulOk at hm
      simp only [Bool.or_eq_true, Bool.and_eq_true, decide_eq_true_eq] at hm
      exact hm
    · cases e
  · split at e
    · cases e
      rename_i z k hz
      have := rb.int; subst_vars
      obtain ⟨rfl, l1, c1⟩ := ra.str
      refine op_mulS pins s σ H _ _ v u Q I rx ry ⟨_, _, rfl, rfl, hz.2.2, hz.2.1, hz.1, r.now (Rep.str' ?_ fun c hc => ?_)⟩
      · unfold reps
        rw [PyProof.Rows.lm_len_rep_flat, Nat.mul_comm]
        exact hz.1
      · unfold reps at hc
        rw [List.mem_flatten] at hc
        obtain ⟨l, hl, hc⟩ := hc
        rw [List.eq_of_mem_replicate hl] at hc
        exact c1 c hc
    · cases e
  · split at e
    · cases e
      rename_i z k hz
      have hb := rb.int
      subst hb
      have ka : Rep G.K F μ (.tup z) x := by
        rcases ra with h | ⟨_, _, _, e, _⟩
        · exact h
        · cases e
      obtain ⟨a, vs, rfl, q1, l1, h1⟩ := ra.tup sf
      have e1 := h1.length
      refine op_repA pins s σ H _ _ v u Q I rx ry ⟨_, _, vs, rfl, rfl, hG ▸ q1, fun e => hz.1 ?_, hz.2.2.2, hz.2.2.1, by omega, fun h => ?_, fun h p hp => ?_⟩
      · subst e
        exact List.eq_nil_of_length_eq_zero e1.symm
      · subst h
        refine r.now ?_
        simpa [reps] using ka
      · refine r.tup sf hp ?_ (h1.rep k.toNat)
        unfold reps
        rw [PyProof.Rows.lm_len_rep_flat]
        have : k.toNat * z.length ≤ 1000 * 1000 := Nat.mul_le_mul (by omega) hz.2.1
        have : (1000 * 1000 : Nat) ≤ sizeLine := by decide
        omega
    · cases e
  · split at e
    · cases e
      rename_i z k hz
      have hb := rb.int
      subst hb
      obtain ⟨a, vs, rfl, q1, l1, h1⟩ := ra.lst sf
      have e1 := h1.length
      refine op_rep pins s σ H _ _ v u Q I rx ry ⟨_, _, vs, rfl, rfl, q1, by omega, by omega, by rw [e1]; exact hz.1, fun p hp => r.lst sf hp ?_ (h1.rep k.toNat)⟩
      unfold reps
      rw [PyProof.Rows.lm_len_rep_flat, Nat.mul_comm]
      exact hz.1
    · cases e
  · cases e
theorem o_fdv {G : Glo} : OpR X (binaryOp .FloorDiv) (R2T G T.fdv) := by
  intro pins s σ H x y v u Q I rx ry h
  obtain ⟨F, μ, a, b, t, sf, ra, rb, e, r⟩ := h
  unfold T.fdv at e
  split at e
  · split at e
    · cases e
      have := ra.int; have := rb.int; subst_vars
      exact op_fdiv pins s σ H _ _ v u Q I rx ry ⟨_, _, rfl, rfl, ‹_›, r.now Rep.int'⟩
    · cases e
  · cases e
theorem o_mod {G : Glo} : OpR X (binaryOp .Mod) (R2T G T.mod) := by
  intro pins s σ H x y v u Q I rx ry h
  obtain ⟨F, μ, a, b, t, sf, ra, rb, e, r⟩ := h
  unfold T.mod at e
  split at e
  · split at e
    · cases e
      have := ra.int; have := rb.int; subst_vars
      exact op_mod pins s σ H _ _ v u Q I rx ry ⟨_, _, rfl, rfl, ‹_›, r.now Rep.int'⟩
    · cases e
  · cases e
theorem o_bin {G : Glo} (hG : G.K = X.K) : ∀ o, OpR X (binaryOp (bopE o)) (R2T G (binF o))
  | .add => o_add hG
  | .sub => o_sub
  | .mul => o_mul hG
  | .fdv => o_fdv
  | .mod => o_mod

/-! ### == -/
mutual
def T.toD : T → PyData
  | .non => .none
  | .bl b => .bool b
  | .int i => .int i
  | .str x => .str (tx x)
  | .tup l => .tuple (T.toDs l)
  | .lst l => .list (T.toDs l)
  | .obj _ => .none
  | .scr _ => .none
def T.toDs : List T → List PyData
  | [] => []
  | t :: l => t.toD :: T.toDs l
end
mutual
theorem Rep.dp {K : PySem.W.Frag} {F H : Hp} {μ : List Addr} (s : Same F H) : ∀ (t : T) {v : V}, Rep K F μ t v → t.dep < 1000 → Dp K H v t.toD
  | .non, v, h, _ => by simp only [Rep] at h; subst h; exact .non
  | .bl b, v, h, _ => by simp only [Rep] at h; subst h; exact .bl b
  | .int i, v, h, _ => by simp only [Rep] at h; subst h; exact .int i
  | .str x, v, h, _ => by simp only [Rep] at h; rw [h.1]; exact .str _
  | .tup l, v, h, d => by
    simp only [Rep] at h
    simp only [T.dep] at d
    obtain ⟨a, vs, rfl, q, z, r⟩ := h
    exact .tup (Same.seqT s q) (Reps.dp s l r (by omega))
  | .lst l, v, h, d => by
    simp only [Rep] at h
    simp only [T.dep] at d
    obtain ⟨a, vs, rfl, q, z, r⟩ := h
    exact .lst (SqL.of (s _ _ q)) (Reps.dp s l r (by omega))
  | .obj _, v, h, d => by simp [T.dep] at d
  | .scr _, v, h, d => by simp [T.dep] at d
theorem Reps.dp {K : PySem.W.Frag} {F H : Hp} {μ : List Addr} (s : Same F H) : ∀ (t : List T) {v : List V}, Reps K F μ t v → T.deps t < 1000 → DpAll K H v (T.toDs t)
  | [], v, h, _ => by simp only [Reps] at h; subst h; exact .nil
  | t :: l, v, h, d => by
    simp only [Reps] at h
    simp only [T.deps] at d
    obtain ⟨v, r, rfl, h1, h2⟩ := h
    have d1 : t.dep < 1000 := Nat.lt_of_le_of_lt (Nat.le_max_left _ _) d
    have d2 : T.deps l < 1000 := Nat.lt_of_le_of_lt (Nat.le_max_right _ _) d
    exact .cons (Rep.dp s t h1 d1) (Reps.dp s l h2 d2)
end
mutual
theorem Rep.lay {K : PySem.W.Frag} {F : Hp} {μ : List Addr} : ∀ (t : T) {v : V}, Rep K F μ t v → t.toD.canLay0 = true
  | .non, v, h => rfl
  | .bl b, v, h => rfl
  | .int i, v, h => rfl
  | .str x, v, h => by
    simp only [Rep] at h
    simp only [T.toD, PyData.canLay0]
    unfold PyData.strOk tx
    have : ∀ l : List Nat, (∀ c ∈ l, c < 1114112) → (l.all fun a => decide (a < 1114112)) = true := fun l h => by
      simpa [List.all_eq_true] using h
    show (x.toArray.all fun a => decide (a < 1114112)) = true
    rw [List.all_toArray]
    exact this x h.2.2
  | .tup l, v, h => by
    simp only [Rep] at h
    obtain ⟨a, vs, _, _, _, r⟩ := h
    simp only [T.toD, PyData.canLay0]
    exact Reps.lay l r
  | .lst l, v, h => by
    simp only [Rep] at h
    obtain ⟨a, vs, _, _, _, r⟩ := h
    simp only [T.toD, PyData.canLay0]
    exact Reps.lay l r
  | .obj _, v, h => rfl
  | .scr _, v, h => rfl
theorem Reps.lay {K : PySem.W.Frag} {F : Hp} {μ : List Addr} : ∀ (t : List T) {v : List V}, Reps K F μ t v → PyData.canLayAll0 (T.toDs t) = true
  | [], v, h => rfl
  | t :: l, v, h => by
    simp only [Reps] at h
    obtain ⟨v, r, rfl, h1, h2⟩ := h
    simp only [T.toDs, PyData.canLayAll0, Rep.lay t h1, Reps.lay l h2, Bool.and_self]
end
mutual
theorem T.toD_dep : ∀ t : T, t.toD.depth ≤ t.dep
  | .non => Nat.le_refl _
  | .bl b => Nat.le_refl _
  | .int i => Nat.le_refl _
  | .str x => Nat.le_refl _
  | .tup l => by simp only [T.toD, PyData.depth, T.dep]; have := T.toDs_dep l; omega
  | .lst l => by simp only [T.toD, PyData.depth, T.dep]; have := T.toDs_dep l; omega
  | .obj _ => by simp [T.toD, PyData.depth, T.dep]
  | .scr _ => by simp [T.toD, PyData.depth, T.dep]
theorem T.toDs_dep : ∀ t : List T, PyData.depthAll (T.toDs t) ≤ T.deps t
  | [] => Nat.le_refl _
  | t :: l => by
    simp only [T.toDs, PyData.depthAll, T.deps]
    have h1 := T.toD_dep t
    have h2 := T.toDs_dep l
    exact Nat.max_le.mpr ⟨Nat.le_trans h1 (Nat.le_max_left _ _), Nat.le_trans h2 (Nat.le_max_right _ _)⟩
end
theorem tx_beq (x y : List Nat) : (tx x == tx y) = (x == y) := by
  by_cases h : x = y
  · subst h; simp
  · rw [beq_eq_false_iff_ne.mpr h, beq_eq_false_iff_ne.mpr fun e => h (tx_inj e)]
mutual
theorem T.toD_eqv : ∀ a b : T, a.dep < 1000 → b.dep < 1000 → PyData.eqv a.toD b.toD = T.eqv a b
  | .tup l, .tup m, h, k => by
    simp only [T.toD, PyData.eqv, T.eqv]
    simp only [T.dep] at h k
    exact T.toDs_eqv l m (by omega) (by omega)
  | .lst l, .lst m, h, k => by
    simp only [T.toD, PyData.eqv, T.eqv]
    simp only [T.dep] at h k
    exact T.toDs_eqv l m (by omega) (by omega)
  | .str x, .str y, _, _ => by simp only [T.toD, PyData.eqv, T.eqv, tx_beq]
  | .obj _, _, h, _ => by simp [T.dep] at h
  | .scr _, _, h, _ => by simp [T.dep] at h
  | .non, b, _, k => by cases b <;> first | rfl | (simp [T.dep] at k; done) | simp [T.toD, PyData.eqv, T.eqv]
  | .bl _, b, _, k => by cases b <;> first | rfl | (simp [T.dep] at k; done) | simp [T.toD, PyData.eqv, T.eqv]
  | .int _, b, _, k => by cases b <;> first | rfl | (simp [T.dep] at k; done) | simp [T.toD, PyData.eqv, T.eqv]
  | .str _, .non, _, _ => by simp [T.toD, PyData.eqv, T.eqv]
  | .str _, .bl _, _, _ => by simp [T.toD, PyData.eqv, T.eqv]
  | .str _, .int _, _, _ => by simp [T.toD, PyData.eqv, T.eqv]
  | .str _, .tup _, _, _ => by simp [T.toD, PyData.eqv, T.eqv]
  | .str _, .lst _, _, _ => by simp [T.toD, PyData.eqv, T.eqv]
  | .str _, .obj _, _, k => by simp [T.dep] at k
  | .str _, .scr _, _, k => by simp [T.dep] at k
  | .tup _, .non, _, _ => by simp [T.toD, PyData.eqv, T.eqv]
  | .tup _, .bl _, _, _ => by simp [T.toD, PyData.eqv, T.eqv]
  | .tup _, .int _, _, _ => by simp [T.toD, PyData.eqv, T.eqv]
  | .tup _, .str _, _, _ => by simp [T.toD, PyData.eqv, T.eqv]
  | .tup _, .lst _, _, _ => by simp [T.toD, PyData.eqv, T.eqv]
  | .tup _, .obj _, _, k => by simp [T.dep] at k
  | .tup _, .scr _, _, k => by simp [T.dep] at k
  | .lst _, .non, _, _ => by simp [T.toD, PyData.eqv, T.eqv]
  | .lst _, .bl _, _, _ => by simp [T.toD, PyData.eqv, T.eqv]
  | .lst _, .int _, _, _ => by simp [T.toD, PyData.eqv, T.eqv]
  | .lst _, .str _, _, _ => by simp [T.toD, PyData.eqv, T.eqv]
  | .lst _, .tup _, _, _ => by simp [T.toD, PyData.eqv, T.eqv]
  | .lst _, .obj _, _, k => by simp [T.dep] at k
  | .lst _, .scr _, _, k => by simp [T.dep] at k
theorem T.toDs_eqv : ∀ a b : List T, T.deps a < 1000 → T.deps b < 1000 → PyData.eqvAll (T.toDs a) (T.toDs b) = T.eqvs a b
  | [], [], _, _ => rfl
  | [], _ :: _, _, _ => rfl
  | _ :: _, [], _, _ => rfl
  | x :: l, y :: m, h, k => by
    simp only [T.toDs, PyData.eqvAll, T.eqvs]
    simp only [T.deps] at h k
    have h1 : x.dep < 1000 := Nat.lt_of_le_of_lt (Nat.le_max_left _ _) h
    have h2 : T.deps l < 1000 := Nat.lt_of_le_of_lt (Nat.le_max_right _ _) h
    have k1 : y.dep < 1000 := Nat.lt_of_le_of_lt (Nat.le_max_left _ _) k
    have k2 : T.deps m < 1000 := Nat.lt_of_le_of_lt (Nat.le_max_right _ _) k
    rw [T.toD_eqv x y h1 k1, T.toDs_eqv l m h2 k2]
end
section
variable {G : Glo} {F H : Hp} {μ : List Addr} {t : T} {v : V}
theorem RepB.dp (h : RepB G F H μ t v) (s : Same F H) (d : t.dep < 1000) : Dp G.K H v t.toD := by
  rcases h with h | ⟨a, l, vs, rfl, rfl, h2, h3, h4, _⟩
  · exact Rep.dp s t h d
  · simp only [T.dep] at d
    exact .lst (SqL.of h2) (Reps.dp s l h4 (by omega))
theorem RepB.lay (h : RepB G F H μ t v) : t.toD.canLay0 = true := by
  rcases h with h | ⟨a, l, vs, rfl, rfl, h2, h3, h4, _⟩
  · exact Rep.lay t h
  · simp only [T.toD, PyData.canLay0]
    exact Reps.lay l h4
end
theorem o_eq {G : Glo} (hG : G.K = X.K) (hu : X.A.units + 128 < cLine) : OpR X (compareOp .Eq) (R2T G (cmpF .eq)) := by
  intro pins s σ H x y v u Q I rx ry h
  obtain ⟨F, μ, a, b, t, sf, ra, rb, e, r⟩ := h
  simp only [cmpF] at e
  split at e
  · cases e
    rename_i hd
    obtain ⟨as, r1⟩ := Dp.reads I _ x v (hG ▸ ra.dp sf (by omega)) rx
    obtain ⟨bs, r2⟩ := Dp.reads I _ y u (hG ▸ rb.dp sf (by omega)) ry
    refine SeqAt.compareEq_reads r1 r2 ra.lay rb.lay ?_ ⟨.bl _, H, I, rfl, ?_⟩
    · have := T.toD_dep a
      omega
    · rw [T.toD_eqv a b (by omega) (by omega)]
      exact r.now Rep.bl'
  · cases e
theorem o_ne {G : Glo} (hG : G.K = X.K) (hu : X.A.units + 128 < cLine) : OpR X (compareOp .NotEq) (R2T G (cmpF .ne)) := by
  intro pins s σ H x y v u Q I rx ry h
  obtain ⟨F, μ, a, b, t, sf, ra, rb, e, r⟩ := h
  simp only [cmpF] at e
  split at e
  · cases e
    rename_i hd
    obtain ⟨as, r1⟩ := Dp.reads I _ x v (hG ▸ ra.dp sf (by omega)) rx
    obtain ⟨bs, r2⟩ := Dp.reads I _ y u (hG ▸ rb.dp sf (by omega)) ry
    refine SeqAt.compareNe_reads r1 r2 ra.lay rb.lay ?_ ⟨.bl _, H, I, rfl, ?_⟩
    · have := T.toD_dep a
      omega
    · rw [T.toD_eqv a b (by omega) (by omega)]
      exact r.now Rep.bl'
  · cases e
theorem o_lt {G : Glo} : OpR X (compareOp .Lt) (R2T G (cmpF .lt)) := by
  intro pins s σ H x y v u Q I rx ry h
  obtain ⟨F, μ, a, b, t, sf, ra, rb, e, r⟩ := h
  simp only [cmpF] at e
  unfold T.lt at e
  split at e
  · cases e
    have := ra.int; have := rb.int; subst_vars
    exact op_lt pins s σ H _ _ v u Q I rx ry ⟨_, _, rfl, rfl, r.now Rep.bl'⟩
  · cases e
    obtain ⟨rfl, _, _⟩ := ra.str
    obtain ⟨rfl, _, _⟩ := rb.str
    refine op_lt_str pins s σ H _ _ v u Q I rx ry ⟨_, _, rfl, rfl, ?_⟩
    rw [tx_cps, tx_cps]
    exact r.now Rep.bl'
  · cases e
theorem o_le {G : Glo} : OpR X (compareOp .LtE) (R2T G (cmpF .le)) := by
  intro pins s σ H x y v u Q I rx ry h
  obtain ⟨F, μ, a, b, t, sf, ra, rb, e, r⟩ := h
  simp only [cmpF] at e
  unfold T.le at e
  split at e
  · cases e
    have := ra.int; have := rb.int; subst_vars
    exact op_le pins s σ H _ _ v u Q I rx ry ⟨_, _, rfl, rfl, r.now Rep.bl'⟩
  · cases e
    obtain ⟨rfl, _, _⟩ := ra.str
    obtain ⟨rfl, _, _⟩ := rb.str
    refine op_le_str pins s σ H _ _ v u Q I rx ry ⟨_, _, rfl, rfl, ?_⟩
    rw [tx_cps, tx_cps]
    exact r.now Rep.bl'
  · cases e
theorem o_gt {G : Glo} : OpR X (compareOp .Gt) (R2T G (cmpF .gt)) := by
  intro pins s σ H x y v u Q I rx ry h
  obtain ⟨F, μ, a, b, t, sf, ra, rb, e, r⟩ := h
  simp only [cmpF] at e
  unfold T.lt at e
  split at e
  · cases e
    have := ra.int; have := rb.int; subst_vars
    exact op_gt pins s σ H _ _ v u Q I rx ry ⟨_, _, rfl, rfl, r.now Rep.bl'⟩
  · cases e
    obtain ⟨rfl, _, _⟩ := ra.str
    obtain ⟨rfl, _, _⟩ := rb.str
    refine op_gt_str pins s σ H _ _ v u Q I rx ry ⟨_, _, rfl, rfl, ?_⟩
    rw [tx_cps, tx_cps]
    exact r.now Rep.bl'
  · cases e
theorem o_ge {G : Glo} : OpR X (compareOp .GtE) (R2T G (cmpF .ge)) := by
  intro pins s σ H x y v u Q I rx ry h
  obtain ⟨F, μ, a, b, t, sf, ra, rb, e, r⟩ := h
  simp only [cmpF] at e
  unfold T.le at e
  split at e
  · cases e
    have := ra.int; have := rb.int; subst_vars
    exact op_ge pins s σ H _ _ v u Q I rx ry ⟨_, _, rfl, rfl, r.now Rep.bl'⟩
  · cases e
    obtain ⟨rfl, _, _⟩ := ra.str
    obtain ⟨rfl, _, _⟩ := rb.str
    refine op_ge_str pins s σ H _ _ v u Q I rx ry ⟨_, _, rfl, rfl, ?_⟩
    rw [tx_cps, tx_cps]
    exact r.now Rep.bl'
  · cases e
theorem toDs_any {a : T} (ha : a.dep < 1000) : ∀ {l : List T}, T.deps l < 1000 → ((T.toDs l).any fun y => PyData.eqv y a.toD) = l.any fun y => T.eqv y a
  | [], _ => rfl
  | t :: l, h => by
    simp only [T.deps] at h
    have h1 : t.dep < 1000 := Nat.lt_of_le_of_lt (Nat.le_max_left _ _) h
    have h2 : T.deps l < 1000 := Nat.lt_of_le_of_lt (Nat.le_max_right _ _) h
    rw [T.toDs, List.any_cons, List.any_cons, T.toD_eqv t a h1 ha, toDs_any ha h2]
theorem RepB.lays {G : Glo} {F H : Hp} {μ : List Addr} {l : List T} {v : V} (h : RepB G F H μ (.tup l) v ∨ RepB G F H μ (.lst l) v) : PyData.canLayAll0 (T.toDs l) = true := by
  rcases h with h | h
  · have := h.lay; simpa only [T.toD, PyData.canLay0] using this
  · have := h.lay; simpa only [T.toD, PyData.canLay0] using this
theorem o_inn {G : Glo} (hG : G.K = X.K) (hu : X.A.units + 128 < cLine) : OpR X (compareOp .In) (R2T G (cmpF .inn)) := by
  intro pins s σ H x y v u Q I rx ry h
  obtain ⟨F, μ, a, b, t, sf, ra, rb, e, r⟩ := h
  simp only [cmpF] at e
  unfold T.inn at e
  split at e
  · cases e
    obtain ⟨rfl, _, _⟩ := ra.str
    obtain ⟨rfl, _, _⟩ := rb.str
    refine op_in_sign pins s σ H _ _ v u Q I rx ry ⟨_, _, rfl, rfl, ?_⟩
    rw [tx_cps, ← List.contains_eq_mem]
    exact r.now Rep.bl'
  · split at e
    · rename_i hd
      cases e
      obtain ⟨as, r1⟩ := Dp.reads I _ x v (hG ▸ ra.dp sf (by omega)) rx
      obtain ⟨bs, r2⟩ := Dp.reads I _ y u (hG ▸ rb.dp sf (by simp only [T.dep]; omega)) ry
      have := T.toD_dep a
      refine SeqAt.in_tuple_reads r2 r1 (RepB.lays (.inl rb)) ra.lay (by omega) ⟨.bl _, H, I, rfl, ?_⟩
      rw [toDs_any (by omega) (by omega)]
      exact r.now Rep.bl'
    · cases e
  · split at e
    · rename_i hd
      cases e
      obtain ⟨as, r1⟩ := Dp.reads I _ x v (hG ▸ ra.dp sf (by omega)) rx
      obtain ⟨bs, r2⟩ := Dp.reads I _ y u (hG ▸ rb.dp sf (by simp only [T.dep]; omega)) ry
      have := T.toD_dep a
      refine SeqAt.in_list_reads r2 r1 (RepB.lays (.inr rb)) ra.lay (by omega) ⟨.bl _, H, I, rfl, ?_⟩
      rw [toDs_any (by omega) (by omega)]
      exact r.now Rep.bl'
    · cases e
  · cases e
theorem o_nin {G : Glo} (hG : G.K = X.K) (hu : X.A.units + 128 < cLine) : OpR X (compareOp .NotIn) (R2T G (cmpF .nin)) := by
  intro pins s σ H x y v u Q I rx ry h
  obtain ⟨F, μ, a, b, t, sf, ra, rb, e, r⟩ := h
  simp only [cmpF] at e
  unfold T.inn at e
  split at e
  · cases e
    obtain ⟨rfl, _, _⟩ := ra.str
    obtain ⟨rfl, _, _⟩ := rb.str
    refine op_notIn_sign pins s σ H _ _ v u Q I rx ry ⟨_, _, rfl, rfl, ?_⟩
    rw [tx_cps, ← List.contains_eq_mem]
    exact r.now Rep.bl'
  · split at e
    · rename_i hd
      cases e
      obtain ⟨as, r1⟩ := Dp.reads I _ x v (hG ▸ ra.dp sf (by omega)) rx
      obtain ⟨bs, r2⟩ := Dp.reads I _ y u (hG ▸ rb.dp sf (by simp only [T.dep]; omega)) ry
      have := T.toD_dep a
      refine SeqAt.notIn_tuple_reads r2 r1 (RepB.lays (.inl rb)) ra.lay (by omega) ⟨.bl _, H, I, rfl, ?_⟩
      rw [toDs_any (by omega) (by omega)]
      exact r.now Rep.bl'
    · cases e
  · split at e
    · rename_i hd
      cases e
      obtain ⟨as, r1⟩ := Dp.reads I _ x v (hG ▸ ra.dp sf (by omega)) rx
      obtain ⟨bs, r2⟩ := Dp.reads I _ y u (hG ▸ rb.dp sf (by simp only [T.dep]; omega)) ry
      have := T.toD_dep a
      refine SeqAt.notIn_list_reads r2 r1 (RepB.lays (.inr rb)) ra.lay (by omega) ⟨.bl _, H, I, rfl, ?_⟩
      rw [toDs_any (by omega) (by omega)]
      exact r.now Rep.bl'
    · cases e
  · cases e
theorem RepB.isNon {G : Glo} {F H : Hp} {μ : List Addr} {t : T} {v : V} (h : RepB G F H μ t v) : decide (v = .non) = t.isNon := by
  rcases h with h | ⟨a, l, vs, rfl, rfl, h2, h3, h4, _⟩
  · cases t <;> simp only [Rep] at h <;> first
      | (subst h; rfl)
      | (rw [h.1]; rfl)
      | (obtain ⟨_, _, rfl, _⟩ := h; rfl)
      | (obtain ⟨_, rfl, _⟩ := h; rfl)
  · rfl
theorem o_is {G : Glo} : OpR X (compareOp .Is) (R2T G (cmpF .is)) := by
  intro pins s σ H x y v u Q I rx ry h
  obtain ⟨F, μ, a, b, t, sf, ra, rb, e, r⟩ := h
  unfold cmpF at e
  split at e <;> first | (cases ‹COp.is = _›; done) | skip
  · cases e
    have hb := rb.non; subst hb
    refine op_isN pins s σ H _ _ v u Q I rx ry ⟨rfl, ?_⟩
    rw [ra.isNon]
    exact r.now Rep.bl'
  · cases e
    have hb := rb.bl; have ha := ra.bl; subst ha hb
    refine op_is_bl pins s σ H _ _ _ _ Q I rx ry ⟨_, _, rfl, rfl, ?_⟩
    rw [← Bool.beq_eq_decide_eq]
    exact r.now Rep.bl'
  · cases e
theorem o_isn {G : Glo} : OpR X (compareOp .IsNot) (R2T G (cmpF .isn)) := by
  intro pins s σ H x y v u Q I rx ry h
  obtain ⟨F, μ, a, b, t, sf, ra, rb, e, r⟩ := h
  unfold cmpF at e
  split at e <;> first | (cases ‹COp.isn = _›; done) | skip
  · cases e
    have hb := rb.non; subst hb
    refine op_notN pins s σ H _ _ v u Q I rx ry ⟨rfl, ?_⟩
    rw [ra.isNon]
    exact r.now Rep.bl'
  · cases e
    have hb := rb.bl; have ha := ra.bl; subst ha hb
    refine op_isnot_bl pins s σ H _ _ _ _ Q I rx ry ⟨_, _, rfl, rfl, ?_⟩
    rw [← Bool.beq_eq_decide_eq]
    exact r.now Rep.bl'
  · cases e
theorem o_cmp {G : Glo} (hG : G.K = X.K) (hu : X.A.units + 128 < cLine) : ∀ o, OpR X (compareOp (copE o)) (R2T G (cmpF o))
  | .eq => o_eq hG hu
  | .ne => o_ne hG hu
  | .lt => o_lt
  | .le => o_le
  | .gt => o_gt
  | .ge => o_ge
  | .inn => o_inn hG hu
  | .nin => o_nin hG hu
  | .is => o_is
  | .isn => o_isn
end
end Ly
namespace Ly
open PySem PySem.Spec L2
open PyProof.Rows hiding St

/-! ### several values for a look -/
def RepBs (G : Glo) (F H : Hp) (μ : List Addr) : List T → List V → Prop
  | [], vs => vs = []
  | t :: ts, vs => ∃ v r, vs = v :: r ∧ RepB G F H μ t v ∧ RepBs G F H μ ts r
def RLT (G : Glo) (f : List T → Option T) : List V → Hp → VK → Prop := fun xs H Q => ∃ F μ ts t, Same F H ∧ RepBs G F H μ ts xs ∧ f ts = some t ∧ Res G F H μ t Q
section
variable {G : Glo} {F H : Hp} {μ : List Addr}
theorem RepBs.one {t : T} {xs : List V} (h : RepBs G F H μ [t] xs) : ∃ v, xs = [v] ∧ RepB G F H μ t v := by
  simp only [RepBs] at h
  obtain ⟨v, r, rfl, h1, rfl⟩ := h
  exact ⟨v, rfl, h1⟩
theorem RepBs.two {t u : T} {xs : List V} (h : RepBs G F H μ [t, u] xs) : ∃ v w, xs = [v, w] ∧ RepB G F H μ t v ∧ RepB G F H μ u w := by
  simp only [RepBs] at h
  obtain ⟨v, r, rfl, h1, w, r', rfl, h2, rfl⟩ := h
  exact ⟨v, w, rfl, h1, h2⟩
theorem allInt_map : ∀ {l : List T} {ns : List Int}, allInt l = some ns → l = ns.map T.int
  | [], ns, e => by simp [allInt] at e; subst e; rfl
  | t :: l, ns, e => by
    cases t with
    | int i =>
      simp only [allInt, Option.map_eq_some_iff] at e
      obtain ⟨m, h, rfl⟩ := e
      rw [allInt_map h, List.map_cons]
    | _ => simp [allInt] at e
theorem allBl_map : ∀ {l : List T} {ns : List Bool}, allBl l = some ns → l = ns.map T.bl
  | [], ns, e => by simp [allBl] at e; subst e; rfl
  | t :: l, ns, e => by
    cases t with
    | bl i =>
      simp only [allBl, Option.map_eq_some_iff] at e
      obtain ⟨m, h, rfl⟩ := e
      rw [allBl_map h, List.map_cons]
    | _ => simp [allBl] at e
theorem allStr_map : ∀ {l : List T} {ns : List (List Nat)}, allStr l = some ns → l = ns.map T.str
  | [], ns, e => by simp [allStr] at e; subst e; rfl
  | t :: l, ns, e => by
    cases t with
    | str i =>
      simp only [allStr, Option.map_eq_some_iff] at e
      obtain ⟨m, h, rfl⟩ := e
      rw [allStr_map h, List.map_cons]
    | _ => simp [allStr] at e
theorem maxI_spec : ∀ (l : List Int), l ≠ [] → maxI l ∈ l ∧ ∀ y ∈ l, y ≤ maxI l
  | [], h => absurd rfl h
  | [a], _ => by simp [maxI]
  | a :: b :: l, _ => by
    obtain ⟨h1, h2⟩ := maxI_spec (b :: l) (by simp)
    simp only [maxI]
    constructor
    · by_cases h : a ≤ maxI (b :: l)
      · rw [Int.max_eq_right h]; exact List.mem_cons_of_mem _ h1
      · rw [Int.max_eq_left (by omega)]; exact List.mem_cons_self
    · intro y hy
      rcases List.mem_cons.mp hy with rfl | hy
      · exact Int.le_max_left _ _
      · exact Int.le_trans (h2 y hy) (Int.le_max_right _ _)
theorem minI_spec : ∀ (l : List Int), l ≠ [] → minI l ∈ l ∧ ∀ y ∈ l, minI l ≤ y
  | [], h => absurd rfl h
  | [a], _ => by simp [minI]
  | a :: b :: l, _ => by
    obtain ⟨h1, h2⟩ := minI_spec (b :: l) (by simp)
    simp only [minI]
    constructor
    · by_cases h : a ≤ minI (b :: l)
      · rw [Int.min_eq_left h]; exact List.mem_cons_self
      · rw [Int.min_eq_right (by omega)]; exact List.mem_cons_of_mem _ h1
    · intro y hy
      rcases List.mem_cons.mp hy with rfl | hy
      · exact Int.min_le_left _ _
      · exact Int.le_trans (Int.min_le_right _ _) (h2 y hy)
end

section
variable {X : Cx}
/-! ### subscripts and slices -/
theorem ixOf_ixN (n : Nat) (i : Int) : ixOf n i = ixN n i := rfl
theorem Reps.atI {K : PySem.W.Frag} {F : Hp} {μ : List Addr} {ts : List T} {vs : List V} {i : Int} {t : T} (h : Reps K F μ ts vs) (e : ((ixOf ts.length i).bind fun k => ts[k]?) = some t) : ∃ v, L2.atI vs i = some v ∧ Rep K F μ t v := by
  unfold L2.atI
  rw [h.length, ← ixOf_ixN]
  cases q : ixOf ts.length i with
  | none => rw [q] at e; cases e
  | some k =>
    rw [q] at e
    exact h.get e
theorem o_sub_ix {G : Glo} (hG : G.K = X.K) : IxR X (R2T G T.sub?) := by
  intro value slice pins s σ H x y v u Q I rx ry h hs
  obtain ⟨F, μ, a, b, t, sf, ra, rb, e, r⟩ := h
  unfold T.sub? at e
  split at e
  · have := rb.int; subst this
    simp only [Option.bind_eq_some_iff, Option.map_eq_some_iff] at e
    obtain ⟨k, e1, j, e2, rfl⟩ := e
    rcases ra with ra | ⟨_, _, _, e, _⟩
    · simp only [Rep] at ra
      obtain ⟨a, rfl, q, z⟩ := ra
      refine ix_list value slice pins s σ H _ _ v u Q I rx ry ⟨a, _, _, .int j, rfl, rfl, hG ▸ sf.seq q, ?_, r.now Rep.int'⟩ hs
      unfold L2.atI
      rw [List.length_map, ← ixOf_ixN, e1]
      simp [e2]
    · cases e
  · have := rb.int; subst this
    obtain ⟨a, vs, rfl, q, z, rs⟩ := ra.tup sf
    obtain ⟨w, e1, h1⟩ := rs.atI e
    exact ix_tup value slice pins s σ H _ _ v u Q I rx ry ⟨a, vs, _, w, rfl, rfl, hG ▸ q, e1, r.now h1⟩ hs
  · have := rb.int; subst this
    obtain ⟨a, vs, rfl, q, z, rs⟩ := ra.lst sf
    obtain ⟨w, e1, h1⟩ := rs.atI e
    exact ix_list value slice pins s σ H _ _ v u Q I rx ry ⟨a, vs, _, w, rfl, rfl, SqL.of q, e1, r.now h1⟩ hs
  · have := rb.int; subst this
    obtain ⟨rfl, z, c⟩ := ra.str
    simp only [Option.bind_eq_some_iff, Option.map_eq_some_iff] at e
    obtain ⟨k, e1, j, e2, rfl⟩ := e
    refine ix_str value slice pins s σ H _ _ v u Q I rx ry ⟨_, _, j, rfl, rfl, by rw [tx_len]; exact z, ?_, ?_⟩ hs
    · unfold L2.atI
      rw [tx_cps, ← ixOf_ixN, e1]
      exact e2
    · refine r.now (Rep.str' (x := [j]) (by show 1 ≤ sizeLine; decide) fun d hd => ?_)
      have : d = j := by simpa using hd
      subst this
      exact c d (List.mem_of_getElem? e2)
  · cases e
theorem cutL_le {α : Type} (l : List α) (lo hi : Option Int) : (cutL l lo hi).length ≤ l.length := by
  unfold cutL
  rw [List.length_take, List.length_drop]
  omega
theorem clip_sIx (n d : Nat) (o : Option Int) : clip n d o = HT.sIx n d o := by cases o <;> rfl
theorem Reps.cut {K : PySem.W.Frag} {F : Hp} {μ : List Addr} {ts : List T} {vs : List V} (h : Reps K F μ ts vs) (lo hi : Option Int) : Reps K F μ (cutL ts lo hi) (cutV vs lo hi) := by
  unfold cutL cutV
  rw [h.length, clip_sIx, clip_sIx]
  exact (h.drop _).take _
theorem o_slc {G : Glo} (hG : G.K = X.K) : SlR X (fun x lo hi H Q => ∃ F μ a t, Same F H ∧ RepB G F H μ a x ∧ T.slc a lo hi = some t ∧ Res G F H μ t Q) := by
  intro pins s σ H x v vl vu lo hi sl Q I rx hs pl pu h
  obtain ⟨F, μ, a, t, sf, ra, e, r⟩ := h
  unfold T.slc at e
  split at e
  · cases e
    rename_i l
    have ka : Rep G.K F μ (.tup l) x := by
      rcases ra with h | ⟨_, _, _, e, _⟩
      · exact h
      · cases e
    obtain ⟨a, vs, rfl, q, z, rs⟩ := ra.tup sf
    refine sl_tupA pins s σ H _ v vl vu lo hi sl Q I rx hs pl pu ⟨a, vs, rfl, hG ▸ q, fun hw => ?_, fun _ p hp => ?_⟩
    · have : cutL l lo hi = l := by
        have e := rs.length
        unfold cutL
        rw [clip_sIx, clip_sIx, ← e, hw.1, hw.2, e]
        simp
      rw [this] at r
      exact r.now ka
    · exact r.tup sf hp (Nat.le_trans (cutL_le _ _ _) z) (rs.cut lo hi)
  · cases e
    obtain ⟨a, vs, rfl, q, z, rs⟩ := ra.lst sf
    exact sl_list pins s σ H _ v vl vu lo hi sl Q I rx hs pl pu ⟨a, vs, rfl, SqL.of q, fun p hp => r.lst sf hp (Nat.le_trans (cutL_le _ _ _) z) (rs.cut lo hi)⟩
  · cases e
    rename_i l
    obtain ⟨rfl, z, c⟩ := ra.str
    refine sl_str pins s σ H _ v vl vu lo hi sl Q I rx hs pl pu ⟨_, rfl, by rw [tx_len]; exact z, ?_⟩
    have : cutS (tx l) lo hi = tx (cutL l lo hi) := by
      unfold cutS cutL
      rw [tx_cps, tx_len, clip_sIx, clip_sIx]
      rfl
    rw [this]
    exact r.now (Rep.str' (Nat.le_trans (cutL_le _ _ _) z) fun d hd => c d (List.mem_of_mem_drop (List.mem_of_mem_take hd)))
  · cases e

/-! ### truth -/
theorem RepB.tru {G : Glo} {F H : Hp} {μ : List Addr} {t : T} {v : V} {b : Bool} (h : RepB G F H μ t v) (hG : G.K = X.K) (sf : Same F H) (e : t.tru = some b) : TruV X.K v H b := by
  cases t with
  | non => have := h.non; subst this; cases e; rfl
  | bl k => have := h.bl; subst this; cases e; rfl
  | int k => have := h.int; subst this; cases e; rfl
  | str x =>
    obtain ⟨rfl, z, _⟩ := h.str
    cases e
    refine ⟨by rw [tx_len]; exact z, ?_⟩
    rw [tx_len]
    cases x <;> simp
    omega
  | tup l =>
    obtain ⟨a, vs, rfl, q, z, rs⟩ := h.tup sf
    cases e
    exact .inr (.inl ⟨vs, hG ▸ q, by rw [rs.nil_iff]⟩)
  | lst l =>
    obtain ⟨a, vs, rfl, q, z, rs⟩ := h.lst sf
    cases e
    exact .inl ⟨vs, SqL.of q, by rw [rs.nil_iff]⟩
  | obj _ => cases e
  | scr _ => cases e

/-! ### built-in functions -/
theorem o_len {G : Glo} (hG : G.K = X.K) : CallR X (.builtin "len") (RLT G (biF .len)) := by
  intro pins s σ H xs us Q I rv h
  obtain ⟨F, μ, ts, t, sf, rb, e, r⟩ := h
  unfold biF at e
  split at e <;> first | (cases ‹Bi.len = _›; done) | skip
  · cases e
    obtain ⟨v, rfl, h⟩ := rb.one
    obtain ⟨rfl, z, _⟩ := h.str
    refine call_len_str pins s σ H _ us Q I rv ⟨_, rfl, by rw [tx_len]; exact z, ?_⟩
    rw [tx_len]
    exact r.now Rep.int'
  · cases e
    obtain ⟨v, rfl, h⟩ := rb.one
    obtain ⟨a, vs, rfl, q, z, rs⟩ := h.tup sf
    refine call_len_seq pins s σ H _ us Q I rv ⟨a, vs, rfl, .inr (hG ▸ q), ?_⟩
    rw [rs.length]
    exact r.now Rep.int'
  · cases e
    obtain ⟨v, rfl, h⟩ := rb.one
    obtain ⟨a, vs, rfl, q, z, rs⟩ := h.lst sf
    refine call_len_seq pins s σ H _ us Q I rv ⟨a, vs, rfl, .inl (SqL.of q), ?_⟩
    rw [rs.length]
    exact r.now Rep.int'
  · cases e
    obtain ⟨v, rfl, h⟩ := rb.one
    rcases h with h | ⟨_, _, _, e, _⟩
    · simp only [Rep] at h
      obtain ⟨a, rfl, q, z⟩ := h
      refine call_len_seq pins s σ H _ us Q I rv ⟨a, _, rfl, .inl (hG ▸ sf.seq q), ?_⟩
      rw [List.length_map]
      exact r.now Rep.int'
    · cases e
  · cases e
theorem o_max {G : Glo} (hc : X.calm = true) : CallR X (.builtin "max") (RLT G (biF .max)) := by
  intro pins s σ H xs us Q I rv h
  obtain ⟨F, μ, ts, t, sf, rb, e, r⟩ := h
  unfold biF at e
  split at e <;> first | (cases ‹Bi.max = _›; done) | skip
  · cases e
    rename_i i j _
    obtain ⟨v, w, rfl, h1, h2⟩ := rb.two
    have := h1.int; have := h2.int; subst_vars
    refine call_max2 hc pins s σ H _ us Q I rv ⟨_, _, rfl, ?_⟩
    have : (if j > i then j else i) = max i j := by split <;> omega
    rw [this]
    exact r.now Rep.int'
  · split at e
    · cases e
      rename_i hq
      obtain ⟨v, rfl, h⟩ := rb.one
      obtain ⟨a, vs, rfl, q, z, rs⟩ := h.lst sf
      rw [allInt_map hq] at rs
      rw [rs.ints] at q
      refine cr_max hc pins s σ H _ us Q I rv ⟨a, _, rfl, SqL.of q, by simp, fun m hm hy => ?_⟩
      obtain ⟨h1, h2⟩ := maxI_spec _ (List.cons_ne_nil _ _)
      have : m = maxI _ := Int.le_antisymm (h2 m hm) (hy _ h1)
      rw [this]
      exact r.now Rep.int'
    · cases e
  · cases e
theorem o_min {G : Glo} (hc : X.calm = true) : CallR X (.builtin "min") (RLT G (biF .min)) := by
  intro pins s σ H xs us Q I rv h
  obtain ⟨F, μ, ts, t, sf, rb, e, r⟩ := h
  unfold biF at e
  split at e <;> first | (cases ‹Bi.min = _›; done) | skip
  · cases e
    rename_i i j _
    obtain ⟨v, w, rfl, h1, h2⟩ := rb.two
    have := h1.int; have := h2.int; subst_vars
    refine call_min2 hc pins s σ H _ us Q I rv ⟨_, _, rfl, ?_⟩
    have : (if j < i then j else i) = min i j := by split <;> omega
    rw [this]
    exact r.now Rep.int'
  · split at e
    · cases e
      rename_i hq
      obtain ⟨v, rfl, h⟩ := rb.one
      obtain ⟨a, vs, rfl, q, z, rs⟩ := h.lst sf
      rw [allInt_map hq] at rs
      rw [rs.ints] at q
      refine cr_min hc pins s σ H _ us Q I rv ⟨a, _, rfl, SqL.of q, by simp, fun m hm hy => ?_⟩
      obtain ⟨h1, h2⟩ := minI_spec _ (List.cons_ne_nil _ _)
      have : m = minI _ := Int.le_antisymm (hy _ h1) (h2 m hm)
      rw [this]
      exact r.now Rep.int'
    · cases e
  · cases e
theorem o_sum {G : Glo} (hc : X.calm = true) : CallR X (.builtin "sum") (RLT G (biF .sum)) := by
  intro pins s σ H xs us Q I rv h
  obtain ⟨F, μ, ts, t, sf, rb, e, r⟩ := h
  unfold biF at e
  split at e <;> first | (cases ‹Bi.sum = _›; done) | skip
  · simp only [Option.map_eq_some_iff] at e
    obtain ⟨ns, hq, rfl⟩ := e
    obtain ⟨v, rfl, h⟩ := rb.one
    obtain ⟨a, vs, rfl, q, z, rs⟩ := h.lst sf
    rw [allInt_map hq] at rs
    rw [rs.ints] at q
    exact cr_sum hc pins s σ H _ us Q I rv ⟨a, _, rfl, SqL.of q, r.now Rep.int'⟩
  · cases e
theorem o_all {G : Glo} (hc : X.calm = true) : CallR X (.builtin "all") (RLT G (biF .all)) := by
  intro pins s σ H xs us Q I rv h
  obtain ⟨F, μ, ts, t, sf, rb, e, r⟩ := h
  unfold biF at e
  split at e <;> first | (cases ‹Bi.all = _›; done) | skip
  · simp only [Option.map_eq_some_iff] at e
    obtain ⟨ns, hq, rfl⟩ := e
    obtain ⟨v, rfl, h⟩ := rb.one
    obtain ⟨a, vs, rfl, q, z, rs⟩ := h.lst sf
    rw [allBl_map hq] at rs
    rw [rs.bls] at q
    exact cr_all hc pins s σ H _ us Q I rv ⟨a, _, rfl, SqL.of q, r.now Rep.bl'⟩
  · cases e
theorem o_any {G : Glo} (hc : X.calm = true) : CallR X (.builtin "any") (RLT G (biF .any)) := by
  intro pins s σ H xs us Q I rv h
  obtain ⟨F, μ, ts, t, sf, rb, e, r⟩ := h
  unfold biF at e
  split at e <;> first | (cases ‹Bi.any = _›; done) | skip
  · simp only [Option.map_eq_some_iff] at e
    obtain ⟨ns, hq, rfl⟩ := e
    obtain ⟨v, rfl, h⟩ := rb.one
    obtain ⟨a, vs, rfl, q, z, rs⟩ := h.lst sf
    rw [allBl_map hq] at rs
    rw [rs.bls] at q
    exact cr_any hc pins s σ H _ us Q I rv ⟨a, _, rfl, SqL.of q, r.now Rep.bl'⟩
  · cases e
theorem o_tup {G : Glo} (hG : G.K = X.K) : CallR X (.type "tuple") (RLT G (biF .tup)) := by
  intro pins s σ H xs us Q I rv h
  obtain ⟨F, μ, ts, t, sf, rb, e, r⟩ := h
  unfold biF at e
  split at e <;> first | (cases ‹Bi.tup = _›; done) | skip
  · cases e
    obtain ⟨v, rfl, h⟩ := rb.one
    obtain ⟨a, vs, rfl, q, z, rs⟩ := h.lst sf
    exact call_tuple_of pins s σ H _ us Q I rv ⟨a, vs, rfl, .inl ⟨SqL.of q, fun p hp => r.tup sf hp z rs⟩⟩
  · cases e
    rename_i l _
    obtain ⟨v, rfl, h⟩ := rb.one
    have ka : Rep G.K F μ (.tup l) v := by
      rcases h with h | ⟨_, _, _, e, _⟩
      · exact h
      · cases e
    obtain ⟨a, vs, rfl, q, z, rs⟩ := h.tup sf
    exact call_tuple_of pins s σ H _ us Q I rv ⟨a, vs, rfl, .inr ⟨hG ▸ q, r.now ka⟩⟩
  · cases e
theorem o_lst {G : Glo} (hG : G.K = X.K) : CallR X (.type "list") (RLT G (biF .lst)) := by
  intro pins s σ H xs us Q I rv h
  obtain ⟨F, μ, ts, t, sf, rb, e, r⟩ := h
  unfold biF at e
  split at e <;> first | (cases ‹Bi.lst = _›; done) | skip
  · cases e
    obtain ⟨v, rfl, h⟩ := rb.one
    obtain ⟨a, vs, rfl, q, z, rs⟩ := h.lst sf
    exact call_list_of pins s σ H _ us Q I rv ⟨a, vs, rfl, .inl (SqL.of q), fun p hp => r.lst sf hp z rs⟩
  · cases e
    obtain ⟨v, rfl, h⟩ := rb.one
    obtain ⟨a, vs, rfl, q, z, rs⟩ := h.tup sf
    exact call_list_of pins s σ H _ us Q I rv ⟨a, vs, rfl, .inr (hG ▸ q), fun p hp => r.lst sf hp z rs⟩
  · cases e
/-- isinstance(x, one built-in type): x and the type's value -/
def tyT : T → Option String
  | .non => some "NoneType" | .bl _ => some "bool" | .int _ => some "int" | .str _ => some "str" | .tup _ => some "tuple" | .lst _ => some "list"
  | .obj _ => none | .scr _ => none
theorem RepB.ty {G : Glo} {F H : Hp} {μ : List Addr} {t : T} {v : V} {n : String} (h : RepB G F H μ t v) (hG : G.K = X.K) (sf : Same F H) (e : tyT t = some n) : TyX X.K H v (.type n) := by
  cases t with
  | non => have := h.non; subst this; cases e; exact .base .non
  | bl k => have := h.bl; subst this; cases e; exact .base (.bl _)
  | int k => have := h.int; subst this; cases e; exact .base (.int _)
  | str x => obtain ⟨rfl, _, _⟩ := h.str; cases e; exact .base (.str _)
  | tup l =>
    obtain ⟨a, vs, rfl, q, z, rs⟩ := h.tup sf
    cases e
    rcases q with (q | ⟨o, q⟩) | ⟨o, its, n, h1, h2, _⟩
    · exact .base (.tup q)
    · exact .fTuple q
    · exact .kTuple (hG ▸ h1) h2
  | lst l =>
    obtain ⟨a, vs, rfl, q, z, rs⟩ := h.lst sf
    cases e
    exact .base (.lst q)
  | obj _ => cases e
  | scr _ => cases e
theorem kit_b (K : PySem.W.Frag) (n m : String) (b : Bool) (h : PySem.W.kitOne K (.type n) (.type m) = some b) : PySem.W.kitOne K (.type n) (.type m) = some b := h
def isiB (n m : String) : Bool := n == m || (n == "bool" && m == "int")
theorem kit_all (K : PySem.W.Frag) {t : T} {n m : String} (e : tyT t = some n) (hm : m = "tuple" ∨ m = "list" ∨ m = "str" ∨ m = "int" ∨ m = "bool") : PySem.W.kitOne K (.type n) (.type m) = some (isiB n m) := by
  cases t <;> simp only [tyT, Option.some.injEq] at e <;> first
    | (cases e; done)
    | (subst e; rcases hm with rfl | rfl | rfl | rfl | rfl <;> rfl)
theorem o_isi {G : Glo} (hG : G.K = X.K) {m : String} (hm : m = "tuple" ∨ m = "list" ∨ m = "str" ∨ m = "int" ∨ m = "bool") :
    CallR X (.builtin "isinstance") (fun xs H Q => ∃ F μ a t n x, xs = [x, .ty m] ∧ Same F H ∧ RepB G F H μ a x ∧ tyT a = some n ∧ t = T.bl (isiB n m) ∧ Res G F H μ t Q) := by
  intro pins s σ H xs us Q I rv h
  obtain ⟨F, μ, a, t, n, x, rfl, sf, ra, e, rfl, r⟩ := h
  exact call_isi pins s σ H _ us Q I rv ⟨x, .ty m, .type n, .type m, _, rfl, .ty m, ra.ty hG sf e, kit_all X.K e hm, r.now Rep.bl'⟩
theorem kit_is (K : PySem.W.Frag) {t u : T} {n : String} (e : tyT t = some n) (h : isISf t = some u) : ∃ b, u = T.bl b ∧ PySem.W.kitAny K (.type n) [.type "int", .type "str"] = some b := by
  cases t <;> simp only [tyT, isISf, Option.some.injEq, reduceCtorEq] at e h <;> subst e <;> subst h <;> exact ⟨_, rfl, rfl⟩
theorem isIS_ty {t u : T} (h : isISf t = some u) : ∃ n, tyT t = some n := by
  cases t <;> simp only [isISf, reduceCtorEq] at h <;> exact ⟨_, rfl⟩
theorem o_isIS {G : Glo} (hG : G.K = X.K) :
    CallR X (.builtin "isinstance") (fun xs H Q => ∃ F μ a t x tp, xs = [x, .ref tp] ∧ H tp = some (.tup [.ty "int", .ty "str"]) ∧ Same F H ∧ RepB G F H μ a x ∧ isISf a = some t ∧ Res G F H μ t Q) := by
  intro pins s σ H xs us Q I rv h
  obtain ⟨F, μ, a, t, x, tp, rfl, ht, sf, ra, e, r⟩ := h
  obtain ⟨n, hn⟩ := isIS_ty e
  obtain ⟨b, rfl, hb⟩ := kit_is X.K hn e
  exact call_isiT pins s σ H _ us Q I rv ⟨x, tp, _, .type n, _, b, rfl, ht, .cons (.ty "int") (.cons (.ty "str") .nil), ra.ty hG sf hn, hb, r.now Rep.bl'⟩
end
end Ly
namespace Ly
open PySem PySem.Spec L2
open PyProof.Rows hiding St

/-! ### is the text this text -/
def visB (sc : Scope) (x : Str) : Bool := match sc.names.lookup x with
  | some .local => true
  | some .cell => true
  | some .free => true
  | _ => false
def locB (sc : Scope) (x : Str) : Bool := match sc.names.lookup x with
  | some .local => true
  | some .cell => true
  | _ => false
def gloB (sc : Scope) (x : Str) : Bool := match sc.names.lookup x with
  | some .globalImplicit => true
  | _ => false
theorem visB_ok {sc : Scope} {x : Str} (h : visB sc x = true) : Vis sc x := by
  unfold visB at h
  split at h <;> first | (cases h; done) | skip
  · exact .inl ‹_›
  · exact .inr (.inl ‹_›)
  · exact .inr (.inr ‹_›)
theorem locB_ok {sc : Scope} {x : Str} (h : locB sc x = true) : Loc sc x := by
  unfold locB at h
  split at h <;> first | (cases h; done) | skip
  · exact .inl ‹_›
  · exact .inr ‹_›
theorem gloB_ok {sc : Scope} {x : Str} (h : gloB sc x = true) : sc.names.lookup x = some .globalImplicit := by
  unfold gloB at h
  split at h <;> first | (cases h; done) | skip
  assumption
mutual
def T.same : T → T → Bool
  | .non, .non => true
  | .bl a, .bl b => a == b
  | .int a, .int b => a == b
  | .str a, .str b => a == b
  | .tup a, .tup b => T.sames a b
  | _, _ => false
def T.sames : List T → List T → Bool
  | [], [] => true
  | a :: l, b :: m => T.same a b && T.sames l m
  | _, _ => false
end
mutual
theorem T.same_ok : ∀ {a b : T}, T.same a b = true → a = b
  | .non, b, h => by cases b <;> simp_all [T.same]
  | .bl _, b, h => by cases b <;> simp_all [T.same]
  | .int _, b, h => by cases b <;> simp_all [T.same]
  | .str _, b, h => by cases b <;> simp_all [T.same]
  | .tup l, b, h => by
    cases b <;> simp only [T.same, Bool.false_eq_true] at h
    rw [T.sames_ok h]
  | .lst _, b, h => by cases b <;> simp [T.same] at h
  | .obj _, b, h => by cases b <;> simp [T.same] at h
  | .scr _, b, h => by cases b <;> simp [T.same] at h
theorem T.sames_ok : ∀ {a b : List T}, T.sames a b = true → a = b
  | [], [], _ => rfl
  | [], _ :: _, h => by simp [T.sames] at h
  | _ :: _, [], h => by simp [T.sames] at h
  | a :: l, b :: m, h => by
    simp only [T.sames, Bool.and_eq_true] at h
    rw [T.same_ok h.1, T.sames_ok h.2]
end
def biName : Bi → Str
  | .len => "len" | .max => "max" | .min => "min" | .sum => "sum" | .all => "all" | .any => "any" | .tup => "tuple" | .lst => "list" | .isT => "isinstance" | .isS => "isinstance" | .isI => "isinstance" | .isL => "isinstance" | .isB => "isinstance"
def isiName : Bi → Option Str
  | .isT => some "tuple" | .isS => some "str" | .isI => some "int" | .isL => some "list" | .isB => some "bool" | _ => none
def litB : T → Expr → Bool
  | .int i, .Constant (.int j) _ _ => i == j
  | .str x, .Constant (.str y) _ _ => decide (tx x = y) && decide (x.length ≤ 1000) && x.all (fun c => decide (c < 1114112))
  | .non, .Constant .none _ _ => true
  | .bl b, .Constant (.bool c) _ _ => b == c
  | _, _ => false
mutual
def okT (N : List Str) (sc : Scope) : Tg → Expr → Bool
  | .nm i, .Name x _ => decide (N[i]? = some x) && locB sc x
  | .tp ts, .Tuple es _ _ => okTs N sc ts es
  | _, _ => false
def okTs (N : List Str) (sc : Scope) : Tgs → List Expr → Bool
  | .nil, [] => true
  | .cons t ts, e :: es => okT N sc t e && okTs N sc ts es
  | _, _ => false
end
mutual
def Tg.own (N : List Str) : Tg → List (Str × Nat)
  | .nm i => [(N.getD i "", i)]
  | .tp ts => Tgs.own N ts
def Tgs.own (N : List Str) : Tgs → List (Str × Nat)
  | .nil => []
  | .cons g gs => g.own N ++ gs.own N
end
def srcName : SK → Str
  | .rng => "range" | .enm => "enumerate" | .zip => "zip" | .rev => "reversed" | .val => ""
def srcLen : SK → List Expr → Bool
  | .rng, es => es.length == 1 || es.length == 2
  | .enm, es => es.length == 1
  | .zip, es => es.length == 2
  | _, _ => false
/-- a source's arguments -/
def srcArgs (sc : Scope) : SK → Expr → Option (List Expr)
  | .val, e => some [e]
  | k, .Call (.Name x _) es [] _ => if x = srcName k && gloB sc x && srcLen k es then some es else none
  | _, _ => none
/-- pairs are walked to a tuple -/
def tgOk : SK → Expr → Bool
  | .enm, .Tuple .. => true
  | .enm, _ => false
  | .zip, .Tuple .. => true
  | .zip, _ => false
  | _, _ => true
def plainX : Expr → Bool
  | .Starred .. => false
  | .Set .. => false
  | .Slice .. => false
  | .Lambda .. => false
  | _ => true
def nBor : Ex → Bool
  | .bor _ => false
  | _ => true
theorem nBor_ok {E : Ex} (h : nBor E = true) : ∀ i, E ≠ .bor i := fun i q => by subst q; cases h
def noIf : Expr → Bool
  | .IfExp .. => false
  | _ => true
section
variable (tab : List FnI) (glo : List (Str × T)) (N : List Str)
mutual
def okE : Scope → Ex → Expr → Bool
  | _, .lit t, e => litB t e
  | sc, .glb x t, .Name y _ => decide (x = y) && gloB sc y && decide (y ≠ "__debug__") && (match glo.lookup x with | some u => T.same t u | none => false)
  | sc, .var i, .Name x _ => decide (N[i]? = some x) && visB sc x && decide (x ≠ "__debug__") && decide (x ≠ "__classdict__")
  | sc, .bor i, .Name x _ => decide (N[i]? = some x) && visB sc x && decide (x ≠ "__debug__") && decide (x ≠ "__classdict__")
  | _, .neg i, .UnaryOp .USub (.Constant (.int j) _ _) _ => i == j
  | sc, .bin o a b, .BinOp l op r _ => decide (op = bopE o) && okE sc a l && okE sc b r
  | sc, .cmp o a b, .Compare l [op] [r] _ => decide (op = copE o) && okE sc a l && okE sc b r
  | sc, .chn o o' a b d, .Compare l [op, op'] [r, q] _ => decide (op = copE o) && decide (op' = copE o') && (nBor a && nBor b && nBor d) && okE sc a l && okE sc b r && okE sc d q
  | sc, .and a b, .BoolOp .And (x :: y :: r) p => noIf x && okE sc a x && okE sc b (.BoolOp .And (y :: r) p)
  | sc, .or a b, .BoolOp .Or (x :: y :: r) p => noIf x && okE sc a x && okE sc b (.BoolOp .Or (y :: r) p)
  | sc, .one a, .BoolOp _ [x] _ => noIf x && okE sc a x
  | sc, .not a, .UnaryOp .Not x _ => noIf x && okE sc a x
  | sc, .ife d a b, .IfExp t x y _ => noIf t && okE sc d t && okE sc a x && okE sc b y
  | sc, .tup es, .Tuple xs _ _ => okEs sc es xs
  | sc, .lst es, .List xs _ => okEs sc es xs
  | sc, .sub a i, .Subscript x y _ => nBor i && okE sc a x && okE sc i y
  | sc, .slc a lo hi, .Subscript x (.Slice l h none _) _ => okE sc a x && (match l with | none => isNop lo | some l => okE sc lo l) && (match h with | none => isNop hi | some h => okE sc hi h)
  | sc, .call f es, .Call (.Name x _) xs [] _ => (match tab[f]? with | some fi => decide (x = fi.name) | none => false) && gloB sc x && decide (x ≠ "__debug__") && decide (xs ≠ []) && okEs sc es xs
  | sc, .bi b es, .Call (.Name x _) xs [] _ => decide (x = biName b) && gloB sc x && decide (xs ≠ []) && (match isiName b with
      | none => okEs sc es xs
      | some m => (match es, xs with
        | .cons e .nil, [y, .Name z _] => decide (z = m) && gloB sc z && okE sc e y
        | _, _ => false))
  | _, .mth _ _ _, _ => false
  | sc, .isIS a, .Call (.Name x _) [y, .Tuple [.Name z _, .Name z2 _] _ _] [] _ => decide (x = "isinstance") && gloB sc x && decide (z = "int") && gloB sc z && decide (z2 = "str") && gloB sc z2 && okE sc a y
  | sc, .lc elt tg k src cond, .ListComp x [⟨g, it, ifs, as⟩] scope _ => decide (as = 0) && tgOk k g && plainX it && (match srcArgs sc k it with | some es => okEs sc src es | none => false) && okT N (relS scope sc) tg g && okT N scope tg g && blkC N sc scope (tg.own N) && decide ((tg.own N).map (·.2) = tg.slots)
      && ifs.all noIf && okEs (relS scope sc) cond ifs && decide (ifs.length ≤ 1) && okE (relS scope sc) elt x
  | _, _, _ => false
def okEs : Scope → Exs → List Expr → Bool
  | _, .nil, [] => true
  | sc, .cons e es, x :: xs => okE sc e x && okEs sc es xs
  | _, _, _ => false
end
end
end Ly
namespace Ly
open PySem PySem.Spec L2
open PyProof.Rows hiding St

/-! ### what is wanted behind a run -/
def PostO {α β : Type} (G : Glo) (F H : Hp) (μ : List Addr) (E : Nat → Hp → Prop) (R : Hp → Hp → List Addr → α → β → Prop) (Q : β → Hp → Prop) : Out α → Prop
  | .stk => False
  | .ok a S' => ∀ v F' H' μ', Ext F H μ F' H' μ' → Ok G F' H' μ' S' → R F' H' μ' a v → Q v H'
  | .exc c S' => ∀ F' H' μ', Ext F H μ F' H' μ' → Ok G F' H' μ' S' → E c H'
section
variable {α β γ δ : Type} {G : Glo} {F H F1 H1 : Hp} {μ μ1 : List Addr} {E : Nat → Hp → Prop} {R : Hp → Hp → List Addr → α → β → Prop} {Q Q' : β → Hp → Prop}
theorem PostO.imp {o : Out α} (h : PostO G F H μ E R Q o) (i : ∀ v H', Q v H' → Q' v H') : PostO G F H μ E R Q' o := by
  cases o with
  | stk => exact h
  | ok a S => exact fun v F' H' μ' x k r => i v H' (h v F' H' μ' x k r)
  | exc c S => exact h
theorem PostO.later {o : Out α} (h : PostO G F H μ E R Q o) (x : Ext F H μ F1 H1 μ1) : PostO G F1 H1 μ1 E R Q o := by
  cases o with
  | stk => exact h
  | ok a S => exact fun v F' H' μ' y k r => h v F' H' μ' (x.trans y) k r
  | exc c S => exact fun F' H' μ' y k => h F' H' μ' (x.trans y) k
theorem PostO.bind {R' : Hp → Hp → List Addr → γ → δ → Prop} {o : Out γ} {f : γ → Store → Out α} (h : PostO G F H μ E R Q (o.bind f)) :
    PostO G F H μ E R' (fun v H1 => ∃ F1 μ1 S1 a, Ext F H μ F1 H1 μ1 ∧ Ok G F1 H1 μ1 S1 ∧ R' F1 H1 μ1 a v ∧ o = .ok a S1 ∧ PostO G F1 H1 μ1 E R Q (f a S1)) o := by
  cases o with
  | stk => exact h
  | ok a S => exact fun v F' H' μ' x k r => ⟨F', μ', S, a, x, k, r, rfl, PostO.later (o := f a S) h x⟩
  | exc c S => exact h
theorem PostO.of {o : Option α} {S : Store} (h : PostO G F H μ E R Q (Out.of o S)) : ∃ a, o = some a ∧ PostO G F H μ E R Q (.ok a S) := by
  cases o with
  | none => exact h.elim
  | some a => exact ⟨a, rfl, h⟩
end
abbrev rP (G : Glo) : Hp → Hp → List Addr → T → V → Prop := fun F _ μ t v => Rep G.K F μ t v
abbrev rB (G : Glo) : Hp → Hp → List Addr → T → V → Prop := fun F H μ t v => RepB G F H μ t v
abbrev rPs (G : Glo) : Hp → Hp → List Addr → List T → List V → Prop := fun F _ μ t v => Reps G.K F μ t v
abbrev rBs (G : Glo) : Hp → Hp → List Addr → List T → List V → Prop := fun F H μ t v => RepBs G F H μ t v
section
variable {G : Glo} {F H F1 H1 : Hp} {μ μ1 : List Addr}
theorem Ext.repB (x : Ext F H μ F1 H1 μ1) {t : T} {v : V} (h : RepB G F H μ t v) : RepB G F1 H1 μ1 t v := by
  rcases h with h | ⟨a, l, vs, e, e', h2, h3, h4, h5⟩
  · exact .inl (x.rep h)
  · refine .inr ⟨a, l, vs, e, e', x.hh a _ h2 h5, h3, x.reps h4, fun hm => ?_⟩
    have := x.nw a hm h5
    rw [h2] at this; cases this
theorem Ext.repBs (x : Ext F H μ F1 H1 μ1) : ∀ {t : List T} {v : List V}, RepBs G F H μ t v → RepBs G F1 H1 μ1 t v
  | [], _, h => h
  | t :: ts, _, h => by
    simp only [RepBs] at h ⊢
    obtain ⟨v, r, e, h1, h2⟩ := h
    exact ⟨v, r, e, x.repB h1, x.repBs h2⟩
theorem RepBs.of : ∀ {t : List T} {v : List V}, Reps G.K F μ t v → RepBs G F H μ t v
  | [], _, h => h
  | t :: ts, _, h => by
    simp only [RepBs, Reps] at h ⊢
    obtain ⟨v, r, e, h1, h2⟩ := h
    exact ⟨v, r, e, .inl h1, RepBs.of h2⟩
end
/-- an exception's class -/
def exK (G : Glo) (W : WX) (σ : St) : Nat → Hp → Prop := fun c H' => W (.ref (G.exc c)) none σ H'
def tE (G : Glo) (H₀ : Hp) (W : WX) (o : Lenv → Store → Out T) : TE := fun σ H Q => ∃ ρ F μ S, EnvR G H₀ F H μ ρ σ ∧ Ok G F H μ S ∧ PostO G F H μ (exK G W σ) (rP G) Q (o ρ S)
def tEb (G : Glo) (H₀ : Hp) (W : WX) (o : Lenv → Store → Out T) : TE := fun σ H Q => ∃ ρ F μ S, EnvR G H₀ F H μ ρ σ ∧ Ok G F H μ S ∧ PostO G F H μ (exK G W σ) (rB G) Q (o ρ S)
def tA (G : Glo) (H₀ : Hp) (W : WX) (o : Lenv → Store → Out (List T)) : TA := fun σ H Q => ∃ ρ F μ S, EnvR G H₀ F H μ ρ σ ∧ Ok G F H μ S ∧ PostO G F H μ (exK G W σ) (rPs G) Q (o ρ S)
def tAb (G : Glo) (H₀ : Hp) (W : WX) (o : Lenv → Store → Out (List T)) : TA := fun σ H Q => ∃ ρ F μ S, EnvR G H₀ F H μ ρ σ ∧ Ok G F H μ S ∧ PostO G F H μ (exK G W σ) (rBs G) Q (o ρ S)
theorem PE.imp {X : Cx} {e : Expr} {t t' : TE} (h : PE X e t) (i : ∀ σ H Q, t' σ H Q → t σ H Q) : PE X e t' := ⟨fun pins s σ H Q I q => h.run pins s σ H Q I (i σ H Q q)⟩
theorem PA.imp {X : Cx} {e : List Expr} {t t' : TA} (h : PA X e t) (i : ∀ σ H Q, t' σ H Q → t σ H Q) : PA X e t' := ⟨fun pos pins s σ H Q I q => h.run pos pins s σ H Q I (i σ H Q q)⟩
theorem PT.imp {X : Cx} {e : Expr} {t t' : TT} (h : PT X e t) (i : ∀ σ H Q, t' σ H Q → t σ H Q) : PT X e t' := ⟨fun pins s σ H Q I q => h.run pins s σ H Q I (i σ H Q q)⟩
theorem PE.stk {X : Cx} {e : Expr} {G : Glo} {H₀ : Hp} {W : WX} {o : Lenv → Store → Out T} (h : ∀ ρ S, o ρ S = .stk) : PE X e (tE G H₀ W o) := ⟨fun pins s σ H Q I q => by
  obtain ⟨ρ, F, μ, S, _, _, p⟩ := q
  rw [h] at p
  exact p.elim⟩

/-! ### a def's promise; where one stands -/
def PostF (G : Glo) (F H : Hp) (μ : List Addr) (E : XK) (Q : VK) (o : Out T) : Prop := PostO G F H μ (fun c H' => E (.ref (G.exc c)) none H') (rP G) Q o
def spF (G : Glo) (tab : List FnI) (n f : Nat) : Sp := fun vs H Q E => ∃ ts F μ S, Reps G.K F μ ts vs ∧ Ok G F H μ S ∧ PostF G F H μ E Q (callF tab n f ts S)
def bltNames : List Str := ["len", "max", "min", "sum", "all", "any", "tuple", "list", "isinstance", "sorted", "abs", "range", "enumerate", "zip", "reversed", "str", "int", "bool"]
structure Cxt (G : Glo) (tab : List FnI) (glo : List (Str × T)) (n k : Nat) (X : Cx) (W : WX) : Prop where
  hG : G.K = X.K
  calm : X.calm = true
  nd : X.N.Nodup
  room : Room k X.A
  fns : ∀ (f : Nat) fi, tab[f]? = some fi → ∃ a fd ps, X.mg fi.name = some (.ref a) ∧ PySem.W.keepIn X.K (.ref a) = true ∧ Binds X.K fd ps [] ∧ FnOk X.prog X.w X.K X.mg X.base (L2.CX X.prog X.w) k a fd ps (spF G tab n f)
  blt : ∀ x ∈ bltNames, X.mg x = none
  glo : ∀ x t, glo.lookup x = some t → ∃ u v, X.mg x = some u ∧ RelV v u ∧ ∀ F μ, Rep G.K F μ t v
  tk : Takes X W
theorem Cxt.blk {G : Glo} {tab : List FnI} {glo : List (Str × T)} {n k : Nat} {X : Cx} {W : WX} (c : Cxt G tab glo n k X W) (s : Shared) (H : Hp) (scope : Scope) (cenv : Env) (fp : List Addr) :
    Cxt G tab glo n k (X.blk s H scope cenv fp) (fun _ _ _ _ => False) :=
  ⟨c.hG, c.calm, c.nd, c.room, c.fns, c.blt, c.glo, takes0⟩

/-! ### forms -/
section
variable {tab : List FnI} {glo : List (Str × T)} {N : List Str}
theorem okE_plain {sc : Scope} {E : Ex} {e : Expr} (h : okE tab glo N sc E e = true) : plainX e = true := by
  cases e <;> first | rfl | (cases E <;> simp [okE, litB] at h <;> done) | skip
  all_goals (cases E <;> first | (simp [okE, litB] at h; done) | skip)
  all_goals (rename_i t; cases t <;> simp [okE, litB] at h)
theorem star_cons {e : Expr} {es : List Expr} {env : Env} (h : plainX e = true) : starEach (e :: es) env = (false, eval e env) :: starEach es env := by
  cases e <;> first | rfl | (simp [plainX] at h)
theorem behind_no {op : CmpOp} {e : Expr} (h : plainX e = true) : behindInMarks op e = false := by
  cases e <;> first | rfl | (simp [plainX] at h)
theorem folded_no {e : Expr} {env : Env} (h : plainX e = true) : ∀ x, foldedSetIterable e env x = pure x := by
  intro x
  cases e <;> first | rfl | (simp [plainX] at h)
theorem plainIx {e : Expr} (h : plainX e = true) : PlainIx e := by
  intro o i
  cases e <;> first | rfl | (simp [plainX] at h)
theorem pl_no {es : List Expr} {env : Env} {pos : Pos} (h : ∀ e ∈ es, plainX e = true) : (backTo pos (starEach es env)).any (·.1) = false := by
  induction es with
  | nil => rfl
  | cons e es ih =>
    rw [star_cons (h e List.mem_cons_self)]
    have := ih fun x hx => h x (List.mem_cons_of_mem _ hx)
    show (false || (backTo pos (starEach es env)).any (·.1)) = false
    rw [this]; rfl
end
end Ly
namespace Ly
open PySem PySem.Spec L2
open PyProof.Rows hiding St

section
variable {G : Glo} {H₀ : Hp} {W : WX} {X : Cx}
theorem tE_b {o : Lenv → Store → Out T} {σ : St} {H : Hp} {Q : VK} (h : tEb G H₀ W o σ H Q) : tE G H₀ W o σ H Q := by
  obtain ⟨ρ, F, μ, S, e, k, p⟩ := h
  refine ⟨ρ, F, μ, S, e, k, ?_⟩
  cases q : o ρ S with
  | stk => rw [q] at p; exact p
  | ok a S => rw [q] at p; exact fun v F' H' μ' x k r => p v F' H' μ' x k (.inl r)
  | exc c S => rw [q] at p; exact p
/-- the name of a list of one's own, for a look -/
theorem pe_bor {i : Nat} {x : Str} {pos : Pos} (hN : X.N[i]? = some x) (hv : Vis X.env.scope x) (h1 : x ≠ "__debug__") (h2 : x ≠ "__classdict__") (o : Lenv → Store → Out T) :
    PE X (.Name x pos) (tEb G H₀ W (fun ρ S => bor ρ (.bor i) S (o ρ S))) := by
  refine PE.imp (pe_var hN hv (beq_eq_false_iff_ne.mpr h1) (beq_eq_false_iff_ne.mpr h2)) fun σ H Q h => ?_
  obtain ⟨ρ, F, μ, S, e, k, p⟩ := h
  simp only [bor] at p
  split at p
  · rename_i l hl
    obtain ⟨a, vs, h1, h2, h3, h4, h5, h6, h7⟩ := e.own i l hl
    exact ⟨_, h1, p _ F H μ .refl k (.inr ⟨a, l, vs, rfl, rfl, h2, h6, h7, h5⟩)⟩
  · exact p.elim
theorem bor_id {a : Ex} (h : ∀ i, a ≠ .bor i) (ρ : Lenv) (S : Store) (r : Out T) : bor ρ a S r = r := by
  cases a <;> first | rfl | exact absurd rfl (h _)

/-! ### two values -/
theorem tOp_of {f : T → T → Option T} {oa ob : Lenv → Store → Out T} {σ : St} {H : Hp} {Q : VK}
    (h : tE G H₀ W (fun ρ S => (oa ρ S).bind fun x S1 => (ob ρ S1).bind fun y S2 => .of (f x y) S2) σ H Q) :
    tOp (R2T G f) (tEb G H₀ W oa) (tEb G H₀ W ob) σ H Q := by
  obtain ⟨ρ, F, μ, S, e, k, p⟩ := h
  refine ⟨ρ, F, μ, S, e, k, p.bind.imp fun v H1 hv => ?_⟩
  obtain ⟨F1, μ1, S1, a, x1, k1, r1, _, p1⟩ := hv
  refine ⟨ρ, F1, μ1, S1, e.ext x1, k1, p1.bind.imp fun w H2 hw => ?_⟩
  obtain ⟨F2, μ2, S2, b, x2, k2, r2, _, p2⟩ := hw
  obtain ⟨t, et, p3⟩ := p2.of
  exact ⟨F2, μ2, a, b, t, k2.fh, x2.repB r1, r2, et, fun v F' H' x k r => p3 v F' H' μ2 x (k S2 k2) r⟩

theorem tTest_tr {t : TE} {σ : St} {H : Hp} {Q : Bool → Hp → Prop} {P : VK} (h : t σ H P) (mono : ∀ Q Q', (∀ v H', Q v H' → Q' v H') → t σ H Q → t σ H Q') (i : ∀ v H', P v H' → ∃ k, v = .bl k ∧ Q k H') : tTest t σ H Q := mono P _ i h
/-! ### truth -/
def tT (G : Glo) (H₀ : Hp) (W : WX) (o : Lenv → Store → Out T) : TT := fun σ H Q => ∃ ρ F μ S, EnvR G H₀ F H μ ρ σ ∧ Ok G F H μ S ∧
  PostO G F H μ (exK G W σ) (fun F' H' μ' (t : T) (b : Bool) => t.tru = some b) Q ((o ρ S).bind fun t S => if t.tru.isSome then .ok t S else .stk)
/-- a test whose value is known -/
theorem pt_of (hG : G.K = X.K) {e : Expr} {o : Lenv → Store → Out T} (h : PE X e (tEb G H₀ W o)) (he : ∀ whole, isTrue e X.env whole = (do let v ← whole; standAt e.pos; holding [v] (truthy v))) : PT X e (tT G H₀ W o) := by
  refine PT.imp (pt_truth h he) fun σ H Q q => ?_
  obtain ⟨ρ, F, μ, S, en, k, p⟩ := q
  refine ⟨ρ, F, μ, S, en, k, p.bind.imp fun v H1 hv => ?_⟩
  obtain ⟨F1, μ1, S1, t, x1, k1, r1, _, p1⟩ := hv
  cases ht : t.tru with
  | none => rw [ht] at p1; exact p1.elim
  | some b =>
    rw [ht] at p1
    exact ⟨b, RepB.tru r1 hG k1.fh ht, p1 b F1 H1 μ1 .refl k1 ht⟩
/-- a value that is a truth, as a test -/
theorem tEb_bl {o : Lenv → Store → Out T} {σ : St} {H : Hp} {Q : Bool → Hp → Prop} (h : tT G H₀ W o σ H Q) (ob : ∀ ρ S t S', o ρ S = .ok t S' → ∃ b, t = .bl b) : tE G H₀ W o σ H (fun x H' => ∃ k, x = .bl k ∧ Q k H') := by
  obtain ⟨ρ, F, μ, S, en, k, p⟩ := h
  refine ⟨ρ, F, μ, S, en, k, ?_⟩
  cases q : o ρ S with
  | stk => rw [q] at p; exact p
  | exc c S => rw [q] at p; exact p
  | ok t S' =>
    obtain ⟨b, rfl⟩ := ob ρ S t S' q
    rw [q] at p
    intro v F' H' μ' x k r
    simp only [Rep] at r
    exact ⟨b, r, p b F' H' μ' x k rfl⟩
end
section
variable {tab : List FnI} {glo : List (Str × T)}
theorem okEs_plain {N : List Str} {sc : Scope} : ∀ {Es : Exs} {es : List Expr}, okEs tab glo N sc Es es = true → ∀ e ∈ es, plainX e = true
  | .nil, [], _ => by simp
  | .nil, _ :: _, h => by simp [okEs] at h
  | .cons _ _, [], h => by simp [okEs] at h
  | .cons E Es, x :: xs, h => by
    simp only [okEs, Bool.and_eq_true] at h
    intro e he
    rcases List.mem_cons.mp he with rfl | he
    · exact okE_plain h.1
    · exact okEs_plain h.2 e he

/-! ### what is shown of each text -/
structure SndE (G : Glo) (tab : List FnI) (glo : List (Str × T)) (n k : Nat) (E : Ex) : Prop where
  run : ∀ (X : Cx) (W : WX) (H₀ : Hp) (e : Expr), Cxt G tab glo n k X W → okE tab glo X.N X.env.scope E e = true →
    PE X e (tE G H₀ W (fun ρ S => ev (callF tab n) E ρ S)) ∧ PE X e (tEb G H₀ W (fun ρ S => bor ρ E S (ev (callF tab n) E ρ S))) ∧
    (noIf e = true → PT X e (tT G H₀ W (fun ρ S => bor ρ E S (ev (callF tab n) E ρ S)))) ∧
    (∀ op es pos, e = .BoolOp op es pos → PW X e (tT G H₀ W (fun ρ S => ev (callF tab n) E ρ S)))
section
variable {G : Glo} {n k : Nat}
/-- an expression whose test is its value's truth -/
theorem SndE.val {E : Ex} (hb : ∀ i, E ≠ .bor i) (h : ∀ (X : Cx) (W : WX) (H₀ : Hp) (e : Expr), Cxt G tab glo n k X W → okE tab glo X.N X.env.scope E e = true →
    PE X e (tE G H₀ W (fun ρ S => ev (callF tab n) E ρ S)) ∧ (noIf e = true → ∀ env whole, isTrue e env whole = (do let v ← whole; standAt e.pos; holding [v] (truthy v))) ∧ ∀ op es pos, e ≠ .BoolOp op es pos) : SndE G tab glo n k E := ⟨fun X W H₀ e c ok => by
  obtain ⟨h1, h2, h3⟩ := h X W H₀ e c ok
  have e1 : (fun ρ S => bor ρ E S (ev (callF tab n) E ρ S)) = fun ρ S => ev (callF tab n) E ρ S := by
    funext ρ S; exact bor_id hb ρ S _
  have pb : PE X e (tEb G H₀ W (fun ρ S => ev (callF tab n) E ρ S)) := PE.imp h1 fun σ H Q q => tE_b q
  refine ⟨h1, by rw [e1]; exact pb, fun hn => ?_, fun op es pos q => absurd q (h3 _ _ _)⟩
  rw [e1]
  exact pt_of c.hG pb (h2 hn _)⟩
theorem snd_lit (t : T) : SndE G tab glo n k (.lit t) := .val (fun i => by simp) fun X W H₀ e c ok => by
  simp only [okE] at ok
  refine ⟨?_, ?_, ?_⟩
  · cases t <;> cases e <;> simp only [litB, Bool.false_eq_true] at ok <;> rename_i c1 _ _ <;> cases c1 <;> simp only [litB, Bool.false_eq_true] at ok
    · refine PE.imp pe_non fun σ H Q h => ?_
      obtain ⟨ρ, F, μ, S, en, k, p⟩ := h
      exact p _ F H μ .refl k Rep.non'
    · rename_i b
      have := eq_of_beq ok; subst this
      refine PE.imp pe_bl fun σ H Q h => ?_
      obtain ⟨ρ, F, μ, S, en, k, p⟩ := h
      exact p _ F H μ .refl k Rep.bl'
    · have := eq_of_beq ok; subst this
      refine PE.imp pe_int fun σ H Q h => ?_
      obtain ⟨ρ, F, μ, S, en, k, p⟩ := h
      exact p _ F H μ .refl k Rep.int'
    · simp only [Bool.and_eq_true, decide_eq_true_eq, List.all_eq_true] at ok
      obtain ⟨⟨rfl, l⟩, cs⟩ := ok
      refine PE.imp pe_str fun σ H Q h => ?_
      obtain ⟨ρ, F, μ, S, en, k, p⟩ := h
      refine p _ F H μ .refl k (Rep.str' (Nat.le_trans l (by decide)) cs)
  · cases t <;> cases e <;> simp only [litB, Bool.false_eq_true] at ok <;> exact fun _ _ _ => rfl
  · cases t <;> cases e <;> simp only [litB, Bool.false_eq_true] at ok <;> simp
theorem snd_glb (x : Str) (t : T) : SndE G tab glo n k (.glb x t) := .val (fun i => by simp) fun X W H₀ e c ok => by
  cases e <;> simp only [okE, Bool.false_eq_true] at ok
  rename_i y pos
  refine ⟨?_, fun _ _ _ => rfl, by simp⟩
  simp only [Bool.and_eq_true, decide_eq_true_eq] at ok
  obtain ⟨⟨⟨rfl, hg⟩, hd⟩, ht⟩ := ok
  split at ht
  · rename_i u hu
    have := T.same_ok ht; subst this
    obtain ⟨w, v, hm, rv, rp⟩ := c.glo _ _ hu
    refine PE.imp (pe_glob (gloB_ok hg) hm rv (beq_eq_false_iff_ne.mpr hd)) fun σ H Q h => ?_
    obtain ⟨ρ, F, μ, S, en, k, p⟩ := h
    exact p _ F H μ .refl k (rp F μ)
  · cases ht
theorem snd_var (i : Nat) : SndE G tab glo n k (.var i) := .val (fun i => by simp) fun X W H₀ e c ok => by
  cases e <;> simp only [okE, Bool.false_eq_true] at ok
  rename_i y pos
  refine ⟨?_, fun _ _ _ => rfl, by simp⟩
  simp only [Bool.and_eq_true, decide_eq_true_eq] at ok
  obtain ⟨⟨⟨hN, hv⟩, h1⟩, h2⟩ := ok
  refine PE.imp (pe_var hN (visB_ok hv) (beq_eq_false_iff_ne.mpr h1) (beq_eq_false_iff_ne.mpr h2)) fun σ H Q h => ?_
  obtain ⟨ρ, F, μ, S, en, k, p⟩ := h
  simp only [ev] at p
  split at p
  · rename_i t ht
    obtain ⟨v, hv, rv⟩ := en.val i t ht
    exact ⟨v, hv, p v F H μ .refl k rv⟩
  · exact p.elim
theorem snd_bor (i : Nat) : SndE G tab glo n k (.bor i) := ⟨fun X W H₀ e c ok => by
  cases e <;> simp only [okE, Bool.false_eq_true] at ok
  rename_i y pos
  simp only [Bool.and_eq_true, decide_eq_true_eq] at ok
  obtain ⟨⟨⟨hN, hv⟩, h1⟩, h2⟩ := ok
  have pb := pe_bor (G := G) (H₀ := H₀) (W := W) (pos := pos) hN (visB_ok hv) h1 h2 (fun ρ S => ev (callF tab n) (.bor i) ρ S)
  exact ⟨PE.stk fun ρ S => by simp [ev], pb, fun _ => pt_of c.hG pb fun _ => rfl, by simp⟩⟩
theorem snd_nop : SndE G tab glo n k .nop := ⟨fun X W H₀ e c ok => by cases e <;> simp [okE] at ok⟩
theorem snd_neg (i : Int) : SndE G tab glo n k (.neg i) := .val (fun i => by simp) fun X W H₀ e c ok => by
  cases e <;> first | (simp only [okE, Bool.false_eq_true] at ok; done) | skip
  rename_i op x pos
  cases op <;> first | (simp only [okE, Bool.false_eq_true] at ok; done) | skip
  cases x <;> first | (simp only [okE, Bool.false_eq_true] at ok; done) | skip
  rename_i d _ _
  cases d <;> first | (simp only [okE, Bool.false_eq_true] at ok; done) | skip
  simp only [okE] at ok
  refine ⟨?_, fun _ _ _ => rfl, by simp⟩
  have := eq_of_beq ok; subst this
  refine PE.imp (pe_un un_neg pe_int) fun σ H Q h => ?_
  obtain ⟨ρ, F, μ, S, en, k, p⟩ := h
  exact ⟨_, rfl, p _ F H μ .refl k Rep.int'⟩
theorem snd_bin (o : BOp) {a b : Ex} (ha : SndE G tab glo n k a) (hb : SndE G tab glo n k b) : SndE G tab glo n k (.bin o a b) := .val (fun i => by simp) fun X W H₀ e c ok => by
  cases e <;> simp only [okE, Bool.false_eq_true] at ok
  refine ⟨?_, fun _ _ _ => rfl, by simp⟩
  simp only [Bool.and_eq_true, decide_eq_true_eq] at ok
  obtain ⟨⟨rfl, k1⟩, k2⟩ := ok
  exact PE.imp (pe_op (o_bin c.hG o) (ha.run X W H₀ _ c k1).2.1 (hb.run X W H₀ _ c k2).2.1) fun σ H Q h => tOp_of (by simpa only [ev] using h)
theorem cmpF_bl {o : COp} {a b t : T} (h : cmpF o a b = some t) : ∃ k, t = .bl k := by
  unfold cmpF at h
  split at h <;> first
    | (split at h <;> first | (cases h; exact ⟨_, rfl⟩) | cases h)
    | (simp only [Option.map_eq_some_iff] at h; obtain ⟨_, _, rfl⟩ := h; exact ⟨_, rfl⟩)
    | (cases h; exact ⟨_, rfl⟩)
    | cases h
theorem Cxt.hu {X : Cx} {W : WX} (c : Cxt G tab glo n k X W) : X.A.units + 128 < cLine := by have := c.room.un; omega
theorem ok_bind {α β : Type} {o : Out α} {f : α → Store → Out β} {b : β} {S' : Store} (h : o.bind f = .ok b S') : ∃ a S1, o = .ok a S1 ∧ f a S1 = .ok b S' := by
  cases o with
  | stk => cases h
  | ok a S => exact ⟨a, S, rfl, h⟩
  | exc c S => cases h
theorem ok_of {α : Type} {o : Option α} {S S' : Store} {a : α} (h : Out.of o S = .ok a S') : o = some a := by
  cases o with
  | none => cases h
  | some b => cases h; rfl
theorem snd_cmp (o : COp) {a b : Ex} (ha : SndE G tab glo n k a) (hb : SndE G tab glo n k b) : SndE G tab glo n k (.cmp o a b) := ⟨fun X W H₀ e c ok => by
  cases e <;> first | (simp only [okE, Bool.false_eq_true] at ok; done) | skip
  rename_i l ops cs pos
  match ops, cs, ok with
  | [op], [r], ok =>
    simp only [okE, Bool.and_eq_true, decide_eq_true_eq] at ok
    obtain ⟨⟨rfl, k1⟩, k2⟩ := ok
    have hm := behind_no (op := copE o) (okE_plain k2)
    have h1 : PE X (.Compare l [copE o] [r] pos) (tE G H₀ W (fun ρ S => ev (callF tab n) (.cmp o a b) ρ S)) :=
      PE.imp (pe_cmpR (o_cmp c.hG c.hu o) (ha.run X W H₀ _ c k1).2.1 (hb.run X W H₀ _ c k2).2.1 hm) fun σ H Q h => tOp_of (by simpa only [ev] using h)
    refine ⟨h1, PE.imp h1 fun σ H Q q => tE_b q, fun _ => ?_, by simp⟩
    refine PT.imp (pt_cmpR (o_cmp c.hG c.hu o) (ha.run X W H₀ _ c k1).2.1 (hb.run X W H₀ _ c k2).2.1 hm) fun σ H Q h => ?_
    refine tOp_of (f := cmpF o) ?_
    have := tEb_bl h fun ρ S t S' q => by
      simp only [bor, ev] at q
      obtain ⟨_, _, _, q⟩ := ok_bind q
      obtain ⟨_, _, _, q⟩ := ok_bind q
      exact cmpF_bl (ok_of q)
    simpa only [bor, ev] using this⟩
theorem tChain_of {o o' : COp} {oa ob oc : Lenv → Store → Out T} {σ : St} {H : Hp} {Q : VK}
    (h : tE G H₀ W (fun ρ S => (oa ρ S).bind fun x S1 => (ob ρ S1).bind fun y S2 => (Out.of (cmpF o x y) S2).bind fun r S3 =>
      ifBl r ((oc ρ S3).bind fun z S4 => .of (cmpF o' y z) S4) (.ok (.bl false) S3)) σ H Q) :
    tChain (R2T G (cmpF o)) (R2T G (cmpF o')) (tEb G H₀ W oa) (tEb G H₀ W ob) (tEb G H₀ W oc) σ H Q := by
  obtain ⟨ρ, F, μ, S, e, k, p⟩ := h
  refine ⟨ρ, F, μ, S, e, k, p.bind.imp fun v H1 hv => ?_⟩
  obtain ⟨F1, μ1, S1, a, x1, k1, r1, _, p1⟩ := hv
  refine ⟨ρ, F1, μ1, S1, e.ext x1, k1, p1.bind.imp fun w H2 hw => ?_⟩
  obtain ⟨F2, μ2, S2, b, x2, k2, r2, _, p2⟩ := hw
  cases hq : cmpF o a b with
  | none => rw [hq] at p2; exact p2.elim
  | some t =>
    rw [hq] at p2
    obtain ⟨d, rfl⟩ := cmpF_bl hq
    refine ⟨F2, μ2, a, b, _, k2.fh, x2.repB r1, r2, hq, fun v F' H' x kk r => ?_⟩
    have k3 := kk S2 k2
    simp only [Rep] at r
    refine ⟨d, r, ?_⟩
    cases d with
    | false => exact PostO.later (o := Out.ok (T.bl false) S2) p2 x _ F' H' μ2 .refl k3 Rep.bl'
    | true =>
      have p3 := PostO.later (o := (oc ρ S2).bind fun z S4 => .of (cmpF o' b z) S4) p2 x
      refine ⟨ρ, F', μ2, S2, (e.ext (x1.trans x2)).ext x, k3, p3.bind.imp fun z H4 hz => ?_⟩
      obtain ⟨F4, μ4, S4, g, x4, k4, r4, _, p4⟩ := hz
      obtain ⟨t, et, p5⟩ := p4.of
      exact ⟨F4, μ4, b, g, t, k4.fh, x4.repB (x.repB r2), r4, et, fun v F' H' x k r => p5 v F' H' μ4 x (k S4 k4) r⟩
end
end
end Ly
namespace Ly
open PySem PySem.Spec L2
open PyProof.Rows hiding St

section
variable {tab : List FnI} {glo : List (Str × T)} {G : Glo} {n k : Nat}
theorem tT_bor {c : Call} {a : Ex} {H₀ : Hp} {W : WX} {σ : St} {H : Hp} {Q : Bool → Hp → Prop} (h : tT G H₀ W (fun ρ S => ev c a ρ S) σ H Q) : tT G H₀ W (fun ρ S => bor ρ a S (ev c a ρ S)) σ H Q := by
  obtain ⟨ρ, F, μ, S, en, k, p⟩ := h
  refine ⟨ρ, F, μ, S, en, k, ?_⟩
  cases a <;> first | exact p | skip
  simp only [ev] at p
  exact p.elim
theorem ifBl_ok {r : T} {t f : Out T} {o : Out T} (h : ifBl r t f = o) (ho : o ≠ .stk) : (r = .bl true ∧ t = o) ∨ (r = .bl false ∧ f = o) := by
  unfold ifBl at h
  split at h
  · exact .inl ⟨rfl, h⟩
  · exact .inr ⟨rfl, h⟩
  · exact absurd h.symm ho
theorem snd_chn (o o' : COp) {a b d : Ex} (ha : SndE G tab glo n k a) (hb : SndE G tab glo n k b) (hd : SndE G tab glo n k d) : SndE G tab glo n k (.chn o o' a b d) := ⟨fun X W H₀ e c ok => by
  cases e <;> first | (simp only [okE, Bool.false_eq_true] at ok; done) | skip
  rename_i l ops cs pos
  match ops, cs, ok with
  | [op, op'], [r, q], ok =>
    simp only [okE, Bool.and_eq_true, decide_eq_true_eq] at ok
    obtain ⟨⟨⟨⟨⟨rfl, rfl⟩, ⟨na, nb⟩, nd⟩, k1⟩, k2⟩, k3⟩ := ok
    have na := nBor_ok na
    have nb := nBor_ok nb
    have nd := nBor_ok nd
    have hm : lastMarks [copE o, copE o'] [r, q] = false := by
      show behindInMarks (copE o') q = false
      exact behind_no (okE_plain k3)
    have ea : (fun ρ S => bor ρ a S (ev (callF tab n) a ρ S)) = fun ρ S => ev (callF tab n) a ρ S := by funext ρ S; exact bor_id na ρ S _
    have eb : (fun ρ S => bor ρ b S (ev (callF tab n) b ρ S)) = fun ρ S => ev (callF tab n) b ρ S := by funext ρ S; exact bor_id nb ρ S _
    have ed : (fun ρ S => bor ρ d S (ev (callF tab n) d ρ S)) = fun ρ S => ev (callF tab n) d ρ S := by funext ρ S; exact bor_id nd ρ S _
    have pa := (ha.run X W H₀ _ c k1).2.1
    have pb := (hb.run X W H₀ _ c k2).2.1
    have pd := (hd.run X W H₀ _ c k3).2.1
    rw [ea] at pa; rw [eb] at pb; rw [ed] at pd
    have h1 : PE X (.Compare l [copE o, copE o'] [r, q] pos) (tE G H₀ W (fun ρ S => ev (callF tab n) (.chn o o' a b d) ρ S)) :=
      PE.imp (pe_chain (o_cmp c.hG c.hu o) (o_cmp c.hG c.hu o') pa pb pd hm) fun σ H Q h => tChain_of (by simpa only [ev] using h)
    refine ⟨h1, PE.imp h1 fun σ H Q q => tE_b q, fun _ => ?_, by simp⟩
    refine PT.imp (pt_chain (o_cmp c.hG c.hu o) (o_cmp c.hG c.hu o') pa pb pd hm) fun σ H Q h => ?_
    refine tChain_of ?_
    have := tEb_bl h fun ρ S t S' q => by
      simp only [bor, ev] at q
      obtain ⟨_, _, _, q⟩ := ok_bind q
      obtain ⟨_, _, _, q⟩ := ok_bind q
      obtain ⟨t', _, q1, q⟩ := ok_bind q
      rcases ifBl_ok q (by simp) with ⟨_, q⟩ | ⟨_, q⟩
      · obtain ⟨_, _, _, q⟩ := ok_bind q
        exact cmpF_bl (ok_of q)
      · cases q; exact ⟨_, rfl⟩
    simpa only [bor, ev] using this⟩
theorem tAnd_of {oa ob : Lenv → Store → Out T} {H₀ : Hp} {W : WX} {σ : St} {H : Hp} {Q : Bool → Hp → Prop}
    (h : tT G H₀ W (fun ρ S => (oa ρ S).bind fun x S1 => ifBl x (ob ρ S1) (.ok (.bl false) S1)) σ H Q) : tAnd (tT G H₀ W oa) (tT G H₀ W ob) σ H Q := by
  obtain ⟨ρ, F, μ, S, en, k, p⟩ := h
  refine ⟨ρ, F, μ, S, en, k, ?_⟩
  dsimp only at p
  cases q : oa ρ S with
  | stk => rw [q] at p; exact p
  | exc e S => rw [q] at p; exact p
  | ok t S1 =>
    rw [q] at p
    cases t <;> first | exact p.elim | skip
    rename_i d
    intro v F' H' μ' x k r
    have r : d = v := Option.some.inj r
    subst r
    cases d with
    | false => exact p false F' H' μ' x k rfl
    | true => exact ⟨ρ, F', μ', S1, en.ext x, k, PostO.later (o := (ob ρ S1).bind fun t S => if t.tru.isSome then .ok t S else .stk) p x⟩
theorem tOr_of {oa ob : Lenv → Store → Out T} {H₀ : Hp} {W : WX} {σ : St} {H : Hp} {Q : Bool → Hp → Prop}
    (h : tT G H₀ W (fun ρ S => (oa ρ S).bind fun x S1 => ifBl x (.ok (.bl true) S1) (ob ρ S1)) σ H Q) : tOr (tT G H₀ W oa) (tT G H₀ W ob) σ H Q := by
  obtain ⟨ρ, F, μ, S, en, k, p⟩ := h
  refine ⟨ρ, F, μ, S, en, k, ?_⟩
  dsimp only at p
  cases q : oa ρ S with
  | stk => rw [q] at p; exact p
  | exc e S => rw [q] at p; exact p
  | ok t S1 =>
    rw [q] at p
    cases t <;> first | exact p.elim | skip
    rename_i d
    intro v F' H' μ' x k r
    have r : d = v := Option.some.inj r
    subst r
    cases d with
    | true => exact p true F' H' μ' x k rfl
    | false => exact ⟨ρ, F', μ', S1, en.ext x, k, PostO.later (o := (ob ρ S1).bind fun t S => if t.tru.isSome then .ok t S else .stk) p x⟩
theorem tAnd_mono {t t' u : TT} {σ : St} {H : Hp} {Q : Bool → Hp → Prop} (h : tAnd t u σ H Q) (i : ∀ σ H Q, t σ H Q → t' σ H Q) : tAnd t' u σ H Q := i _ _ _ h
theorem tOr_mono {t t' u : TT} {σ : St} {H : Hp} {Q : Bool → Hp → Prop} (h : tOr t u σ H Q) (i : ∀ σ H Q, t σ H Q → t' σ H Q) : tOr t' u σ H Q := i _ _ _ h
theorem snd_and {a b : Ex} (ha : SndE G tab glo n k a) (hb : SndE G tab glo n k b) : SndE G tab glo n k (.and a b) := ⟨fun X W H₀ e c ok => by
  cases e <;> first | (simp only [okE, Bool.false_eq_true] at ok; done) | skip
  rename_i op es pos
  cases op <;> first | (simp only [okE, Bool.false_eq_true] at ok; done) | skip
  match es, ok with
  | x :: y :: r, ok =>
    simp only [okE, Bool.and_eq_true] at ok
    obtain ⟨⟨k0, k1⟩, k2⟩ := ok
    have pa := ha.run X W H₀ _ c k1
    have pb := hb.run X W H₀ _ c k2
    have h1 : PE X (.BoolOp .And (x :: y :: r) pos) (tE G H₀ W (fun ρ S => ev (callF tab n) (.and a b) ρ S)) := PE.imp (pe_and pa.1 pb.1) fun σ H Q h => by
      obtain ⟨ρ, F, μ, S, en, k, p⟩ := h
      simp only [ev] at p
      refine ⟨ρ, F, μ, S, en, k, p.bind.imp fun v H1 hv => ?_⟩
      obtain ⟨F1, μ1, S1, t, x1, k1, r1, _, p1⟩ := hv
      unfold ifBl at p1
      split at p1
      · simp only [Rep] at r1
        exact ⟨true, r1, ρ, F1, μ1, S1, en.ext x1, k1, p1⟩
      · simp only [Rep] at r1
        exact ⟨false, r1, p1 _ F1 H1 μ1 .refl k1 Rep.bl'⟩
      · exact p1.elim
    have hw : PW X (.BoolOp .And (x :: y :: r) pos) (tT G H₀ W (fun ρ S => ev (callF tab n) (.and a b) ρ S)) := ⟨fun wh pins s σ H Q I h => (pw_and (pa.2.2.1 k0) (pb.2.2.2 _ _ _ rfl)).run wh pins s σ H Q I
      (tAnd_mono (tAnd_of (by simpa only [ev] using h)) fun σ H Q q => tT_bor q)⟩
    exact ⟨h1, PE.imp h1 fun σ H Q q => tE_b q, fun _ => hw.pt, fun _ _ _ _ => by exact hw⟩⟩
theorem snd_or {a b : Ex} (ha : SndE G tab glo n k a) (hb : SndE G tab glo n k b) : SndE G tab glo n k (.or a b) := ⟨fun X W H₀ e c ok => by
  cases e <;> first | (simp only [okE, Bool.false_eq_true] at ok; done) | skip
  rename_i op es pos
  cases op <;> first | (simp only [okE, Bool.false_eq_true] at ok; done) | skip
  match es, ok with
  | x :: y :: r, ok =>
    simp only [okE, Bool.and_eq_true] at ok
    obtain ⟨⟨k0, k1⟩, k2⟩ := ok
    have pa := ha.run X W H₀ _ c k1
    have pb := hb.run X W H₀ _ c k2
    have h1 : PE X (.BoolOp .Or (x :: y :: r) pos) (tE G H₀ W (fun ρ S => ev (callF tab n) (.or a b) ρ S)) := PE.imp (pe_or pa.1 pb.1) fun σ H Q h => by
      obtain ⟨ρ, F, μ, S, en, k, p⟩ := h
      simp only [ev] at p
      refine ⟨ρ, F, μ, S, en, k, p.bind.imp fun v H1 hv => ?_⟩
      obtain ⟨F1, μ1, S1, t, x1, k1, r1, _, p1⟩ := hv
      unfold ifBl at p1
      split at p1
      · simp only [Rep] at r1
        exact ⟨true, r1, p1 _ F1 H1 μ1 .refl k1 Rep.bl'⟩
      · simp only [Rep] at r1
        exact ⟨false, r1, ρ, F1, μ1, S1, en.ext x1, k1, p1⟩
      · exact p1.elim
    have hw : PW X (.BoolOp .Or (x :: y :: r) pos) (tT G H₀ W (fun ρ S => ev (callF tab n) (.or a b) ρ S)) := ⟨fun wh pins s σ H Q I h => (pw_or (pa.2.2.1 k0) (pb.2.2.2 _ _ _ rfl)).run wh pins s σ H Q I
      (tOr_mono (tOr_of (by simpa only [ev] using h)) fun σ H Q q => tT_bor q)⟩
    exact ⟨h1, PE.imp h1 fun σ H Q q => tE_b q, fun _ => hw.pt, fun _ _ _ _ => by exact hw⟩⟩
theorem snd_one {a : Ex} (ha : SndE G tab glo n k a) : SndE G tab glo n k (.one a) := ⟨fun X W H₀ e c ok => by
  cases e <;> first | (simp only [okE, Bool.false_eq_true] at ok; done) | skip
  rename_i op es pos
  match es, ok with
  | [x], ok =>
    simp only [okE, Bool.and_eq_true] at ok
    obtain ⟨k0, k1⟩ := ok
    have pa := ha.run X W H₀ _ c k1
    have h1 : PE X (.BoolOp op [x] pos) (tE G H₀ W (fun ρ S => ev (callF tab n) (.one a) ρ S)) := by
      simp only [ev]
      exact pe_one pa.1
    have hw : PW X (.BoolOp op [x] pos) (tT G H₀ W (fun ρ S => ev (callF tab n) (.one a) ρ S)) := ⟨fun wh pins s σ H Q I h => by
      have h' : tT G H₀ W (fun ρ S => bor ρ a S (ev (callF tab n) a ρ S)) σ H Q := tT_bor (by simpa only [ev] using h)
      cases op with
      | And => exact (pw_and1 (pa.2.2.1 k0)).run wh pins s σ H Q I h'
      | Or => exact (pw_or1 (pa.2.2.1 k0)).run wh pins s σ H Q I h'⟩
    exact ⟨h1, PE.imp h1 fun σ H Q q => tE_b q, fun _ => hw.pt, fun _ _ _ _ => by exact hw⟩⟩
theorem snd_not {a : Ex} (ha : SndE G tab glo n k a) : SndE G tab glo n k (.not a) := ⟨fun X W H₀ e c ok => by
  cases e <;> first | (simp only [okE, Bool.false_eq_true] at ok; done) | skip
  rename_i op x pos
  cases op <;> first | (simp only [okE, Bool.false_eq_true] at ok; done) | skip
  simp only [okE, Bool.and_eq_true] at ok
  obtain ⟨k0, k1⟩ := ok
  have pa := ha.run X W H₀ _ c k1
  have h1 : PE X (.UnaryOp .Not x pos) (tE G H₀ W (fun ρ S => ev (callF tab n) (.not a) ρ S)) := PE.imp (pe_notT pa.2.1) fun σ H Q h => by
    obtain ⟨ρ, F, μ, S, en, k, p⟩ := h
    simp only [ev] at p
    refine ⟨ρ, F, μ, S, en, k, p.bind.imp fun v H1 hv => ?_⟩
    obtain ⟨F1, μ1, S1, t, x1, k1, r1, _, p1⟩ := hv
    obtain ⟨u, hu, p2⟩ := p1.of
    simp only [Option.map_eq_some_iff] at hu
    obtain ⟨d, hd, rfl⟩ := hu
    exact ⟨d, RepB.tru r1 c.hG k1.fh hd, p2 _ F1 H1 μ1 .refl k1 Rep.bl'⟩
  refine ⟨h1, PE.imp h1 fun σ H Q q => tE_b q, fun _ => PT.imp (pt_not (pa.2.2.1 k0)) fun σ H Q h => ?_, by simp⟩
  obtain ⟨ρ, F, μ, S, en, k, p⟩ := h
  refine ⟨ρ, F, μ, S, en, k, ?_⟩
  simp only [bor, ev] at p
  show PostO _ _ _ _ _ _ _ ((bor ρ a S (ev (callF tab n) a ρ S)).bind fun t S => if t.tru.isSome then .ok t S else .stk)
  cases q : bor ρ a S (ev (callF tab n) a ρ S) with
  | stk => simp only [bor] at q; rw [q] at p; exact p
  | exc e S => simp only [bor] at q; rw [q] at p; exact p
  | ok t S1 =>
    simp only [bor] at q
    rw [q] at p
    show PostO _ _ _ _ _ _ _ (if t.tru.isSome then Out.ok t S1 else Out.stk)
    cases hd : t.tru with
    | none => simp only [Out.bind, hd] at p; exact p.elim
    | some d =>
      simp only [Out.bind, hd, Out.of, Option.map] at p
      exact fun v F' H' μ' x k r => by
        have r : t.tru = some v := r
        rw [hd] at r
        cases r
        exact p (!d) F' H' μ' x k rfl⟩

theorem snd_ife {d a b : Ex} (hd : SndE G tab glo n k d) (ha : SndE G tab glo n k a) (hb : SndE G tab glo n k b) : SndE G tab glo n k (.ife d a b) := .val (fun i => by simp) fun X W H₀ e c ok => by
  cases e <;> first | (simp only [okE, Bool.false_eq_true] at ok; done) | skip
  rename_i t x y pos
  simp only [okE, Bool.and_eq_true] at ok
  obtain ⟨⟨⟨k0, k1⟩, k2⟩, k3⟩ := ok
  refine ⟨?_, fun h => by simp [noIf] at h, by simp⟩
  refine PE.imp (pe_ifExp ((hd.run X W H₀ _ c k1).2.2.1 k0) (ha.run X W H₀ _ c k2).1 (hb.run X W H₀ _ c k3).1) fun σ H Q h => ?_
  refine tT_bor (c := callF tab n) ?_
  obtain ⟨ρ, F, μ, S, en, k, p⟩ := h
  refine ⟨ρ, F, μ, S, en, k, ?_⟩
  simp only [ev] at p
  show PostO _ _ _ _ _ _ _ ((ev (callF tab n) d ρ S).bind fun t S => if t.tru.isSome then .ok t S else .stk)
  cases q : ev (callF tab n) d ρ S with
  | stk => rw [q] at p; exact p
  | exc e S => rw [q] at p; exact p
  | ok t S1 =>
    rw [q] at p
    simp only [Out.bind] at p ⊢
    cases hq : t.tru with
    | none => rw [hq] at p; exact p.elim
    | some g =>
      rw [hq] at p
      intro v F' H' μ' x k r
      have r : t.tru = some v := r
      rw [hq] at r
      cases r
      cases g with
      | true => exact ⟨ρ, F', μ', S1, en.ext x, k, PostO.later (o := ev (callF tab n) a ρ S1) p x⟩
      | false => exact ⟨ρ, F', μ', S1, en.ext x, k, PostO.later (o := ev (callF tab n) b ρ S1) p x⟩

/-! ### argument lists -/
structure SndA (G : Glo) (tab : List FnI) (glo : List (Str × T)) (n k : Nat) (E : Exs) : Prop where
  run : ∀ (X : Cx) (W : WX) (H₀ : Hp) (es : List Expr), Cxt G tab glo n k X W → okEs tab glo X.N X.env.scope E es = true →
    PA X es (tA G H₀ W (fun ρ S => evs (callF tab n) E ρ S)) ∧ PA X es (tAb G H₀ W (fun ρ S => evb (callF tab n) E ρ S))
theorem snd_nil : SndA G tab glo n k .nil := ⟨fun X W H₀ es c ok => by
  cases es with
  | cons _ _ => simp [okEs] at ok
  | nil =>
    refine ⟨PA.imp pa_nil fun σ H Q h => ?_, PA.imp pa_nil fun σ H Q h => ?_⟩
    · obtain ⟨ρ, F, μ, S, en, k, p⟩ := h
      exact p [] F H μ .refl k (by simp [Reps])
    · obtain ⟨ρ, F, μ, S, en, k, p⟩ := h
      exact p [] F H μ .refl k (by simp [RepBs])⟩
theorem snd_cons {E : Ex} {Es : Exs} (h1 : SndE G tab glo n k E) (h2 : SndA G tab glo n k Es) : SndA G tab glo n k (.cons E Es) := ⟨fun X W H₀ es c ok => by
  cases es with
  | nil => simp [okEs] at ok
  | cons x xs =>
    simp only [okEs, Bool.and_eq_true] at ok
    have p1 := h1.run X W H₀ x c ok.1
    have p2 := h2.run X W H₀ xs c ok.2
    have hs : starEach (x :: xs) X.env = (false, eval x X.env) :: starEach xs X.env := star_cons (okE_plain ok.1)
    refine ⟨PA.imp (pa_cons p1.1 p2.1 hs) fun σ H Q h => ?_, PA.imp (pa_cons p1.2.1 p2.2 hs) fun σ H Q h => ?_⟩
    · obtain ⟨ρ, F, μ, S, en, k, p⟩ := h
      simp only [evs] at p
      refine ⟨ρ, F, μ, S, en, k, p.bind.imp fun v H1 hv => ?_⟩
      obtain ⟨F1, μ1, S1, t, x1, k1, r1, _, p1⟩ := hv
      refine ⟨ρ, F1, μ1, S1, en.ext x1, k1, p1.bind.imp fun w H2 hw => ?_⟩
      obtain ⟨F2, μ2, S2, u, x2, k2, r2, _, p2⟩ := hw
      exact p2 _ F2 H2 μ2 .refl k2 (Reps.cons (x2.rep r1) r2)
    · obtain ⟨ρ, F, μ, S, en, k, p⟩ := h
      simp only [evb] at p
      refine ⟨ρ, F, μ, S, en, k, p.bind.imp fun v H1 hv => ?_⟩
      obtain ⟨F1, μ1, S1, t, x1, k1, r1, _, p1⟩ := hv
      refine ⟨ρ, F1, μ1, S1, en.ext x1, k1, p1.bind.imp fun w H2 hw => ?_⟩
      obtain ⟨F2, μ2, S2, u, x2, k2, r2, _, p2⟩ := hw
      refine p2 _ F2 H2 μ2 .refl k2 ?_
      simp only [RepBs]
      exact ⟨v, w, rfl, x2.repB r1, r2⟩⟩
theorem snd_tup {Es : Exs} (h : SndA G tab glo n k Es) : SndE G tab glo n k (.tup Es) := .val (fun i => by simp) fun X W H₀ e c ok => by
  cases e <;> first | (simp only [okE, Bool.false_eq_true] at ok; done) | skip
  simp only [okE] at ok
  refine ⟨?_, fun _ _ _ => rfl, by simp⟩
  refine PE.imp (pe_tup (h.run X W H₀ _ c ok).1) fun σ H Q h => ?_
  obtain ⟨ρ, F, μ, S, en, k, p⟩ := h
  simp only [ev] at p
  refine ⟨ρ, F, μ, S, en, k, p.bind.imp fun v H1 hv => ?_⟩
  obtain ⟨F1, μ1, S1, t, x1, k1, r1, _, p1⟩ := hv
  split at p1
  · rename_i hl
    have : (1000 : Nat) ≤ sizeLine := by decide
    have e := r1.length
    refine ⟨by omega, fun q hq => ?_⟩
    exact Res.tup (G := G) (F := F1) (μ := μ1) (ts := t) (fun v F' H' x k r => p1 v F' H' μ1 x (k S1 k1) r) k1.fh hq (by omega) r1
  · exact p1.elim
theorem snd_lst {Es : Exs} (h : SndA G tab glo n k Es) : SndE G tab glo n k (.lst Es) := .val (fun i => by simp) fun X W H₀ e c ok => by
  cases e <;> first | (simp only [okE, Bool.false_eq_true] at ok; done) | skip
  simp only [okE] at ok
  refine ⟨?_, fun _ _ _ => rfl, by simp⟩
  refine PE.imp (pe_lst (h.run X W H₀ _ c ok).1) fun σ H Q h => ?_
  obtain ⟨ρ, F, μ, S, en, k, p⟩ := h
  simp only [ev] at p
  refine ⟨ρ, F, μ, S, en, k, p.bind.imp fun v H1 hv => ?_⟩
  obtain ⟨F1, μ1, S1, t, x1, k1, r1, _, p1⟩ := hv
  split at p1
  · rename_i hl
    have : (1000 : Nat) ≤ sizeLine := by decide
    have e := r1.length
    refine ⟨by omega, fun q hq => ?_⟩
    exact Res.lst (G := G) (F := F1) (μ := μ1) (ts := t) (fun v F' H' x k r => p1 v F' H' μ1 x (k S1 k1) r) k1.fh hq (by omega) r1
  · exact p1.elim
theorem snd_sub {a i : Ex} (ha : SndE G tab glo n k a) (hi : SndE G tab glo n k i) : SndE G tab glo n k (.sub a i) := .val (fun i => by simp) fun X W H₀ e c ok => by
  cases e <;> first | (simp only [okE, Bool.false_eq_true] at ok; done) | skip
  rename_i x y pos
  have ok' : (nBor i = true ∧ okE tab glo X.N X.env.scope a x = true) ∧ okE tab glo X.N X.env.scope i y = true := by
    cases y <;> first | (simp only [okE, Bool.and_eq_true] at ok; exact ok)
  obtain ⟨⟨ni, oa⟩, oi⟩ := ok'
  have ni := nBor_ok ni
  have ok' := And.intro oa oi
  refine ⟨?_, fun _ _ _ => rfl, by simp⟩
  have ei : (fun ρ S => bor ρ i S (ev (callF tab n) i ρ S)) = fun ρ S => ev (callF tab n) i ρ S := by funext ρ S; exact bor_id ni ρ S _
  have pi := (hi.run X W H₀ _ c ok'.2).2.1
  rw [ei] at pi
  exact PE.imp (pe_ix (o_sub_ix c.hG) (ha.run X W H₀ _ c ok'.1).2.1 pi (plainIx (okE_plain ok'.2))) fun σ H Q h => tOp_of (by simpa only [ev] using h)
theorem optI_nop {t : T} {o : Option Int} (h : optI .nop t = some o) : o = none := by simp [optI] at h; exact h.symm
theorem optI_val {E : Ex} {t : T} {o : Option Int} (h : optI E t = some o) (hE : E ≠ .nop) : ∃ i, t = .int i ∧ o = some i := by
  unfold optI at h
  split at h
  · exact absurd rfl hE
  · split at h
    · cases h; exact ⟨_, rfl, rfl⟩
    · cases h
/-- an end of a slice -/
theorem po_of {X : Cx} {W : WX} {H₀ : Hp} (c : Cxt G tab glo n k X W) {E : Ex} (hE : SndE G tab glo n k E) {l : Option Expr}
    (ok : (match l with | none => isNop E | some l => okE tab glo X.N X.env.scope E l) = true) :
    ∃ t : TO, PO X l t ∧ ∀ σ H (Q : Option Int → Hp → Prop), (∃ ρ F μ S, EnvR G H₀ F H μ ρ σ ∧ Ok G F H μ S ∧ PostO G F H μ (exK G W σ) (fun F' H' μ' (t : T) (o : Option Int) => optI E t = some o) Q
      ((ev (callF tab n) E ρ S).bind fun t S => if (optI E t).isSome then .ok t S else .stk)) → t σ H Q := by
  cases l with
  | none =>
    refine ⟨_, po_none, fun σ H Q h => ?_⟩
    cases E <;> simp only [isNop, Bool.false_eq_true] at ok
    obtain ⟨ρ, F, μ, S, en, k, p⟩ := h
    simp only [ev, Out.bind, optI] at p
    exact p none F H μ .refl k rfl
  | some l =>
    have nE : E ≠ .nop := fun e => by subst e; cases l <;> simp [okE] at ok
    refine ⟨_, po_some (hE.run X W H₀ _ c ok).1, fun σ H Q h => ?_⟩
    obtain ⟨ρ, F, μ, S, en, k, p⟩ := h
    refine ⟨ρ, F, μ, S, en, k, ?_⟩
    show PostO _ _ _ _ _ _ _ (ev (callF tab n) E ρ S)
    cases q : ev (callF tab n) E ρ S with
    | stk => rw [q] at p; exact p
    | exc e S => rw [q] at p; exact p
    | ok t S1 =>
      rw [q] at p
      simp only [Out.bind] at p
      cases hq : optI E t with
      | none => rw [hq] at p; exact p.elim
      | some o =>
        rw [hq] at p
        obtain ⟨i, rfl, rfl⟩ := optI_val hq nE
        intro v F' H' μ' x k r
        simp only [Rep] at r
        exact ⟨i, r, p (some i) F' H' μ' x k hq⟩
theorem snd_slc {a lo hi : Ex} (ha : SndE G tab glo n k a) (hl : SndE G tab glo n k lo) (hh : SndE G tab glo n k hi) : SndE G tab glo n k (.slc a lo hi) := .val (fun i => by simp) fun X W H₀ e c ok => by
  cases e <;> first | (simp only [okE, Bool.false_eq_true] at ok; done) | skip
  rename_i x y pos
  cases y <;> first | (simp only [okE, Bool.false_eq_true] at ok; done) | skip
  rename_i l h s pos2
  cases s <;> first | (simp only [okE, Bool.false_eq_true] at ok; done) | skip
  simp only [okE, Bool.and_eq_true] at ok
  obtain ⟨⟨k1, k2⟩, k3⟩ := ok
  obtain ⟨tl, pl, il⟩ := po_of (H₀ := H₀) c hl k2
  obtain ⟨th, ph, ih⟩ := po_of (H₀ := H₀) c hh k3
  refine ⟨?_, fun _ _ _ => rfl, by simp⟩
  refine PE.imp (pe_slice (o_slc c.hG) (ha.run X W H₀ _ c k1).2.1 pl ph) fun σ H Q h => ?_
  obtain ⟨ρ, F, μ, S, en, k, p⟩ := h
  simp only [ev] at p
  refine ⟨ρ, F, μ, S, en, k, p.bind.imp fun v H1 hv => ?_⟩
  obtain ⟨F1, μ1, S1, t, x1, k1, r1, _, p1⟩ := hv
  refine il σ H1 _ ⟨ρ, F1, μ1, S1, en.ext x1, k1, ?_⟩
  cases q1 : ev (callF tab n) lo ρ S1 with
  | stk => rw [q1] at p1; exact p1
  | exc e S => rw [q1] at p1; exact p1
  | ok tl S2 =>
    rw [q1] at p1
    simp only [Out.bind] at p1 ⊢
    cases e1 : optI lo tl with
    | none => rw [e1] at p1; exact p1
    | some ol =>
      rw [e1] at p1
      intro o2 F2 H2 μ2 x2 k2 r2
      have r2 : optI lo tl = some o2 := r2
      rw [e1] at r2
      cases r2
      refine ih σ H2 _ ⟨ρ, F2, μ2, S2, (en.ext x1).ext x2, k2, ?_⟩
      have p2 := PostO.later (o := (ev (callF tab n) hi ρ S2).bind fun h S3 => Out.opt (optI hi h) fun h => .of (T.slc t ol h) S3) p1 x2
      cases q2 : ev (callF tab n) hi ρ S2 with
      | stk => rw [q2] at p2; exact p2
      | exc e S => rw [q2] at p2; exact p2
      | ok th S3 =>
        rw [q2] at p2
        simp only [Out.bind] at p2 ⊢
        cases e2 : optI hi th with
        | none => rw [e2] at p2; exact p2
        | some oh =>
          rw [e2] at p2
          intro o3 F3 H3 μ3 x3 k3 r3
          have r3 : optI hi th = some o3 := r3
          rw [e2] at r3
          cases r3
          obtain ⟨u, eu, p3⟩ := p2.of
          exact ⟨F3, μ3, t, u, k3.fh, x3.repB (x2.repB r1), eu, fun v F' H' x k r => PostO.later p3 x3 v F' H' μ3 x (k S3 k3) r⟩
end
end Ly
namespace Ly
open PySem PySem.Spec L2
open PyProof.Rows hiding St

section
variable {tab : List FnI} {glo : List (Str × T)} {G : Glo} {n k : Nat}
theorem snd_call (f : Nat) {Es : Exs} (h : SndA G tab glo n k Es) : SndE G tab glo n k (.call f Es) := .val (fun i => by simp) fun X W H₀ e c ok => by
  cases e <;> first | (simp only [okE, Bool.false_eq_true] at ok; done) | skip
  rename_i g xs ks pos
  cases g <;> first | (simp only [okE, Bool.false_eq_true] at ok; done) | skip
  rename_i x p2
  cases ks <;> first | (simp only [okE, Bool.false_eq_true] at ok; done) | skip
  simp only [okE, Bool.and_eq_true, decide_eq_true_eq] at ok
  obtain ⟨⟨⟨⟨k1, k2⟩, k3⟩, k4⟩, k5⟩ := ok
  refine ⟨?_, fun _ _ _ => rfl, by simp⟩
  cases hf : tab[f]? with
  | none => rw [hf] at k1; cases k1
  | some fi =>
    rw [hf] at k1
    have : x = fi.name := by simpa using k1
    subst this
    obtain ⟨a, fd, ps, m1, m2, m3, m4⟩ := c.fns f fi hf
    cases xs with
    | nil => exact absurd rfl k4
    | cons y ys =>
      have pl := okEs_plain k5
      have hs : starEach (y :: ys) X.env = (false, eval y X.env) :: starEach ys X.env := star_cons (pl y List.mem_cons_self)
      refine PE.imp (pe_callS (E := WE W) m4 c.room (gloB_ok k2) m1 m2 m3 (passAt c.tk) (h.run X W H₀ _ c k5).1 (beq_eq_false_iff_ne.mpr k3) hs (pl_no fun e he => pl e (List.mem_cons_of_mem _ he))) fun σ H Q q => ?_
      obtain ⟨ρ, F, μ, S, en, k, p⟩ := q
      simp only [ev] at p
      refine ⟨ρ, F, μ, S, en, k, p.bind.imp fun v H1 hv => ?_⟩
      obtain ⟨F1, μ1, S1, t, x1, k1, r1, _, p1⟩ := hv
      exact ⟨t, F1, μ1, S1, r1, k1, p1⟩
theorem blt_in (b : Bi) : biName b ∈ bltNames := by cases b <;> simp [biName, bltNames]
theorem tCB_of {b : Bi} {H₀ : Hp} {W : WX} {oa : Lenv → Store → Out (List T)} {σ : St} {H : Hp} {Q : VK}
    (h : tE G H₀ W (fun ρ S => (oa ρ S).bind fun l S1 => .of (biF b l) S1) σ H Q) : tCB (RLT G (biF b)) (tAb G H₀ W oa) σ H Q := by
  obtain ⟨ρ, F, μ, S, en, k, p⟩ := h
  refine ⟨ρ, F, μ, S, en, k, p.bind.imp fun v H1 hv => ?_⟩
  obtain ⟨F1, μ1, S1, t, x1, k1, r1, _, p1⟩ := hv
  obtain ⟨u, eu, p2⟩ := p1.of
  exact ⟨F1, μ1, t, u, k1.fh, r1, eu, fun v F' H' x k r => p2 v F' H' μ1 x (k S1 k1) r⟩
theorem ty_of_bi {b : Bi} {m : String} (hm : isiName b = some (Str.ofString m)) (hmm : m = "tuple" ∨ m = "list" ∨ m = "str" ∨ m = "int" ∨ m = "bool") {t u : T} (e : biF b [t] = some u) : ∃ n, tyT t = some n ∧ u = T.bl (isiB n m) := by
  rcases hmm with rfl | rfl | rfl | rfl | rfl <;> cases b <;> first
    | (exact absurd hm (by decide +kernel))
    | (cases t <;> simp only [biF, reduceCtorEq, Option.some.injEq] at e <;> subst e <;> exact ⟨_, rfl, rfl⟩)
theorem isi_of (b : Bi) {m : Str} (h : isiName b = some m) : ∃ s : String, m = Str.ofString s ∧ (s = "tuple" ∨ s = "list" ∨ s = "str" ∨ s = "int" ∨ s = "bool") := by
  cases b <;> simp only [isiName, reduceCtorEq, Option.some.injEq] at h <;> subst h
  · exact ⟨"tuple", rfl, by simp⟩
  · exact ⟨"str", rfl, by simp⟩
  · exact ⟨"int", rfl, by simp⟩
  · exact ⟨"list", rfl, by simp⟩
  · exact ⟨"bool", rfl, by simp⟩
theorem isi_name (b : Bi) {m : Str} (h : isiName b = some m) : biName b = "isinstance" := by
  cases b <;> simp only [isiName, reduceCtorEq] at h <;> rfl
theorem snd_bi (b : Bi) {Es : Exs} (h : SndA G tab glo n k Es) (h1 : ∀ e, Es = .cons e .nil → SndE G tab glo n k e) : SndE G tab glo n k (.bi b Es) := .val (fun i => by simp) fun X W H₀ e c ok => by
  cases e <;> first | (simp only [okE, Bool.false_eq_true] at ok; done) | skip
  rename_i g xs ks pos
  cases g <;> first | (simp only [okE, Bool.false_eq_true] at ok; done) | skip
  rename_i x p2
  cases ks <;> first | (simp only [okE, Bool.false_eq_true] at ok; done) | skip
  simp only [okE, Bool.and_eq_true, decide_eq_true_eq] at ok
  obtain ⟨⟨⟨rfl, k2⟩, k3⟩, k4⟩ := ok
  refine ⟨?_, fun _ _ _ => rfl, by simp⟩
  have gl := gloB_ok k2
  have mn := c.blt _ (blt_in b)
  cases hi : isiName b with
  | some m =>
    rw [hi] at k4
    simp only at k4
    split at k4
    · rename_i e y z pz
      simp only [Bool.and_eq_true, decide_eq_true_eq] at k4
      obtain ⟨⟨rfl, kz⟩, ky⟩ := k4
      obtain ⟨s, es, hs⟩ := isi_of b hi
      subst es
      have pe := ((h1 e rfl).run X W H₀ _ c ky).2.1
      have gz := gloB_ok kz
      have mz : X.mg (Str.ofString s) = none := c.blt _ (by rcases hs with rfl | rfl | rfl | rfl | rfl <;> simp [bltNames])
      have bz : bootBuiltins (Str.ofString s) = some (.type s) := by rcases hs with rfl | rfl | rfl | rfl | rfl <;> decide +kernel
      have pz2 : PE X (.Name (Str.ofString s) pz) (tC (.ty s)) := pe_bltn gz mz bz rfl (by rcases hs with rfl | rfl | rfl | rfl | rfl <;> decide +kernel) (by rcases hs with rfl | rfl | rfl | rfl | rfl <;> decide +kernel)
      have hst : starEach (y :: [Expr.Name (Str.ofString s) pz]) X.env = (false, eval y X.env) :: starEach [Expr.Name (Str.ofString s) pz] X.env := star_cons (okE_plain ky)
      have en := isi_name b hi
      rw [en] at gl mn ⊢
      refine PE.imp (pe_callB (o_isi c.hG hs) gl mn PyProof.Rows.boot_isinstance (pa_cons pe (pa_cons pz2 pa_nil) hst) (by decide +kernel) (by decide +kernel) hst rfl) fun σ H Q q => ?_
      obtain ⟨ρ, F, μ, S, en, k, p⟩ := q
      simp only [ev, evb] at p
      refine ⟨ρ, F, μ, S, en, k, ?_⟩
      show PostO _ _ _ _ _ _ _ (bor ρ e S (ev (callF tab n) e ρ S))
      cases q : bor ρ e S (ev (callF tab n) e ρ S) with
      | stk => rw [q] at p; exact p
      | exc e S => rw [q] at p; exact p
      | ok t S1 =>
        rw [q] at p
        simp only [Out.bind] at p
        obtain ⟨u, eu, p2⟩ := p.of
        obtain ⟨n, hn, rfl⟩ := ty_of_bi hi hs eu
        intro v F' H' μ' x k r
        exact ⟨F', μ', t, _, n, v, rfl, k.fh, r, hn, rfl, fun v F'' H'' x' k' r' => p2 v F'' H'' μ' (x.trans x') (k' S1 k) r'⟩
    · cases k4
  | none =>
    rw [hi] at k4
    simp only at k4
    cases xs with
    | nil => exact absurd rfl k3
    | cons y ys =>
      have pl := okEs_plain k4
      have hs : starEach (y :: ys) X.env = (false, eval y X.env) :: starEach ys X.env := star_cons (pl y List.mem_cons_self)
      have hp : (backTo pos (starEach ys X.env)).any (·.1) = false := pl_no fun e he => pl e (List.mem_cons_of_mem _ he)
      have pa := (h.run X W H₀ _ c k4).2
      have i : ∀ σ H Q, tE G H₀ W (fun ρ S => ev (callF tab n) (.bi b Es) ρ S) σ H Q → tCB (RLT G (biF b)) (tAb G H₀ W (fun ρ S => evb (callF tab n) Es ρ S)) σ H Q := fun σ H Q q => tCB_of (by simpa only [ev] using q)
      cases b <;> simp only [isiName, reduceCtorEq] at hi
      · exact PE.imp (pe_callB (o_len c.hG) gl mn PySem.boot_len pa (by decide +kernel) (by decide +kernel) hs hp) i
      · exact PE.imp (pe_callB (o_max c.calm) gl mn PyProof.Rows.boot_max pa (by decide +kernel) (by decide +kernel) hs hp) i
      · exact PE.imp (pe_callB (o_min c.calm) gl mn PyProof.Rows.boot_min pa (by decide +kernel) (by decide +kernel) hs hp) i
      · exact PE.imp (pe_callB (o_sum c.calm) gl mn PyProof.Rows.boot_sum pa (by decide +kernel) (by decide +kernel) hs hp) i
      · exact PE.imp (pe_callB (o_all c.calm) gl mn PyProof.Rows.boot_all pa (by decide +kernel) (by decide +kernel) hs hp) i
      · exact PE.imp (pe_callB (o_any c.calm) gl mn PyProof.Rows.boot_any pa (by decide +kernel) (by decide +kernel) hs hp) i
      · exact PE.imp (pe_callTy (o_tup c.hG) gl mn PyProof.Rows.boot_tuple pa (by decide +kernel) (by decide +kernel) hs hp) i
      · exact PE.imp (pe_callTy (o_lst c.hG) gl mn PyProof.Rows.boot_list pa (by decide +kernel) (by decide +kernel) hs hp) i
theorem snd_isIS {a : Ex} (h : SndE G tab glo n k a) : SndE G tab glo n k (.isIS a) := .val (fun i => by simp) fun X W H₀ e c ok => by
  unfold okE at ok
  split at ok
  all_goals first | (rename_i q; cases q; done) | (rename_i q _; cases q; done) | skip
  · rename_i heq
    cases heq
    simp only [Bool.and_eq_true, decide_eq_true_eq] at ok
    obtain ⟨⟨⟨⟨⟨⟨rfl, k1⟩, rfl⟩, k2⟩, rfl⟩, k3⟩, k4⟩ := ok
    refine ⟨?_, fun _ _ _ => rfl, by simp⟩
    rename_i pf y pz pz2 kt pt pos
    have pe := (h.run X W H₀ _ c k4).2.1
    have gl := gloB_ok k1
    have mn := c.blt _ (show ("isinstance" : Str) ∈ bltNames by simp [bltNames])
    have m1 : X.mg "int" = none := c.blt _ (by simp [bltNames])
    have m2 : X.mg "str" = none := c.blt _ (by simp [bltNames])
    have p1 : PE X (.Name "int" pz) (tC (.ty "int")) := pe_bltn (gloB_ok k2) m1 (by decide +kernel) rfl (by decide +kernel) (by decide +kernel)
    have p2 : PE X (.Name "str" pz2) (tC (.ty "str")) := pe_bltn (gloB_ok k3) m2 (by decide +kernel) rfl (by decide +kernel) (by decide +kernel)
    have hst : starEach (y :: [Expr.Tuple [Expr.Name "int" pz, Expr.Name "str" pz2] kt pt]) X.env = (false, eval y X.env) :: starEach [Expr.Tuple [Expr.Name "int" pz, Expr.Name "str" pz2] kt pt] X.env := star_cons (okE_plain k4)
    have pt' : PE X (.Tuple [Expr.Name "int" pz, Expr.Name "str" pz2] kt pt) (tTup (tCons (tC (.ty "int")) (tCons (tC (.ty "str")) tNil))) := pe_tup (pa_cons p1 (pa_cons p2 pa_nil))
    refine PE.imp (pe_callB (o_isIS c.hG) gl mn PyProof.Rows.boot_isinstance (pa_cons pe (pa_cons pt' pa_nil) hst) (by decide +kernel) (by decide +kernel) hst rfl) fun σ H Q q => ?_
    obtain ⟨ρ, F, μ, S, en, k, p⟩ := q
    simp only [ev] at p
    refine ⟨ρ, F, μ, S, en, k, ?_⟩
    refine p.bind.imp fun v H1 hv => ?_
    obtain ⟨F1, μ1, S1, t, x1, k1, r1, _, p1⟩ := hv
    obtain ⟨u, eu, p2⟩ := p1.of
    refine ⟨by decide, fun q hq => ?_⟩
    have x2 : Ext F1 H1 μ1 F1 (upd H1 q (.tup [.ty "int", .ty "str"])) μ1 := Ext.newH hq
    have k2 := k1.newH (o := .tup [.ty "int", .ty "str"]) hq
    exact ⟨F1, μ1, t, u, v, q, rfl, upd_same, k2.fh, x2.repB r1, eu, fun w F' H' x k r => p2 w F' H' μ1 (x2.trans x) (k S1 k2) r⟩
  · cases ok
end
end Ly
namespace Ly
open PySem PySem.Spec L2
open PyProof.Rows hiding St

/-! ### targets -/
theorem EnvR.put {G : Glo} {H₀ F H : Hp} {μ : List Addr} {ρ : Lenv} {σ : St} (e : EnvR G H₀ F H μ ρ σ) {i : Nat} {t : T} {v : V} (r : Rep G.K F μ t v) : EnvR G H₀ F H μ (ρ.set i (.val t)) (σ.set i (some v)) where
  len := by simp [e.len]
  val := fun j u h => by
    by_cases hj : i = j
    · subst hj
      by_cases hl : i < ρ.length
      · rw [List.getElem?_set_self hl] at h
        cases h
        exact ⟨v, List.getElem?_set_self (by rw [← e.len]; exact hl), r⟩
      · rw [List.getElem?_eq_none (by simpa using hl)] at h; cases h
    · rw [List.getElem?_set_ne hj] at h
      obtain ⟨w, h1, h2⟩ := e.val j u h
      exact ⟨w, by rw [List.getElem?_set_ne hj]; exact h1, h2⟩
  own := fun j l h => by
    by_cases hj : i = j
    · subst hj
      by_cases hl : i < ρ.length
      · rw [List.getElem?_set_self hl] at h; cases h
      · rw [List.getElem?_eq_none (by simpa using hl)] at h; cases h
    · rw [List.getElem?_set_ne hj] at h
      obtain ⟨a, vs, h1, h2⟩ := e.own j l h
      exact ⟨a, vs, by rw [List.getElem?_set_ne hj]; exact h1, h2⟩
  ne := fun j k l l' h1 h2 h3 => by
    have nj : ∀ {j : Nat} {l : List T}, (ρ.set i (.val t))[j]? = some (Sl.own l) → i ≠ j := fun {j l} h q => by
      subst q
      by_cases hl : i < ρ.length
      · rw [List.getElem?_set_self hl] at h; cases h
      · rw [List.getElem?_eq_none (by simpa using hl)] at h; cases h
    have n1 := nj h1
    have n2 := nj h2
    rw [List.getElem?_set_ne n1] at h1
    rw [List.getElem?_set_ne n2] at h2
    rw [List.getElem?_set_ne n1, List.getElem?_set_ne n2] at h3
    exact e.ne j k l l' h1 h2 h3
theorem EnvR.wipe1 {G : Glo} {H₀ F H : Hp} {μ : List Addr} {ρ : Lenv} {σ : St} (e : EnvR G H₀ F H μ ρ σ) (i : Nat) : EnvR G H₀ F H μ (ρ.set i .un) (σ.set i none) where
  len := by simp [e.len]
  val := fun j u h => by
    by_cases hj : i = j
    · subst hj
      by_cases hl : i < ρ.length
      · rw [List.getElem?_set_self hl] at h; cases h
      · rw [List.getElem?_eq_none (by simpa using hl)] at h; cases h
    · rw [List.getElem?_set_ne hj] at h
      obtain ⟨w, h1, h2⟩ := e.val j u h
      exact ⟨w, by rw [List.getElem?_set_ne hj]; exact h1, h2⟩
  own := fun j l h => by
    by_cases hj : i = j
    · subst hj
      by_cases hl : i < ρ.length
      · rw [List.getElem?_set_self hl] at h; cases h
      · rw [List.getElem?_eq_none (by simpa using hl)] at h; cases h
    · rw [List.getElem?_set_ne hj] at h
      obtain ⟨a, vs, h1, h2⟩ := e.own j l h
      exact ⟨a, vs, by rw [List.getElem?_set_ne hj]; exact h1, h2⟩
  ne := fun j k l l' h1 h2 h3 => by
    have nj : ∀ {j : Nat} {l : List T}, (ρ.set i Sl.un)[j]? = some (Sl.own l) → i ≠ j := fun {j l} h q => by
      subst q
      by_cases hl : i < ρ.length
      · rw [List.getElem?_set_self hl] at h; cases h
      · rw [List.getElem?_eq_none (by simpa using hl)] at h; cases h
    have n1 := nj h1
    have n2 := nj h2
    rw [List.getElem?_set_ne n1] at h1
    rw [List.getElem?_set_ne n2] at h2
    rw [List.getElem?_set_ne n1, List.getElem?_set_ne n2] at h3
    exact e.ne j k l l' h1 h2 h3
theorem EnvR.wipe {G : Glo} {H₀ F H : Hp} {μ : List Addr} {ρ : Lenv} {σ : St} (e : EnvR G H₀ F H μ ρ σ) : ∀ vs : List Nat, EnvR G H₀ F H μ (wipeR ρ vs) (L2.wipe σ vs)
  | [] => e
  | v :: vs => by
    unfold wipeR L2.wipe
    exact (EnvR.wipe e vs).wipe1 v
/-- the slots in vs aside, nothing has changed -/
def SameBut (vs : List Nat) (σ σ' : St) : Prop := σ'.length = σ.length ∧ ∀ i, i ∉ vs → σ'[i]? = σ[i]?
theorem SameBut.refl {vs : List Nat} {σ : St} : SameBut vs σ σ := ⟨rfl, fun _ _ => rfl⟩
theorem SameBut.trans {vs ws : List Nat} {σ σ1 σ2 : St} (a : SameBut vs σ σ1) (b : SameBut ws σ1 σ2) : SameBut (vs ++ ws) σ σ2 :=
  ⟨b.1.trans a.1, fun i h => by
    rw [List.mem_append, not_or] at h
    exact (b.2 i h.2).trans (a.2 i h.1)⟩
theorem SameBut.set {σ : St} {i : Nat} {v : Option V} : SameBut [i] σ (σ.set i v) :=
  ⟨by simp, fun j h => by rw [List.getElem?_set_ne]; intro e; subst e; simp at h⟩
theorem wipe_get (σ : St) : ∀ (vs : List Nat) (i : Nat), (L2.wipe σ vs)[i]? = if i ∈ vs then (if i < σ.length then some none else none) else σ[i]?
  | [], i => by simp [L2.wipe]
  | v :: vs, i => by
    unfold L2.wipe
    by_cases hv : v = i
    · subst hv
      by_cases hl : v < σ.length
      · rw [List.getElem?_set_self (by rw [L2.wipe_length]; exact hl)]
        simp [hl]
      · rw [List.getElem?_eq_none (by simp [L2.wipe_length]; omega)]
        simp [hl]
    · rw [List.getElem?_set_ne hv, wipe_get σ vs i]
      have : i ≠ v := fun e => hv e.symm
      simp [this]
theorem SameBut.wipe {vs : List Nat} {σ σ' : St} (h : SameBut vs σ σ') : L2.wipe σ' vs = L2.wipe σ vs := by
  apply List.ext_getElem?
  intro i
  rw [wipe_get, wipe_get, h.1]
  by_cases hi : i ∈ vs
  · simp [hi]
  · simp [hi, h.2 i hi]

section
variable {G : Glo} {H₀ : Hp} {X : Cx}
def gOf (G : Glo) (H₀ : Hp) (g : Tg) : TG := fun v σ H Q => ∃ ρ F μ t, EnvR G H₀ F H μ ρ σ ∧ Same F H ∧ Rep G.K F μ t v ∧ ∃ ρ', g.put t ρ = some ρ' ∧ ∀ σ', EnvR G H₀ F H μ ρ' σ' → SameBut g.slots σ σ' → Q σ' H
def gsOf (G : Glo) (H₀ : Hp) (g : Tgs) : TGs := fun vs σ H Q => ∃ ρ F μ ts, EnvR G H₀ F H μ ρ σ ∧ Same F H ∧ Reps G.K F μ ts vs ∧ ∃ ρ', g.put ts ρ = some ρ' ∧ ∀ σ', EnvR G H₀ F H μ ρ' σ' → SameBut g.slots σ σ' → Q σ' H
theorem PG.imp {tg : Expr} {t t' : TG} (h : PG X tg t) (i : ∀ v σ H Q, t' v σ H Q → t v σ H Q) : PG X tg t' := ⟨fun pins s σ H v u Q I r q => h.run pins s σ H v u Q I r (i v σ H Q q)⟩
theorem PGs.imp {tg : List Expr} {t t' : TGs} (h : PGs X tg t) (i : ∀ v σ H Q, t' v σ H Q → t v σ H Q) : PGs X tg t' := ⟨fun pins s σ H v u Q I r q => h.run pins s σ H v u Q I r (i v σ H Q q)⟩
theorem PG.or {tg : Expr} {t t' : TG} (h : PG X tg t) (h' : PG X tg t') : PG X tg (fun v σ H Q => t v σ H Q ∨ t' v σ H Q) := ⟨fun pins s σ H v u Q I r q => by
  rcases q with q | q
  · exact h.run pins s σ H v u Q I r q
  · exact h'.run pins s σ H v u Q I r q⟩
/-- X's own names may be stored -/
def FnLoc (X : Cx) (sc : Scope) : Prop := ∀ x, locB sc x = true → X.fn x = true ∨ X.env.scope.names.lookup x = some .local
theorem okTs_assign {N : List Str} {sc : Scope} {env : Env} : ∀ {g : Tgs} {es : List Expr}, okTs N sc g es = true → (assignEach es env).length = es.length ∧ (assignEach es env).findIdx? (·.1) = none ∧ (assignEach es env).map (·.2) = es.map fun e => assign e env
  | .nil, [], _ => ⟨rfl, rfl, rfl⟩
  | .nil, _ :: _, h => by simp [okTs] at h
  | .cons _ _, [], h => by simp [okTs] at h
  | .cons g gs, e :: es, h => by
    simp only [okTs, Bool.and_eq_true] at h
    obtain ⟨h1, h2, h3⟩ := okTs_assign (env := env) h.2
    have : assignEach (e :: es) env = (false, assign e env) :: assignEach es env := by
      cases e <;> first | rfl | (cases g <;> simp [okT] at h)
    rw [this]
    refine ⟨by simp [h1], ?_, by simp [h3]⟩
    rw [List.findIdx?_cons]
    simp [h2]
theorem okTs_len {N : List Str} {sc : Scope} : ∀ {g : Tgs} {es : List Expr}, okTs N sc g es = true → ∀ {ts : List T} {ρ ρ' : Lenv}, g.put ts ρ = some ρ' → ts.length = es.length
  | .nil, [], _, ts, ρ, ρ', p => by cases ts <;> simp [Tgs.put] at p ⊢
  | .nil, _ :: _, h, _, _, _, _ => by simp [okTs] at h
  | .cons _ _, [], h, _, _, _, _ => by simp [okTs] at h
  | .cons g gs, e :: es, h, ts, ρ, ρ', p => by
    simp only [okTs, Bool.and_eq_true] at h
    cases ts with
    | nil => simp [Tgs.put] at p
    | cons t ts =>
      simp only [Tgs.put, Option.bind_eq_some_iff] at p
      obtain ⟨ρ1, _, p⟩ := p
      simp [okTs_len h.2 p]
mutual
theorem snd_tg (hG : G.K = X.K) (hc : X.calm = true) (hN : X.N.Nodup) (sc : Scope) (hf : FnLoc X sc) : ∀ (g : Tg) (e : Expr), okT X.N X.env.scope g e = true → okT X.N sc g e = true → PG X e (gOf G H₀ g)
  | .nm i, .Name x pos, h, h' => by
    simp only [okT, Bool.and_eq_true, decide_eq_true_eq] at h h'
    refine PG.imp (pg_name hN h.1 (locB_ok h.2) (hf x h'.2)) fun v σ H Q q => ?_
    obtain ⟨ρ, F, μ, t, en, s, r, ρ', p, k⟩ := q
    simp only [Tg.put, Option.some.injEq] at p
    subst p
    exact k _ (en.put r) SameBut.set
  | .tp gs, .Tuple es kk pos, h, h' => by
    simp only [okT] at h h'
    obtain ⟨a1, a2, _⟩ := okTs_assign (env := X.env) h
    have hs := snd_tgs hG hc hN sc hf gs es h h'
    refine PG.imp (PG.or (pg_tup hc hs a1 a2) (pg_unl hc hs a1 a2)) fun v σ H Q q => ?_
    obtain ⟨ρ, F, μ, t, en, s, r, ρ', p, k⟩ := q
    simp only [Tg.put] at p
    cases t with
    | tup l =>
      simp only [T.seq] at p
      simp only [Rep] at r
      obtain ⟨a, vs, rfl, q, z, rs⟩ := r
      exact .inl ⟨a, vs, rfl, hG ▸ Same.seqT s q, by rw [rs.length]; exact okTs_len h p, ρ, F, μ, l, en, s, rs, ρ', p, k⟩
    | lst l =>
      simp only [T.seq] at p
      simp only [Rep] at r
      obtain ⟨a, vs, rfl, q, z, rs⟩ := r
      exact .inr ⟨a, vs, rfl, SqL.of (s _ _ q), by rw [rs.length]; exact okTs_len h p, ρ, F, μ, l, en, s, rs, ρ', p, k⟩
    | _ => simp [T.seq] at p
  | .nm _, .BoolOp .., h, _ | .nm _, .NamedExpr .., h, _ | .nm _, .BinOp .., h, _ | .nm _, .UnaryOp .., h, _ | .nm _, .Lambda .., h, _ | .nm _, .IfExp .., h, _ | .nm _, .Dict .., h, _ | .nm _, .Set .., h, _ | .nm _, .ListComp .., h, _ | .nm _, .SetComp .., h, _ | .nm _, .DictComp .., h, _ | .nm _, .GeneratorExp .., h, _ | .nm _, .Await .., h, _ | .nm _, .Yield .., h, _ | .nm _, .YieldFrom .., h, _ | .nm _, .Compare .., h, _ | .nm _, .Call .., h, _ | .nm _, .FormattedValue .., h, _ | .nm _, .JoinedStr .., h, _ | .nm _, .Constant .., h, _ | .nm _, .Attribute .., h, _ | .nm _, .Subscript .., h, _ | .nm _, .Starred .., h, _ | .nm _, .List .., h, _ | .nm _, .Tuple .., h, _ | .nm _, .Slice .., h, _ => by simp [okT] at h
  | .tp _, .BoolOp .., h, _ | .tp _, .NamedExpr .., h, _ | .tp _, .BinOp .., h, _ | .tp _, .UnaryOp .., h, _ | .tp _, .Lambda .., h, _ | .tp _, .IfExp .., h, _ | .tp _, .Dict .., h, _ | .tp _, .Set .., h, _ | .tp _, .ListComp .., h, _ | .tp _, .SetComp .., h, _ | .tp _, .DictComp .., h, _ | .tp _, .GeneratorExp .., h, _ | .tp _, .Await .., h, _ | .tp _, .Yield .., h, _ | .tp _, .YieldFrom .., h, _ | .tp _, .Compare .., h, _ | .tp _, .Call .., h, _ | .tp _, .FormattedValue .., h, _ | .tp _, .JoinedStr .., h, _ | .tp _, .Constant .., h, _ | .tp _, .Attribute .., h, _ | .tp _, .Subscript .., h, _ | .tp _, .Starred .., h, _ | .tp _, .List .., h, _ | .tp _, .Name .., h, _ | .tp _, .Slice .., h, _ => by simp [okT] at h
theorem snd_tgs (hG : G.K = X.K) (hc : X.calm = true) (hN : X.N.Nodup) (sc : Scope) (hf : FnLoc X sc) : ∀ (g : Tgs) (es : List Expr), okTs X.N X.env.scope g es = true → okTs X.N sc g es = true → PGs X es (gsOf G H₀ g)
  | .nil, [], h, _ => PGs.imp pgs_nil fun v σ H Q q => by
    obtain ⟨ρ, F, μ, ts, en, s, r, ρ', p, k⟩ := q
    cases ts with
    | cons _ _ => simp [Tgs.put] at p
    | nil =>
      simp only [Tgs.put, Option.some.injEq] at p
      subst p
      simp only [Reps] at r
      exact ⟨r, k _ en SameBut.refl⟩
  | .nil, _ :: _, h, _ => by simp [okTs] at h
  | .cons _ _, [], h, _ => by simp [okTs] at h
  | .cons g gs, e :: es, h, h' => by
    obtain ⟨_, _, a3⟩ := okTs_assign (env := X.env) h
    simp only [okTs, Bool.and_eq_true] at h h'
    obtain ⟨_, _, b3⟩ := okTs_assign (env := X.env) h.2
    refine PGs.imp (pgs_cons (snd_tg hG hc hN sc hf g e h.1 h'.1) (snd_tgs hG hc hN sc hf gs es h.2 h'.2) (by rw [a3, b3]; rfl)) fun v σ H Q q => ?_
    obtain ⟨ρ, F, μ, ts, en, s, r, ρ', p, k⟩ := q
    cases ts with
    | nil => simp [Tgs.put] at p
    | cons t ts =>
      simp only [Tgs.put, Option.bind_eq_some_iff] at p
      obtain ⟨ρ1, p1, p2⟩ := p
      simp only [Reps] at r
      obtain ⟨v, vs, rfl, r1, r2⟩ := r
      refine ⟨v, vs, rfl, ρ, F, μ, t, en, s, r1, ρ1, p1, fun σ1 en1 b1 => ?_⟩
      exact ⟨ρ1, F, μ, ts, en1, s, r2, ρ', p2, fun σ2 en2 b2 => k σ2 en2 (b1.trans b2)⟩
end
end
end Ly
namespace Ly
open PySem PySem.Spec L2
open PyProof.Rows hiding St

/-! ### what a loop walks -/
structure WalkOk (G : Glo) (F H : Hp) (μ : List Addr) (bw : Bool) (J : It) (l : List T) (P : Hp → Prop) : Prop where
  now : P H
  per : ∀ F' H' μ', (bw = true → Ext F H μ F' H' μ') → Same F F' → Same F' H' → P H'
  go : ∀ i H', i < l.length → P H' → J.go i H'
  stop : ∀ H', P H' → J.stop l.length H'
  yld : ∀ (i : Nat) t x F' H' H'' μ' S, l[i]? = some t → P H' → Same F F' → (∃ r, μ' = μ ++ r) → Ok G F' H' μ' S → J.yld i H' x H'' → ∃ F'', Ext F' H' μ' F'' H'' μ' ∧ Ok G F'' H'' μ' S ∧ Rep G.K F'' μ' t x
  len : l.length ≤ sizeLine
section
variable {G : Glo} {F H : Hp} {μ : List Addr} {X : Cx}
theorem Reps.mono' {F' : Hp} {μ' : List Addr} {ts : List T} {vs : List V} (h : Reps G.K F μ ts vs) (s : Same F F') (m : ∃ r, μ' = μ ++ r) : Reps G.K F' μ' ts vs := by
  obtain ⟨r, rfl⟩ := m
  exact Reps.mono s ts h
theorem walk_lst {a : Addr} {l : List T} {vs : List V} (bw : Bool) (h : (F a = some (.lst vs)) ∨ (bw = true ∧ H a = some (.lst vs) ∧ a ∉ μ)) (s : Same F H) (z : l.length ≤ sizeLine) (r : Reps G.K F μ l vs) : WalkOk G F H μ bw (Itl G.K a) l (fun H' => H' a = some (.lst vs)) where
  now := by
    rcases h with h | ⟨_, h, _⟩
    · exact s _ _ h
    · exact h
  per := fun F' H' μ' x sf s' => by
    rcases h with h | ⟨e, h, m⟩
    · exact s' _ _ (sf _ _ h)
    · exact (x e).hh a _ h m
  go := fun i H' hi p => ⟨vs, vs[i]'(by rw [r.length]; exact hi), SqL.of p, by simp [r.length, hi]⟩
  stop := fun H' p => ⟨vs, SqL.of p, by rw [r.length]; exact Nat.le_refl _⟩
  yld := fun i t x F' H' H'' μ' S e p sf m k y => by
    obtain ⟨rfl, y⟩ := y
    refine ⟨F', .refl, k, ?_⟩
    obtain ⟨v, h1, h2⟩ := (r.mono' sf m).get e
    rw [y vs (SqL.of p)] at h1
    cases h1
    exact h2
  len := z
theorem walk_tpl {a : Addr} {l : List T} {vs : List V} (bw : Bool) (h : SqT G.K F a vs) (s : Same F H) (z : l.length ≤ sizeLine) (r : Reps G.K F μ l vs) : WalkOk G F H μ bw (Itt G.K a) l (fun H' => SqT G.K H' a vs) where
  now := Same.seqT s h
  per := fun F' H' μ' x sf s' => Same.seqT s' (Same.seqT sf h)
  go := fun i H' hi p => ⟨vs, vs[i]'(by rw [r.length]; exact hi), p, by simp [r.length, hi]⟩
  stop := fun H' p => ⟨vs, p, by rw [r.length]; exact Nat.le_refl _⟩
  yld := fun i t x F' H' H'' μ' S e p sf m k y => by
    obtain ⟨rfl, y⟩ := y
    refine ⟨F', .refl, k, ?_⟩
    obtain ⟨v, h1, h2⟩ := (r.mono' sf m).get e
    rw [y vs p] at h1
    cases h1
    exact h2
  len := z
theorem walk_txt {x : List Nat} (bw : Bool) (z : x.length ≤ sizeLine) (c : ∀ c ∈ x, c < 1114112) : WalkOk G F H μ bw (Its (tx x)) (x.map fun c => T.str [c]) (fun _ => True) where
  now := trivial
  per := fun _ _ _ _ _ _ => trivial
  go := fun i H' hi p => by
    show i < (tx x).cps.size
    simpa [tx] using hi
  stop := fun H' p => by
    show (tx x).cps.size ≤ _
    simp [tx]
  yld := fun i t y F' H' H'' μ' S e p sf m k h => by
    obtain ⟨rfl, d, h1, rfl⟩ := h
    refine ⟨F', .refl, k, ?_⟩
    rw [List.getElem?_map] at e
    cases q : x[i]? with
    | none => rw [q] at e; cases e
    | some g =>
      rw [q] at e
      cases e
      have : g = d := by
        have h1 : (x.toArray)[i]? = some d := h1
        rw [List.getElem?_toArray, q] at h1
        exact Option.some.inj h1
      subst this
      exact Rep.str' (x := [g]) (by show 1 ≤ sizeLine; decide) fun w hw => by
        have : w = g := by simpa using hw
        subst this
        exact c w (List.mem_of_getElem? q)
  len := by simpa using z
theorem walk_rng {lo : Int} {m : Nat} (bw : Bool) (z : m ≤ sizeLine) : WalkOk G F H μ bw (Itr lo m) ((List.range m).map fun (k : Nat) => T.int (lo + k)) (fun _ => True) where
  now := trivial
  per := fun _ _ _ _ _ _ => trivial
  go := fun i H' hi p => by
    show i < m
    simpa using hi
  stop := fun H' p => by
    show m ≤ _
    simp
  yld := fun i t y F' H' H'' μ' S e p sf mm k h => by
    obtain ⟨rfl, rfl⟩ := h
    refine ⟨F', .refl, k, ?_⟩
    rw [List.getElem?_map] at e
    cases q : (List.range m)[i]? with
    | none => rw [q] at e; cases e
    | some g =>
      rw [q] at e
      cases e
      have : g = i := by
        obtain ⟨h1, h2⟩ := List.getElem?_eq_some_iff.mp q
        simpa using h2.symm
      subst this
      exact Rep.int'
  len := by simpa using z

/-- any value walked -/
def iVal (K : PySem.W.Frag) (te : TE) : TI := fun σ H R => te σ H fun x H1 => (∃ a xs, x = .ref a ∧ SqL K H1 a xs ∧ R (Itl K a) H1) ∨ (∃ a xs, x = .ref a ∧ SqT K H1 a xs ∧ R (Itt K a) H1) ∨ ∃ z, x = .str z ∧ R (Its z) H1
theorem pi_val {tg e : Expr} {te : TE} (he : PE X e te) : PI X tg e (iVal X.K te) := by
  refine ⟨fun pins s σ H R I h => ?_⟩
  refine thn (he.run pins s σ H _ I h) fun v s1 ⟨x, H1, I1, r1, q1⟩ => ?_
  rcases q1 with ⟨a, xs, rfl, hq, q⟩ | ⟨a, xs, rfl, hq, q⟩ | ⟨z, rfl, q⟩
  · cases r1
    obtain ⟨its, rv, p, hz⟩ := I1.list hq
    refine wpAny_pyIter_list p.isList ?_
    refine ⟨s1.heap.objs.size, [s1.heap.objs.size], _, _, H1, rfl, I1.kept (t' := s1.toks) fun b o e => Heap.get?_push_of_some _ e, turn_list a _, ⟨_, Heap.get?_push_size _ rfl, rfl, rfl⟩, fun b hb => ?_, q⟩
    have e : b = s1.heap.objs.size := by simpa using hb
    subst e
    exact I1.fpOk (Nat.le_refl _) (I1.hok.fresh (Nat.le_refl _))
  · cases r1
    obtain ⟨its, rv, p, hz⟩ := I1.tuple hq
    refine wpAny_pyIter_tuple (show s1.heap.IsTuple a its.toArray from p) ?_
    refine ⟨s1.heap.objs.size, [s1.heap.objs.size], _, _, H1, rfl, I1.kept (t' := s1.toks) fun b o e => Heap.get?_push_of_some _ e, turn_tuple a _, ⟨_, Heap.get?_push_size _ rfl, rfl, rfl⟩, fun b hb => ?_, q⟩
    have e : b = s1.heap.objs.size := by simpa using hb
    subst e
    exact I1.fpOk (Nat.le_refl _) (I1.hok.fresh (Nat.le_refl _))
  · obtain ⟨t, rfl⟩ := r1
    cases ha : z.cps.all (· < 128)
    · exact wpAny_pyIter_wide ha (pi_one (tk := s1.toks) I1 _ (turn_str _ z t "str_iterator" (.inr rfl)) ⟨_, Heap.get?_push_size _ rfl, rfl, rfl⟩ q)
    · exact wpAny_pyIter_ascii ha (pi_one (tk := s1.toks) I1 _ (turn_str _ z t "str_ascii_iterator" (.inl rfl)) ⟨_, Heap.get?_push_size _ rfl, rfl, rfl⟩ q)
end

/-- a source's reading -/
def iSrc (G : Glo) (H₀ : Hp) (W : WX) (bw : Bool) (k : SK) (o : Lenv → Store → Out (List T)) : TI := fun σ H R => ∃ ρ F μ S, EnvR G H₀ F H μ ρ σ ∧ Ok G F H μ S ∧
  PostO G F H μ (exK G W σ) (fun F' H' μ' (l : List T) (J : It) => ∃ P, WalkOk G F' H' μ' bw J l P) R ((o ρ S).bind fun ts S1 => Out.opt (itemsF k ts) fun l => .ok l S1)
section
variable {tab : List FnI} {glo : List (Str × T)} {G : Glo} {n k : Nat}
theorem PI.imp {X : Cx} {tg e : Expr} {t t' : TI} (h : PI X tg e t) (i : ∀ σ H R, t' σ H R → t σ H R) : PI X tg e t' := ⟨fun pins s σ H R I q => h.run pins s σ H R I (i σ H R q)⟩
theorem opt_ok {α β : Type} {o : Option α} {f : α → Out β} {b : β} {S' : Store} (h : Out.opt o f = .ok b S') : ∃ a, o = some a ∧ f a = .ok b S' := by
  cases o with
  | none => cases h
  | some a => exact ⟨a, rfl, h⟩
theorem PostO.opt {α β γ : Type} {G : Glo} {F H : Hp} {μ : List Addr} {E : Nat → Hp → Prop} {R : Hp → Hp → List Addr → α → β → Prop} {Q : β → Hp → Prop} {o : Option γ} {f : γ → Out α} (h : PostO G F H μ E R Q (Out.opt o f)) :
    ∃ a, o = some a ∧ PostO G F H μ E R Q (f a) := by
  cases o with
  | none => exact h.elim
  | some a => exact ⟨a, rfl, h⟩
/-- a value, walked: the evaluation's end as the walk's start -/
theorem src_val {H₀ : Hp} {W : WX} {X : Cx} (c : Cxt G tab glo n k X W) {x tg : Expr} {o : Lenv → Store → Out T} (bw : Bool) (hp : PE X x (if bw then tEb G H₀ W o else tE G H₀ W o)) :
    PI X tg x (iSrc G H₀ W bw .val (fun ρ S => (o ρ S).bind fun t S1 => .ok [t] S1)) := by
  refine PI.imp (pi_val hp) fun σ H R q => ?_
  obtain ⟨ρ, F, μ, S, en, k, p⟩ := q
  dsimp only at p
  have main : ∀ {F1 H1 μ1 S1 t v}, Ok G F1 H1 μ1 S1 → (RepB G F1 H1 μ1 t v) → (bw = false → Rep G.K F1 μ1 t v) → PostO G F1 H1 μ1 (exK G W σ) (fun F' H' μ' (l : List T) (J : It) => ∃ P, WalkOk G F' H' μ' bw J l P) R (Out.opt (itemsF .val [t]) fun l => .ok l S1) →
      (∃ a xs, v = .ref a ∧ SqL X.K H1 a xs ∧ R (Itl X.K a) H1) ∨ (∃ a xs, v = .ref a ∧ SqT X.K H1 a xs ∧ R (Itt X.K a) H1) ∨ ∃ z, v = .str z ∧ R (Its z) H1 := fun {F1 H1 μ1 S1 t v} k1 r1 r0 p1 => by
    obtain ⟨l, e, p2⟩ := p1.opt
    simp only [itemsF] at e
    cases t with
    | tup l' =>
      simp only [T.items, Option.some.injEq] at e
      subst e
      have r : Rep G.K F1 μ1 (.tup l') v := by
        rcases r1 with h | ⟨_, _, _, e, _⟩
        · exact h
        · cases e
      simp only [Rep] at r
      obtain ⟨a, vs, rfl, q, z, rs⟩ := r
      refine .inr (.inl ⟨a, vs, rfl, c.hG ▸ Same.seqT k1.fh q, ?_⟩)
      rw [← c.hG]
      exact p2 _ F1 H1 μ1 .refl k1 ⟨_, walk_tpl bw q k1.fh z rs⟩
    | lst l' =>
      simp only [T.items, Option.some.injEq] at e
      subst e
      rcases r1 with r | ⟨a, l2, vs, e, rfl, h1, h2, h3, h4⟩
      · simp only [Rep] at r
        obtain ⟨a, vs, rfl, q, z, rs⟩ := r
        refine .inl ⟨a, vs, rfl, SqL.of (k1.fh _ _ q), ?_⟩
        rw [← c.hG]
        exact p2 _ F1 H1 μ1 .refl k1 ⟨_, walk_lst bw (.inl q) k1.fh z rs⟩
      · cases e
        cases hb : bw with
        | false =>
          have r := r0 hb
          simp only [Rep] at r
          obtain ⟨a', vs', e, q, z, rs⟩ := r
          cases e
          refine .inl ⟨a, vs', rfl, SqL.of (k1.fh _ _ q), ?_⟩
          rw [← c.hG]
          subst hb
          exact p2 _ F1 H1 μ1 .refl k1 ⟨_, walk_lst false (.inl q) k1.fh z rs⟩
        | true =>
          subst hb
          refine .inl ⟨a, vs, rfl, SqL.of h1, ?_⟩
          rw [← c.hG]
          exact p2 _ F1 H1 μ1 .refl k1 ⟨_, walk_lst true (.inr ⟨rfl, h1, h4⟩) k1.fh h2 h3⟩
    | str x =>
      simp only [T.items, Option.some.injEq] at e
      subst e
      obtain ⟨rfl, z, cs⟩ := r1.str
      exact .inr (.inr ⟨_, rfl, p2 _ F1 H1 μ1 .refl k1 ⟨_, walk_txt bw z cs⟩⟩)
    | _ => simp [T.items] at e
  cases bw with
  | true =>
    refine ⟨ρ, F, μ, S, en, k, ?_⟩
    cases q : o ρ S with
    | stk => rw [q] at p; exact p
    | exc e S => rw [q] at p; exact p
    | ok t S1 =>
      rw [q] at p
      intro v F' H' μ' x k r
      exact main k r (fun h => by cases h) (PostO.later (o := Out.opt (itemsF .val [t]) fun l => .ok l S1) p x)
  | false =>
    refine ⟨ρ, F, μ, S, en, k, ?_⟩
    cases q : o ρ S with
    | stk => rw [q] at p; exact p
    | exc e S => rw [q] at p; exact p
    | ok t S1 =>
      rw [q] at p
      intro v F' H' μ' x k r
      exact main k (.inl r) (fun _ => r) (PostO.later (o := Out.opt (itemsF .val [t]) fun l => .ok l S1) p x)

theorem evs_len {c : Call} {N : List Str} {sc : Scope} : ∀ {Es : Exs} {es : List Expr} {ρ : Lenv} {S : Store} {l : List T} {S' : Store}, okEs tab glo N sc Es es = true → evs c Es ρ S = .ok l S' → l.length = es.length
  | .nil, [], ρ, S, l, S', _, h => by simp only [evs] at h; cases h; rfl
  | .nil, _ :: _, _, _, _, _, h, _ => by simp [okEs] at h
  | .cons _ _, [], _, _, _, _, h, _ => by simp [okEs] at h
  | .cons E Es, e :: es, ρ, S, l, S', h, q => by
    simp only [okEs, Bool.and_eq_true] at h
    simp only [evs] at q
    obtain ⟨_, _, _, q⟩ := ok_bind q
    obtain ⟨l', _, q1, q⟩ := ok_bind q
    cases q
    simp [evs_len h.2 q1]
theorem evb_len {c : Call} {N : List Str} {sc : Scope} : ∀ {Es : Exs} {es : List Expr} {ρ : Lenv} {S : Store} {l : List T} {S' : Store}, okEs tab glo N sc Es es = true → evb c Es ρ S = .ok l S' → l.length = es.length
  | .nil, [], ρ, S, l, S', _, h => by simp only [evb] at h; cases h; rfl
  | .nil, _ :: _, _, _, _, _, h, _ => by simp [okEs] at h
  | .cons _ _, [], _, _, _, _, h, _ => by simp [okEs] at h
  | .cons E Es, e :: es, ρ, S, l, S', h, q => by
    simp only [okEs, Bool.and_eq_true] at h
    simp only [evb] at q
    obtain ⟨_, _, _, q⟩ := ok_bind q
    obtain ⟨l', _, q1, q⟩ := ok_bind q
    cases q
    simp [evb_len h.2 q1]
theorem src_rng {H₀ : Hp} {W : WX} {X : Cx} (c : Cxt G tab glo n k X W) {es : List Expr} {tg : Expr} {p pos : Pos} {o : Lenv → Store → Out (List T)} (bw : Bool) (hp : PA X es (if bw then tAb G H₀ W o else tA G H₀ W o)) (pl : ∀ e ∈ es, plainX e = true) (hg : gloB X.env.scope "range" = true)
    (ho : ∀ ρ S l S', o ρ S = .ok l S' → l.length = es.length) (hl : es.length = 1 ∨ es.length = 2) :
    PI X tg (.Call (.Name "range" p) es [] pos) (iSrc G H₀ W bw .rng o) := by
  have gl := gloB_ok hg
  have mn : X.mg "range" = none := c.blt _ (by simp [bltNames])
  have big : (2000000 : Nat) ≤ sizeLine := by decide
  have hp' : PA X es (tAb G H₀ W o) := by
    cases bw with
    | true => exact hp
    | false =>
      exact PA.imp hp fun σ H Q q => by
        show tA G H₀ W o σ H Q
        obtain ⟨ρ, F, μ, S, en, k, p⟩ := q
        refine ⟨ρ, F, μ, S, en, k, ?_⟩
        cases e : o ρ S with
        | stk => rw [e] at p; exact p
        | exc c S => rw [e] at p; exact p
        | ok l S1 => rw [e] at p; exact fun v F' H' μ' x k r => p v F' H' μ' x k (RepBs.of r)
  match es, hl with
  | [e], _ =>
    have hs : starEach [e] X.env = [(false, eval e X.env)] := star_cons (pl e (by simp))
    refine PI.imp (pi_range1 gl mn hp' hs) fun σ H R q => ?_
    obtain ⟨ρ, F, μ, S, en, k, p⟩ := q
    refine ⟨ρ, F, μ, S, en, k, p.bind.imp fun v H1 hv => ?_⟩
    obtain ⟨F1, μ1, S1, t, x1, k1, r1, eo, p1⟩ := hv
    have hlen := ho _ _ _ _ eo
    obtain ⟨l, e, p2⟩ := p1.opt
    unfold itemsF at e
    split at e <;> first | (cases ‹SK.rng = _›; done) | skip
    · split at e
      · rename_i m _ hm
        cases e
        obtain ⟨w, rfl, h⟩ := r1.one
        have := h.int
        subst this
        refine ⟨m, rfl, by omega, by omega, ?_⟩
        refine p2 _ F1 H1 μ1 .refl k1 ⟨fun _ => True, ?_⟩
        have := walk_rng (G := G) (F := F1) (H := H1) (μ := μ1) (lo := 0) (m := m.toNat) bw (by omega)
        simpa using this
      · cases e
    · simp at hlen
    · cases e
  | [e, e2], _ =>
    have hs2 : starEach [e2] X.env = [(false, eval e2 X.env)] := star_cons (pl e2 (by simp))
    have hs : starEach [e, e2] X.env = [(false, eval e X.env), (false, eval e2 X.env)] := (star_cons (pl e (by simp))).trans (by rw [hs2])
    refine PI.imp (pi_range2 gl mn hp' hs hs2) fun σ H R q => ?_
    obtain ⟨ρ, F, μ, S, en, k, p⟩ := q
    refine ⟨ρ, F, μ, S, en, k, p.bind.imp fun v H1 hv => ?_⟩
    obtain ⟨F1, μ1, S1, t, x1, k1, r1, eo, p1⟩ := hv
    have hlen := ho _ _ _ _ eo
    obtain ⟨l, e, p2⟩ := p1.opt
    unfold itemsF at e
    split at e <;> first | (cases ‹SK.rng = _›; done) | skip
    · simp at hlen
    · split at e
      · rename_i i j _ hm
        cases e
        obtain ⟨w, w2, rfl, h, h2⟩ := r1.two
        have := h.int
        have := h2.int
        subst_vars
        refine ⟨i, j, rfl, ⟨by omega, by omega, by omega, by omega⟩, ?_⟩
        exact p2 _ F1 H1 μ1 .refl k1 ⟨_, walk_rng bw (by omega)⟩
      · cases e
    · cases e
end
end Ly
namespace Ly
open PySem PySem.Spec L2
open PyProof.Rows hiding St

/-! ### enumerate and zip over a list, a tuple, a text -/
inductive Bk where | l (a : Addr) | t (a : Addr) | s (x : Str)
def Bk.has (K : PySem.W.Frag) (H : Hp) : Bk → List V → Prop
  | .l a, xs => SqL K H a xs
  | .t a, xs => SqT K H a xs
  | .s x, xs => xs = x.cps.toList.map fun c => V.str ⟨#[c]⟩
def Bk.ad : Bk → List Addr
  | .l a => [a]
  | .t a => [a]
  | .s _ => []
def Bk.tn : Bk → Addr → Nat → Heap → Prop
  | .l a, it, i, h => h.IsListIter it a i
  | .t a, it, i, h => h.IsTupleIter it a i
  | .s x, it, i, h => ∃ t, h.IsStrIter it (strIterType x) x t i
def Bk.v : Bk → V
  | .l a => .ref a
  | .t a => .ref a
  | .s x => .str x
theorem Vals.back {xs : List V} {us : List Value} (r : Vals xs us) {j : Nat} {u : Value} (h : us[j]? = some u) : ∃ v, xs[j]? = some v ∧ RelV v u := by
  have hj : j < us.length := (List.getElem?_eq_some_iff.mp h).1
  have hx : xs[j]? = some (xs[j]'(by rw [r.length]; exact hj)) := List.getElem?_eq_getElem _
  obtain ⟨u', hu, rv⟩ := r.get hx
  rw [h] at hu
  cases hu
  exact ⟨_, hx, rv⟩
theorem Bk.obj {b : Bk} {it : Addr} {i : Nat} {h : Heap} (st : b.tn it i h) : ∃ o, h.get? it = some o ∧ ∀ v, o.data ≠ .cell v := by
  cases b with
  | l a => obtain ⟨o, ho, _, hd⟩ := st; exact ⟨o, ho, fun v q => by rw [hd] at q; cases q⟩
  | t a => obtain ⟨o, ho, _, hd⟩ := st; exact ⟨o, ho, fun v q => by rw [hd] at q; cases q⟩
  | s x => obtain ⟨t, o, ho, _, hd⟩ := st; exact ⟨o, ho, fun v q => by rw [hd] at q; cases q⟩
theorem Bk.at {b : Bk} {it : Addr} {i : Nat} {h h' : Heap} (st : b.tn it i h) (k : ∀ o, h.get? it = some o → h'.get? it = some o) : b.tn it i h' := by
  cases b with
  | l a => exact st.at k
  | t a => exact st.at k
  | s x => obtain ⟨t, o, ho, hc, hd⟩ := st; exact ⟨t, o, k _ ho, hc, hd⟩
section
variable {X : Cx} {pins : List (Addr × Obj)} {s : Shared} {σ : St} {H : Hp} {A : Around}
theorem Bk.draw (I : Inv X pins σ H s) (hh : A.handled = none) (b : Bk) {it : Addr} {i : Nat} {xs : List V} (hq : b.has X.K H xs) (st : b.tn it i s.heap) (hne : it ∉ b.ad) :
    ∃ P Tn, Draws X.prog X.w A it (it :: b.ad) xs.length P Tn ∧ Tn i s.heap ∧ (∀ j u, P j u → ∃ v, xs[j]? = some v ∧ RelV v u) ∧ ∀ j h, Tn j h → b.tn it j h := by
  cases b with
  | l a =>
    obtain ⟨its, rv, p, _⟩ := I.list hq
    have e : its.toArray.size = xs.length := by simp [rv.length]
    have D := Draws.list (prog := X.prog) (w := X.w) hh it a (fun q => hne (by simp [Bk.ad, q])) its.toArray
    rw [e] at D
    exact ⟨_, _, D, ⟨st, p.isList⟩, fun j u h => Vals.back rv (by simpa using h), fun j h q => q.1⟩
  | t a =>
    obtain ⟨its, rv, p, _⟩ := I.tuple hq
    have e : its.toArray.size = xs.length := by simp [rv.length]
    have D := Draws.tuple (prog := X.prog) (w := X.w) hh it a (fun q => hne (by simp [Bk.ad, q])) its.toArray
    rw [e] at D
    exact ⟨_, _, D, ⟨st, p⟩, fun j u h => Vals.back rv (by simpa using h), fun j h q => q.1⟩
  | s x =>
    obtain ⟨t, st⟩ := st
    have hq : xs = x.cps.toList.map fun c => V.str ⟨#[c]⟩ := hq
    have e : x.cps.size = xs.length := by rw [hq]; simp
    have D := Draws.text (prog := X.prog) (w := X.w) hh it x t
    rw [e] at D
    refine ⟨_, _, D, st, fun j u h => ?_, fun j h q => ⟨t, q⟩⟩
    obtain ⟨c, tk, h1, rfl⟩ := h
    exact ⟨.str ⟨#[c]⟩, by rw [hq]; simp [h1], tk, rfl⟩
theorem Bk.inj (I : Inv X pins σ H s) {b : Bk} {xs ys : List V} (h : b.has X.K H xs) (h' : b.has X.K H ys) : xs = ys := by
  cases b with
  | l a => exact I.list_inj h h'
  | t a => exact I.tuple_inj h h'
  | s x => exact Eq.trans h (Eq.symm h')
end
/-- index and item in a new pair -/
def ItE (K : PySem.W.Frag) (b : Bk) : It :=
  ⟨fun i H => ∃ xs, b.has K H xs ∧ i < xs.length, fun i H v H' => ∃ T x, v = .ref T ∧ H T = none ∧ H' = upd H T (.tup [.int (i : Nat), x]) ∧ ∀ xs, b.has K H xs → xs[i]? = some x, fun i H => ∃ xs, b.has K H xs ∧ xs.length = i⟩
theorem turn_en {P : Program} {w : World} {K : PySem.W.Frag} {elts : List Expr} {kk : Nat} {tpos : Pos} (b : Bk) (e it : Addr) :
    Turn P w K (.Tuple elts kk tpos) (ItE K b) [e, it] e (fun i h => (∃ old, IsEnum h e it ((i : Nat) : Int) old) ∧ b.tn it i h ∧ e ≠ it ∧ it ∉ b.ad ∧ e ∉ b.ad) where
  mem := List.mem_cons_self
  obj := fun i h st c hc => by
    obtain ⟨⟨old, he⟩, hi, _⟩ := st
    rcases (show c = e ∨ c = it by simpa using hc) with rfl | rfl
    · exact ⟨_, he, fun v q => nomatch q⟩
    · exact Bk.obj hi
  keep := fun i h h' st k => by
    obtain ⟨⟨old, he⟩, hi, r⟩ := st
    exact ⟨⟨old, k e (by simp) _ he⟩, Bk.at hi (fun o q => k it (by simp) o q), r⟩
  item := by
    intro X hP hw hK hc i pins s σ H E I hf st hg
    subst hP hw hK
    obtain ⟨⟨old, he⟩, hit, hne, n1, n2⟩ := st
    obtain ⟨xs, hq, hx⟩ := hg
    obtain ⟨Pd, Tn, D, h0, hPd, hTn⟩ := Bk.draw (A := X.A.in1) I (I.ok.hd hc) b hq hit n1
    have hel : e < s.heap.objs.size := Heap.lt_size he
    have hil : it < s.heap.objs.size := by obtain ⟨_, q, _⟩ := Bk.obj hit; exact Heap.lt_size q
    have hef : e ∉ it :: b.ad := fun q => by
      rcases List.mem_cons.mp q with q | q
      · exact hne q
      · exact n2 q
    refine wpAny_pyNext_enum_itemC D he h0 hx hne hef fun u h' tk hP ho hit' hT hsz hk => ?_
    obtain ⟨x, hxi, ru⟩ := hPd _ _ hP
    refine ⟨_, rfl, wpAny_letOwnedTupleGo_enum (s := { s with heap := h', toks := tk + 1 }) ho fun h'' he' sb => ?_⟩
    have hT2 := (sb.2 _ (Nat.ne_of_gt hel)).trans hT
    have new : ObjOk X.prog X.w (upd H s.heap.objs.size (.tup [.int (i : Nat), x])) h'' s.heap.objs.size (.tup [.int (i : Nat), x]) :=
      ⟨by show 2 ≤ sizeLine; decide, [.int i tk, u], .cons ⟨_, rfl⟩ (.cons ru .nil), ⟨_, hT2, rfl, _, rfl⟩⟩
    have I1 : Inv X pins σ (upd H s.heap.objs.size (.tup [.int (i : Nat), x])) { s with heap := h'', toks := tk + 1 } :=
      I.turnedNew (ch := [e, it]) (fun c oc hb q => (sb.2 c (fun z => hb (by simp [z]))).trans (hk c oc (fun z => hb (by simp [z])) (fun z => hb (by simp [z])) q)) hf (Nat.le_refl _) new
    refine ⟨.ref s.heap.objs.size, _, I1, rfl, ⟨_, x, rfl, I.hok.fresh (Nat.le_refl _), rfl, fun ys hy => by rw [Bk.inj I hy hq]; exact hxi⟩, ⟨⟨u, ?_⟩, Bk.at (hTn _ _ hit') (fun o q => (sb.2 it (Ne.symm hne)).trans q), hne, n1, n2⟩, fun c hb => ?_⟩
    · rw [show ((i + 1 : Nat) : Int) = (i : Int) + 1 by omega]
      exact he'
    · have hb' : c < s.heap.objs.size := by
        rcases (show c = e ∨ c = it by simpa using hb) with rfl | rfl
        · exact hel
        · exact hil
      rw [upd_ne (Nat.ne_of_lt hb')]
      exact (hf c hb).1
  done := by
    intro X hP hw hK hc i pins s σ H E I hf st hg
    subst hP hw hK
    obtain ⟨⟨old, he⟩, hit, hne, n1, n2⟩ := st
    obtain ⟨xs, hq, rfl⟩ := hg
    obtain ⟨Pd, Tn, D, h0, hPd, hTn⟩ := Bk.draw (A := X.A.in1) I (I.ok.hd hc) b hq hit n1
    obtain ⟨f0, f1, f2, f3, f4, f5⟩ := hf it (by simp)
    exact wpAny_pyNext_enum_endD D he h0 fun h' eb => ⟨rfl, I.turned (t' := s.toks) (fun c o hb q => eb c o hb q) f0 f1 f3 f4 f5⟩
  self := fun A i s Q E st h => by
    obtain ⟨⟨_, he⟩, _⟩ := st
    exact wpAny_pyIter_enum he h
/-! its start -/
theorem meets_en1 {v : Value} {o : Obj} {Hh : Heap → Prop} (B : Begins v o Hh) :
    Meets (Builtin.«enumerate.__new__» ⟨[.type "enumerate", v], []⟩) (fun _ R s => Hh s.heap ∧ R (.ok (.ret (.ref (s.heap.push o).objs.size))) { s with heap := (s.heap.push o).push { cls := .type "enumerate", data := .fields #[.none, .bool false, .ref s.heap.objs.size, rawInt 0, .none, .none] } }) := .of_wp fun prog w A R s h => by
  obtain ⟨hp, g, d, tk, os⟩ := s
  obtain ⟨h1, h⟩ := h
  have hsub := sub_enumerate
  have q1 : ∀ {A' : Around} {E : Value → Shared → Prop} {Q : Value → Shared → Prop}, Q (.ref hp.objs.size) ⟨hp.push o, g, d, tk, os⟩ → wpAny (model prog w) A' (pyIter v) Q E ⟨hp, g, d, tk, os⟩ := fun q => B.iter prog w _ _ ⟨hp, g, d, tk, os⟩ _ h1 q
  wp_walk using q1
  first
    | exact ⟨_, rfl, h⟩
    | (refine wpAny_stack_any fun st => wpAny_pure ?_
       split
       · rename_i c _ _ _ _ _
         cases (c == Value.type "enumerate") <;> (wp_walk using q1; exact ⟨_, rfl, h⟩)
       · wp_walk using q1
         exact ⟨_, rfl, h⟩)
theorem en_begins {prog : Program} {w : World} {A : Around} {E : Value → Shared → Prop} {s : Shared} {v : Value} {o : Obj} {Hh : Heap → Prop} {Q : Value → Shared → Prop} (B : Begins v o Hh) (h1 : Hh s.heap)
    (h : ∀ h', IsEnum h' (s.heap.objs.size + 1) s.heap.objs.size 0 .none → h'.get? s.heap.objs.size = some o → (∀ b o, s.heap.get? b = some o → h'.get? b = some o) → Q (.ref (s.heap.objs.size + 1)) { s with heap := h' }) :
    wpAny (model prog w) A (call (.type "enumerate") [v]) Q E s := by
  refine callType_new F.called_enumerate (by decide) (F.typeCall_enumerate_1 _) (F.newCall_enumerate_1 _) (fun obj => F.args_object_init_2 obj _) F.entry_enumerate_new (meets_en1 B) ⟨h1, ?_⟩
  have hz : (s.heap.push o).objs.size = s.heap.objs.size + 1 := Heap.size_push ..
  show _ ∧ _
  rw [hz]
  have he : IsEnum ((s.heap.push o).push { cls := .type "enumerate", data := .fields #[.none, .bool false, .ref s.heap.objs.size, rawInt 0, .none, .none] }) (s.heap.objs.size + 1) s.heap.objs.size 0 .none := by
    have z := Heap.get?_push_size (s.heap.push o) (o := { cls := .type "enumerate", data := .fields #[.none, .bool false, .ref s.heap.objs.size, rawInt 0, .none, .none] }) rfl
    rw [hz] at z
    exact z
  exact ⟨⟨_, he, rfl⟩, h _ he (Heap.get?_push_of_some _ (Heap.get?_push_size _ B.free)) fun b o x => Heap.get?_push_of_some _ (Heap.get?_push_of_some _ x)⟩
section
variable {X : Cx} {pins : List (Addr × Obj)} {s : Shared} {σ : St} {H : Hp}
/-- what an iterator over b is at its start -/
theorem Bk.begin (I : Inv X pins σ H s) (b : Bk) {xs : List V} {u : Value} (hq : b.has X.K H xs) (r : RelV b.v u) : ∃ o Hh, Begins u o Hh ∧ Hh s.heap ∧ (∀ (h' : Heap) (it : Addr), h'.get? it = some o → b.tn it 0 h') ∧ ∀ a ∈ b.ad, a < s.heap.objs.size := by
  cases b with
  | l a =>
    have r : u = .ref a := r
    subst r
    obtain ⟨its, rv, p, _⟩ := I.list hq
    exact ⟨_, _, begins_list a its.toArray, p.isList, fun h' it e => ⟨_, e, rfl, rfl⟩, fun c hc => by simp [Bk.ad] at hc; subst hc; exact p.lt⟩
  | t a =>
    have r : u = .ref a := r
    subst r
    obtain ⟨its, rv, p, _⟩ := I.tuple hq
    exact ⟨_, _, begins_tuple a its.toArray, p, fun h' it e => ⟨_, e, rfl, rfl⟩, fun c hc => by simp [Bk.ad] at hc; subst hc; obtain ⟨o1, ho1, _⟩ := id p; exact Heap.lt_size ho1⟩
  | s x =>
    obtain ⟨t, rfl⟩ := r
    exact ⟨_, _, begins_text x t, trivial, fun h' it e => ⟨t, _, e, rfl, rfl⟩, fun c hc => by simp [Bk.ad] at hc⟩
end
def iEn (K : PySem.W.Frag) (ta : TA) : TI := fun σ H R => ta σ H fun vs H1 => ∃ b xs, vs = [Bk.v b] ∧ b.has K H1 xs ∧ R (ItE K b) H1
theorem pi_en {X : Cx} {e : Expr} {ta : TA} {p pos tpos : Pos} {elts : List Expr} {kk : Nat} (hg : Gl X "enumerate") (hm : X.mg "enumerate" = none) (ha : PA X [e] ta) (hs : starEach [e] X.env = [(false, eval e X.env)]) :
    PI X (.Tuple elts kk tpos) (.Call (.Name "enumerate" p) [e] [] pos) (iEn X.K ta) := by
  refine ⟨fun pins s σ H R I h => ?_⟩
  refine Call_ (ld_blt I hg hm boot_enumerate (PyProof.Rows.callWith_type1 (thn (ha.run pos pins s σ H _ I h) fun us s1 ⟨vs, H1, I1, r1, q1⟩ => ?_) hs rfl))
  obtain ⟨b, xs, ex, hq, q⟩ := q1
  subst ex
  cases r1 with
  | cons r rr =>
    cases rr
    obtain ⟨o, Hh, B, hb, ht, hlt⟩ := Bk.begin I1 b hq r
    refine en_begins B hb fun h' he hit hk => wpAny_pyIter_enum he ?_
    have I2 : Inv X pins σ H1 { s1 with heap := h' } := I1.kept (t' := s1.toks) hk
    refine ⟨s1.heap.objs.size + 1, [s1.heap.objs.size + 1, s1.heap.objs.size], _, _, H1, rfl, I2, turn_en b (s1.heap.objs.size + 1) s1.heap.objs.size, ⟨⟨.none, he⟩, ht _ _ hit, Nat.succ_ne_self _, fun q => Nat.lt_irrefl _ (hlt _ q), fun q => by have := hlt _ q; exact absurd this (Nat.not_lt.mpr (Nat.le_succ _))⟩, fun c hc => ?_, q⟩
    have hle : s1.heap.objs.size ≤ c := by
      rcases (show c = s1.heap.objs.size + 1 ∨ c = s1.heap.objs.size by simpa using hc) with z | z
      · rw [z]; exact Nat.le_add_right _ _
      · rw [z]; exact Nat.le_refl _
    exact I1.fpOk hle (I1.hok.fresh hle)
end Ly
namespace Ly
open PySem PySem.Spec L2
open PyProof.Rows hiding St
/-- items side by side in a new pair -/
def ItZ (K : PySem.W.Frag) (b d : Bk) : It :=
  ⟨fun i H => ∃ xs ys, b.has K H xs ∧ d.has K H ys ∧ i < xs.length ∧ i < ys.length, fun i H v H' => ∃ T x y, v = .ref T ∧ H T = none ∧ H' = upd H T (.tup [x, y]) ∧ (∀ xs, b.has K H xs → xs[i]? = some x) ∧ ∀ ys, d.has K H ys → ys[i]? = some y,
   fun i H => ∃ xs ys, b.has K H xs ∧ d.has K H ys ∧ min xs.length ys.length = i⟩
theorem turn_zp {P : Program} {w : World} {K : PySem.W.Frag} {elts : List Expr} {kk : Nat} {tpos : Pos} (b d : Bk) {z TI TO i1 i2 : Addr} (D : ZipSep2 z TI TO i1 i2 (i1 :: b.ad) (i2 :: d.ad)) (n1 : i1 ∉ b.ad) (n2 : i2 ∉ d.ad) :
    Turn P w K (.Tuple elts kk tpos) (ItZ K b d) [z, TI, TO, i1, i2] z (fun i h => IsZip h z TI TO .none ∧ IsTupOf2 h TI (.ref i1) (.ref i2) ∧ (∃ x y, IsTupOf2 h TO x y) ∧ b.tn i1 i h ∧ d.tn i2 i h) where
  mem := List.mem_cons_self
  obj := fun i h st c hc => by
    obtain ⟨hz, hTI, ⟨x, y, hTO⟩, h1, h2⟩ := st
    rcases (show c = z ∨ c = TI ∨ c = TO ∨ c = i1 ∨ c = i2 by simpa using hc) with rfl | rfl | rfl | rfl | rfl
    · exact ⟨_, hz, fun v q => nomatch q⟩
    · exact ⟨_, hTI, fun v q => nomatch q⟩
    · exact ⟨_, hTO, fun v q => nomatch q⟩
    · exact Bk.obj h1
    · exact Bk.obj h2
  keep := fun i h h' st k => by
    obtain ⟨hz, hTI, ⟨x, y, hTO⟩, h1, h2⟩ := st
    exact ⟨k z (by simp) _ hz, k TI (by simp) _ hTI, ⟨x, y, k TO (by simp) _ hTO⟩, Bk.at h1 (fun o q => k i1 (by simp) o q), Bk.at h2 (fun o q => k i2 (by simp) o q)⟩
  item := by
    intro X hP hw hK hc i pins s σ H E I hf st hg
    subst hP hw hK
    obtain ⟨hz, hTI, ⟨x0, y0, hTO⟩, h1, h2⟩ := st
    obtain ⟨xs, ys, hqx, hqy, hx, hy⟩ := hg
    obtain ⟨P1, T1, D1, s1, hP1, hT1⟩ := Bk.draw (A := X.A.in1) I (I.ok.hd hc) b hqx h1 n1
    obtain ⟨P2, T2, D2, s2, hP2, hT2⟩ := Bk.draw (A := X.A.in1) I (I.ok.hd hc) d hqy h2 n2
    have hzl : z < s.heap.objs.size := Heap.lt_size hz
    refine wpAny_pyNext_zipD2_item D D1 D2 hz hTI hTO s1 s2 hx hy fun u1 u2 h' tk p1 p2 z' TO' t1 t2 hT hsz hk => ?_
    obtain ⟨x, hxi, ru⟩ := hP1 _ _ p1
    obtain ⟨y, hyi, ru2⟩ := hP2 _ _ p2
    refine ⟨_, rfl, wpAny_letOwnedTupleGo_zip (s := { s with heap := h', toks := tk }) z' fun h'' z'' sb => ?_⟩
    have hTn : h''.get? s.heap.objs.size = some { cls := .type "tuple", data := .seq #[u1, u2] } := (sb.2 _ (Nat.ne_of_gt hzl)).trans hT
    have new : ObjOk X.prog X.w (upd H s.heap.objs.size (.tup [x, y])) h'' s.heap.objs.size (.tup [x, y]) := ⟨by show 2 ≤ sizeLine; decide, [u1, u2], .cons ru (.cons ru2 .nil), ⟨_, hTn, rfl, _, rfl⟩⟩
    have I1 : Inv X pins σ (upd H s.heap.objs.size (.tup [x, y])) { s with heap := h'', toks := tk } :=
      I.turnedNew (t' := tk) (ch := [z, TI, TO, i1, i2]) (fun c o hb q => (sb.2 c (fun e => hb (by simp [e]))).trans (hk c o (fun e => hb (by simp [e])) (fun e => hb (by simp [e])) (fun e => hb (by simp [e])) (fun e => hb (by simp [e])) q)) hf (Nat.le_refl _) new
    refine ⟨.ref s.heap.objs.size, _, I1, rfl, ⟨_, x, y, rfl, I.hok.fresh (Nat.le_refl _), rfl, fun l hl => by rw [Bk.inj I hl hqx]; exact hxi, fun l hl => by rw [Bk.inj I hl hqy]; exact hyi⟩, ⟨z'', ?_, ⟨u1, u2, ?_⟩, Bk.at (hT1 _ _ t1) fun o q => (sb.2 _ (Ne.symm D.zi1)).trans q, Bk.at (hT2 _ _ t2) fun o q => (sb.2 _ (Ne.symm D.zi2)).trans q⟩, fun c hcm => ?_⟩
    · exact (sb.2 _ D.TIz).trans (hk _ _ D.TIz D.TITO D.TIi1 D.TIi2 hTI)
    · exact (sb.2 _ D.TOz).trans TO'
    · have hlt : c < s.heap.objs.size := by
        rcases (show c = z ∨ c = TI ∨ c = TO ∨ c = i1 ∨ c = i2 by simpa using hcm) with rfl | rfl | rfl | rfl | rfl
        · exact hzl
        · exact Heap.lt_size hTI
        · exact Heap.lt_size hTO
        · obtain ⟨_, e1, _⟩ := Bk.obj h1; exact Heap.lt_size e1
        · obtain ⟨_, e2, _⟩ := Bk.obj h2; exact Heap.lt_size e2
      rw [upd_ne (Nat.ne_of_lt hlt)]
      exact (hf c hcm).1
  done := by
    intro X hP hw hK hc i pins s σ H E I hf st hg
    subst hP hw hK
    obtain ⟨hz, hTI, ⟨x0, y0, hTO⟩, h1, h2⟩ := st
    obtain ⟨xs, ys, hqx, hqy, hend⟩ := hg
    obtain ⟨P1, T1, D1, s1, hP1, hT1⟩ := Bk.draw (A := X.A.in1) I (I.ok.hd hc) b hqx h1 n1
    obtain ⟨P2, T2, D2, s2, hP2, hT2⟩ := Bk.draw (A := X.A.in1) I (I.ok.hd hc) d hqy h2 n2
    exact wpAny_pyNext_zipD2_end D D1 D2 hz hTI hTO s1 s2 (by omega) (by omega) (by omega) fun h' tk hk => ⟨rfl, I.turnedL (t' := tk) (ch := [z, TI, TO, i1, i2]) (fun c o hb q =>
      hk c o (fun e => hb (by simp [e])) (fun e => hb (by simp [e])) (fun e => hb (by simp [e])) (fun e => hb (by simp [e])) q) hf⟩
  self := fun A i s Q E st h => wpAny_pyIter_zip st.1 h
def iZp (K : PySem.W.Frag) (ta : TA) : TI := fun σ H R => ta σ H fun vs H1 => ∃ b d xs ys, vs = [Bk.v b, Bk.v d] ∧ b.has K H1 xs ∧ d.has K H1 ys ∧ R (ItZ K b d) H1
theorem pi_zp {X : Cx} {e e2 : Expr} {ta : TA} {p pos tpos : Pos} {elts : List Expr} {kk : Nat} (hg : Gl X "zip") (hm : X.mg "zip" = none) (ha : PA X [e, e2] ta)
    (hs : starEach [e, e2] X.env = (false, eval e X.env) :: starEach [e2] X.env) (hpl : (backTo pos (starEach [e2] X.env)).any (·.1) = false) :
    PI X (.Tuple elts kk tpos) (.Call (.Name "zip" p) [e, e2] [] pos) (iZp X.K ta) := by
  refine ⟨fun pins s σ H R I h => ?_⟩
  refine Call_ (ld_blt I hg hm PyProof.Rows.boot_zip (PyProof.Rows.callWith_type1 (thn (ha.run pos pins s σ H _ I h) fun us s1 ⟨vs, H1, I1, r1, q1⟩ => ?_) hs hpl))
  obtain ⟨b, d, xs, ys, ex, hqx, hqy, q⟩ := q1
  subst ex
  cases r1 with
  | cons r rr =>
    cases rr with
    | cons r' rr =>
      cases rr
      obtain ⟨o1, Hh1, B1, hb1, ht1, hl1⟩ := Bk.begin I1 b hqx r
      obtain ⟨o2, Hh2, B2, hb2, ht2, hl2⟩ := Bk.begin I1 d hqy r'
      have fr : ∀ c, c ∈ [s1.heap.objs.size + 4, s1.heap.objs.size + 2, s1.heap.objs.size + 3, s1.heap.objs.size, s1.heap.objs.size + 1] → FpOk X pins H1 c := fun c hcm => by
        have hle : s1.heap.objs.size ≤ c := by
          rcases (show c = s1.heap.objs.size + 4 ∨ c = s1.heap.objs.size + 2 ∨ c = s1.heap.objs.size + 3 ∨ c = s1.heap.objs.size ∨ c = s1.heap.objs.size + 1 by simpa using hcm) with e | e | e | e | e <;> rw [e] <;> first | exact Nat.le_add_right _ _ | exact Nat.le_refl _
        exact I1.fpOk hle (I1.hok.fresh hle)
      refine zip_begins2 B1 B2 hb1 hb2 fun h' hz hTI hTO g1 g2 hsz hk => wpAny_pyIter_zip hz ?_
      have I2 : Inv X pins σ H1 { s1 with heap := h' } := I1.kept (t' := s1.toks) hk
      exact ⟨s1.heap.objs.size + 4, [s1.heap.objs.size + 4, s1.heap.objs.size + 2, s1.heap.objs.size + 3, s1.heap.objs.size, s1.heap.objs.size + 1], _, _, H1, rfl, I2,
        turn_zp b d (zip_sep2 hl1 hl2) (fun q => Nat.lt_irrefl _ (hl1 _ q)) (fun q => absurd (hl2 _ q) (Nat.not_lt.mpr (Nat.le_succ _))), ⟨hz, hTI, ⟨_, _, hTO⟩, ht1 _ _ g1, ht2 _ _ g2⟩, fr, q⟩
end Ly
namespace Ly
open PySem PySem.Spec L2
open PyProof.Rows hiding St
/-- what is walked, as long as it stands -/
structure BkOk (G : Glo) (F H : Hp) (μ : List Addr) (bw : Bool) (b : Bk) (l : List T) (vs : List V) : Prop where
  now : b.has G.K H vs
  per : ∀ F' H' μ', (bw = true → Ext F H μ F' H' μ') → Same F F' → Same F' H' → b.has G.K H' vs
  rep : Reps G.K F μ l vs
  len : l.length ≤ sizeLine
section
variable {G : Glo} {F H : Hp} {μ : List Addr}
theorem Reps.chars : ∀ {x : List Nat}, (∀ c ∈ x, c < 1114112) → Reps G.K F μ (x.map fun c => T.str [c]) (x.map fun c => V.str ⟨#[c]⟩)
  | [], _ => by simp [Reps]
  | c :: x, h => by
    rw [List.map_cons, List.map_cons]
    refine Reps.cons ?_ (Reps.chars fun d hd => h d (List.mem_cons_of_mem _ hd))
    have : (1 : Nat) ≤ sizeLine := by decide
    simp only [Rep]
    exact ⟨by simp [tx], by simpa using this, fun d hd => by
      rw [List.mem_singleton] at hd
      subst hd
      exact h _ List.mem_cons_self⟩
theorem bk_of {bw : Bool} {t : T} {v : V} {l : List T} {S : Store} (k : Ok G F H μ S) (r1 : RepB G F H μ t v) (r0 : bw = false → Rep G.K F μ t v) (e : t.items = some l) : ∃ b vs, v = Bk.v b ∧ BkOk G F H μ bw b l vs := by
  cases t with
  | tup l' =>
    simp only [T.items, Option.some.injEq] at e
    subst e
    have r : Rep G.K F μ (.tup l') v := by
      rcases r1 with h | ⟨_, _, _, e, _⟩
      · exact h
      · cases e
    simp only [Rep] at r
    obtain ⟨a, vs, rfl, q, z, rs⟩ := r
    exact ⟨.t a, vs, rfl, Same.seqT k.fh q, fun F' H' μ' x sf s' => Same.seqT s' (Same.seqT sf q), rs, z⟩
  | lst l' =>
    simp only [T.items, Option.some.injEq] at e
    subst e
    rcases r1 with r | ⟨a, l2, vs, e, rfl, h1, h2, h3, h4⟩
    · simp only [Rep] at r
      obtain ⟨a, vs, rfl, q, z, rs⟩ := r
      exact ⟨.l a, vs, rfl, SqL.of (k.fh _ _ q), fun F' H' μ' x sf s' => SqL.of (s' _ _ (sf _ _ q)), rs, z⟩
    · cases e
      cases bw with
      | false =>
        have r := r0 rfl
        simp only [Rep] at r
        obtain ⟨a', vs', e, q, z, rs⟩ := r
        cases e
        exact ⟨.l a, vs', rfl, SqL.of (k.fh _ _ q), fun F' H' μ' x sf s' => SqL.of (s' _ _ (sf _ _ q)), rs, z⟩
      | true => exact ⟨.l a, vs, rfl, SqL.of h1, fun F' H' μ' x sf s' => SqL.of ((x rfl).hh a _ h1 h4), h3, h2⟩
  | str x =>
    simp only [T.items, Option.some.injEq] at e
    subst e
    obtain ⟨rfl, z, cs⟩ := r1.str
    have q : (tx x).cps.toList = x := tx_cps x
    exact ⟨.s (tx x), x.map fun c => V.str ⟨#[c]⟩, rfl, by show _ = _; rw [q], fun _ _ _ _ _ _ => by show _ = _; rw [q], Reps.chars cs, by simpa using z⟩
  | _ => simp [T.items] at e
theorem rep_pair {F' H' : Hp} {p : Addr} {t1 t2 : T} {v1 v2 : V} {S : Store} (k : Ok G F' H' μ S) (hp : H' p = none) (r1 : Rep G.K F' μ t1 v1) (r2 : Rep G.K F' μ t2 v2) : ∃ F'', Ext F' H' μ F'' (upd H' p (.tup [v1, v2])) μ ∧ Ok G F'' (upd H' p (.tup [v1, v2])) μ S ∧ Rep G.K F'' μ (.tup [t1, t2]) (.ref p) := by
  have x : Ext F' H' μ (upd F' p (.tup [v1, v2])) (upd H' p (.tup [v1, v2])) μ := Ext.new k.fh hp
  refine ⟨_, x, k.new hp, ?_⟩
  have : (2 : Nat) ≤ sizeLine := by decide
  simp only [Rep]
  exact ⟨p, [v1, v2], rfl, SqT.of upd_same, by simpa using this, Reps.cons (x.rep r1) (Reps.cons (x.rep r2) Reps.nil)⟩
theorem walk_en {bw : Bool} {b : Bk} {l : List T} {vs : List V} (B : BkOk G F H μ bw b l vs) : WalkOk G F H μ bw (ItE G.K b) (l.zipIdx.map fun p => T.tup [.int (p.2 : Nat), p.1]) (fun H' => b.has G.K H' vs) where
  now := B.now
  per := B.per
  go := fun i H' hi p => ⟨vs, p, by have := B.rep.length; simp at hi; omega⟩
  stop := fun H' p => ⟨vs, p, by have := B.rep.length; simp; omega⟩
  yld := fun i t x F' H' H'' μ' S e p sf m k y => by
    obtain ⟨p2, v2, rfl, hp, rfl, hx⟩ := y
    have hx := hx vs p
    have e' : ∃ u, l[i]? = some u ∧ t = .tup [.int (i : Nat), u] := by
      rw [List.getElem?_map, List.getElem?_zipIdx] at e
      cases q : l[i]? with
      | none => rw [q] at e; simp at e
      | some u => rw [q] at e; simp at e; exact ⟨u, rfl, e.symm⟩
    obtain ⟨u, hu, rfl⟩ := e'
    obtain ⟨v, h1, h2⟩ := (B.rep.mono' sf m).get hu
    rw [hx] at h1
    cases h1
    exact rep_pair k hp Rep.int' h2
  len := by simpa using B.len
theorem walk_zp {bw : Bool} {b d : Bk} {l m : List T} {vs ws : List V} (B : BkOk G F H μ bw b l vs) (D : BkOk G F H μ bw d m ws) : WalkOk G F H μ bw (ItZ G.K b d) ((l.zip m).map fun p => T.tup [p.1, p.2]) (fun H' => b.has G.K H' vs ∧ d.has G.K H' ws) where
  now := ⟨B.now, D.now⟩
  per := fun F' H' μ' x s s' => ⟨B.per F' H' μ' x s s', D.per F' H' μ' x s s'⟩
  go := fun i H' hi p => ⟨vs, ws, p.1, p.2, by have := B.rep.length; have := D.rep.length; simp at hi; omega, by have := B.rep.length; have := D.rep.length; simp at hi; omega⟩
  stop := fun H' p => ⟨vs, ws, p.1, p.2, by have := B.rep.length; have := D.rep.length; simp; omega⟩
  yld := fun i t x F' H' H'' μ' S e p sf mm k y => by
    obtain ⟨p2, v1, v2, rfl, hp, rfl, hx, hy⟩ := y
    have hx := hx vs p.1
    have hy := hy ws p.2
    have e' : ∃ u w, l[i]? = some u ∧ m[i]? = some w ∧ t = .tup [u, w] := by
      rw [List.getElem?_map] at e
      cases q : (l.zip m)[i]? with
      | none => rw [q] at e; simp at e
      | some u =>
        rw [q] at e
        obtain ⟨a1, a2⟩ := List.getElem?_zip_eq_some.mp q
        simp at e
        exact ⟨u.1, u.2, a1, a2, e.symm⟩
    obtain ⟨u, w, hu, hw, rfl⟩ := e'
    obtain ⟨v, h1, h2⟩ := (B.rep.mono' sf mm).get hu
    obtain ⟨v', h1', h2'⟩ := (D.rep.mono' sf mm).get hw
    rw [hx] at h1
    rw [hy] at h1'
    cases h1
    cases h1'
    exact rep_pair k hp h2 h2'
  len := by have := B.len; simp; omega
end
section
variable {tab : List FnI} {glo : List (Str × T)} {G : Glo} {n k : Nat}
/-- the argument list's reading, as values and what may be borrowed -/
theorem src_args {H₀ : Hp} {W : WX} {bw : Bool} {X : Cx} {o : Lenv → Store → Out (List T)} {es : List Expr} (hp : PA X es (if bw then tAb G H₀ W o else tA G H₀ W o)) :
    PA X es (fun σ H Q => ∃ ρ F μ S, EnvR G H₀ F H μ ρ σ ∧ Ok G F H μ S ∧ PostO G F H μ (exK G W σ) (fun F' H' μ' (ts : List T) vs => RepBs G F' H' μ' ts vs ∧ (bw = false → Reps G.K F' μ' ts vs)) Q (o ρ S)) := by
  refine PA.imp hp fun σ H Q q => ?_
  obtain ⟨ρ, F, μ, S, en, k, p⟩ := q
  cases bw with
  | true =>
    refine ⟨ρ, F, μ, S, en, k, ?_⟩
    cases e : o ρ S with
    | stk => rw [e] at p; exact p
    | exc c S => rw [e] at p; exact p
    | ok l S1 => rw [e] at p; exact fun v F' H' μ' x k r => p v F' H' μ' x k ⟨r, fun h => by cases h⟩
  | false =>
    refine ⟨ρ, F, μ, S, en, k, ?_⟩
    cases e : o ρ S with
    | stk => rw [e] at p; exact p
    | exc c S => rw [e] at p; exact p
    | ok l S1 => rw [e] at p; exact fun v F' H' μ' x k r => p v F' H' μ' x k ⟨RepBs.of r, fun _ => r⟩
theorem src_en {H₀ : Hp} {W : WX} {X : Cx} (c : Cxt G tab glo n k X W) {es : List Expr} {elts : List Expr} {kt : Nat} {tpos : Pos} {p pos : Pos} {o : Lenv → Store → Out (List T)} (bw : Bool) (hp : PA X es (if bw then tAb G H₀ W o else tA G H₀ W o)) (pl : ∀ e ∈ es, plainX e = true) (hg : gloB X.env.scope "enumerate" = true)
    (ho : ∀ ρ S l S', o ρ S = .ok l S' → l.length = es.length) (hl : es.length = 1) :
    PI X (.Tuple elts kt tpos) (.Call (.Name "enumerate" p) es [] pos) (iSrc G H₀ W bw .enm o) := by
  have gl := gloB_ok hg
  have mn : X.mg "enumerate" = none := c.blt _ (by simp [bltNames])
  match es, hl with
  | [e], _ =>
    have hs : starEach [e] X.env = [(false, eval e X.env)] := star_cons (pl e (by simp))
    refine PI.imp (pi_en gl mn (src_args hp) hs) fun σ H R q => ?_
    obtain ⟨ρ, F, μ, S, en, k, p⟩ := q
    refine ⟨ρ, F, μ, S, en, k, p.bind.imp fun v H1 hv => ?_⟩
    obtain ⟨F1, μ1, S1, t, x1, k1, ⟨r1, r0⟩, eo, p1⟩ := hv
    have hlen := ho _ _ _ _ eo
    obtain ⟨l, e, p2⟩ := p1.opt
    match t, hlen with
    | [t], _ =>
      simp only [itemsF, Option.map_eq_some_iff] at e
      obtain ⟨l0, e0, rfl⟩ := e
      obtain ⟨w, rfl, h⟩ := r1.one
      have r0 : bw = false → Rep G.K F1 μ1 t w := fun hb => by
        have := r0 hb
        simp only [Reps] at this
        obtain ⟨_, _, e, h, rfl⟩ := this
        cases e
        exact h
      obtain ⟨b, vs, rfl, B⟩ := bk_of k1 h r0 e0
      refine ⟨b, vs, rfl, c.hG ▸ B.now, ?_⟩
      rw [← c.hG]
      exact p2 _ F1 H1 μ1 .refl k1 ⟨_, walk_en B⟩
theorem src_zp {H₀ : Hp} {W : WX} {X : Cx} (c : Cxt G tab glo n k X W) {es : List Expr} {elts : List Expr} {kt : Nat} {tpos : Pos} {p pos : Pos} {o : Lenv → Store → Out (List T)} (bw : Bool) (hp : PA X es (if bw then tAb G H₀ W o else tA G H₀ W o)) (pl : ∀ e ∈ es, plainX e = true) (hg : gloB X.env.scope "zip" = true)
    (ho : ∀ ρ S l S', o ρ S = .ok l S' → l.length = es.length) (hl : es.length = 2) :
    PI X (.Tuple elts kt tpos) (.Call (.Name "zip" p) es [] pos) (iSrc G H₀ W bw .zip o) := by
  have gl := gloB_ok hg
  have mn : X.mg "zip" = none := c.blt _ (by simp [bltNames])
  match es, hl with
  | [e, e2], _ =>
    have hs2 : starEach [e2] X.env = [(false, eval e2 X.env)] := star_cons (pl e2 (by simp))
    have hs : starEach [e, e2] X.env = (false, eval e X.env) :: starEach [e2] X.env := star_cons (pl e (by simp))
    refine PI.imp (pi_zp gl mn (src_args hp) hs (by rw [hs2]; rfl)) fun σ H R q => ?_
    obtain ⟨ρ, F, μ, S, en, k, p⟩ := q
    refine ⟨ρ, F, μ, S, en, k, p.bind.imp fun v H1 hv => ?_⟩
    obtain ⟨F1, μ1, S1, t, x1, k1, ⟨r1, r0⟩, eo, p1⟩ := hv
    have hlen := ho _ _ _ _ eo
    obtain ⟨l, e, p2⟩ := p1.opt
    match t, hlen with
    | [t, t'], _ =>
      simp only [itemsF] at e
      split at e
      · rename_i l1 l2 e1 e2
        cases e
        obtain ⟨w, w2, rfl, h, h2⟩ := r1.two
        have r0 : bw = false → Rep G.K F1 μ1 t w ∧ Rep G.K F1 μ1 t' w2 := fun hb => by
          have := r0 hb
          simp only [Reps] at this
          obtain ⟨_, _, e, h, _, _, e', h', rfl⟩ := this
          cases e
          cases e'
          exact ⟨h, h'⟩
        obtain ⟨b, vs, rfl, B⟩ := bk_of k1 h (fun hb => (r0 hb).1) e1
        obtain ⟨d, ws, rfl, D⟩ := bk_of k1 h2 (fun hb => (r0 hb).2) e2
        refine ⟨b, d, vs, ws, rfl, c.hG ▸ B.now, c.hG ▸ D.now, ?_⟩
        rw [← c.hG]
        exact p2 _ F1 H1 μ1 .refl k1 ⟨_, walk_zp B D⟩
      · cases e
end
end Ly
namespace Ly
open PySem PySem.Spec L2
open PyProof.Rows hiding St

section
variable {G : Glo} {F H : Hp} {μ : List Addr} {S : Store}
/-- a list of one's own is shown to F -/
theorem Ok.freeze {p : Addr} {vs : List V} (k : Ok G F H μ S) (h : H p = some (.lst vs)) (f : F p = none) (m : p ∉ μ) : Ok G (upd F p (.lst vs)) H μ S where
  fh := fun b u e => by
    by_cases q : b = p
    · subst q; rw [upd_same] at e; cases e; exact h
    · rw [upd_ne q] at e; exact k.fh b u e
  len := k.len
  nd := k.nd
  mf := fun a ha => by rw [upd_ne (fun e => m (by rw [← e]; exact ha))]; exact k.mf a ha
  cell := fun i c a h1 h2 => by
    have sf : Same F (upd F p (.lst vs)) := fun b u e => by
      rw [upd_ne (ne_of_none e f)]; exact e
    have := (k.cell i c a h1 h2)
    cases c with
    | lst l =>
      obtain ⟨ws, h1, h2, h3⟩ := this
      exact ⟨ws, h1, h2, by simpa using Reps.mono (r := []) sf _ h3⟩
    | ins c fs =>
      obtain ⟨dx, ws, h1, h0, h2, h3, h4, h5⟩ := this
      have : dx ≠ p := fun e => by rw [e, h] at h0; cases h0
      exact ⟨dx, ws, h1, h0, h2, by simpa using Reps.mono (r := []) sf _ h3, by rw [upd_ne this]; exact h4, h5⟩
    | dK kvs =>
      obtain ⟨ws, h1, h2, h3, h4⟩ := this
      exact ⟨ws, h1, h2, h3, by simpa using Reps.mono (r := []) sf _ h4⟩
    | dT kvs =>
      obtain ⟨ws, h1, h2, h3, h4⟩ := this
      exact ⟨ws, h1, h2, h3, by simpa using Reps.mono (r := []) sf _ h4⟩
/-- an untold object is changed -/
theorem Ok.setH {p : Addr} {o o' : HO} (k : Ok G F H μ S) (h : H p = some o) (f : F p = none) (m : p ∉ μ) (ho : ∀ x, o ≠ .own x) : Ok G F (upd H p o') μ S where
  fh := fun b u e => by rw [upd_ne (ne_of_none e f)]; exact k.fh b u e
  len := k.len
  nd := k.nd
  mf := k.mf
  cell := fun i c a h1 h2 => by
    have := (k.cell i c a h1 h2).stay (F' := F) (H' := upd H p o') (r := []) (Same.refl _) (fun b u e hb => by
      have : b ≠ p := fun q => by
        subst q
        rcases hb with rfl | rfl
        · exact m (List.mem_of_getElem? h2)
        · rw [h] at e; cases e; exact ho _ rfl
      rw [upd_ne this]; exact e) (fun _ _ _ n => n) (fun _ _ _ => by simp)
    simpa using this
end
section
variable {tab : List FnI} {glo : List (Str × T)} {G : Glo} {n k : Nat}
theorem noX_ok {α : Type} {o : Out α} {a : α} {S : Store} (h : o.noX = .ok a S) : o = .ok a S := by
  cases o <;> first | (cases h; rfl) | cases h
theorem noX_post {α β : Type} {F H : Hp} {μ : List Addr} {E : Nat → Hp → Prop} {R : Hp → Hp → List Addr → α → β → Prop} {Q : β → Hp → Prop} {o : Out α} (h : PostO G F H μ E R Q o.noX) {E' : Nat → Hp → Prop} : PostO G F H μ E' R Q o := by
  cases o with
  | stk => exact h
  | ok a S => exact h
  | exc c S => exact h.elim
/-- the tests of a clause -/
def ttOf (G : Glo) (H₀ : Hp) (W : WX) (c : Call) : Exs → TT
  | .nil => tYes
  | .cons E _ => tT G H₀ W (fun ρ S => bor ρ E S (ev c E ρ S))
theorem pts_of {X : Cx} {W : WX} {H₀ : Hp} (c : Cxt G tab glo n k X W) {Es : Exs} {es : List Expr} (h1 : ∀ E, Es = .cons E .nil → SndE G tab glo n k E) (ok : okEs tab glo X.N X.env.scope Es es = true) (hl : es.length ≤ 1) (hn : es.all noIf = true) :
    PTs X es (ttOf G H₀ W (callF tab n) Es) := by
  match Es, es, ok, hl, hn with
  | .nil, [], _, _, _ => exact pts_nil
  | .cons E .nil, [e], ok, _, hn =>
    simp only [okEs, Bool.and_true] at ok
    simp only [List.all_cons, List.all_nil, Bool.and_true] at hn
    exact pts_one (((h1 E rfl).run X W H₀ e c ok).2.2.1 hn)
  | .cons E (.cons _ _), [e], ok, _, _ => simp [okEs] at ok
  | .nil, _ :: _, ok, _, _ => simp [okEs] at ok
  | .cons _ _, [], ok, _, _ => simp [okEs] at ok
  | .cons _ _, _ :: _ :: _, _, hl, _ => simp at hl
theorem okEs_shape {N : List Str} {sc : Scope} {Es : Exs} {es : List Expr} (ok : okEs tab glo N sc Es es = true) (hl : es.length ≤ 1) : Es = .nil ∨ ∃ E, Es = .cons E .nil := by
  match Es, es, ok, hl with
  | .nil, [], _, _ => exact .inl rfl
  | .cons E .nil, [e], ok, _ => exact .inr ⟨E, rfl⟩
  | .cons E (.cons _ _), [e], ok, _ => simp [okEs] at ok
  | .nil, _ :: _, ok, _ => simp [okEs] at ok
  | .cons _ _, [], ok, _ => simp [okEs] at ok
  | .cons _ _, _ :: _ :: _, _, hl => simp at hl
theorem tt_of {W : WX} {H₀ : Hp} {Es : Exs} (hs : Es = .nil ∨ ∃ E, Es = .cons E .nil) (σ : St) (H : Hp) (Q : Bool → Hp → Prop) (h : ∃ ρ F μ S, EnvR G H₀ F H μ ρ σ ∧ Ok G F H μ S ∧ PostO G F H μ (exK G W σ) (fun F' H' μ' (b b' : Bool) => b = b') Q
      ((evs (callF tab n) Es ρ S).bind fun bs S1 => Out.opt (allTru bs) fun b => .ok b S1)) : ttOf G H₀ W (callF tab n) Es σ H Q := by
  obtain ⟨ρ, F, μ, S, en, k, p⟩ := h
  rcases hs with rfl | ⟨E, rfl⟩
  · simp only [evs, Out.bind, allTru, Out.opt] at p
    exact p true F H μ .refl k rfl
  · refine tT_bor ?_
    refine ⟨ρ, F, μ, S, en, k, ?_⟩
    dsimp only
    simp only [evs] at p
    cases q : ev (callF tab n) E ρ S with
    | stk => rw [q] at p; exact p
    | exc c S => rw [q] at p; exact p
    | ok t S1 =>
      rw [q] at p
      simp only [Out.bind, allTru] at p ⊢
      cases ht : t.tru with
      | none => rw [ht] at p; exact p
      | some b =>
        rw [ht] at p
        simp only [Option.map, Bool.and_true, Out.opt] at p
        intro v F' H' μ' x k r
        have r : t.tru = some v := r
        rw [ht] at r
        cases r
        exact p b F' H' μ' x k rfl
theorem noX_exc {α : Type} {o : Out α} {c : Nat} {S : Store} : o.noX ≠ .exc c S := by cases o <;> simp [Out.noX]
/-- a new list that may still be changed: H the heap ahead of it -/
abbrev rF (G : Glo) (H : Hp) : Hp → Hp → List Addr → T → V → Prop := fun F' H' μ' t v => ∃ p vs l, t = .lst l ∧ v = .ref p ∧ H' p = some (.lst vs) ∧ F' p = none ∧ p ∉ μ' ∧ H p = none ∧ l.length ≤ sizeLine ∧ Reps G.K F' μ' l vs
def tF (G : Glo) (H₀ : Hp) (W : WX) (o : Lenv → Store → Out T) : TE := fun σ H Q => ∃ ρ F μ S, EnvR G H₀ F H μ ρ σ ∧ Ok G F H μ S ∧ PostO G F H μ (exK G W σ) (rF G H) Q (o ρ S)
theorem post_fresh {F H : Hp} {μ : List Addr} {E : Nat → Hp → Prop} {Q : VK} {o : Out T} (h : PostO G F H μ E (rP G) Q o) : PostO G F H μ E (rF G H) Q o := by
  cases o with
  | stk => exact h
  | exc c S => exact h
  | ok t S =>
    intro v F' H' μ' x k r
    obtain ⟨p, vs, l, rfl, rfl, h1, h2, h3, h4, h5, h6⟩ := r
    have sf : Same F' (upd F' p (.lst vs)) := fun b u e => by rw [upd_ne (ne_of_none e h2)]; exact e
    refine h _ (upd F' p (.lst vs)) H' μ' ⟨x.ff.trans sf, x.hh, x.hs, fun b u e n => ?_, x.mm, x.nw⟩ (k.freeze h1 h2 h3) ?_
    · have : b ≠ p := fun q => by rw [q, h4] at e; cases e
      rw [upd_ne this]; exact x.nf b u e n
    · simp only [Rep]
      exact ⟨p, vs, rfl, upd_same, h5, by simpa using Reps.mono (r := []) sf _ h6⟩
/-- one turn's own part: the element, or nothing -/
def lcF (c : Call) (elt : Ex) (tg : Tg) (cond : Exs) (ρ : Lenv) (x : T) (S : Store) : Out (Option T) := Out.opt (tg.put x (wipeR ρ tg.slots)) fun ρ' =>
  ((evs c cond ρ' S).bind fun bs S1 => Out.opt (allTru bs) fun b => if b then (ev c elt ρ' S1).bind fun y S2 => .ok (some y) S2 else .ok none S1).noX
theorem ev_lc (c : Call) (elt : Ex) (tg : Tg) (kk : SK) (src cond : Exs) (ρ : Lenv) (S : Store) :
    ev c (.lc elt tg kk src cond) ρ S = ((evb c src ρ S).bind fun ts S1 => Out.opt (itemsF kk ts) fun l => .ok l S1).bind fun l S1 => (compL (lcF c elt tg cond ρ) l S1).bind fun r S2 => .ok (.lst r) S2 := by
  simp only [ev]
  cases evb c src ρ S with
  | stk => rfl
  | exc e S => rfl
  | ok ts S1 =>
    simp only [Out.bind]
    cases itemsF kk ts <;> rfl
def optL {α : Type} (o : Option α) (r : List α) : List α := match o with
  | some y => y :: r
  | none => r
theorem compL_cons (f : T → Store → Out (Option T)) (x : T) (l : List T) (S : Store) : compL f (x :: l) S = (f x S).bind fun o S1 => (compL f l S1).bind fun r S2 => .ok (optL o r) S2 := by
  simp only [compL]
  cases f x S <;> simp only [Out.bind]
  rename_i o S1
  cases o <;> rfl
theorem fnLoc_blk {X : Cx} {s : Shared} {H : Hp} {scope : Scope} {C : Addr} {cl : List (Str × Addr)} {fp : List Addr} : FnLoc (X.blk s H scope (compEnvC scope cl C X.env) fp) scope := fun x hx => by
  unfold locB at hx
  split at hx <;> first | (cases hx; done) | skip
  · rename_i h
    refine .inr ?_
    exact lookup_relabel_local (env := X.env) h
  · rename_i h
    refine .inl ?_
    show (scope.names.lookup x == some .cell) = true
    rw [h]; rfl
theorem tupTg {kk : SK} {g : Expr} (h : tgOk kk g = true) (q : kk = .enm ∨ kk = .zip) : ∃ es k p, g = .Tuple es k p := by
  rcases q with rfl | rfl <;> cases g <;> first | exact ⟨_, _, _, rfl⟩ | (simp [tgOk] at h)
structure LcParts (G : Glo) (H₀ : Hp) (W : WX) (c : Call) (X : Cx) (x g it : Expr) (ifs : List Expr) (scope : Scope) (E : Ex) (wi : TI) (gg : TG) (tt : TT) (te : TE) (own : List (Str × Nat)) : Prop where
  hi : PI X g it wi
  blk : BlkOk X.N X.env.scope scope own
  hg : ∀ (s : Shared) (H : Hp) (C : Addr) (cl : List (Str × Addr)) (fp : List Addr), PG (X.blk s H scope (compEnvC scope cl C X.env) fp) g gg
  ht : ∀ (s : Shared) (H : Hp) (C : Addr) (cl : List (Str × Addr)) (fp : List Addr), PTs (X.blk s H scope (compEnvC scope cl C X.env) fp) ifs tt
  he : ∀ (s : Shared) (H : Hp) (C : Addr) (cl : List (Str × Addr)) (fp : List Addr), PE (X.blk s H scope (compEnvC scope cl C X.env) fp) x te
  fold : ∀ x, foldedSetIterable it X.env x = pure x
  imp : ∀ σ H Q, tF G H₀ W (fun ρ S => ev c E ρ S) σ H Q → tLc wi gg tt te (own.map (·.2)) σ H Q
def SrcOk (G : Glo) (tab : List FnI) (glo : List (Str × T)) (n k : Nat) (kk : SK) (src : Exs) : Prop :=
  ∀ (X : Cx) (W : WX) (H₀ : Hp) (g e : Expr), Cxt G tab glo n k X W → (∃ es, srcArgs X.env.scope kk e = some es ∧ okEs tab glo X.N X.env.scope src es = true) → plainX e = true ∧ (kk = .enm ∨ kk = .zip → ∃ es k p, g = .Tuple es k p) → PI X g e (iSrc G H₀ W true kk (fun ρ S => evb (callF tab n) src ρ S)) ∧ PI X g e (iSrc G H₀ W false kk (fun ρ S => evs (callF tab n) src ρ S))
theorem lc_parts {elt : Ex} {tg : Tg} {kk : SK} {src cond : Exs} (he : SndE G tab glo n k elt) (hcond : ∀ E, cond = .cons E .nil → SndE G tab glo n k E) (hs : SrcOk G tab glo n k kk src)
    {X : Cx} {W : WX} (H₀ : Hp) (c : Cxt G tab glo n k X W) {x : Expr} {gens : List Comprehension} {scope : Scope} {pos : Pos} (ok : okE tab glo X.N X.env.scope (.lc elt tg kk src cond) (.ListComp x gens scope pos) = true) :
    ∃ g it ifs wi gg tt te own, gens = [⟨g, it, ifs, 0⟩] ∧ LcParts G H₀ W (callF tab n) X x g it ifs scope (.lc elt tg kk src cond) wi gg tt te own := by
  match gens, ok with
  | [⟨g, it, ifs, as⟩], ok =>
    simp only [okE, Bool.and_eq_true, decide_eq_true_eq] at ok
    obtain ⟨⟨⟨⟨⟨⟨⟨⟨⟨⟨⟨e0, kt⟩, kp⟩, k1⟩, k2⟩, k3⟩, k4⟩, k5⟩, k6⟩, k7⟩, k8⟩, k9⟩ := ok
    subst e0
    have k1' : ∃ es, srcArgs X.env.scope kk it = some es ∧ okEs tab glo X.N X.env.scope src es = true := by
      cases q : srcArgs X.env.scope kk it with
      | none => rw [q] at k1; cases k1
      | some es => rw [q] at k1; exact ⟨es, rfl, k1⟩
    have hi := (hs X W H₀ g it c k1' ⟨kp, tupTg kt⟩).1
    have cb := fun s H cenv fp => c.blk s H scope cenv fp
    have hg : ∀ (s : Shared) (H : Hp) (C : Addr) (cl : List (Str × Addr)) (fp : List Addr), PG (X.blk s H scope (compEnvC scope cl C X.env) fp) g (gOf G H₀ tg) := fun s H C cl fp =>
      snd_tg (X := X.blk s H scope (compEnvC scope cl C X.env) fp) c.hG c.calm c.nd scope fnLoc_blk tg g k2 k3
    have hpts := fun (s : Shared) (H : Hp) (C : Addr) (cl : List (Str × Addr)) (fp : List Addr) =>
      pts_of (X := X.blk s H scope (compEnvC scope cl C X.env) fp) (H₀ := H₀) (cb s H (compEnvC scope cl C X.env) fp) hcond k7 k8 k6
    have hel := fun (s : Shared) (H : Hp) (C : Addr) (cl : List (Str × Addr)) (fp : List Addr) =>
      (he.run (X.blk s H scope (compEnvC scope cl C X.env) fp) (fun _ _ _ _ => False) H₀ x (cb s H (compEnvC scope cl C X.env) fp) k9).1
    have hpt := fun σ H Q => tt_of (W := fun _ _ _ _ => False) (G := G) (tab := tab) (n := n) (H₀ := H₀) (okEs_shape k7 k8) σ H Q
    refine ⟨g, it, ifs, _, _, _, _, _, rfl, hi, blkOk_by k4, hg, hpts, hel, folded_no kp, fun σ H Q h => ?_⟩
    rw [k5]
    obtain ⟨ρ, F, μ, S, en, k, p⟩ := h
    dsimp only at p
    rw [ev_lc] at p
    refine ⟨ρ, F, μ, S, en, k, p.bind.imp fun J H1 hv => ?_⟩
    obtain ⟨F1, μ1, S1, l, x1, kk1, ⟨P, w⟩, eo, p1⟩ := hv
    intro D hD
    have fD : F1 D = none := Same.free kk1.fh hD
    have mD : D ∉ μ1 := kk1.notin hD
    have w' : Walk J l.length P (fun i H x H' => J.yld i H x H') := ⟨w.go, w.stop, fun _ _ _ _ _ _ y => y⟩
    refine lc_it w' (Pv := fun i H' => ∃ F' μ' S' accT accV, Ext F1 H1 μ1 F' H' μ' ∧ Ok G F' H' μ' S' ∧ F' D = none ∧ D ∉ μ' ∧ H' D = some (.lst accV) ∧ accT.length ≤ i ∧ Reps G.K F' μ' accT accV ∧
      compL (lcF (callF tab n) elt tg cond ρ) l S1 = (compL (lcF (callF tab n) elt tg cond ρ) (l.drop i) S').bind fun r S => .ok (accT ++ r) S) ?_ (fun i H' _ hp => ?_) (fun i x' H2 H3 hi hp y => ?_) (fun H' hp => ?_)
    · refine ⟨F1, μ1, S1, [], [], Ext.newH hD, kk1.newH hD, fD, mD, upd_same, Nat.le_refl _, Reps.nil, ?_⟩
      rw [List.drop_zero]
      cases compL (lcF (callF tab n) elt tg cond ρ) l S1 <;> rfl
    · obtain ⟨F', μ', S', accT, accV, xx, kx, _⟩ := hp
      exact w.per F' H' μ' (fun _ => xx) xx.ff kx.fh
    · obtain ⟨F', μ', S', accT, accV, xx, kx, f1, m1, d1, a1, r1, q1⟩ := hp
      have hw := w.per F' H2 μ' (fun _ => xx) xx.ff kx.fh
      have hi' : l[i]? = some (l[i]) := List.getElem?_eq_getElem hi
      obtain ⟨F2, x2, k2, rx⟩ := w.yld i l[i] x' F' H2 H3 μ' S' hi' hw xx.ff xx.mm kx y
      have hdrop : l.drop i = l[i] :: l.drop (i + 1) := List.drop_eq_getElem_cons hi
      rw [hdrop, compL_cons] at q1
      -- the end of this turn is no stk
      cases ht : tg.put l[i] (wipeR ρ tg.slots) with
      | none =>
        rw [q1] at p1
        simp only [lcF, ht, Out.opt, Out.bind] at p1
        exact p1.elim
      | some ρ' =>
        have en2 : EnvR G H₀ F2 H3 μ' (wipeR ρ tg.slots) (L2.wipe σ tg.slots) := (((en.ext x1).ext xx).ext x2).wipe tg.slots
        refine ⟨_, F2, μ', l[i], en2, k2.fh, rx, ρ', ht, fun σ2 en3 sb => ?_⟩
        have hwp : L2.wipe σ2 tg.slots = L2.wipe σ tg.slots := by
          have : L2.wipe (L2.wipe σ tg.slots) tg.slots = L2.wipe σ tg.slots := by
            apply List.ext_getElem?
            intro j
            rw [wipe_get, wipe_get, L2.wipe_length]
            by_cases hj : j ∈ tg.slots <;> simp [hj]
          rw [sb.wipe, this]
        refine ⟨hwp, ?_⟩
        have hD2 : H3 D = some (.lst accV) := x2.hh D _ d1 m1
        have fD2 : F2 D = none := x2.nf D _ d1 f1
        -- the turn's run
        cases ho : lcF (callF tab n) elt tg cond ρ l[i] S' with
        | stk => rw [q1, ho] at p1; exact p1.elim
        | exc ce Se =>
          simp only [lcF, ht, Out.opt] at ho
          exact absurd ho noX_exc
        | ok oy S3 =>
          rw [ho] at q1
          simp only [Out.bind] at q1
          simp only [lcF, ht, Out.opt] at ho
          have ho := noX_ok ho
          obtain ⟨bs, S4, hb1, hb2⟩ := ok_bind ho
          obtain ⟨b, hb3, hb4⟩ := opt_ok hb2
          refine hpt σ2 H3 _ ⟨ρ', F2, μ', S', en3, k2, ?_⟩
          rw [hb1]
          simp only [Out.bind, hb3, Out.opt]
          intro b' F4 H4 μ4 x4 k4 rb
          have rb : b = b' := rb
          subst rb
          have hD4 : H4 D = some (.lst accV) := x4.hh D _ hD2 m1
          have fD4 : F4 D = none := x4.nf D _ hD2 fD2
          have mD4 : D ∉ μ4 := fun hm => by
            have := x4.nw D hm m1
            rw [hD2] at this; cases this
          have xx4 := (xx.trans x2).trans x4
          cases b with
          | false =>
            simp only [Bool.false_eq_true, if_false] at hb4 ⊢
            cases hb4
            refine ⟨F4, μ4, S3, accT, accV, xx4, k4, fD4, mD4, hD4, by omega, (x2.trans x4).reps r1, ?_⟩
            rw [q1]
            cases compL (lcF (callF tab n) elt tg cond ρ) (l.drop (i + 1)) S3 <;> rfl
          | true =>
            simp only [if_true] at hb4 ⊢
            obtain ⟨yt, S5, hy1, hy2⟩ := ok_bind hb4
            cases hy2
            refine ⟨ρ', F4, μ4, S4, en3.ext x4, k4, ?_⟩
            dsimp only
            rw [hy1]
            intro yv F5 H5 μ5 x5 k5' r5
            have hD5 : H5 D = some (.lst accV) := x5.hh D _ hD4 mD4
            have fD5 : F5 D = none := x5.nf D _ hD4 fD4
            have mD5 : D ∉ μ5 := fun hm => by
              have := x5.nw D hm mD4
              rw [hD4] at this; cases this
            have r5' := (((x2.trans x4).trans x5).reps r1).append (Reps.cons r5 Reps.nil)
            have hlen := r1.length
            have := w.len
            refine ⟨accV, hD5, by omega, F5, μ5, S3, accT ++ [yt], accV ++ [yv], ?_, k5'.setH hD5 fD5 mD5 (fun _ q => by cases q), fD5, mD5, upd_same, by simp; omega, r5', ?_⟩
            · have z := xx4.trans x5
              refine ⟨z.ff, fun b u e m => ?_, fun b u e => ?_, z.nf, z.mm, z.nw⟩
              · have : b ≠ D := fun q => by rw [q, hD] at e; cases e
                rw [upd_ne this]; exact z.hh b u e m
              · by_cases q : b = D
                · subst q; exact ⟨_, upd_same⟩
                · rw [upd_ne q]; exact z.hs b u e
            · rw [q1]
              cases compL (lcF (callF tab n) elt tg cond ρ) (l.drop (i + 1)) S3 <;> simp [Out.bind, optL]
    · obtain ⟨F', μ', S', accT, accV, xx, kx, f1, m1, d1, a1, r1, q1⟩ := hp
      rw [List.drop_length] at q1
      simp only [compL, Out.bind, List.append_nil] at q1
      rw [q1] at p1
      simp only [Out.bind] at p1
      have hD0 : H D = none := by
        cases q : H D with
        | none => rfl
        | some u =>
          obtain ⟨u', e⟩ := x1.hs D u q
          rw [hD] at e; cases e
      exact p1 (.ref D) F' H' μ' xx kx ⟨D, accV, accT, rfl, rfl, d1, f1, m1, hD0, Nat.le_trans a1 w.len, r1⟩
theorem snd_lc {elt : Ex} {tg : Tg} {kk : SK} {src cond : Exs} (he : SndE G tab glo n k elt) (hcond : ∀ E, cond = .cons E .nil → SndE G tab glo n k E) (hs : SrcOk G tab glo n k kk src) :
    SndE G tab glo n k (.lc elt tg kk src cond) := .val (fun i => by simp) fun X W H₀ e c ok => by
  cases e <;> first | (simp only [okE, Bool.false_eq_true] at ok; done) | skip
  rename_i x gens scope pos
  obtain ⟨g, it, ifs, wi, gg, tt, te, own, rfl, L⟩ := lc_parts he hcond hs H₀ c ok
  refine ⟨PE.imp (pe_lc c.calm c.nd L.hi L.blk L.hg L.ht L.he L.fold) fun σ H Q h => L.imp σ H Q ?_, fun _ _ _ => rfl, by simp⟩
  obtain ⟨ρ, F, μ, S, en, k, p⟩ := h
  exact ⟨ρ, F, μ, S, en, k, post_fresh p⟩
end
end Ly
namespace Ly
open PySem PySem.Spec L2
open PyProof.Rows hiding St

/-! ### is the statement this statement -/
def freshB : Ex → Bool
  | .lst _ => true
  | .lc .. => true
  | _ => false
def notComp : Expr → Bool
  | .ListComp .. => false
  | .SetComp .. => false
  | .DictComp .. => false
  | _ => true
def scFree (x : Str) : Expr → Bool
  | .ListComp _ _ scope _ => !(scope.names.any fun (n, k) => n == x && (k == .local || k == .cell))
  | _ => false
def isNm (e : Expr) : Option Str := match e with
  | .Name x _ => some x
  | _ => none
def lineOf (ts : List Expr) : Nat := (ts.head?.map (·.pos.line)).getD 0
def namesOf (sc : Scope) (ts : List Expr) : List Str := ts.filterMap fun
  | .Name id pos => if sc.names.lookup id == some .local && pos.line == lineOf ts then some id else none
  | _ => none
/-- a, b = x, y stored straight -/
def parOk (sc : Scope) (ts vs : List Expr) : Bool :=
  ts.length == vs.length && (ts.length == 2 || ts.length == 3) && (namesOf sc ts).length == ts.length && (namesOf sc ts).eraseDups.length == (namesOf sc ts).length && !(vs.all (foldedForSure 8)) && !(vs.all (constantsAlone 8)) && vs.all plainX
/-- .. not straight -/
def unpOk (sc : Scope) (ts : List Expr) (v : Expr) : Bool := match v with
  | .Tuple vs _ _ => (!(ts.length == 2 || ts.length == 3) || vs.length != ts.length) || (vs.all plainX && ((namesOf sc ts).length != ts.length || (namesOf sc ts).eraseDups.length != (namesOf sc ts).length || vs.all (foldedForSure 8)))
  | _ => true
section
variable (tab : List FnI) (glo : List (Str × T)) (N : List Str) (exn : List Str) (sc : Scope)
def nmB (i : Nat) (x : Str) : Bool := decide (N[i]? = some x) && locB sc x
mutual
def okS : Sm → Stmt → Bool
  | .ret E, .Return (some e) _ => okE tab glo N sc E e
  | .retN, .Return none _ => true
  | .expr E, .Expr e pos => okE tab glo N sc E e && notComp e
  | .asg i E, .Assign [.Name x _] e pos => nmB N sc i x && okE tab glo N sc E e && (notComp e || decide (sc.names.lookup x = some .cell))
  | .asgC i E, .Assign [.Name x px] e pos => nmB N sc i x && okE tab glo N sc E e && decide (sc.names.lookup x = some .local) && decide (sc.kind = .function) && (px.line == e.pos.line) && scFree x e
  | .own i E, .Assign [.Name x _] e pos => nmB N sc i x && okE tab glo N sc E e && (notComp e || decide (sc.names.lookup x = some .cell)) && freshB E
  | .ownC i E, .Assign [.Name x px] e pos => nmB N sc i x && okE tab glo N sc E e && decide (sc.names.lookup x = some .local) && decide (sc.kind = .function) && (px.line == e.pos.line) && scFree x e
  | .app i E, .Expr (.Call (.Attribute (.Name x _) m apos) [e] [] cpos) _ => decide (N[i]? = some x) && visB sc x && decide (x ≠ "__debug__") && decide (x ≠ "__classdict__") && decide (m = "append") && (apos.endLine == cpos.line) && okE tab glo N sc E e
  | .ext i E, .Expr (.Call (.Attribute (.Name x _) m apos) [e] [] cpos) _ => decide (N[i]? = some x) && visB sc x && decide (x ≠ "__debug__") && decide (x ≠ "__classdict__") && decide (m = "extend") && (apos.endLine == cpos.line) && okE tab glo N sc E e
  | .par2 i j a b, .Assign [.Tuple [.Name x px, .Name y py] _ _] (.Tuple [e1, e2] _ _) _ => decide (N[i]? = some x) && decide (N[j]? = some y) && decide (i ≠ j) && decide (sc.names.lookup x = some .local) && decide (sc.names.lookup y = some .local)
      && parOk sc [.Name x px, .Name y py] [e1, e2] && decide (namesOf sc [.Name x px, .Name y py] = [x, y]) && okE tab glo N sc a e1 && okE tab glo N sc b e2
  | .par3 i j l a b d, .Assign [.Tuple [.Name x px, .Name y py, .Name z pz] _ _] (.Tuple [e1, e2, e3] _ _) _ => decide (N[i]? = some x) && decide (N[j]? = some y) && decide (N[l]? = some z) && decide (i ≠ j) && decide (i ≠ l) && decide (j ≠ l) && decide (sc.names.lookup x = some .local) && decide (sc.names.lookup y = some .local) && decide (sc.names.lookup z = some .local)
      && parOk sc [.Name x px, .Name y py, .Name z pz] [e1, e2, e3] && decide (namesOf sc [.Name x px, .Name y py, .Name z pz] = [x, y, z]) && okE tab glo N sc a e1 && okE tab glo N sc b e2 && okE tab glo N sc d e3
  | .unp g E, .Assign [.Tuple ts k p] e _ => okTs N sc g ts && okE tab glo N sc E e && unpOk sc ts e
  | .iff d a b, .If c x y _ => noIf c && okE tab glo N sc d c && okSs a x && okSs b y
  | .for_ tg k src body, .For g it b [] _ => tgOk k g && plainX it && okT N sc tg g && (match srcArgs sc k it with | some es => okEs tab glo N sc src es | none => false) && okSs body b
  | .whl d body, .While c b [] _ => noIf c && okE tab glo N sc d c && okSs body b
  | .brk, .Break _ => true
  | .cnt, .Continue _ => true
  | .pass, .Pass _ => true
  | .raise k, .Raise (some (.Call (.Name x _) [.Constant (.str _) _ _] [] _)) none _ => decide (exn[k]? = some x) && gloB sc x && decide (x ≠ "__debug__")
  | _, _ => false
def okSs : Sms → List Stmt → Bool
  | .nil, [] => true
  | .cons (.rel _) ss, sts => okSs ss sts
  | .cons s ss, st :: sts => okS s st && okSs ss sts
  | _, _ => false
end
end

/-! ### what is wanted behind a statement -/
def Grow (F : Hp) (μ : List Addr) (F' : Hp) (μ' : List Addr) : Prop := Same F F' ∧ ∃ r, μ' = μ ++ r
theorem Grow.refl {F : Hp} {μ : List Addr} : Grow F μ F μ := ⟨Same.refl _, [], by simp⟩
theorem Grow.trans {F F1 F2 : Hp} {μ μ1 μ2 : List Addr} (a : Grow F μ F1 μ1) (b : Grow F1 μ1 F2 μ2) : Grow F μ F2 μ2 := by
  obtain ⟨a1, r, a2⟩ := a
  obtain ⟨b1, r', b2⟩ := b
  exact ⟨a1.trans b1, r ++ r', by rw [b2, a2, List.append_assoc]⟩
theorem Ext.grow {F H F' H' : Hp} {μ μ' : List Addr} (x : Ext F H μ F' H' μ') : Grow F μ F' μ' := ⟨x.ff, x.mm⟩
/-- the def's entry: the heaps, the store's addresses, the wish of an exception -/
structure At0 where
  F₀ : Hp
  H₀ : Hp
  μ₀ : List Addr
  W : WX
/-- a state of the def's -/
structure StOk (G : Glo) (Z : At0) (F H : Hp) (μ : List Addr) (ρ : Lenv) (σ : St) (S : Store) : Prop where
  ext : Ext Z.F₀ Z.H₀ Z.μ₀ F H μ
  env : EnvR G Z.H₀ F H μ ρ σ
  ok : Ok G F H μ S
def PostS (G : Glo) (Z : At0) (F : Hp) (μ : List Addr) (D : Ends) : OutS → Prop
  | .stk => False
  | .nx ρ S => ∀ σ' F' H' μ', Grow F μ F' μ' → StOk G Z F' H' μ' ρ σ' S → D.nx σ' H'
  | .bk ρ S => ∀ σ' F' H' μ', Grow F μ F' μ' → StOk G Z F' H' μ' ρ σ' S → D.bk σ' H'
  | .ct ρ S => ∀ σ' F' H' μ', Grow F μ F' μ' → StOk G Z F' H' μ' ρ σ' S → D.ct σ' H'
  | .rt t S => ∀ v F' H' μ', Ext Z.F₀ Z.H₀ Z.μ₀ F' H' μ' → Ok G F' H' μ' S → Rep G.K F' μ' t v → D.rt v H'
  | .ex c ρ S => ∀ σ' F' H' μ', Grow F μ F' μ' → StOk G Z F' H' μ' ρ σ' S → Z.W (.ref (G.exc c)) none σ' H'
theorem PostS.later {G : Glo} {Z : At0} {F F1 : Hp} {μ μ1 : List Addr} {D : Ends} {o : OutS} (h : PostS G Z F μ D o) (g : Grow F μ F1 μ1) : PostS G Z F1 μ1 D o := by
  cases o <;> first | exact h | exact fun σ' F' H' μ' g' s => h σ' F' H' μ' (g.trans g') s
def tS (G : Glo) (Z : At0) (o : Lenv → Store → OutS) : TS := fun D σ H => ∃ ρ F μ S, StOk G Z F H μ ρ σ S ∧ PostS G Z F μ D (o ρ S)
theorem PS.imp {X : Cx} {st : Stmt} {t t' : TS} (h : PS X st t) (i : ∀ D σ H, t' D σ H → t D σ H) : PS X st t' := ⟨fun pins s σ H D I q => h.run pins s σ H D I (i D σ H q)⟩
theorem PSs.imp {X : Cx} {st : List Stmt} {t t' : TS} (h : PSs X st t) (i : ∀ D σ H, t' D σ H → t D σ H) : PSs X st t' := ⟨fun pins s σ H D I q => h.run pins s σ H D I (i D σ H q)⟩
/-- an expression ahead of a statement's rest -/
theorem PostS.st {α β : Type} {G : Glo} {Z : At0} {F H : Hp} {μ : List Addr} {ρ : Lenv} {σ : St} {S : Store} {D : Ends} {o : Out α} {f : α → Store → OutS} {R : Hp → Hp → List Addr → α → β → Prop} (s : StOk G Z F H μ ρ σ S) (h : PostS G Z F μ D (o.st ρ f)) :
    PostO G F H μ (exK G Z.W σ) R (fun v H1 => ∃ F1 μ1 S1 a, Ext F H μ F1 H1 μ1 ∧ StOk G Z F1 H1 μ1 ρ σ S1 ∧ R F1 H1 μ1 a v ∧ o = .ok a S1 ∧ PostS G Z F1 μ1 D (f a S1)) o := by
  cases o with
  | stk => exact h
  | ok a S1 => exact fun v F' H' μ' x k r => ⟨F', μ', S1, a, x, ⟨s.ext.trans x, s.env.ext x, k⟩, r, rfl, PostS.later (o := f a S1) h x.grow⟩
  | exc c S1 => exact fun F' H' μ' x k => h σ F' H' μ' x.grow ⟨s.ext.trans x, s.env.ext x, k⟩
theorem EnvR.own_put {G : Glo} {H₀ F H : Hp} {μ : List Addr} {ρ : Lenv} {σ : St} (e : EnvR G H₀ F H μ ρ σ) {i : Nat} {l : List T} {a : Addr} {vs : List V} (h1 : H a = some (.lst vs)) (h2 : H₀ a = none) (h3 : F a = none) (h4 : a ∉ μ) (h5 : l.length ≤ sizeLine) (h6 : Reps G.K F μ l vs)
    (hne : ∀ (j : Nat) l', ρ[j]? = some (Sl.own l') → j ≠ i → σ[j]? ≠ some (some (.ref a))) : EnvR G H₀ F H μ (ρ.set i (.own l)) (σ.set i (some (.ref a))) where
  len := by simp [e.len]
  val := fun j u h => by
    by_cases hj : i = j
    · subst hj
      by_cases hl : i < ρ.length
      · rw [List.getElem?_set_self hl] at h; cases h
      · rw [List.getElem?_eq_none (by simpa using hl)] at h; cases h
    · rw [List.getElem?_set_ne hj] at h
      obtain ⟨w, h1, h2⟩ := e.val j u h
      exact ⟨w, by rw [List.getElem?_set_ne hj]; exact h1, h2⟩
  own := fun j l' h => by
    by_cases hj : i = j
    · subst hj
      by_cases hl : i < ρ.length
      · rw [List.getElem?_set_self hl] at h
        cases h
        exact ⟨a, vs, List.getElem?_set_self (by rw [← e.len]; exact hl), h1, h2, h3, h4, h5, h6⟩
      · rw [List.getElem?_eq_none (by simpa using hl)] at h; cases h
    · rw [List.getElem?_set_ne hj] at h
      obtain ⟨a, vs, h1, h2⟩ := e.own j l' h
      exact ⟨a, vs, by rw [List.getElem?_set_ne hj]; exact h1, h2⟩
  ne := fun j k l1 l2 q1 q2 q3 => by
    by_cases hj : i = j
    · by_cases hk : i = k
      · rw [← hj, ← hk]
      · subst hj
        have hl : i < ρ.length := by
          by_cases hl : i < ρ.length
          · exact hl
          · rw [List.getElem?_eq_none (by simpa using hl)] at q1; cases q1
        rw [List.getElem?_set_ne hk] at q2
        rw [List.getElem?_set_self (by rw [← e.len]; exact hl), List.getElem?_set_ne hk] at q3
        exact absurd q3.symm (hne k l2 q2 (Ne.symm hk))
    · rw [List.getElem?_set_ne hj] at q1
      by_cases hk : i = k
      · subst hk
        have hl : i < ρ.length := by
          by_cases hl : i < ρ.length
          · exact hl
          · rw [List.getElem?_eq_none (by simpa using hl)] at q2; cases q2
        rw [List.getElem?_set_self (l := σ) (by rw [← e.len]; exact hl), List.getElem?_set_ne hj] at q3
        exact absurd q3 (hne j l1 q1 (Ne.symm hj))
      · rw [List.getElem?_set_ne hk] at q2
        rw [List.getElem?_set_ne hj, List.getElem?_set_ne hk] at q3
        exact e.ne j k l1 l2 q1 q2 q3
end Ly
namespace Ly
open PySem PySem.Spec L2
open PyProof.Rows hiding St

structure Snd (G : Glo) (tab : List FnI) (glo : List (Str × T)) (n k : Nat) : Prop where
  e : ∀ E, SndE G tab glo n k E
  a : ∀ E, SndA G tab glo n k E
  s : ∀ kk src, SrcOk G tab glo n k kk src
structure CxtS (G : Glo) (tab : List FnI) (glo : List (Str × T)) (exn : List Str) (n k : Nat) (X : Cx) (Z : At0) : Prop where
  c : Cxt G tab glo n k X Z.W
  hp : PassesOwn (model X.prog X.w) X.A X.env X.xe
  fn : ∀ x, X.fn x = true
  kind : X.env.scope.kind = .function
  exc : ∀ (j : Nat) x, exn[j]? = some x → X.mg x = some (.ref (G.exc j)) ∧ PySem.W.excIn X.K (G.exc j) He.veBase "ValueError.__new__" = true ∧ PySem.W.keepIn X.K (.ref (G.exc j)) = true ∧ Raises X (.ref (G.exc j))
section
variable {G : Glo} {tab : List FnI} {glo : List (Str × T)} {exn : List Str} {n k : Nat} {X : Cx} {Z : At0}
theorem nmB_ok {N : List Str} {sc : Scope} {i : Nat} {x : Str} (h : nmB N sc i x = true) : N[i]? = some x ∧ Loc sc x := by
  unfold nmB at h
  simp only [Bool.and_eq_true, decide_eq_true_eq] at h
  exact ⟨h.1, locB_ok h.2⟩
theorem swaps_no {e : Expr} {t : Option Expr} {l : Nat} {env : Env} (h : notComp e = true) : swapsWith e t l env = pure false := by
  cases e <;> first | rfl | (simp [notComp] at h)
theorem swaps_cell {e : Expr} {x : Str} {p : Pos} {l : Nat} {env : Env} (h : env.scope.names.lookup x = some .cell) : swapsWith e (some (.Name x p)) l env = pure false := by
  have hk : env.kindOf x = some .cell := h
  cases e <;> first
    | rfl
    | (unfold swapsWith
       simp only [hk]
       cases env.blockKind <;> rfl)
theorem ps_asg_of (C : CxtS G tab glo exn n k X Z) (Sd : Snd G tab glo n k) {i : Nat} {E : Ex} {x : Str} {px pos : Pos} {e : Expr} (hn : nmB X.N X.env.scope i x = true) (ok : okE tab glo X.N X.env.scope E e = true) (hc : notComp e = true ∨ X.env.scope.names.lookup x = some .cell) :
    PS X (.Assign [.Name x px] e pos) (tS G Z (ex (callF tab n) (.asg i E))) := by
  obtain ⟨h1, h2⟩ := nmB_ok hn
  have hs : swapsWith e (some (.Name x px)) pos.line X.env = pure false := by
    rcases hc with hc | hc
    · exact swaps_no hc
    · exact swaps_cell hc
  refine PS.imp (ps_set C.c.nd h1 h2 ((Sd.e E).run X Z.W Z.H₀ e C.c ok).1 hs (.inl (C.fn x))) fun D σ H q => ?_
  obtain ⟨ρ, F, μ, S, s, p⟩ := q
  simp only [ex] at p
  refine ⟨ρ, F, μ, S, s.env, s.ok, (p.st s).imp fun v H1 hv => ?_⟩
  obtain ⟨F1, μ1, S1, t, x1, s1, r1, _, p1⟩ := hv
  exact p1 _ F1 H1 μ1 .refl ⟨s1.ext, s1.env.put r1, s1.ok⟩
theorem ps_asgC_of (C : CxtS G tab glo exn n k X Z) (Sd : Snd G tab glo n k) {i : Nat} {E : Ex} {x : Str} {px pos : Pos} {y : Expr} {gens : List Comprehension} {scope : Scope} {p2 : Pos} (hn : nmB X.N X.env.scope i x = true) (ok : okE tab glo X.N X.env.scope E (.ListComp y gens scope p2) = true) (hl : X.env.scope.names.lookup x = some .local)
    (hline : (px.line == p2.line) = true) (hsc : (scope.names.any fun (n, k) => n == x && (k == .local || k == .cell)) = false) :
    ∃ wi gg tt te own, ∃ L : (∃ g it ifs, gens = [⟨g, it, ifs, 0⟩] ∧ LcParts G Z.H₀ Z.W (callF tab n) X y g it ifs scope E wi gg tt te own), PS X (.Assign [.Name x px] (.ListComp y gens scope p2) pos) (tAsg (tLc wi gg tt te (own.map (·.2))) (gName i)) := by
  obtain ⟨h1, h2⟩ := nmB_ok hn
  cases E <;> first | (simp only [okE, Bool.false_eq_true] at ok; done) | skip
  · cases ‹T› <;> simp [okE, litB] at ok
  · rename_i elt tg kk src cond
    obtain ⟨g, it, ifs, wi, gg, tt, te, own, rfl, L⟩ := lc_parts (Sd.e elt) (fun E _ => Sd.e E) (Sd.s kk src) Z.H₀ C.c ok
    refine ⟨wi, gg, tt, te, own, ⟨g, it, ifs, rfl, L⟩, ?_⟩
    have hsw : swapsWith (.ListComp y [⟨g, it, ifs, 0⟩] scope p2) (some (.Name x px)) pos.line X.env = pure true := by
      exact sw_true (C.kind) hl hline hsc
    exact ps_setLc C.c.calm C.c.nd h1 hl hsw L.hi L.blk L.hg L.ht L.he L.fold
theorem ps_expr_of (C : CxtS G tab glo exn n k X Z) (Sd : Snd G tab glo n k) {E : Ex} {pos : Pos} {e : Expr} (ok : okE tab glo X.N X.env.scope E e = true) (hc : notComp e = true) : PS X (.Expr e pos) (tS G Z (ex (callF tab n) (.expr E))) := by
  refine PS.imp (ps_expr ((Sd.e E).run X Z.W Z.H₀ e C.c ok).1 (swaps_no hc)) fun D σ H q => ?_
  obtain ⟨ρ, F, μ, S, s, p⟩ := q
  simp only [ex] at p
  refine ⟨ρ, F, μ, S, s.env, s.ok, (p.st s).imp fun v H1 hv => ?_⟩
  obtain ⟨F1, μ1, S1, t, x1, s1, r1, _, p1⟩ := hv
  exact p1 _ F1 H1 μ1 .refl s1
theorem ps_ret_of (C : CxtS G tab glo exn n k X Z) (Sd : Snd G tab glo n k) {E : Ex} {pos : Pos} {e : Expr} (ok : okE tab glo X.N X.env.scope E e = true) : PS X (.Return (some e) pos) (tS G Z (ex (callF tab n) (.ret E))) := by
  refine PS.imp (ps_ret ((Sd.e E).run X Z.W Z.H₀ e C.c ok).1) fun D σ H q => ?_
  obtain ⟨ρ, F, μ, S, s, p⟩ := q
  simp only [ex] at p
  refine ⟨ρ, F, μ, S, s.env, s.ok, (p.st s).imp fun v H1 hv => ?_⟩
  obtain ⟨F1, μ1, S1, t, x1, s1, r1, _, p1⟩ := hv
  exact p1 v F1 H1 μ1 s1.ext s1.ok r1
theorem ps_retN_of {pos : Pos} : PS X (.Return none pos) (tS G Z (ex (callF tab n) .retN)) := by
  refine PS.imp ps_retN fun D σ H q => ?_
  obtain ⟨ρ, F, μ, S, s, p⟩ := q
  simp only [ex] at p
  exact p _ F H μ s.ext s.ok Rep.non'
theorem ps_if_of (C : CxtS G tab glo exn n k X Z) (Sd : Snd G tab glo n k) {d : Ex} {A B : Sms} {pos : Pos} {c : Expr} {x y : List Stmt} (h0 : noIf c = true) (ok : okE tab glo X.N X.env.scope d c = true) (ha : PSs X x (tS G Z (exs (callF tab n) A))) (hb : PSs X y (tS G Z (exs (callF tab n) B))) :
    PS X (.If c x y pos) (tS G Z (ex (callF tab n) (.iff d A B))) := by
  refine PS.imp (ps_if (((Sd.e d).run X Z.W Z.H₀ c C.c ok).2.2.1 h0) ha hb) fun D σ H q => ?_
  obtain ⟨ρ, F, μ, S, s, p⟩ := q
  simp only [ex] at p
  refine ⟨ρ, F, μ, S, s.env, s.ok, ?_⟩
  dsimp only
  cases q : bor ρ d S (ev (callF tab n) d ρ S) with
  | stk => rw [q] at p; exact p
  | exc e S1 =>
    rw [q] at p
    exact fun F' H' μ' x k => p σ F' H' μ' x.grow ⟨s.ext.trans x, s.env.ext x, k⟩
  | ok t S1 =>
    rw [q] at p
    simp only [Out.st] at p
    simp only [Out.bind]
    cases ht : t.tru with
    | none => rw [ht] at p; exact p.elim
    | some b =>
      rw [ht] at p
      intro v F' H' μ' x k r
      have r : t.tru = some v := r
      rw [ht] at r
      cases r
      cases b with
      | true => exact ⟨ρ, F', μ', S1, ⟨s.ext.trans x, s.env.ext x, k⟩, PostS.later (o := exs (callF tab n) A ρ S1) p x.grow⟩
      | false => exact ⟨ρ, F', μ', S1, ⟨s.ext.trans x, s.env.ext x, k⟩, PostS.later (o := exs (callF tab n) B ρ S1) p x.grow⟩
theorem pss_cons_of {s : Sm} {ss : Sms} {st : Stmt} {sts : List Stmt} (h1 : PS X st (tS G Z (ex (callF tab n) s))) (h2 : PSs X sts (tS G Z (exs (callF tab n) ss))) : PSs X (st :: sts) (tS G Z (exs (callF tab n) (.cons s ss))) := by
  refine PSs.imp (pss_cons h1 h2) fun D σ H q => ?_
  obtain ⟨ρ, F, μ, S, s', p⟩ := q
  simp only [exs] at p
  refine ⟨ρ, F, μ, S, s', ?_⟩
  cases q : ex (callF tab n) s ρ S with
  | stk => rw [q] at p; exact p
  | nx ρ1 S1 =>
    rw [q] at p
    exact fun σ' F' H' μ' g s1 => ⟨ρ1, F', μ', S1, s1, PostS.later (o := exs (callF tab n) ss ρ1 S1) p g⟩
  | rt t S1 => rw [q] at p; exact p
  | bk ρ1 S1 => rw [q] at p; exact p
  | ct ρ1 S1 => rw [q] at p; exact p
  | ex c ρ1 S1 => rw [q] at p; exact p
theorem pss_nil_of : PSs X [] (tS G Z (exs (callF tab n) .nil)) := by
  refine PSs.imp pss_nil fun D σ H q => ?_
  obtain ⟨ρ, F, μ, S, s', p⟩ := q
  simp only [exs] at p
  exact p σ F H μ .refl s'
theorem pss_rel_of {i : Nat} {ss : Sms} {sts : List Stmt} (h2 : PSs X sts (tS G Z (exs (callF tab n) ss))) : PSs X sts (tS G Z (exs (callF tab n) (.cons (.rel i) ss))) := by
  refine PSs.imp h2 fun D σ H q => ?_
  obtain ⟨ρ, F, μ, S, s, p⟩ := q
  simp only [exs, ex] at p
  split at p
  · rename_i l hl
    obtain ⟨a, vs, h1, h2, h3, h4, h5, h6, h7⟩ := s.env.own i l hl
    have sf : Same F (upd F a (.lst vs)) := fun b u e => by rw [upd_ne (ne_of_none e h4)]; exact e
    refine ⟨ρ.set i (.val (.lst l)), upd F a (.lst vs), μ, S, ⟨?_, ?_, s.ok.freeze h2 h4 h5⟩, PostS.later (o := exs (callF tab n) ss (ρ.set i (.val (.lst l))) S) p ⟨sf, [], by simp⟩⟩
    · refine ⟨s.ext.ff.trans sf, s.ext.hh, s.ext.hs, fun b u e n => ?_, s.ext.mm, s.ext.nw⟩
      have : b ≠ a := fun q => by rw [q, h3] at e; cases e
      rw [upd_ne this]; exact s.ext.nf b u e n
    · have hi : i < ρ.length := (List.getElem?_eq_some_iff.mp hl).1
      refine ⟨by simp [s.env.len], fun j u h => ?_, fun j l' h => ?_, fun j k l1 l2 q1 q2 q3 => ?_⟩
      · by_cases hj : i = j
        · subst hj
          rw [List.getElem?_set_self hi] at h
          cases h
          refine ⟨_, h1, ?_⟩
          simp only [Rep]
          exact ⟨a, vs, rfl, upd_same, h6, by simpa using Reps.mono (r := []) sf _ h7⟩
        · rw [List.getElem?_set_ne hj] at h
          obtain ⟨w, w1, w2⟩ := s.env.val j u h
          exact ⟨w, w1, by simpa using Rep.mono (r := []) sf _ w2⟩
      · by_cases hj : i = j
        · subst hj
          rw [List.getElem?_set_self hi] at h
          cases h
        · rw [List.getElem?_set_ne hj] at h
          obtain ⟨b, ws, w1, w2, w3, w4, w5, w6, w7⟩ := s.env.own j l' h
          have : b ≠ a := fun q => by
            subst q
            exact hj (s.env.ne i j l l' hl h (by rw [h1, w1]))
          exact ⟨b, ws, w1, w2, w3, by rw [upd_ne this]; exact w4, w5, w6, by simpa using Reps.mono (r := []) sf _ w7⟩
      · have nj : ∀ {j : Nat} {l' : List T}, (ρ.set i (Sl.val (T.lst l)))[j]? = some (Sl.own l') → i ≠ j := fun {j l'} h q => by
          subst q
          rw [List.getElem?_set_self hi] at h
          cases h
        rw [List.getElem?_set_ne (nj q1)] at q1
        rw [List.getElem?_set_ne (nj q2)] at q2
        exact s.env.ne j k l1 l2 q1 q2 q3
  · exact ⟨ρ, F, μ, S, s, p⟩
  · exact p.elim
/-! ### lists of one's own -/
theorem own_new {F H : Hp} {μ : List Addr} {ρ : Lenv} {σ : St} {S S1 : Store} {D : Ends} {i : Nat} {l : List T} {v : V} {F' H' : Hp} {μ' : List Addr} (s : StOk G Z F H μ ρ σ S) (x : Ext F H μ F' H' μ') (k : Ok G F' H' μ' S1) (r : rF G H F' H' μ' (.lst l) v)
    (p : PostS G Z F μ D (.nx (ρ.set i (.own l)) S1)) : D.nx (σ.set i (some v)) H' := by
  obtain ⟨a, vs, l', e, rfl, h1, h2, h3, h4, h5, h6⟩ := r
  cases e
  have hH0 : Z.H₀ a = none := by
    cases q : Z.H₀ a with
    | none => rfl
    | some u =>
      obtain ⟨u', e⟩ := s.ext.hs a u q
      rw [h4] at e; cases e
  refine p _ F' H' μ' x.grow ⟨s.ext.trans x, (s.env.ext x).own_put h1 hH0 h2 h3 h5 h6 fun j l' hj hji q => ?_, k⟩
  obtain ⟨b, ws, w1, w2, _⟩ := s.env.own j l' hj
  rw [w1] at q
  cases q
  rw [h4] at w2; cases w2
theorem pe_fresh (C : CxtS G tab glo exn n k X Z) (Sd : Snd G tab glo n k) {E : Ex} {e : Expr} (hE : freshB E = true) (ok : okE tab glo X.N X.env.scope E e = true) : PE X e (tF G Z.H₀ Z.W (fun ρ S => ev (callF tab n) E ρ S)) := by
  cases E <;> simp only [freshB, Bool.false_eq_true] at hE
  · rename_i Es
    cases e <;> first | (simp only [okE, Bool.false_eq_true] at ok; done) | skip
    simp only [okE] at ok
    refine PE.imp (pe_lst ((Sd.a Es).run X Z.W Z.H₀ _ C.c ok).1) fun σ H Q h => ?_
    obtain ⟨ρ, F, μ, S, en, k, p⟩ := h
    simp only [ev] at p
    refine ⟨ρ, F, μ, S, en, k, p.bind.imp fun v H1 hv => ?_⟩
    obtain ⟨F1, μ1, S1, t, x1, k1, r1, _, p1⟩ := hv
    split at p1
    · rename_i hl
      have : (1000 : Nat) ≤ sizeLine := by decide
      have e := r1.length
      refine ⟨by omega, fun q hq => ?_⟩
      have hH : H q = none := by
        cases z : H q with
        | none => rfl
        | some u =>
          obtain ⟨u', e⟩ := x1.hs q u z
          rw [hq] at e; cases e
      exact p1 (.ref q) F1 (upd H1 q (.lst v)) μ1 (Ext.newH hq) (k1.newH hq) ⟨q, v, t, rfl, rfl, upd_same, Same.free k1.fh hq, k1.notin hq, hH, by omega, r1⟩
    · exact p1.elim
  · rename_i elt tg kk src cond
    cases e <;> first | (simp only [okE, Bool.false_eq_true] at ok; done) | skip
    rename_i x gens scope pos
    obtain ⟨g, it, ifs, wi, gg, tt, te, own, rfl, L⟩ := lc_parts (Sd.e elt) (fun E _ => Sd.e E) (Sd.s kk src) Z.H₀ C.c ok
    exact PE.imp (pe_lc C.c.calm C.c.nd L.hi L.blk L.hg L.ht L.he L.fold) L.imp
theorem freshE {E : Ex} (hE : freshB E = true) : fresh E = true := by
  cases E <;> simp only [freshB, Bool.false_eq_true] at hE <;> rfl
theorem own_post {F H : Hp} {μ : List Addr} {ρ : Lenv} {σ : St} {S : Store} {D : Ends} {i : Nat} {E : Ex} (s : StOk G Z F H μ ρ σ S)
    (p : PostS G Z F μ D ((ev (callF tab n) E ρ S).st ρ fun t S => match t with | .lst l => if fresh E then .nx (ρ.set i (.own l)) S else .stk | _ => .stk)) : PostO G F H μ (exK G Z.W σ) (rF G H) (fun v H' => D.nx (σ.set i (some v)) H') (ev (callF tab n) E ρ S) := by
  cases q : ev (callF tab n) E ρ S with
  | stk => rw [q] at p; exact p
  | exc c S1 =>
    rw [q] at p
    exact fun F' H' μ' x k => p σ F' H' μ' x.grow ⟨s.ext.trans x, s.env.ext x, k⟩
  | ok t S1 =>
    rw [q] at p
    simp only [Out.st] at p
    intro v F' H' μ' x k r
    obtain ⟨a, vs, l, rfl, rest⟩ := id r
    simp only at p
    split at p
    · exact own_new s x k r p
    · exact p.elim
theorem ps_own_of (C : CxtS G tab glo exn n k X Z) (Sd : Snd G tab glo n k) {i : Nat} {E : Ex} {x : Str} {px pos : Pos} {e : Expr} (hn : nmB X.N X.env.scope i x = true) (ok : okE tab glo X.N X.env.scope E e = true) (hc : notComp e = true ∨ X.env.scope.names.lookup x = some .cell)
    (hE : freshB E = true) : PS X (.Assign [.Name x px] e pos) (tS G Z (ex (callF tab n) (.own i E))) := by
  obtain ⟨h1, h2⟩ := nmB_ok hn
  have hs : swapsWith e (some (.Name x px)) pos.line X.env = pure false := by
    rcases hc with hc | hc
    · exact swaps_no hc
    · exact swaps_cell hc
  refine PS.imp (ps_set C.c.nd h1 h2 (pe_fresh C Sd hE ok) hs (.inl (C.fn x))) fun D σ H q => ?_
  obtain ⟨ρ, F, μ, S, s, p⟩ := q
  simp only [ex] at p
  exact ⟨ρ, F, μ, S, s.env, s.ok, own_post s p⟩

theorem ps_asgC_all (C : CxtS G tab glo exn n k X Z) (Sd : Snd G tab glo n k) {i : Nat} {E : Ex} {x : Str} {px pos : Pos} {e : Expr} (hn : nmB X.N X.env.scope i x = true) (ok : okE tab glo X.N X.env.scope E e = true) (hl : X.env.scope.names.lookup x = some .local)
    (hline : (px.line == e.pos.line) = true) (hsc : scFree x e = true) :
    PS X (.Assign [.Name x px] e pos) (tS G Z (ex (callF tab n) (.asgC i E))) ∧ PS X (.Assign [.Name x px] e pos) (tS G Z (ex (callF tab n) (.ownC i E))) := by
  cases e <;> first | (simp only [scFree, Bool.false_eq_true] at hsc; done) | skip
  rename_i y gens scope p2
  obtain ⟨wi, gg, tt, te, own, ⟨g, it, ifs, rfl, L⟩, ps⟩ := ps_asgC_of (pos := pos) C Sd hn ok hl hline (by simpa [scFree] using hsc)
  refine ⟨PS.imp ps fun D σ H q => L.imp σ H _ ?_, PS.imp ps fun D σ H q => L.imp σ H _ ?_⟩
  · obtain ⟨ρ, F, μ, S, s, p⟩ := q
    simp only [ex] at p
    refine ⟨ρ, F, μ, S, s.env, s.ok, post_fresh ((p.st s).imp fun v H1 hv => ?_)⟩
    obtain ⟨F1, μ1, S1, t, x1, s1, r1, _, p1⟩ := hv
    exact p1 _ F1 H1 μ1 .refl ⟨s1.ext, s1.env.put r1, s1.ok⟩
  · obtain ⟨ρ, F, μ, S, s, p⟩ := q
    simp only [ex] at p
    exact ⟨ρ, F, μ, S, s.env, s.ok, own_post s p⟩
/-- x.append(e), x.extend(e) -/
theorem own_set {F H : Hp} {μ : List Addr} {ρ : Lenv} {σ : St} {S : Store} {i : Nat} {l l' : List T} {a : Addr} {vs ws : List V} (s : StOk G Z F H μ ρ σ S) (hl : ρ[i]? = some (Sl.own l)) (h1 : σ[i]? = some (some (.ref a))) (h2 : H a = some (.lst vs)) (h3 : Z.H₀ a = none) (h4 : F a = none) (h5 : a ∉ μ)
    (z : l'.length ≤ sizeLine) (r : Reps G.K F μ l' ws) : StOk G Z F (upd H a (.lst ws)) μ (ρ.set i (.own l')) σ S := by
  have hi : i < ρ.length := (List.getElem?_eq_some_iff.mp hl).1
  refine ⟨⟨s.ext.ff, fun b u e m => ?_, fun b u e => ?_, s.ext.nf, s.ext.mm, s.ext.nw⟩, ⟨by simp [s.env.len], fun j u h => ?_, fun j m h => ?_, fun j k l1 l2 q1 q2 q3 => ?_⟩, s.ok.setH h2 h4 h5 (fun _ q => by cases q)⟩
  · have : b ≠ a := fun q => by rw [q, h3] at e; cases e
    rw [upd_ne this]; exact s.ext.hh b u e m
  · by_cases q : b = a
    · subst q; exact ⟨_, upd_same⟩
    · rw [upd_ne q]; exact s.ext.hs b u e
  · by_cases hj : i = j
    · subst hj
      rw [List.getElem?_set_self hi] at h; cases h
    · rw [List.getElem?_set_ne hj] at h
      exact s.env.val j u h
  · by_cases hj : i = j
    · subst hj
      rw [List.getElem?_set_self hi] at h
      cases h
      exact ⟨a, ws, h1, upd_same, h3, h4, h5, z, r⟩
    · rw [List.getElem?_set_ne hj] at h
      obtain ⟨b, us, w1, w2, w3, w4, w5, w6, w7⟩ := s.env.own j m h
      have : b ≠ a := fun q => by
        subst q
        exact hj (s.env.ne i j l m hl h (by rw [h1, w1]))
      exact ⟨b, us, w1, by rw [upd_ne this]; exact w2, w3, w4, w5, w6, w7⟩
  · have nj : ∀ {j : Nat} {m : List T}, (ρ.set i (Sl.own l'))[j]? = some (Sl.own m) → ∃ m', ρ[j]? = some (Sl.own m') := fun {j m} h => by
      by_cases hj : i = j
      · subst hj; exact ⟨l, hl⟩
      · rw [List.getElem?_set_ne hj] at h; exact ⟨m, h⟩
    obtain ⟨m1, e1⟩ := nj q1
    obtain ⟨m2, e2⟩ := nj q2
    exact s.env.ne j k m1 m2 e1 e2 q3
theorem att_base {x : Str} {p : Pos} {a : Str} {env : Env} {w : Sem Value} : attributeBase (.Name x p) a env w = w := rfl
theorem ps_app_of (C : CxtS G tab glo exn n k X Z) (Sd : Snd G tab glo n k) {i : Nat} {E : Ex} {x : Str} {px apos cpos pos : Pos} {e : Expr} (h1 : X.N[i]? = some x) (h2 : Vis X.env.scope x) (h3 : x ≠ "__debug__") (h4 : x ≠ "__classdict__") (hl : (apos.endLine == cpos.line) = true) (ok : okE tab glo X.N X.env.scope E e = true) :
    PS X (.Expr (.Call (.Attribute (.Name x px) "append" apos) [e] [] cpos) pos) (tS G Z (ex (callF tab n) (.app i E))) := by
  have pl := okE_plain ok
  have hs : starEach (e :: []) X.env = (false, eval e X.env) :: starEach [] X.env := star_cons pl
  refine PS.imp (ps_expr (pe_bm PySem.F.plainAttrs_list PySem.F.slot_list_append PySem.F.type_list_append mt_append (pe_var h1 h2 (beq_eq_false_iff_ne.mpr h3) (beq_eq_false_iff_ne.mpr h4)) (pa_cons ((Sd.e E).run X Z.W Z.H₀ e C.c ok).1 pa_nil hs) rfl (by rw [hs]; rfl) hl hs rfl) rfl) fun D σ H q => ?_
  obtain ⟨ρ, F, μ, S, s, p⟩ := q
  simp only [ex] at p
  unfold ownAt at p
  split at p
  · rename_i l hl
    obtain ⟨a, vs, w1, w2, w3, w4, w5, w6, w7⟩ := s.env.own i l hl
    refine ⟨_, w1, .inl ⟨rfl, vs, SqL.of w2⟩, ?_⟩
    refine ⟨ρ, F, μ, S, s.env, s.ok, (p.st s).imp fun v H1 hv => ?_⟩
    obtain ⟨F1, μ1, S1, t, x1, s1, r1, _, p1⟩ := hv
    obtain ⟨a', vs', w1', w2', w3', w4', w5', w6', w7'⟩ := s1.env.own i l hl
    rw [w1] at w1'
    cases w1'
    split at p1
    · rename_i hz
      have e := w7'.length
      exact ⟨a, vs', v, rfl, rfl, w2', by omega, p1 σ F1 (upd H1 a (.lst (vs' ++ [v]))) μ1 .refl (own_set s1 hl w1 w2' w3' w4' w5' (by simp; omega) (w7'.append (Reps.cons r1 Reps.nil)))⟩
    · exact p1.elim
  · exact p.elim
theorem ps_ext_of (C : CxtS G tab glo exn n k X Z) (Sd : Snd G tab glo n k) {i : Nat} {E : Ex} {x : Str} {px apos cpos pos : Pos} {e : Expr} (h1 : X.N[i]? = some x) (h2 : Vis X.env.scope x) (h3 : x ≠ "__debug__") (h4 : x ≠ "__classdict__") (hl : (apos.endLine == cpos.line) = true) (ok : okE tab glo X.N X.env.scope E e = true) :
    PS X (.Expr (.Call (.Attribute (.Name x px) "extend" apos) [e] [] cpos) pos) (tS G Z (ex (callF tab n) (.ext i E))) := by
  have pl := okE_plain ok
  have hs : starEach (e :: []) X.env = (false, eval e X.env) :: starEach [] X.env := star_cons pl
  refine PS.imp (ps_expr (pe_bm PySem.F.plainAttrs_list PySem.F.slot_list_extend PySem.F.type_list_extend mt_extend (pe_var h1 h2 (beq_eq_false_iff_ne.mpr h3) (beq_eq_false_iff_ne.mpr h4)) (pa_cons ((Sd.e E).run X Z.W Z.H₀ e C.c ok).1 pa_nil hs) rfl (by rw [hs]; rfl) hl hs rfl) rfl) fun D σ H q => ?_
  obtain ⟨ρ, F, μ, S, s, p⟩ := q
  simp only [ex] at p
  unfold ownAt at p
  split at p
  · rename_i l hl
    obtain ⟨a, vs, w1, w2, w3, w4, w5, w6, w7⟩ := s.env.own i l hl
    refine ⟨_, w1, .inl ⟨rfl, vs, SqL.of w2⟩, ?_⟩
    refine ⟨ρ, F, μ, S, s.env, s.ok, (p.st s).imp fun v H1 hv => ?_⟩
    obtain ⟨F1, μ1, S1, t, x1, s1, r1, _, p1⟩ := hv
    obtain ⟨a', vs', w1', w2', w3', w4', w5', w6', w7'⟩ := s1.env.own i l hl
    rw [w1] at w1'
    cases w1'
    split at p1
    · rename_i m
      split at p1
      · rename_i hz
        simp only [Rep] at r1
        obtain ⟨b, ws, rfl, b1, b2, b3⟩ := r1
        have e := w7'.length
        have e2 := b3.length
        exact ⟨a, b, vs', ws, rfl, rfl, w2', s1.ok.fh _ _ b1, by omega, p1 σ F1 (upd H1 a (.lst (vs' ++ ws))) μ1 .refl (own_set s1 hl w1 w2' w3' w4' w5' (by simpa using hz) (w7'.append b3))⟩
      · exact p1.elim
    · exact p1.elim
  · exact p.elim
end
end Ly
namespace Ly
open PySem PySem.Spec L2
open PyProof.Rows hiding St

theorem blockKind_fn {env : Env} (h : env.scope.kind = .function) : env.blockKind = .function := by
  unfold Env.blockKind
  rw [h]; rfl
theorem nostar {vs : List Expr} (h : vs.all plainX = true) : (vs.any fun | .Starred .. => true | _ => false) = false := by
  rw [List.any_eq_false]
  intro x hx
  have := List.all_eq_true.mp h x hx
  cases x <;> first | (simp; done) | (simp [plainX] at this)
theorem swapped_some {env : Env} {ts vs : List Expr} {k k2 : Nat} {p p2 : Pos} (hk : env.scope.kind = .function) (h : parOk env.scope ts vs = true) :
    swappedStores [.Tuple ts k p] (.Tuple vs k2 p2) env = pure (some (namesOf env.scope ts)) := by
  unfold parOk at h
  simp only [Bool.and_eq_true, beq_iff_eq, Bool.not_eq_true'] at h
  obtain ⟨⟨⟨⟨⟨⟨e1, e2⟩, d1⟩, d2⟩, d3⟩, d4⟩, d5⟩ := h
  have bk := blockKind_fn hk
  have ns := nostar d5
  have f1 : (!(ts.length == 2 || ts.length == 3) || vs.length != ts.length || env.blockKind != .function) = false := by
    rw [bk, e2, ← e1]; simp
  unfold swappedStores
  refine (if_neg (by rw [f1]; exact Bool.false_ne_true)).trans ?_
  refine (if_neg (fun h => Bool.false_ne_true (ns.symm.trans h))).trans ?_
  refine (if_neg (show ¬ (((namesOf env.scope ts).length != ts.length || (namesOf env.scope ts).eraseDups.length != (namesOf env.scope ts).length) = true) by rw [d1, d2, d1]; simp)).trans ?_
  refine (if_neg (by rw [d3]; exact Bool.false_ne_true)).trans ?_
  refine (if_neg (by rw [d4]; exact Bool.false_ne_true)).trans ?_
  rfl
theorem swapped_none {env : Env} {ts : List Expr} {v : Expr} {k : Nat} {p : Pos} (hk : env.scope.kind = .function) (h : unpOk env.scope ts v = true) :
    swappedStores [.Tuple ts k p] v env = pure none := by
  cases v <;> first | rfl | skip
  rename_i vs k2 p2
  simp only [unpOk, Bool.or_eq_true, Bool.and_eq_true] at h
  have bk := blockKind_fn hk
  unfold swappedStores
  cases f1 : (!(ts.length == 2 || ts.length == 3) || vs.length != ts.length || env.blockKind != .function) with
  | true => exact if_pos f1
  | false =>
    refine (if_neg (by rw [f1]; exact Bool.false_ne_true)).trans ?_
    rcases h with h | ⟨h1, h2⟩
    · exfalso
      simp only [Bool.or_eq_false_iff] at f1
      rcases h with h | h
      · rw [f1.1.1] at h; cases h
      · rw [f1.1.2] at h; cases h
    · refine (if_neg (fun h => Bool.false_ne_true ((nostar h1).symm.trans h))).trans ?_
      cases f2 : ((namesOf env.scope ts).length != ts.length || (namesOf env.scope ts).eraseDups.length != (namesOf env.scope ts).length) with
      | true => exact if_pos f2
      | false =>
        refine (if_neg (show ¬ (((namesOf env.scope ts).length != ts.length || (namesOf env.scope ts).eraseDups.length != (namesOf env.scope ts).length) = true) by rw [f2]; exact Bool.false_ne_true)).trans ?_
        simp only [Bool.or_eq_false_iff] at f2
        rcases h2 with (h2 | h2) | h2
        · rw [f2.1] at h2; cases h2
        · rw [f2.2] at h2; cases h2
        · exact if_pos h2
section
variable {G : Glo} {tab : List FnI} {glo : List (Str × T)} {exn : List Str} {n k : Nat} {X : Cx} {Z : At0}
theorem ps_par2_of (C : CxtS G tab glo exn n k X Z) (Sd : Snd G tab glo n k) {i j : Nat} {A B : Ex} {x y : Str} {px py pt pos pt2 : Pos} {kt k2 : Nat} {a b : Expr} (h1 : X.N[i]? = some x) (h2 : X.N[j]? = some y) (hij : i ≠ j) (l1 : X.env.scope.names.lookup x = some .local) (l2 : X.env.scope.names.lookup y = some .local)
    (po : parOk X.env.scope [.Name x px, .Name y py] [a, b] = true) (pn : namesOf X.env.scope [.Name x px, .Name y py] = [x, y]) (oa : okE tab glo X.N X.env.scope A a = true) (ob : okE tab glo X.N X.env.scope B b = true) :
    PS X (.Assign [.Tuple [.Name x px, .Name y py] kt pt] (.Tuple [a, b] k2 pt2) pos) (tS G Z (ex (callF tab n) (.par2 i j A B))) := by
  have pa := (Sd.e A).run X Z.W Z.H₀ a C.c oa
  have pb := (Sd.e B).run X Z.W Z.H₀ b C.c ob
  have s2 : starEach (b :: []) X.env = (false, eval b X.env) :: starEach [] X.env := star_cons (okE_plain ob)
  have s1 : starEach (a :: [b]) X.env = (false, eval a X.env) :: starEach [b] X.env := star_cons (okE_plain oa)
  refine PS.imp (ps_par C.c.calm C.c.nd h1 h2 hij l1 l2 (pa_cons pa.1 (pa_cons pb.1 pa_nil s2) s1) ((swapped_some C.kind po).trans (by rw [pn])) rfl) fun D σ H q => ?_
  obtain ⟨ρ, F, μ, S, s, p⟩ := q
  simp only [ex] at p
  refine ⟨ρ, F, μ, S, s.env, s.ok, (p.st s).imp fun v H1 hv => ?_⟩
  obtain ⟨F1, μ1, S1, t, x1, s1, r1, _, p1⟩ := hv
  refine ⟨ρ, F1, μ1, S1, s1.env, s1.ok, (p1.st s1).imp fun w H2 hw => ?_⟩
  obtain ⟨F2, μ2, S2, u, x2, s2, r2, _, p2⟩ := hw
  exact ⟨v, w, rfl, p2 _ F2 H2 μ2 .refl ⟨s2.ext, (s2.env.put (x2.rep r1)).put r2, s2.ok⟩⟩
theorem ps_par3_of (C : CxtS G tab glo exn n k X Z) (Sd : Snd G tab glo n k) {i j l : Nat} {A B D : Ex} {x y z : Str} {px py pz pt pos pt2 : Pos} {kt k2 : Nat} {a b d : Expr} (h1 : X.N[i]? = some x) (h2 : X.N[j]? = some y) (h3 : X.N[l]? = some z) (hij : i ≠ j) (hil : i ≠ l) (hjl : j ≠ l)
    (l1 : X.env.scope.names.lookup x = some .local) (l2 : X.env.scope.names.lookup y = some .local) (l3 : X.env.scope.names.lookup z = some .local)
    (po : parOk X.env.scope [.Name x px, .Name y py, .Name z pz] [a, b, d] = true) (pn : namesOf X.env.scope [.Name x px, .Name y py, .Name z pz] = [x, y, z]) (oa : okE tab glo X.N X.env.scope A a = true) (ob : okE tab glo X.N X.env.scope B b = true) (od : okE tab glo X.N X.env.scope D d = true) :
    PS X (.Assign [.Tuple [.Name x px, .Name y py, .Name z pz] kt pt] (.Tuple [a, b, d] k2 pt2) pos) (tS G Z (ex (callF tab n) (.par3 i j l A B D))) := by
  have pa := (Sd.e A).run X Z.W Z.H₀ a C.c oa
  have pb := (Sd.e B).run X Z.W Z.H₀ b C.c ob
  have pd := (Sd.e D).run X Z.W Z.H₀ d C.c od
  have s3 : starEach (d :: []) X.env = (false, eval d X.env) :: starEach [] X.env := star_cons (okE_plain od)
  have s2 : starEach (b :: [d]) X.env = (false, eval b X.env) :: starEach [d] X.env := star_cons (okE_plain ob)
  have s1 : starEach (a :: [b, d]) X.env = (false, eval a X.env) :: starEach [b, d] X.env := star_cons (okE_plain oa)
  refine PS.imp (ps_par3 C.c.calm C.c.nd h1 h2 h3 hij hil hjl l1 l2 l3 (pa_cons pa.1 (pa_cons pb.1 (pa_cons pd.1 pa_nil s3) s2) s1) ((swapped_some C.kind po).trans (by rw [pn])) rfl) fun D σ H q => ?_
  obtain ⟨ρ, F, μ, S, s, p⟩ := q
  simp only [ex] at p
  refine ⟨ρ, F, μ, S, s.env, s.ok, (p.st s).imp fun v H1 hv => ?_⟩
  obtain ⟨F1, μ1, S1, t, x1, s1, r1, _, p1⟩ := hv
  refine ⟨ρ, F1, μ1, S1, s1.env, s1.ok, (p1.st s1).imp fun w H2 hw => ?_⟩
  obtain ⟨F2, μ2, S2, u, x2, s2, r2, _, p2⟩ := hw
  refine ⟨ρ, F2, μ2, S2, s2.env, s2.ok, (p2.st s2).imp fun w3 H3 hw3 => ?_⟩
  obtain ⟨F3, μ3, S3, u3, x3, s3, r3, _, p3⟩ := hw3
  exact ⟨v, w, w3, rfl, p3 _ F3 H3 μ3 .refl ⟨s3.ext, ((s3.env.put (x3.rep (x2.rep r1))).put (x3.rep r2)).put r3, s3.ok⟩⟩
theorem ps_unp_of (C : CxtS G tab glo exn n k X Z) (Sd : Snd G tab glo n k) {g : Tgs} {E : Ex} {ts : List Expr} {kk : Nat} {p pos : Pos} {e : Expr} (h1 : okTs X.N X.env.scope g ts = true) (ok : okE tab glo X.N X.env.scope E e = true) (hu : unpOk X.env.scope ts e = true) :
    PS X (.Assign [.Tuple ts kk p] e pos) (tS G Z (ex (callF tab n) (.unp g E))) := by
  have hg : PG X (.Tuple ts kk p) (gOf G Z.H₀ (.tp g)) := snd_tg C.c.hG C.c.calm C.c.nd X.env.scope (fun x _ => .inl (C.fn x)) (.tp g) (.Tuple ts kk p) (by simpa only [okT] using h1) (by simpa only [okT] using h1)
  have hs : swapsWithSole [.Tuple ts kk p] e pos.line X.env = pure false := by
    show swapsWith e (some (.Tuple ts kk p)) pos.line X.env = pure false
    cases e <;> rfl
  refine PS.imp (ps_asg ((Sd.e E).run X Z.W Z.H₀ e C.c ok).1 hg hs (swapped_none C.kind hu) rfl) fun D σ H q => ?_
  obtain ⟨ρ, F, μ, S, s, p⟩ := q
  simp only [ex] at p
  refine ⟨ρ, F, μ, S, s.env, s.ok, (p.st s).imp fun v H1 hv => ?_⟩
  obtain ⟨F1, μ1, S1, t, x1, s1, r1, _, p1⟩ := hv
  cases q : (Tg.tp g).put t ρ with
  | none => rw [q] at p1; exact p1.elim
  | some ρ' =>
    rw [q] at p1
    exact ⟨ρ, F1, μ1, t, s1.env, s1.ok.fh, r1, ρ', q, fun σ' en _ => p1 σ' F1 H1 μ1 .refl ⟨s1.ext, en, s1.ok⟩⟩
/-! ### for -/
theorem ps_for_of (C : CxtS G tab glo exn n k X Z) (Sd : Snd G tab glo n k) {tg : Tg} {kk : SK} {src : Exs} {body : Sms} {g it : Expr} {b : List Stmt} {pos : Pos} (ht : tgOk kk g = true) (hp : plainX it = true) (hg : okT X.N X.env.scope tg g = true)
    (hs : ∃ es, srcArgs X.env.scope kk it = some es ∧ okEs tab glo X.N X.env.scope src es = true) (hb : PSs X b (tS G Z (exs (callF tab n) body))) :
    PS X (.For g it b [] pos) (tS G Z (ex (callF tab n) (.for_ tg kk src body))) := by
  have pi := (Sd.s kk src X Z.W Z.H₀ g it C.c hs ⟨hp, tupTg ht⟩).2
  have pg : PG X g (gOf G Z.H₀ tg) := snd_tg C.c.hG C.c.calm C.c.nd X.env.scope (fun x _ => .inl (C.fn x)) tg g hg hg
  refine PS.imp (ps_for C.hp C.c.calm pi pg hb (folded_no hp)) fun D σ H q => ?_
  obtain ⟨ρ, F, μ, S, s, p⟩ := q
  simp only [ex] at p
  have p' : PostS G Z F μ D (((evs (callF tab n) src ρ S).bind fun ts S1 => Out.opt (itemsF kk ts) fun l => .ok l S1).st ρ fun l S => forL (fun x ρ S => optS (tg.put x ρ) fun ρ' => exs (callF tab n) body ρ' S) l ρ S) := by
    cases q : evs (callF tab n) src ρ S with
    | stk => rw [q] at p; exact p
    | exc c S1 => rw [q] at p; exact p
    | ok ts S1 =>
      rw [q] at p
      simp only [Out.bind, Out.st] at p ⊢
      cases e : itemsF kk ts with
      | none => rw [e] at p; exact p
      | some l => rw [e] at p; exact p
  refine ⟨ρ, F, μ, S, s.env, s.ok, (p'.st s).imp fun J H1 hv => ?_⟩
  obtain ⟨F1, μ1, S1, l, x1, s1, ⟨P, w⟩, _, p1⟩ := hv
  have w' : Walk J l.length P (fun i H x H' => J.yld i H x H') := ⟨w.go, w.stop, fun _ _ _ _ _ _ y => y⟩
  refine for_it w' (Pv := fun i σ' H' => ∃ ρ' F' μ' S', Grow F1 μ1 F' μ' ∧ StOk G Z F' H' μ' ρ' σ' S' ∧ PostS G Z F' μ' D (forL (fun x ρ S => optS (tg.put x ρ) fun ρ' => exs (callF tab n) body ρ' S) (l.drop i) ρ' S')) ?_ (fun i σ' H' _ hp => ?_) (fun i x' σ' H2 H3 hi hp y => ?_) (fun σ' H' hp => ?_)
  · exact ⟨ρ, F1, μ1, S1, .refl, s1, by rw [List.drop_zero]; exact p1⟩
  · obtain ⟨ρ', F', μ', S', g', s', _⟩ := hp
    exact w.per F' H' μ' (fun h => by cases h) g'.1 s'.ok.fh
  · obtain ⟨ρ', F', μ', S', g', s', p2⟩ := hp
    have hw := w.per F' H2 μ' (fun h => by cases h) g'.1 s'.ok.fh
    have hi' : l[i]? = some (l[i]) := List.getElem?_eq_getElem hi
    obtain ⟨F2, x2, k2, rx⟩ := w.yld i l[i] x' F' H2 H3 μ' S' hi' hw g'.1 g'.2 s'.ok y
    have s2 : StOk G Z F2 H3 μ' ρ' σ' S' := ⟨s'.ext.trans x2, s'.env.ext x2, k2⟩
    have hdrop : l.drop i = l[i] :: l.drop (i + 1) := List.drop_eq_getElem_cons hi
    rw [hdrop] at p2
    simp only [forL] at p2
    have p2 := PostS.later p2 x2.grow
    cases ht : tg.put l[i] ρ' with
    | none => rw [ht] at p2; exact p2.elim
    | some ρ2 =>
      rw [ht] at p2
      simp only [optS] at p2
      refine ⟨ρ', F2, μ', l[i], s2.env, k2.fh, rx, ρ2, ht, fun σ2 en3 _ => ?_⟩
      refine ⟨ρ2, F2, μ', S', ⟨s2.ext, en3, k2⟩, ?_⟩
      cases q : exs (callF tab n) body ρ2 S' with
      | stk => rw [q] at p2; exact p2
      | nx ρ3 S3 =>
        rw [q] at p2
        exact fun σ4 F4 H4 μ4 g4 s4 => ⟨ρ3, F4, μ4, S3, (g'.trans x2.grow).trans g4, s4, PostS.later p2 g4⟩
      | ct ρ3 S3 =>
        rw [q] at p2
        exact fun σ4 F4 H4 μ4 g4 s4 => ⟨ρ3, F4, μ4, S3, (g'.trans x2.grow).trans g4, s4, PostS.later p2 g4⟩
      | bk ρ3 S3 => rw [q] at p2; exact p2
      | rt t S3 => rw [q] at p2; exact p2
      | ex c ρ3 S3 => rw [q] at p2; exact p2
  · obtain ⟨ρ', F', μ', S', g', s', p2⟩ := hp
    rw [List.drop_length] at p2
    exact p2 σ' F' H' μ' .refl s'
end
end Ly
namespace Ly
open PySem PySem.Spec L2
open PyProof.Rows hiding St
section
variable {G : Glo} {tab : List FnI} {glo : List (Str × T)} {exn : List Str} {n k : Nat} {X : Cx} {Z : At0}
theorem ps_brk_of {pos : Pos} : PS X (.Break pos) (tS G Z (ex (callF tab n) .brk)) := PS.imp ps_break fun D σ H q => by
  obtain ⟨ρ, F, μ, S, s, p⟩ := q
  simp only [ex] at p
  exact p σ F H μ .refl s
theorem ps_cnt_of {pos : Pos} : PS X (.Continue pos) (tS G Z (ex (callF tab n) .cnt)) := PS.imp ps_continue fun D σ H q => by
  obtain ⟨ρ, F, μ, S, s, p⟩ := q
  simp only [ex] at p
  exact p σ F H μ .refl s
theorem ps_pass_of {pos : Pos} : PS X (.Pass pos) (tS G Z (ex (callF tab n) .pass)) := PS.imp ps_pass fun D σ H q => by
  obtain ⟨ρ, F, μ, S, s, p⟩ := q
  simp only [ex] at p
  exact p σ F H μ .refl s
theorem ps_raise_of (C : CxtS G tab glo exn n k X Z) {c : Nat} {x m : Str} {j : Nat} {p p2 p3 pos : Pos} (h1 : exn[c]? = some x) (hg : gloB X.env.scope x = true) (hd : x ≠ "__debug__") :
    PS X (.Raise (some (.Call (.Name x p) [.Constant (.str m) j p2] [] p3)) none pos) (tS G Z (ex (callF tab n) (.raise c))) := by
  obtain ⟨e1, e2, e3, e4⟩ := C.exc c x h1
  refine PS.imp (ps_raise C.c.calm C.c.tk (pmk_own PySem.F.excBase_ValueError e2 e1 e3 e4 (gloB_ok hg) (beq_eq_false_iff_ne.mpr hd))) fun D σ H q => ?_
  obtain ⟨ρ, F, μ, S, s, p⟩ := q
  simp only [ex] at p
  exact p σ F H μ .refl s
theorem ps_whl_of (C : CxtS G tab glo exn n k X Z) (Sd : Snd G tab glo n k) {d : Ex} {body : Sms} {c : Expr} {b : List Stmt} {pos : Pos} (h0 : noIf c = true) (ok : okE tab glo X.N X.env.scope d c = true) (hb : PSs X b (tS G Z (exs (callF tab n) body))) :
    PS X (.While c b [] pos) (tS G Z (ex (callF tab n) (.whl d body))) := by
  refine PS.imp (ps_while C.hp (((Sd.e d).run X Z.W Z.H₀ c C.c ok).2.2.1 h0) hb) fun D σ H q => ?_
  obtain ⟨ρ, F, μ, S, s, p⟩ := q
  simp only [ex, whlL] at p
  split at p
  · refine ⟨fun m σ H => ∃ ρ F μ S, StOk G Z F H μ ρ σ S ∧ PostS G Z F μ D (whlN (fun ρ S => bor ρ d S (ev (callF tab n) d ρ S)) (fun ρ S => exs (callF tab n) body ρ S) m ρ S), ⟨_, ρ, F, μ, S, s, p⟩, ?_⟩
    rintro m σ H ⟨ρ, F, μ, S, s, p⟩
    cases m with
    | zero => simp only [whlN] at p; exact p.elim
    | succ m =>
      simp only [whlN] at p
      refine ⟨ρ, F, μ, S, s.env, s.ok, ?_⟩
      dsimp only
      cases q : bor ρ d S (ev (callF tab n) d ρ S) with
      | stk => rw [q] at p; exact p
      | exc e S1 =>
        rw [q] at p
        exact fun F' H' μ' x k => p σ F' H' μ' x.grow ⟨s.ext.trans x, s.env.ext x, k⟩
      | ok t S1 =>
        rw [q] at p
        simp only [Out.st] at p
        simp only [Out.bind]
        cases ht : t.tru with
        | none => rw [ht] at p; exact p.elim
        | some v0 =>
          rw [ht] at p
          intro v F' H' μ' x k r
          have r : t.tru = some v := r
          rw [ht] at r
          cases r
          have s1 : StOk G Z F' H' μ' ρ σ S1 := ⟨s.ext.trans x, s.env.ext x, k⟩
          cases v0 with
          | false => exact p σ F' H' μ' x.grow s1
          | true =>
            simp only [if_true]
            dsimp only at p
            have p := PostS.later p x.grow
            refine ⟨fun σ' H' => ∃ ρ F μ S, StOk G Z F H' μ ρ σ' S ∧ PostS G Z F μ D (whlN (fun ρ S => bor ρ d S (ev (callF tab n) d ρ S)) (fun ρ S => exs (callF tab n) body ρ S) m ρ S), fun σ' H' hw => ⟨m, by omega, hw⟩, ρ, F', μ', S1, s1, ?_⟩
            cases q2 : exs (callF tab n) body ρ S1 with
            | stk => rw [q2] at p; exact p
            | nx ρ3 S3 =>
              rw [q2] at p
              exact fun σ4 F4 H4 μ4 g4 s4 => ⟨ρ3, F4, μ4, S3, s4, PostS.later p g4⟩
            | ct ρ3 S3 =>
              rw [q2] at p
              exact fun σ4 F4 H4 μ4 g4 s4 => ⟨ρ3, F4, μ4, S3, s4, PostS.later p g4⟩
            | bk ρ3 S3 => rw [q2] at p; exact p
            | rt t S3 => rw [q2] at p; exact p
            | ex c ρ3 S3 => rw [q2] at p; exact p
  · exact p.elim
end
end Ly
namespace Ly
open PySem PySem.Spec L2
open PyProof.Rows hiding St
section
variable {G : Glo} {tab : List FnI} {glo : List (Str × T)} {n k : Nat}
theorem srcArgs_call {sc : Scope} {kk : SK} {e : Expr} {es : List Expr} (h : srcArgs sc kk e = some es) (hk : kk ≠ .val) : ∃ x p pos, e = .Call (.Name x p) es [] pos ∧ x = srcName kk ∧ gloB sc x = true ∧ srcLen kk es = true := by
  unfold srcArgs at h
  split at h
  · exact absurd rfl hk
  · split at h
    · rename_i hh
      simp only [Bool.and_eq_true, decide_eq_true_eq] at hh
      cases h
      exact ⟨_, _, _, rfl, hh.1.1, hh.1.2, hh.2⟩
    · cases h
  · cases h
theorem src_ok {Es : Exs} (h : SndA G tab glo n k Es) (h1 : ∀ E, Es = .cons E .nil → SndE G tab glo n k E) (kk : SK) : SrcOk G tab glo n k kk Es := fun X W H₀ g e c ⟨es, ha, ok⟩ ⟨hp, ht⟩ => by
  cases kk with
  | val =>
    simp only [srcArgs, Option.some.injEq] at ha
    subst ha
    match Es, ok with
    | .cons E .nil, ok =>
      simp only [okEs, Bool.and_true] at ok
      have r := (h1 E rfl).run X W H₀ e c ok
      refine ⟨PI.imp (src_val c (o := fun ρ S => bor ρ E S (ev (callF tab n) E ρ S)) true (by simpa using r.2.1)) fun σ H R q => ?_, PI.imp (src_val c (o := fun ρ S => ev (callF tab n) E ρ S) false (by simpa using r.1)) fun σ H R q => ?_⟩
      · simpa only [evb, Out.bind] using q
      · simpa only [evs, Out.bind] using q
    | .nil, ok => simp [okEs] at ok
    | .cons E (.cons _ _), ok => simp [okEs] at ok
  | rng =>
    obtain ⟨x, p, pos, rfl, rfl, hg, hl⟩ := srcArgs_call ha (by simp)
    have r := h.run X W H₀ es c ok
    have hl : es.length = 1 ∨ es.length = 2 := by simpa [srcLen] using hl
    exact ⟨src_rng c true (by simpa using r.2) (okEs_plain ok) hg (fun ρ S l S' q => evb_len ok q) hl, src_rng c false (by simpa using r.1) (okEs_plain ok) hg (fun ρ S l S' q => evs_len ok q) hl⟩
  | enm =>
    obtain ⟨x, p, pos, rfl, rfl, hg, hl⟩ := srcArgs_call ha (by simp)
    obtain ⟨gs, gk, gp, rfl⟩ := ht (.inl rfl)
    have r := h.run X W H₀ es c ok
    have hl : es.length = 1 := by simpa [srcLen] using hl
    exact ⟨src_en c true (by simpa using r.2) (okEs_plain ok) hg (fun ρ S l S' q => evb_len ok q) hl, src_en c false (by simpa using r.1) (okEs_plain ok) hg (fun ρ S l S' q => evs_len ok q) hl⟩
  | zip =>
    obtain ⟨x, p, pos, rfl, rfl, hg, hl⟩ := srcArgs_call ha (by simp)
    obtain ⟨gs, gk, gp, rfl⟩ := ht (.inr rfl)
    have r := h.run X W H₀ es c ok
    have hl : es.length = 2 := by simpa [srcLen] using hl
    exact ⟨src_zp c true (by simpa using r.2) (okEs_plain ok) hg (fun ρ S l S' q => evb_len ok q) hl, src_zp c false (by simpa using r.1) (okEs_plain ok) hg (fun ρ S l S' q => evs_len ok q) hl⟩
  | rev =>
    obtain ⟨x, p, pos, rfl, rfl, hg, hl⟩ := srcArgs_call ha (by simp)
    simp [srcLen] at hl
theorem snd_mth (m : Mt) (a : Ex) (es : Exs) : SndE G tab glo n k (.mth m a es) := ⟨fun X W H₀ e c ok => by cases e <;> simp [okE] at ok⟩
mutual
theorem snd : ∀ E : Ex, SndE G tab glo n k E
  | .lit t => snd_lit t
  | .glb x t => snd_glb x t
  | .var i => snd_var i
  | .bor i => snd_bor i
  | .bin o a b => snd_bin o (snd a) (snd b)
  | .neg i => snd_neg i
  | .cmp o a b => snd_cmp o (snd a) (snd b)
  | .chn o o' a b d => snd_chn o o' (snd a) (snd b) (snd d)
  | .and a b => snd_and (snd a) (snd b)
  | .or a b => snd_or (snd a) (snd b)
  | .one a => snd_one (snd a)
  | .not a => snd_not (snd a)
  | .ife d a b => snd_ife (snd d) (snd a) (snd b)
  | .tup es => snd_tup (snds es).1
  | .lst es => snd_lst (snds es).1
  | .sub a i => snd_sub (snd a) (snd i)
  | .slc a lo hi => snd_slc (snd a) (snd lo) (snd hi)
  | .nop => snd_nop
  | .call f es => snd_call f (snds es).1
  | .bi b es => snd_bi b (snds es).1 (snds es).2
  | .mth m a es => snd_mth m a es
  | .isIS a => snd_isIS (snd a)
  | .lc elt tg kk src cond => snd_lc (snd elt) (snds cond).2 (src_ok (snds src).1 (snds src).2 kk)
theorem snds : ∀ Es : Exs, SndA G tab glo n k Es ∧ ∀ e, Es = .cons e .nil → SndE G tab glo n k e
  | .nil => ⟨snd_nil, fun e h => by cases h⟩
  | .cons e es => ⟨snd_cons (snd e) (snds es).1, fun e' h => by
    have := snd e
    cases h; exact this⟩
end
theorem sndAll : Snd G tab glo n k := ⟨snd, fun E => (snds E).1, fun kk src => src_ok (snds src).1 (snds src).2 kk⟩
end
end Ly
namespace Ly
open PySem PySem.Spec L2
open PyProof.Rows hiding St
def Sm.subs : Sm → List Sms
  | .iff _ a b => [a, b]
  | .for_ _ _ _ b => [b]
  | .whl _ b => [b]
  | .try_ a _ b => [a, b]
  | _ => []
section
variable {G : Glo} {tab : List FnI} {glo : List (Str × T)} {exn : List Str} {n k : Nat} {X : Cx} {Z : At0}
theorem st_step (C : CxtS G tab glo exn n k X Z) (s : Sm) (st : Stmt) (ok : okS tab glo X.N exn X.env.scope s st = true) (IH : ∀ ss ∈ s.subs, ∀ sts, okSs tab glo X.N exn X.env.scope ss sts = true → PSs X sts (tS G Z (exs (callF tab n) ss))) : PS X st (tS G Z (ex (callF tab n) s)) := by
  unfold okS at ok
  split at ok
  · exact ps_ret_of C sndAll ok
  · exact ps_retN_of
  · simp only [Bool.and_eq_true] at ok
    exact ps_expr_of C sndAll ok.1 ok.2
  · simp only [Bool.and_eq_true, Bool.or_eq_true, decide_eq_true_eq] at ok
    exact ps_asg_of C sndAll ok.1.1 ok.1.2 ok.2
  · simp only [Bool.and_eq_true, Bool.or_eq_true, decide_eq_true_eq] at ok
    obtain ⟨⟨⟨⟨⟨k1, k2⟩, k3⟩, k4⟩, k5⟩, k6⟩ := ok
    exact (ps_asgC_all C sndAll k1 k2 k3 k5 k6).1
  · simp only [Bool.and_eq_true, Bool.or_eq_true, decide_eq_true_eq] at ok
    obtain ⟨⟨⟨k1, k2⟩, k3⟩, k4⟩ := ok
    exact ps_own_of C sndAll k1 k2 k3 k4
  · simp only [Bool.and_eq_true, Bool.or_eq_true, decide_eq_true_eq] at ok
    obtain ⟨⟨⟨⟨⟨k1, k2⟩, k3⟩, k4⟩, k5⟩, k6⟩ := ok
    exact (ps_asgC_all C sndAll k1 k2 k3 k5 k6).2
  · simp only [Bool.and_eq_true, Bool.or_eq_true, decide_eq_true_eq] at ok
    obtain ⟨⟨⟨⟨⟨⟨k1, k2⟩, k3⟩, k4⟩, k5⟩, k6⟩, k7⟩ := ok
    subst k5
    exact ps_app_of C sndAll k1 (visB_ok k2) k3 k4 k6 k7
  · simp only [Bool.and_eq_true, Bool.or_eq_true, decide_eq_true_eq] at ok
    obtain ⟨⟨⟨⟨⟨⟨k1, k2⟩, k3⟩, k4⟩, k5⟩, k6⟩, k7⟩ := ok
    subst k5
    exact ps_ext_of C sndAll k1 (visB_ok k2) k3 k4 k6 k7
  · simp only [Bool.and_eq_true, Bool.or_eq_true, decide_eq_true_eq] at ok
    obtain ⟨⟨⟨⟨⟨⟨⟨⟨k1, k2⟩, k3⟩, k4⟩, k5⟩, k6⟩, k7⟩, k8⟩, k9⟩ := ok
    exact ps_par2_of C sndAll k1 k2 k3 k4 k5 k6 k7 k8 k9
  · simp only [Bool.and_eq_true, Bool.or_eq_true, decide_eq_true_eq] at ok
    obtain ⟨⟨⟨⟨⟨⟨⟨⟨⟨⟨⟨⟨⟨k1, k2⟩, k3⟩, k4⟩, k5⟩, k6⟩, k7⟩, k8⟩, k9⟩, k10⟩, k11⟩, k12⟩, k13⟩, k14⟩ := ok
    exact ps_par3_of C sndAll k1 k2 k3 k4 k5 k6 k7 k8 k9 k10 k11 k12 k13 k14
  · simp only [Bool.and_eq_true] at ok
    exact ps_unp_of C sndAll ok.1.1 ok.1.2 ok.2
  · simp only [Bool.and_eq_true] at ok
    exact ps_if_of C sndAll ok.1.1.1 ok.1.1.2 (IH _ (by simp [Sm.subs]) _ ok.1.2) (IH _ (by simp [Sm.subs]) _ ok.2)
  · simp only [Bool.and_eq_true] at ok
    obtain ⟨⟨⟨⟨k1, k2⟩, k3⟩, k4⟩, k5⟩ := ok
    refine ps_for_of C sndAll k1 k2 k3 ?_ (IH _ (by simp [Sm.subs]) _ k5)
    split at k4
    · exact ⟨_, ‹_›, k4⟩
    · cases k4
  · simp only [Bool.and_eq_true] at ok
    exact ps_whl_of C sndAll ok.1.1 ok.1.2 (IH _ (by simp [Sm.subs]) _ ok.2)
  · exact ps_brk_of
  · exact ps_cnt_of
  · exact ps_pass_of
  · simp only [Bool.and_eq_true, decide_eq_true_eq] at ok
    exact ps_raise_of C ok.1.1 ok.1.2 ok.2
  · cases ok
theorem sts_cons_inv {N : List Str} {sc : Scope} {s : Sm} {ss : Sms} {sts : List Stmt} (ok : okSs tab glo N exn sc (.cons s ss) sts = true) : (∃ i, s = .rel i ∧ okSs tab glo N exn sc ss sts = true) ∨ ∃ st r, sts = st :: r ∧ okS tab glo N exn sc s st = true ∧ okSs tab glo N exn sc ss r = true := by
  by_cases h : ∃ i, s = .rel i
  · obtain ⟨i, rfl⟩ := h
    exact .inl ⟨i, rfl, by simpa only [okSs] using ok⟩
  · cases sts with
    | nil => cases s <;> first | (exact absurd ⟨_, rfl⟩ h) | (simp only [okSs, Bool.false_eq_true] at ok)
    | cons st r =>
      refine .inr ⟨st, r, rfl, ?_⟩
      cases s <;> first | (exact absurd ⟨_, rfl⟩ h) | (simpa only [okSs, Bool.and_eq_true] using ok)
mutual
theorem st_ok (C : CxtS G tab glo exn n k X Z) : ∀ (s : Sm) (st : Stmt), okS tab glo X.N exn X.env.scope s st = true → PS X st (tS G Z (ex (callF tab n) s))
  | .iff d a b, st, ok => by
    have h1 := sts_ok C a
    have h2 := sts_ok C b
    exact st_step C _ st ok fun ss h => by
      simp only [Sm.subs, List.mem_cons, List.not_mem_nil, or_false] at h
      rcases h with rfl | rfl
      · exact h1
      · exact h2
  | .for_ tg kk src b, st, ok => by
    have h1 := sts_ok C b
    exact st_step C _ st ok fun ss h => by
      simp only [Sm.subs, List.mem_cons, List.not_mem_nil, or_false] at h
      subst h
      exact h1
  | .whl d b, st, ok => by
    have h1 := sts_ok C b
    exact st_step C _ st ok fun ss h => by
      simp only [Sm.subs, List.mem_cons, List.not_mem_nil, or_false] at h
      subst h
      exact h1
  | .try_ a c b, st, ok => by
    have h1 := sts_ok C a
    have h2 := sts_ok C b
    exact st_step C _ st ok fun ss h => by
      simp only [Sm.subs, List.mem_cons, List.not_mem_nil, or_false] at h
      rcases h with rfl | rfl
      · exact h1
      · exact h2
  | .ret E, st, ok => st_step C _ st ok fun ss h => by simp [Sm.subs] at h
  | .retN, st, ok => st_step C _ st ok fun ss h => by simp [Sm.subs] at h
  | .expr E, st, ok => st_step C _ st ok fun ss h => by simp [Sm.subs] at h
  | .asg i E, st, ok => st_step C _ st ok fun ss h => by simp [Sm.subs] at h
  | .asgC i E, st, ok => st_step C _ st ok fun ss h => by simp [Sm.subs] at h
  | .own i E, st, ok => st_step C _ st ok fun ss h => by simp [Sm.subs] at h
  | .ownC i E, st, ok => st_step C _ st ok fun ss h => by simp [Sm.subs] at h
  | .rel i, st, ok => st_step C _ st ok fun ss h => by simp [Sm.subs] at h
  | .app i E, st, ok => st_step C _ st ok fun ss h => by simp [Sm.subs] at h
  | .ext i E, st, ok => st_step C _ st ok fun ss h => by simp [Sm.subs] at h
  | .par2 i j a b, st, ok => st_step C _ st ok fun ss h => by simp [Sm.subs] at h
  | .par3 i j l a b d, st, ok => st_step C _ st ok fun ss h => by simp [Sm.subs] at h
  | .unp g E, st, ok => st_step C _ st ok fun ss h => by simp [Sm.subs] at h
  | .brk, st, ok => st_step C _ st ok fun ss h => by simp [Sm.subs] at h
  | .cnt, st, ok => st_step C _ st ok fun ss h => by simp [Sm.subs] at h
  | .pass, st, ok => st_step C _ st ok fun ss h => by simp [Sm.subs] at h
  | .raise c, st, ok => st_step C _ st ok fun ss h => by simp [Sm.subs] at h
theorem sts_ok (C : CxtS G tab glo exn n k X Z) : ∀ (ss : Sms) (sts : List Stmt), okSs tab glo X.N exn X.env.scope ss sts = true → PSs X sts (tS G Z (exs (callF tab n) ss))
  | .nil, sts, ok => by
    cases sts with
    | nil => exact pss_nil_of
    | cons _ _ => simp only [okSs, Bool.false_eq_true] at ok
  | .cons s ss, sts, ok => by
    have h1 := st_ok C s
    have h2 := sts_ok C ss
    rcases sts_cons_inv ok with ⟨i, rfl, k⟩ | ⟨st, r, rfl, k1, k2⟩
    · exact pss_rel_of (h2 sts k)
    · exact pss_cons_of (h1 st k1) (h2 r k2)
end
end
end Ly
namespace Ly
open PySem PySem.Spec L2
open PyProof.Rows hiding St

def BindOk (fi : FnI) (d : He.DefD) : Prop := ∀ (kV doc pm : Value) (an : Option Addr) (cdv ct : Value) (us : List Value), us.length = (fi.N.take fi.np).length → bindArgs (PySem.W.fnOf d.name d.qual d.params d.body d.scope .none kV doc pm an cdv ct) ⟨us, []⟩ = pure ((fi.N.take fi.np).zip us)
def BindAll : List FnI → List He.DefD → Prop
  | fi :: t, d :: ds => BindOk fi d ∧ BindAll t ds
  | [], [] => True
  | _, _ => False
def scB (N P : List Str) (sc : Scope) : Bool := decide (sc.kind = .function) && !sc.isCoroutine && !sc.isGenerator && decide N.Nodup && decide (N.take P.length = P) && P.all (fun x => decide (sc.names.lookup x = some .local) || decide (sc.names.lookup x = some .cell)) && sc.names.all (fun y => decide (y.2 ≠ .free))
theorem scB_ok {N P : List Str} {sc : Scope} (h : scB N P sc = true) : FnScope N P sc := by
  unfold scB at h
  simp only [Bool.and_eq_true, decide_eq_true_eq, Bool.not_eq_true', List.all_eq_true, Bool.or_eq_true] at h
  obtain ⟨⟨⟨⟨⟨⟨h1, h2⟩, h3⟩, h4⟩, h5⟩, h6⟩, h7⟩ := h
  exact ⟨h1, h2, h3, h4, h5, h6, h7⟩
def okF (tab : List FnI) (glo : List (Str × T)) (exn : List Str) (fi : FnI) (d : He.DefD) : Bool := decide (d.name = fi.name) && decide (d.at_ = (fi.name, none)) && d.dfl.isEmpty && d.kwd.isEmpty && scB fi.N (fi.N.take fi.np) d.scope && decide (fi.np ≤ fi.N.length) && okSs tab glo fi.N exn d.scope fi.body d.body
def okAll (tab : List FnI) (glo : List (Str × T)) (exn : List Str) : List FnI → List He.DefD → Bool
  | fi :: t, d :: ds => okF tab glo exn fi d && okAll tab glo exn t ds
  | [], [] => true
  | _, _ => false
structure FnS (K : PySem.W.Frag) (mg : Str → Option Value) (tab : List FnI) (glo : List (Str × T)) (exn : List Str) (fi : FnI) (a : Addr) (fd : FuncData) : Prop where
  ex : ∃ d : He.DefD, FunD K fi.name d.qual d.params d.body d.scope [] [] a fd ∧ FnScope fi.N (fi.N.take fi.np) d.scope ∧ okSs tab glo fi.N exn d.scope fi.body d.body = true ∧ Binds K fd (fi.N.take fi.np) []
  bd : ∀ (s : Shared) (us : List Value), us.length = (fi.N.take fi.np).length → BindsTo s fd ⟨us, []⟩ ((fi.N.take fi.np).zip us)
  np : fi.np ≤ fi.N.length
  mg : mg fi.name = some (.ref a)
/-- what is known of the module -/
structure ModS (G : Glo) (K : PySem.W.Frag) (mg : Str → Option Value) (tab : List FnI) (glo : List (Str × T)) (exn : List Str) : Prop where
  hG : G.K = K
  fns : ∀ (f : Nat) fi, tab[f]? = some fi → ∃ a fd, FnS K mg tab glo exn fi a fd
  blt : ∀ x ∈ bltNames, mg x = none
  glo : ∀ x t, glo.lookup x = some t → ∃ u v, mg x = some u ∧ RelV v u ∧ ∀ F μ, Rep K F μ t v
  exc : ∀ (j : Nat) x, exn[j]? = some x → mg x = some (.ref (G.exc j)) ∧ PySem.W.excIn K (G.exc j) He.veBase "ValueError.__new__" = true ∧ PySem.W.keepIn K (.ref (G.exc j)) = true ∧ PySem.W.subIn K (.ref (G.exc j)) (.type "BaseException") = some true ∧ PySem.W.typeIn K (.ref (G.exc j)) = some (.type "type")

section
variable {G : Glo} {K : PySem.W.Frag} {mg : Str → Option Value} {tab : List FnI} {glo : List (Str × T)} {exn : List Str} {P : Program} {w : World} {base : Heap}
theorem env_start {F H : Hp} {μ : List Addr} {ts : List T} {vs : List V} {N : List Str} {np : Nat} (r : Reps K F μ ts vs) (hG : G.K = K) (hl : ts.length = np) (hn : np ≤ N.length) :
    EnvR G H F H μ (ts.map Sl.val ++ List.replicate (N.length - np) Sl.un) (L2.start N vs) := by
  have e := r.length
  have own0 : ∀ (i : Nat) l, (ts.map Sl.val ++ List.replicate (N.length - np) Sl.un)[i]? ≠ some (Sl.own l) := fun i l h => by
    have := List.mem_of_getElem? h
    simp at this
  refine ⟨by unfold L2.start; simp; omega, fun i t h => ?_, fun i l h => absurd h (own0 i l), fun i j l l' h => absurd h (own0 i l)⟩
  by_cases hi : i < ts.length
  · rw [List.getElem?_append_left (by simpa using hi), List.getElem?_map] at h
    cases q : ts[i]? with
    | none => rw [q] at h; cases h
    | some u =>
      rw [q] at h
      cases h
      obtain ⟨v, hv, rv⟩ := r.get q
      refine ⟨v, ?_, hG ▸ rv⟩
      unfold L2.start
      rw [List.getElem?_append_left (by simpa [← e] using hi), List.getElem?_map, hv]
      rfl
  · rw [List.getElem?_append_right (by simpa using hi)] at h
    have := List.mem_of_getElem? h
    simp at this
theorem post_fin {F H : Hp} {μ : List Addr} {Q : VK} {E : XK} {o : OutS} (h : PostF G F H μ E Q o.fin) : PostS G ⟨F, H, μ, fun cls d _ H' => E cls d H'⟩ F μ { nx := fun _ H' => Q .non H', rt := Q } o := by
  cases o with
  | stk => exact h
  | nx ρ S => exact fun σ' F' H' μ' g s => h .non F' H' μ' s.ext s.ok Rep.non'
  | rt t S => exact fun v F' H' μ' x k r => h v F' H' μ' x k r
  | bk ρ S => exact h.elim
  | ct ρ S => exact h.elim
  | ex c ρ S => exact fun σ' F' H' μ' g s => h F' H' μ' s.ext s.ok
theorem fn_ok (M : ModS G K mg tab glo exn) : ∀ (n : Nat) (f : Nat) (fi : FnI) (a : Addr) (fd : FuncData), tab[f]? = some fi → FnS K mg tab glo exn fi a fd → FnOk P w K mg base (L2.CX P w) n a fd (fi.N.take fi.np) (spF G tab n f)
  | 0, f, fi, a, fd, h, S => ⟨fun vs H Q E q => by
      obtain ⟨ts, F, μ, St, _, _, p⟩ := q
      exact p.elim, fun A outer s H args us vs Q E _ _ _ _ q => by
      obtain ⟨ts, F, μ, St, _, _, p⟩ := q
      exact p.elim⟩
  | n + 1, f, fi, a, fd, h, S => by
    have IH := fn_ok M n
    obtain ⟨d, FD, sc, oks, bd⟩ := S.ex
    have red : ∀ ts St, callF tab (n + 1) f ts St = run1 (callF tab n) fi ts St := fun ts St => by simp only [callF, h]
    have hlen : ∀ {H Q E F μ ts St}, PostF G F H μ E Q (callF tab (n + 1) f ts St) → ts.length = fi.np := fun {H Q E F μ ts St} p => by
      rw [red] at p
      unfold run1 at p
      split at p
      · assumption
      · exact p.elim
    refine FD.ok sc (fun vs H Q E q => ?_) fun cdv A outer s H vs Q E hr q => ?_
    · obtain ⟨ts, F, μ, St, r, _, p⟩ := q
      rw [List.length_take]
      have e1 := r.length
      have e2 := hlen p
      have := S.np
      omega
    · obtain ⟨ts, F, μ, St, r, k, p⟩ := q
      have hl := hlen p
      rw [red] at p
      unfold run1 at p
      rw [if_pos hl] at p
      have C : CxtS G tab glo exn n n (cxOf (L2.CX P w) P w K mg base fi.N d.qual d.scope a cdv A outer s H E) ⟨F, H, μ, fun cls dd _ H' => E cls dd H'⟩ :=
        { c := { hG := M.hG, calm := rfl, nd := sc.nd, room := hr, fns := fun f' fi' h' => by
                  obtain ⟨a', fd', S'⟩ := M.fns f' fi' h'
                  obtain ⟨d', FD', _, _, bd'⟩ := S'.ex
                  exact ⟨a', fd', _, S'.mg, FD'.kp, bd', IH f' fi' a' fd' h' S'⟩
                 blt := M.blt, glo := fun x t h => by
                  obtain ⟨u, v, h1, h2, h3⟩ := M.glo x t h
                  exact ⟨u, v, h1, h2, fun F μ => M.hG ▸ h3 F μ⟩
                 tk := takes_of rfl rfl rfl rfl }
          hp := passes_of rfl, fn := fun _ => rfl, kind := sc.kind, exc := fun j x h => by
            obtain ⟨e1, e2, e3, e4, e5⟩ := M.exc j x h
            exact ⟨e1, e2, e3, raises_own e4 e5⟩ }
      exact ⟨_, sts_ok C fi.body d.body oks, _, F, μ, St, ⟨.refl, env_start (M.hG ▸ r) M.hG hl S.np, k⟩, post_fin p⟩
end
end Ly
namespace Ly
open PySem PySem.Spec L2
open PyProof.Rows hiding St

def gloFa : Str × T → He.Fa
  | (x, .int i) => .int x i
  | (x, .str z) => .str x (tx z)
  | (x, _) => .glo x
def gloOk : Str × T → Bool
  | (_, .int _) => true
  | (_, .str z) => decide (z.length ≤ 1000) && z.all (fun c => decide (c < 1114112))
  | _ => false
def faOf (tab : List FnI) (glo : List (Str × T)) (exn : List Str) : List He.Fa :=
  tab.map (fun fi => .glo fi.name) ++ (bltNames.map He.Fa.free ++ (glo.map gloFa ++ (exn.map He.Fa.exc ++ exn.map He.Fa.glo)))
theorem okAll_get {tab0 : List FnI} {glo : List (Str × T)} {exn : List Str} : ∀ {tab : List FnI} {ds : List He.DefD}, okAll tab0 glo exn tab ds = true → BindAll tab ds → ∀ {i : Nat} {fi : FnI}, tab[i]? = some fi → ∃ d, ds[i]? = some d ∧ okF tab0 glo exn fi d = true ∧ BindOk fi d
  | [], _, _, _, i, fi, h => by simp at h
  | _ :: _, [], _, b, _, _, _ => by simp [BindAll] at b
  | f0 :: t, d0 :: ds, o, b, i, fi, h => by
    simp only [okAll, Bool.and_eq_true] at o
    simp only [BindAll] at b
    cases i with
    | zero => simp at h; subst h; exact ⟨d0, rfl, o.1, b.1⟩
    | succ i =>
      obtain ⟨d, h1, h2, h3⟩ := okAll_get o.2 b.2 (i := i) (by simpa using h)
      exact ⟨d, by simpa using h1, h2, h3⟩
theorem lookup_mem {x : Str} {t : T} : ∀ {l : List (Str × T)}, l.lookup x = some t → (x, t) ∈ l
  | [], h => by simp at h
  | (y, u) :: l, h => by
    rw [List.lookup_cons] at h
    split at h
    · rename_i q
      cases h
      rw [beq_iff_eq] at q
      subst q
      exact List.mem_cons_self
    · exact List.mem_cons_of_mem _ (lookup_mem h)
section
variable {K : PySem.W.Frag} {h : Heap} {mg : Str → Option Value} {tab : List FnI} {glo : List (Str × T)} {exn : List Str} {ds : List He.DefD}
abbrev glOf (K : PySem.W.Frag) (exn : List Str) : Glo := ⟨K, fun _ => 0, fun j => He.ga K (exn.getD j "")⟩
theorem mod_ok (X : K.In h) (N : h.Ns mainGlobals mg) (c : He.SaysD (faOf tab glo exn) ds K) (ok : okAll tab glo exn tab ds = true) (b : BindAll tab ds) (g : glo.all gloOk = true) : ModS (glOf K exn) K mg tab glo exn where
  hG := rfl
  fns := fun f fi hf => by
    obtain ⟨d, h1, h2, h3⟩ := okAll_get ok b hf
    unfold okF at h2
    simp only [Bool.and_eq_true, decide_eq_true_eq, List.isEmpty_iff] at h2
    obtain ⟨⟨⟨⟨⟨⟨e1, e2⟩, e3⟩, e4⟩, e5⟩, e6⟩, e7⟩ := h2
    obtain ⟨fd, FD⟩ := c.def_ f h1
    have k1 : d.dvs K = [] := by unfold He.DefD.dvs; rw [e3]; rfl
    have k2 : d.kws K = [] := by unfold He.DefD.kws; rw [e4]; rfl
    rw [k1, k2, e2] at FD
    have m : mg fi.name = some (.ref (He.ga K fi.name)) := He.glo_ok X N (c.facts (f := .glo fi.name) (by unfold faOf; exact List.mem_append_left _ (List.mem_map_of_mem (f := fun fi => He.Fa.glo fi.name) (List.mem_of_getElem? hf))))
    have FD2 := FD
    rw [e1] at FD2
    exact ⟨_, fd, ⟨d, FD2, scB_ok e5, e7, FD.bindsN h3⟩, fun s us hl => FD.bindsA h3 s us hl, e6, m⟩
  blt := fun x hx => He.free_ok X N (c.facts (f := .free x) (by unfold faOf; exact List.mem_append_right _ (List.mem_append_left _ (List.mem_map_of_mem hx))))
  glo := fun x t ht => by
    have mem := lookup_mem ht
    have gk := List.all_eq_true.mp g _ mem
    have fk := c.facts (f := gloFa (x, t)) (by unfold faOf; exact List.mem_append_right _ (List.mem_append_right _ (List.mem_append_left _ (List.mem_map_of_mem mem))))
    cases t <;> simp only [gloOk, Bool.false_eq_true] at gk
    · obtain ⟨u, hu⟩ := He.int_ok X N fk
      exact ⟨_, .int _, hu, ⟨u, rfl⟩, fun F μ => by simp [Rep]⟩
    · obtain ⟨u, hu⟩ := He.str_ok X N fk
      simp only [Bool.and_eq_true, decide_eq_true_eq, List.all_eq_true] at gk
      have : (1000 : Nat) ≤ sizeLine := by decide
      refine ⟨_, .str _, hu, ⟨u, rfl⟩, fun F μ => ?_⟩
      simp only [Rep]
      exact ⟨trivial, by omega, gk.2⟩
  exc := fun j x hj => by
    have mem := List.mem_of_getElem? hj
    have m := He.glo_ok X N (c.facts (f := .glo x) (by unfold faOf; exact List.mem_append_right _ (List.mem_append_right _ (List.mem_append_right _ (List.mem_append_right _ (List.mem_map_of_mem mem))))))
    have q := He.exc_ok (c.facts (f := .exc x) (by unfold faOf; exact List.mem_append_right _ (List.mem_append_right _ (List.mem_append_right _ (List.mem_append_left _ (List.mem_map_of_mem mem))))))
    have e : exn.getD j "" = x := by rw [List.getD_eq_getElem?_getD, hj]; rfl
    show mg x = some (.ref (He.ga K (exn.getD j ""))) ∧ PySem.W.excIn K (He.ga K (exn.getD j "")) He.veBase "ValueError.__new__" = true ∧ PySem.W.keepIn K (.ref (He.ga K (exn.getD j ""))) = true ∧ PySem.W.subIn K (.ref (He.ga K (exn.getD j ""))) (.type "BaseException") = some true ∧ PySem.W.typeIn K (.ref (He.ga K (exn.getD j ""))) = some (.type "type")
    rw [e]
    exact ⟨m, q⟩
/-- a law over the module: its def, from the plain law -/
theorem law_def {P : Program} {w : World} {n li : Nat} {fi : FnI} {x : Str} {f : Addr} (X : K.In h) (N : h.Ns mainGlobals mg) (c : He.SaysD (faOf tab glo exn) ds K) (ok : okAll tab glo exn tab ds = true) (b : BindAll tab ds) (g : glo.all gloOk = true)
    (hf : tab[li]? = some fi) (hx : fi.N.take fi.np = [x]) (hm : mg fi.name = some (.ref f)) (law : ∀ ns : List Int, ns.length ≤ 63 → ∃ S', callF tab n li [.scr ns] [] = .ok (.bl true) S') :
    ∃ (fd : FuncData) (sp : Sp), (∀ (s : Shared) (v : Value), BindsTo s fd ⟨[v], []⟩ [(x, v)]) ∧ (∀ (H : Hp) (a : Addr) (ns : List Int), ns.length ≤ 63 → SqL K H a (ns.map V.int) → sp [.ref a] H (fun v _ => v = .bl true) fun _ _ _ => False) ∧
      ∀ base : Heap, FnOk P w K mg base (L2.CX P w) n f fd [x] sp := by
  have M := mod_ok (tab := tab) X N c ok b g
  obtain ⟨d, h1, h2, h3⟩ := okAll_get ok b hf
  obtain ⟨a, fd, S⟩ := M.fns li fi hf
  have e : a = f := by
    have := S.mg.symm.trans hm
    cases this; rfl
  subst e
  obtain ⟨d', FD, _, _, _⟩ := S.ex
  refine ⟨fd, spF (glOf K exn) tab n li, ?_, fun H a ns hl sq => ?_, fun base => ?_⟩
  · intro s v
    have q := S.bd s [v] (by rw [hx]; rfl)
    rw [hx] at q
    exact q
  · obtain ⟨S', hS⟩ := law ns hl
    have : (63 : Nat) ≤ sizeLine := by decide
    refine ⟨[.scr ns], H, [], [], ?_, ⟨Same.refl _, rfl, List.nodup_nil, by simp, fun i c a h => by simp [Store.at] at h⟩, ?_⟩
    · simp only [Reps, Rep]
      exact ⟨_, _, rfl, ⟨a, rfl, sq, by omega⟩, rfl⟩
    · rw [hS]
      intro v F' H' μ' _ _ r
      simpa only [Rep] using r
  · have := fn_ok (P := P) (w := w) (base := base) M n li fi a fd hf S
    rw [hx] at this
    exact this
end
theorem walk_ofW {l : PySem.W.OpenLaw} {n k : Nat} {q : Program} {loose : List Str} {XP : (Str → Option Value) → Heap → Prop} {YP : World → Heap → Prop} {d : DefRec} {x : Str}
    (hn : l.most = some n) (hn2 : n ≤ sizeLine) (hdf : d.params.defaults = []) (hr : Room k callerA)
    (F : ∀ (w : World) (mg : Str → Option Value) (fa : Addr) (h : Heap), YP w h → h.Ns mainGlobals mg → mg d.name = some (.ref fa) →
      ∃ K : PySem.W.Frag, K.In h ∧ ∃ (fd : FuncData) (sp : Sp), (∀ (s : Shared) (u : Value), BindsTo s fd ⟨[u], []⟩ [(x, u)]) ∧
        (∀ (H : Hp) (a : Addr) (ns : List Int), ns.length ≤ n → SqL K H a (ns.map V.int) → sp [.ref a] H (fun v _ => v = .bl true) fun _ _ _ => False) ∧
        ∀ base : Heap, FnOk l.prog w K mg base (L2.CX l.prog w) k fa fd [x] sp) :
    PySem.W.WalkO q loose XP YP l.row.toRowW d [] (fun f vs => PySem.call f vs) := by
  refine Att.attach_call hn hdf fun w s₀ s₁ mg mb fa o pm cd doc a vs ns G Y ho hd hcd hmg hobj hints hlen hg => ?_
  obtain ⟨K, KX, fd, sp, hb, hsp, hF⟩ := F w mg fa _ Y G.T.g hmg
  exact law_call KX G.T.g G.T.b G.T.builtins G.T.nolimit hg hobj hints (Nat.le_trans hlen hn2) hr (fun base _ _ => hF base) hb (fun H _ hS => hsp H a ns hlen hS) fun H e s' z => by
    obtain ⟨_, _, _, _, _, _, _, _, _, _, _, _, z⟩ := z
    exact z
end Ly
namespace Ly
open PySem PySem.Spec L2
open PyProof.Rows hiding St
/-- no step of reckoning, but a rewriting -/
theorem prf {α : Sort _} {a b : α} (h : a = b) : a = b := h
/-! ### what a def answers -/
def Ev (tab : List FnI) (f : Nat) (args : List T) (r : T) (N : Nat) : Prop := ∀ n, N ≤ n → ∀ S, callF tab n f args S = .ok r S
theorem Ev.mono {tab : List FnI} {f : Nat} {args : List T} {r : T} {N M : Nat} (h : Ev tab f args r N) (l : N ≤ M) : Ev tab f args r M := fun n hn S => h n (Nat.le_trans l hn) S
theorem Ev.mk {tab : List FnI} {f : Nat} {fi : FnI} {args : List T} {r : T} {N : Nat} (h : tab[f]? = some fi) (hl : args.length = fi.np)
    (b : ∀ n, N ≤ n → ∀ S, (exs (callF tab n) fi.body (args.map Sl.val ++ List.replicate (fi.N.length - fi.np) Sl.un) S).fin = .ok r S) : Ev tab f args r (N + 1) := fun n hn S => by
  obtain ⟨m, rfl⟩ : ∃ m, n = m + 1 := ⟨n - 1, by omega⟩
  simp only [callF, h, run1, if_pos hl]
  exact b m (by omega) S
theorem call_ok {tab : List FnI} {f : Nat} {fi : FnI} {args : List T} {r : Out T} {n : Nat} {S : Store} (h : tab[f]? = some fi) (hl : args.length = fi.np)
    (b : (exs (callF tab n) fi.body (args.map Sl.val ++ List.replicate (fi.N.length - fi.np) Sl.un) S).fin = r) : callF tab (n + 1) f args S = r := by
  simp only [callF, h, run1, if_pos hl]
  exact b
theorem Out.bind_cg {α β : Type} {o o' : Out α} {f : α → Store → Out β} (h : o = o') : o.bind f = o'.bind f := by rw [h]
theorem Out.st_cg {α : Type} {o o' : Out α} {ρ : Lenv} {f : α → Store → OutS} (h : o = o') : o.st ρ f = o'.st ρ f := by rw [h]
theorem OutS.nxt_cg {o o' : OutS} {f : Lenv → Store → OutS} (h : o = o') : o.nxt f = o'.nxt f := by rw [h]
theorem Out.opt_cg {α β : Type} {o o' : Option α} {f : α → Out β} (h : o = o') : Out.opt o f = Out.opt o' f := by rw [h]
theorem optS_cg {α : Type} {o o' : Option α} {f : α → OutS} (h : o = o') : optS o f = optS o' f := by rw [h]
theorem ifBl_cg {r r' : T} {t f : Out T} (h : r = r') : ifBl r t f = ifBl r' t f := by rw [h]
section
variable {c : Call} {ρ : Lenv} {S : Store}
theorem bind_ok {α β : Type} {a : α} {f : α → Store → Out β} : (Out.ok a S).bind f = f a S := prf rfl
theorem st_ok' {α : Type} {a : α} {f : α → Store → OutS} : (Out.ok a S).st ρ f = f a S := prf rfl
theorem nxt_nx {f : Lenv → Store → OutS} : (OutS.nx ρ S).nxt f = f ρ S := prf rfl
theorem nxt_rt {f : Lenv → Store → OutS} {t : T} : (OutS.rt t S).nxt f = .rt t S := prf rfl
theorem nxt_ct {f : Lenv → Store → OutS} : (OutS.ct ρ S).nxt f = .ct ρ S := prf rfl
theorem nxt_bk {f : Lenv → Store → OutS} : (OutS.bk ρ S).nxt f = .bk ρ S := prf rfl
theorem opt_some {α β : Type} {a : α} {f : α → Out β} : Out.opt (some a) f = f a := prf rfl
theorem optS_some {α : Type} {a : α} {f : α → OutS} : optS (some a) f = f a := prf rfl
theorem of_some {α : Type} {a : α} : Out.of (some a) S = .ok a S := prf rfl
theorem ifBl_t {t f : Out T} : ifBl (.bl true) t f = t := prf rfl
theorem ifBl_f {t f : Out T} : ifBl (.bl false) t f = f := prf rfl
theorem ev_lit' {t : T} : ev c (.lit t) ρ S = .ok t S := by rw [ev]
theorem ev_glb' {x : Str} {t : T} : ev c (.glb x t) ρ S = .ok t S := by rw [ev]
theorem ev_var' {i : Nat} : ev c (.var i) ρ S = match ρ[i]? with | some (.val t) => .ok t S | _ => .stk := by first | (rw [ev]; done) | (rw [ev]; rfl)
theorem ev_neg' {i : Int} : ev c (.neg i) ρ S = .ok (.int (-i)) S := by rw [ev]
theorem ev_nop' : ev c .nop ρ S = .ok .non S := by rw [ev]
theorem ev_bin' {o : BOp} {a b : Ex} : ev c (.bin o a b) ρ S = (bor ρ a S (ev c a ρ S)).bind fun x S1 => (bor ρ b S1 (ev c b ρ S1)).bind fun y S2 => .of (binF o x y) S2 := by rw [ev]
theorem ev_cmp' {o : COp} {a b : Ex} : ev c (.cmp o a b) ρ S = (bor ρ a S (ev c a ρ S)).bind fun x S1 => (bor ρ b S1 (ev c b ρ S1)).bind fun y S2 => .of (cmpF o x y) S2 := by rw [ev]
theorem ev_chn' {o o' : COp} {a b d : Ex} : ev c (.chn o o' a b d) ρ S = (ev c a ρ S).bind fun x S1 => (ev c b ρ S1).bind fun y S2 => (Out.of (cmpF o x y) S2).bind fun r S3 =>
    ifBl r ((ev c d ρ S3).bind fun z S4 => .of (cmpF o' y z) S4) (.ok (.bl false) S3) := by rw [ev]
theorem ev_and' {a b : Ex} : ev c (.and a b) ρ S = (ev c a ρ S).bind fun x S1 => ifBl x (ev c b ρ S1) (.ok (.bl false) S1) := by rw [ev]
theorem ev_or' {a b : Ex} : ev c (.or a b) ρ S = (ev c a ρ S).bind fun x S1 => ifBl x (.ok (.bl true) S1) (ev c b ρ S1) := by rw [ev]
theorem ev_one' {a : Ex} : ev c (.one a) ρ S = ev c a ρ S := by rw [ev]
theorem ev_not' {a : Ex} : ev c (.not a) ρ S = (bor ρ a S (ev c a ρ S)).bind fun x S1 => .of (x.tru.map fun k => T.bl (!k)) S1 := by rw [ev]
theorem ev_ife' {d a b : Ex} : ev c (.ife d a b) ρ S = (ev c d ρ S).bind fun x S1 => match x.tru with | some true => ev c a ρ S1 | some false => ev c b ρ S1 | none => .stk := by first | (rw [ev]; done) | (rw [ev]; rfl)
theorem ev_tup' {es : Exs} : ev c (.tup es) ρ S = (evs c es ρ S).bind fun l S1 => if l.length ≤ 1000 then .ok (.tup l) S1 else .stk := by rw [ev]
theorem ev_lst' {es : Exs} : ev c (.lst es) ρ S = (evs c es ρ S).bind fun l S1 => if l.length ≤ 1000 then .ok (.lst l) S1 else .stk := by rw [ev]
theorem ev_sub' {a i : Ex} : ev c (.sub a i) ρ S = (bor ρ a S (ev c a ρ S)).bind fun x S1 => (ev c i ρ S1).bind fun y S2 => .of (T.sub? x y) S2 := by rw [ev]
theorem ev_slc' {a lo hi : Ex} : ev c (.slc a lo hi) ρ S = (bor ρ a S (ev c a ρ S)).bind fun x S1 => (ev c lo ρ S1).bind fun l S2 => Out.opt (optI lo l) fun l =>
    (ev c hi ρ S2).bind fun h S3 => Out.opt (optI hi h) fun h => .of (T.slc x l h) S3 := by rw [ev]
theorem ev_call' {f : Nat} {es : Exs} : ev c (.call f es) ρ S = (evs c es ρ S).bind fun l S1 => c f l S1 := by rw [ev]
theorem ev_bi' {b : Bi} {es : Exs} : ev c (.bi b es) ρ S = (evb c es ρ S).bind fun l S1 => .of (biF b l) S1 := by rw [ev]
theorem ev_mth' {m : Mt} {a : Ex} {es : Exs} : ev c (.mth m a es) ρ S = (ev c a ρ S).bind fun x S1 => (evb c es ρ S1).bind fun l S2 => .of (mtF m x l) S2 := by rw [ev]
theorem ev_isIS' {a : Ex} : ev c (.isIS a) ρ S = (bor ρ a S (ev c a ρ S)).bind fun x S1 => .of (isISf x) S1 := by rw [ev]
/-- an expression that is no name of a list of one's own -/
theorem bor_nb {a : Ex} {r : Out T} (h : nBor a = true) : bor ρ a S r = r := bor_id (nBor_ok h) ρ S r

/-! ### statements -/
noncomputable def nxS (c : Call) (ss : Sms) (o : OutS) : OutS := o.nxt fun ρ S => exs c ss ρ S
noncomputable def ifS (c : Call) (a b : Sms) (ρ : Lenv) (S : Store) : Option Bool → OutS
  | none => .stk
  | some true => exs c a ρ S
  | some false => exs c b ρ S
def ifE (c : Call) (a b : Ex) (ρ : Lenv) (S : Store) : Option Bool → Out T
  | some true => ev c a ρ S
  | some false => ev c b ρ S
  | none => .stk
theorem ifS_t {a b : Sms} : ifS c a b ρ S (some true) = exs c a ρ S := prf rfl
theorem ifS_f {a b : Sms} : ifS c a b ρ S (some false) = exs c b ρ S := prf rfl
theorem ifE_t {a b : Ex} : ifE c a b ρ S (some true) = ev c a ρ S := prf rfl
theorem ifE_f {a b : Ex} : ifE c a b ρ S (some false) = ev c b ρ S := prf rfl
theorem ev_ife2 {d a b : Ex} : ev c (.ife d a b) ρ S = (ev c d ρ S).bind fun x S1 => ifE c a b ρ S1 x.tru := by rw [ev]; rfl
theorem nxS_nx {ss : Sms} : nxS c ss (.nx ρ S) = exs c ss ρ S := prf rfl
theorem nxS_rt {ss : Sms} {t : T} : nxS c ss (.rt t S) = .rt t S := prf rfl
theorem nxS_bk {ss : Sms} : nxS c ss (.bk ρ S) = .bk ρ S := prf rfl
theorem nxS_ct {ss : Sms} : nxS c ss (.ct ρ S) = .ct ρ S := prf rfl
theorem nxS_ex {ss : Sms} {k : Nat} : nxS c ss (.ex k ρ S) = .ex k ρ S := prf rfl
theorem exs_nil' : exs c .nil ρ S = .nx ρ S := by rw [exs]
theorem exs_cons' {s : Sm} {ss : Sms} : exs c (.cons s ss) ρ S = nxS c ss (ex c s ρ S) := by rw [exs]; rfl
theorem ex_ret' {e : Ex} : ex c (.ret e) ρ S = (ev c e ρ S).st ρ fun t S => .rt t S := by rw [ex]
theorem ex_retN' : ex c .retN ρ S = .rt .non S := by rw [ex]
theorem ex_expr' {e : Ex} : ex c (.expr e) ρ S = (ev c e ρ S).st ρ fun _ S => .nx ρ S := by rw [ex]
theorem ex_asg' {i : Nat} {e : Ex} : ex c (.asg i e) ρ S = (ev c e ρ S).st ρ fun t S => .nx (ρ.set i (.val t)) S := by rw [ex]
theorem ex_asgC' {i : Nat} {e : Ex} : ex c (.asgC i e) ρ S = (ev c e ρ S).st ρ fun t S => .nx (ρ.set i (.val t)) S := by rw [ex]
def ownS (ρ : Lenv) (i : Nat) (b : Bool) : T → Store → OutS
  | .lst l, S => if b then .nx (ρ.set i (.own l)) S else .stk
  | _, _ => .stk
theorem ownS_l {i : Nat} {l : List T} : ownS ρ i true (.lst l) S = .nx (ρ.set i (.own l)) S := prf rfl
theorem ex_own' {i : Nat} {e : Ex} : ex c (.own i e) ρ S = (ev c e ρ S).st ρ (ownS ρ i (fresh e)) := by rw [ex]; congr 1; funext t S; cases t <;> rfl
theorem ex_ownC' {i : Nat} {e : Ex} : ex c (.ownC i e) ρ S = (ev c e ρ S).st ρ (ownS ρ i (fresh e)) := by rw [ex]; congr 1; funext t S; cases t <;> rfl
def relS' (ρ : Lenv) (i : Nat) (S : Store) : Option Sl → OutS
  | some (.own l) => .nx (ρ.set i (.val (.lst l))) S
  | some (.val _) => .nx ρ S
  | _ => .stk
theorem relS_o {i : Nat} {l : List T} : relS' ρ i S (some (.own l)) = .nx (ρ.set i (.val (.lst l))) S := prf rfl
theorem relS_v {i : Nat} {t : T} : relS' ρ i S (some (.val t)) = .nx ρ S := prf rfl
theorem ex_rel' {i : Nat} : ex c (.rel i) ρ S = relS' ρ i S ρ[i]? := by rw [ex]; rfl
def appS (ρ : Lenv) (i : Nat) (l : List T) (t : T) (S : Store) : OutS := if l.length < sizeLine then .nx (ρ.set i (.own (l ++ [t]))) S else .stk
theorem ex_app' {i : Nat} {e : Ex} : ex c (.app i e) ρ S = ownAt ρ i fun l => (ev c e ρ S).st ρ (appS ρ i l) := by rw [ex]; rfl
def extS (ρ : Lenv) (i : Nat) (l : List T) : T → Store → OutS
  | .lst m, S => if l.length + m.length ≤ sizeLine then .nx (ρ.set i (.own (l ++ m))) S else .stk
  | _, _ => .stk
theorem extS_l {i : Nat} {l m : List T} : extS ρ i l (.lst m) S = if l.length + m.length ≤ sizeLine then .nx (ρ.set i (.own (l ++ m))) S else .stk := prf rfl
theorem ex_ext' {i : Nat} {e : Ex} : ex c (.ext i e) ρ S = ownAt ρ i fun l => (ev c e ρ S).st ρ (extS ρ i l) := by
  rw [ex]
  unfold ownAt
  cases ρ[i]? with
  | none => rfl
  | some x =>
    cases x with
    | own l => exact congrArg ((ev c e ρ S).st ρ) (by funext t S; cases t <;> rfl)
    | _ => rfl
theorem ex_par2' {i j : Nat} {a b : Ex} : ex c (.par2 i j a b) ρ S = (ev c a ρ S).st ρ fun x S => (ev c b ρ S).st ρ fun y S => .nx ((ρ.set i (.val x)).set j (.val y)) S := by rw [ex]
theorem ex_par3' {i j k : Nat} {a b d : Ex} : ex c (.par3 i j k a b d) ρ S = (ev c a ρ S).st ρ fun x S => (ev c b ρ S).st ρ fun y S => (ev c d ρ S).st ρ fun z S => .nx (((ρ.set i (.val x)).set j (.val y)).set k (.val z)) S := by rw [ex]
theorem ex_unp' {tg : Tgs} {e : Ex} : ex c (.unp tg e) ρ S = (ev c e ρ S).st ρ fun t S => optS ((Tg.tp tg).put t ρ) fun ρ' => .nx ρ' S := by rw [ex]
theorem ex_iff' {d : Ex} {a b : Sms} : ex c (.iff d a b) ρ S = (bor ρ d S (ev c d ρ S)).st ρ fun t S => ifS c a b ρ S t.tru := by rw [ex]; rfl
theorem ex_brk' : ex c .brk ρ S = .bk ρ S := by rw [ex]
theorem ex_cnt' : ex c .cnt ρ S = .ct ρ S := by rw [ex]
theorem ex_pass' : ex c .pass ρ S = .nx ρ S := by rw [ex]
theorem ex_raise' {k : Nat} : ex c (.raise k) ρ S = .ex k ρ S := by rw [ex]
/-- a loop over what is known -/
theorem ex_for {tg : Tg} {kk : SK} {src : Exs} {body : Sms} {ts l : List T} {S1 : Store} (h1 : evs c src ρ S = .ok ts S1) (h2 : itemsF kk ts = some l) : ex c (.for_ tg kk src body) ρ S = forL (fun x ρ S => optS (tg.put x ρ) fun ρ' => exs c body ρ' S) l ρ S1 := by
  rw [ex, h1]
  simp only [Out.st, h2, optS]
/-! ### comprehensions -/
theorem compL_map {α : Type} {f : T → Store → Out (Option T)} {h : α → T} {g : α → T} : ∀ {l : List α}, (∀ a ∈ l, f (h a) S = .ok (some (g a)) S) → compL f (l.map h) S = .ok (l.map g) S
  | [], _ => rfl
  | a :: l, k => by
    rw [List.map_cons, compL, k a List.mem_cons_self]
    simp only [Out.bind]
    rw [compL_map fun b hb => k b (List.mem_cons_of_mem _ hb)]
    rfl
theorem compL_fil {α : Type} {f : T → Store → Out (Option T)} {h : α → T} {g : α → Option T} : ∀ {l : List α}, (∀ a ∈ l, f (h a) S = .ok (g a) S) → compL f (l.map h) S = .ok (l.filterMap g) S
  | [], _ => rfl
  | a :: l, k => by
    rw [List.map_cons, compL, k a List.mem_cons_self]
    simp only [Out.bind]
    rw [compL_fil fun b hb => k b (List.mem_cons_of_mem _ hb), List.filterMap_cons]
    cases g a <;> rfl
/-- [elt for tg in src] -/
theorem ev_lcm {α : Type} {elt : Ex} {tg : Tg} {kk : SK} {src : Exs} {ts : List T} (l : List α) (h : α → T) (g : α → T) (h1 : evb c src ρ S = .ok ts S) (h2 : itemsF kk ts = some (l.map h))
    (h3 : ∀ a ∈ l, ∃ ρ', tg.put (h a) (wipeR ρ tg.slots) = some ρ' ∧ ev c elt ρ' S = .ok (g a) S) : ev c (.lc elt tg kk src .nil) ρ S = .ok (.lst (l.map g)) S := by
  rw [ev, h1]
  simp only [Out.bind, h2, Out.opt]
  rw [compL_map (g := g) fun a ha => ?_]
  obtain ⟨ρ', e1, e2⟩ := h3 a ha
  simp only [e1, evs, Out.bind, allTru, if_true, e2, Out.noX]
/-- [elt for tg in src if cond] -/
theorem ev_lcf {α : Type} {elt cond : Ex} {tg : Tg} {kk : SK} {src : Exs} {ts : List T} (l : List α) (h : α → T) (g : α → Option T) (h1 : evb c src ρ S = .ok ts S) (h2 : itemsF kk ts = some (l.map h))
    (h3 : ∀ a ∈ l, ∃ ρ' t, tg.put (h a) (wipeR ρ tg.slots) = some ρ' ∧ ev c cond ρ' S = .ok t S ∧ ((t.tru = some true ∧ ∃ y, g a = some y ∧ ev c elt ρ' S = .ok y S) ∨ (t.tru = some false ∧ g a = none))) : ev c (.lc elt tg kk src (.cons cond .nil)) ρ S = .ok (.lst (l.filterMap g)) S := by
  rw [ev, h1]
  simp only [Out.bind, h2, Out.opt]
  rw [compL_fil (g := g) fun a ha => ?_]
  obtain ⟨ρ', t, e1, e2, e3⟩ := h3 a ha
  rcases e3 with ⟨e3, y, e4, e5⟩ | ⟨e3, e4⟩
  · simp [e1, evs, Out.bind, allTru, e2, e3, e4, e5, Out.noX]
  · simp [e1, evs, Out.bind, allTru, e2, e3, e4, Out.noX]
/-! ### loops -/
theorem forL_inv {α β : Type} {f : T → Lenv → Store → OutS} {h : α → T} (env : β → Lenv) (step : β → α → β) : ∀ {l : List α} {b : β}, (∀ a ∈ l, ∀ b, f (h a) (env b) S = .nx (env (step b a)) S) → forL f (l.map h) (env b) S = .nx (env (l.foldl step b)) S
  | [], b, _ => rfl
  | a :: l, b, k => by
    rw [List.map_cons, forL, k a List.mem_cons_self b]
    simp only [List.foldl_cons]
    exact forL_inv env step fun a ha b => k a (List.mem_cons_of_mem _ ha) b
theorem forL_nx {f : T → Lenv → Store → OutS} {x : T} {l : List T} {ρ' : Lenv} {S' : Store} (h : f x ρ S = .nx ρ' S') : forL f (x :: l) ρ S = forL f l ρ' S' := by rw [forL, h]
theorem forL_rt {f : T → Lenv → Store → OutS} {x t : T} {l : List T} {S' : Store} (h : f x ρ S = .rt t S') : forL f (x :: l) ρ S = .rt t S' := by rw [forL, h]
/-- a loop that goes on whatever its state -/
theorem forL_keep {α : Type} {f : T → Lenv → Store → OutS} {h : α → T} (P : Lenv → Prop) : ∀ {l : List α} {ρ : Lenv}, P ρ → (∀ a ∈ l, ∀ ρ, P ρ → ∃ ρ', f (h a) ρ S = .nx ρ' S ∧ P ρ') → ∃ ρ', forL f (l.map h) ρ S = .nx ρ' S ∧ P ρ'
  | [], ρ, p, _ => ⟨ρ, rfl, p⟩
  | a :: l, ρ, p, k => by
    obtain ⟨ρ1, e, p1⟩ := k a List.mem_cons_self ρ p
    obtain ⟨ρ2, e2, p2⟩ := forL_keep P p1 fun a ha => k a (List.mem_cons_of_mem _ ha)
    exact ⟨ρ2, by rw [List.map_cons, forL, e]; exact e2, p2⟩
end
end Ly
namespace Ly
inductive Tr where
  | word (x : List Nat) | held (a : Tr) | root (a : Tr) | over (a b : Tr)
  | script (a : Tr) (u d : Option Tr) | chain (a : Tr) (r : List (Nat × Tr)) | table (rows : List (List Tr))
def optT (f : Tr → T) : Option Tr → T
  | none => .non
  | some t => f t
def Tr.kids : Tr → List Tr
  | .word _ => []
  | .held a => [a]
  | .root a => [a]
  | .over a b => [a, b]
  | .script a u d => a :: (u.toList ++ d.toList)
  | .chain a r => a :: r.map (·.2)
  | .table rows => rows.flatten
theorem Tr.kids_lt {s p : Tr} (h : p ∈ s.kids) : sizeOf p < sizeOf s := by
  cases s with
  | word x => simp [kids] at h
  | held a => simp [kids] at h; subst h; simp
  | root a => simp [kids] at h; subst h; simp
  | over a b => simp [kids] at h; rcases h with rfl | rfl <;> (simp; try omega)
  | script a u d =>
    simp only [kids, List.mem_cons, List.mem_append, Option.mem_toList] at h
    rcases h with rfl | h | h
    · simp; omega
    · subst h; simp; omega
    · subst h; simp; omega
  | chain a r =>
    simp only [kids, List.mem_cons, List.mem_map] at h
    rcases h with rfl | ⟨q, hq, rfl⟩
    · simp; omega
    · have := List.sizeOf_lt_of_mem hq
      have : sizeOf q = 1 + sizeOf q.1 + sizeOf q.2 := by cases q; simp
      simp; omega
  | table rows =>
    simp only [kids, List.mem_flatten] at h
    obtain ⟨l, h1, h2⟩ := h
    have := List.sizeOf_lt_of_mem h1
    have := List.sizeOf_lt_of_mem h2
    simp; omega
theorem Tr.ind {P : Tr → Prop} (h : ∀ s, (∀ p ∈ s.kids, P p) → P s) (s : Tr) : P s := h s fun p hp => Tr.ind h p
termination_by sizeOf s
decreasing_by exact Tr.kids_lt hp
theorem Tr.lt_snd {p : Nat × Tr} {r : List (Nat × Tr)} (h : p ∈ r) : sizeOf p.2 < sizeOf r := by
  have := List.sizeOf_lt_of_mem h
  have : sizeOf p = 1 + sizeOf p.1 + sizeOf p.2 := by cases p; simp
  omega
theorem Tr.lt_row {p : Tr} {row : List Tr} {rows : List (List Tr)} (h : row ∈ rows) (h' : p ∈ row) : sizeOf p < sizeOf rows := by
  have := List.sizeOf_lt_of_mem h
  have := List.sizeOf_lt_of_mem h'
  omega
def Tr.toT : Tr → T
  | .word x => .tup [.str ([119, 111, 114, 100] : List Nat), .str x]
  | .held a => .tup [.str ([104, 101, 108, 100] : List Nat), a.toT]
  | .root a => .tup [.str ([114, 111, 111, 116] : List Nat), a.toT]
  | .over a b => .tup [.str ([111, 118, 101, 114] : List Nat), a.toT, b.toT]
  | .script a none none => .tup [.str ([115, 99, 114, 105, 112, 116] : List Nat), a.toT, .non, .non]
  | .script a (some u) none => .tup [.str ([115, 99, 114, 105, 112, 116] : List Nat), a.toT, u.toT, .non]
  | .script a none (some d) => .tup [.str ([115, 99, 114, 105, 112, 116] : List Nat), a.toT, .non, d.toT]
  | .script a (some u) (some d) => .tup [.str ([115, 99, 114, 105, 112, 116] : List Nat), a.toT, u.toT, d.toT]
  | .chain a r => .tup [.str ([99, 104, 97, 105, 110] : List Nat), a.toT, .tup (r.map fun p => .tup [.str [p.1], p.2.toT])]
  | .table rows => .tup [.str ([116, 97, 98, 108, 101] : List Nat), .tup (rows.map fun row => .tup (row.map fun p => p.toT))]
decreasing_by all_goals first | (simp; omega) | (simp; done) | (have := Tr.lt_snd ‹_ ∈ _›; simp; omega) | (have := Tr.lt_row ‹_› ‹_›; simp; omega) | decreasing_tactic

def Tr.ht : Tr → Nat
  | .word _ => 1
  | .held a => 1 + a.ht
  | .root a => 1 + a.ht
  | .over a b => 1 + max a.ht b.ht
  | .script a none none => 1 + a.ht
  | .script a (some u) none => 1 + max a.ht u.ht
  | .script a none (some d) => 1 + max a.ht d.ht
  | .script a (some u) (some d) => 1 + max a.ht (max u.ht d.ht)
  | .chain a r => 1 + max a.ht ((r.map fun p => p.2.ht).foldr max 0)
  | .table rows => 1 + (rows.map fun row => (row.map fun p => p.ht).foldr max 0).foldr max 0
decreasing_by all_goals first | (simp; omega) | (simp; done) | (have := Tr.lt_snd ‹_ ∈ _›; simp; omega) | (have := Tr.lt_row ‹_› ‹_›; simp; omega) | decreasing_tactic
theorem Tr.tup (s : Tr) : ∃ l, s.toT = .tup l := by
  cases s with
  | script a u d => cases u <;> cases d <;> exact ⟨_, by rw [Tr.toT]⟩
  | _ => exact ⟨_, by rw [Tr.toT]⟩
theorem Tr.isNon (s : Tr) : s.toT.isNon = false := by
  obtain ⟨l, h⟩ := s.tup
  rw [h]; rfl
theorem foldr_le {l : List Nat} {x : Nat} (h : x ∈ l) : x ≤ l.foldr max 0 := by
  induction l with
  | nil => simp at h
  | cons a l ih =>
    simp only [List.foldr_cons]
    rcases List.mem_cons.mp h with rfl | h
    · exact Nat.le_max_left _ _
    · exact Nat.le_trans (ih h) (Nat.le_max_right _ _)
theorem Tr.ht_lt {s p : Tr} (h : p ∈ s.kids) : p.ht < s.ht := by
  cases s with
  | word x => simp [kids] at h
  | held a => simp [kids] at h; subst h; simp [Tr.ht]; try omega
  | root a => simp [kids] at h; subst h; simp [Tr.ht]; try omega
  | over a b => simp [kids] at h; rcases h with rfl | rfl <;> (simp [Tr.ht]; try omega)
  | script a u d =>
    cases u <;> cases d <;> simp [kids] at h
    · subst h; simp [Tr.ht]; try omega
    · rcases h with rfl | rfl <;> (simp [Tr.ht]; try omega)
    · rcases h with rfl | rfl <;> (simp [Tr.ht]; try omega)
    · rcases h with rfl | rfl | rfl <;> (simp [Tr.ht]; try omega)
  | chain a r =>
    simp only [kids, List.mem_cons, List.mem_map] at h
    rcases h with rfl | ⟨q, hq, rfl⟩
    · simp [Tr.ht]; omega
    · have := foldr_le (List.mem_map_of_mem (f := fun p : Nat × Tr => p.2.ht) hq)
      simp only [Tr.ht]; omega
  | table rows =>
    simp only [kids, List.mem_flatten] at h
    obtain ⟨l, h1, h2⟩ := h
    have := foldr_le (List.mem_map_of_mem (f := fun p : Tr => p.ht) h2)
    have := foldr_le (List.mem_map_of_mem (f := fun row : List Tr => (row.map fun p => p.ht).foldr max 0) h1)
    simp only [Tr.ht]; omega
theorem Tr.ht_pos (s : Tr) : 1 ≤ s.ht := by
  cases s with
  | script a u d => cases u <;> cases d <;> simp [Tr.ht] <;> omega
  | _ => simp [Tr.ht] <;> omega
/-- what a sum asks of its own parts' number -/
def Tr.nd : Tr → Prop
  | .word x => 1 ≤ x.length ∧ x.length ≤ 1000
  | .script _ u d => u.isSome = true ∨ d.isSome = true
  | .chain _ r => 1 ≤ r.length ∧ r.length ≤ 1000
  | .table rows => rows ≠ [] ∧ rows.length ≤ 1000 ∧ ∃ w, 1 ≤ w ∧ w ≤ 1000 ∧ ∀ row ∈ rows, row.length = w
  | _ => True
inductive Tr.Wf : Tr → Prop
  | mk (s : Tr) : s.nd → (∀ p ∈ s.kids, p.Wf) → s.Wf
theorem Tr.Wf.n {s : Tr} (h : s.Wf) : s.nd := by cases h; assumption
theorem Tr.Wf.k {s : Tr} (h : s.Wf) : ∀ p ∈ s.kids, p.Wf := by cases h; assumption
/-! ### drawn sums -/
def Tr.isChain : Tr → Bool
  | .chain _ _ => true
  | _ => false
def Tr.isBase : Tr → Bool
  | .word _ => true
  | .held _ => true
  | .table _ => true
  | _ => false
theorem Tr.base_nc {s : Tr} (h : s.isBase = true) : s.isChain = false := by cases s <;> simp_all [isBase, isChain]
def atoms : List (List Nat) := [[97], [98], [120, 49], [108, 111, 110, 103], [55], [97, 98, 99, 100, 101, 102]]
def sgns : List Nat := [43, 45, 42, 61, 60]
def Tr.gd : Tr → Prop
  | .word x => x ∈ atoms
  | .script a u d => a.isBase = true ∧ (u.isSome = true ∨ d.isSome = true)
  | .chain a r => a.isChain = false ∧ 1 ≤ r.length ∧ r.length ≤ 3 ∧ ∀ p ∈ r, p.1 ∈ sgns ∧ p.2.isChain = false
  | .table rows => 1 ≤ rows.length ∧ rows.length ≤ 3 ∧ ∃ w, 1 ≤ w ∧ w ≤ 3 ∧ ∀ row ∈ rows, row.length = w
  | _ => True
inductive Tr.Dr : Tr → Prop
  | mk (s : Tr) : s.gd → (∀ p ∈ s.kids, p.Dr) → s.Dr
theorem Tr.Dr.n {s : Tr} (h : s.Dr) : s.gd := by cases h; assumption
theorem Tr.Dr.k {s : Tr} (h : s.Dr) : ∀ p ∈ s.kids, p.Dr := by cases h; assumption
theorem Tr.gd_nd {s : Tr} (h : s.gd) : s.nd := by
  cases s <;> simp only [gd, nd] at h ⊢
  · simp only [atoms, List.mem_cons, List.not_mem_nil, or_false] at h
    rcases h with rfl | rfl | rfl | rfl | rfl | rfl <;> simp
  · exact h.2
  · omega
  · obtain ⟨h1, h2, w, h3, h4, h5⟩ := h
    exact ⟨fun q => by rw [q] at h1; simp at h1, by omega, w, h3, by omega, h5⟩
theorem Tr.Dr.wf : ∀ {s : Tr}, s.Dr → s.Wf := fun {s} => Tr.ind (P := fun s => s.Dr → s.Wf) (fun s IH h => ⟨s, Tr.gd_nd h.n, fun p hp => IH p hp (h.k p hp)⟩) s
theorem Tr.ht_held {a : Tr} : (Tr.held a).ht = 1 + a.ht := by rw [Tr.ht]
/-- a height from the parts' heights -/
theorem Tr.ht_of {s : Tr} {L : Nat} (h : ∀ p ∈ s.kids, p.ht ≤ L) : s.ht ≤ L + 1 := by
  have fl : ∀ (l : List Nat) (M : Nat), (∀ x ∈ l, x ≤ M) → l.foldr max 0 ≤ M := fun l M => by
    induction l with
    | nil => intro _; simp
    | cons a l ih =>
      intro h
      simp only [List.foldr_cons]
      exact Nat.max_le.mpr ⟨h a List.mem_cons_self, ih fun x hx => h x (List.mem_cons_of_mem _ hx)⟩
  cases s with
  | word x => simp [Tr.ht]
  | held a => have := h a (by simp [kids]); simp only [Tr.ht]; omega
  | root a => have := h a (by simp [kids]); simp only [Tr.ht]; omega
  | over a b => have := h a (by simp [kids]); have := h b (by simp [kids]); simp only [Tr.ht]; omega
  | script a u d =>
    have := h a (by simp [kids])
    cases u with
    | none => cases d with
      | none => simp only [Tr.ht]; omega
      | some d => have := h d (by simp [kids]); simp only [Tr.ht]; omega
    | some u => cases d with
      | none => have := h u (by simp [kids]); simp only [Tr.ht]; omega
      | some d => have := h d (by simp [kids]); have := h u (by simp [kids]); simp only [Tr.ht]; omega
  | chain a r =>
    have := h a (by simp [kids])
    have := fl (r.map fun p => p.2.ht) L fun x hx => by
      obtain ⟨p, hp, rfl⟩ := List.mem_map.mp hx
      exact h _ (by simp only [kids, List.mem_cons, List.mem_map]; exact .inr ⟨p, hp, rfl⟩)
    simp only [Tr.ht]; omega
  | table rows =>
    have := fl (rows.map fun row => (row.map fun p => p.ht).foldr max 0) L fun x hx => by
      obtain ⟨row, hr, rfl⟩ := List.mem_map.mp hx
      refine fl _ L fun y hy => ?_
      obtain ⟨p, hp, rfl⟩ := List.mem_map.mp hy
      exact h p (List.mem_flatten_of_mem hr hp)
    simp only [Tr.ht]; omega
/-! ### boxes -/
abbrev Bx := Int × Int × Int
def Bx.high (b : Bx) : Int := b.2.1 + b.2.2 + 1
def chainBox (l : List Bx) : Bx := ((l.map (·.1)).sum + 3 * ((l.length : Int) - 1), maxI (l.map (·.2.1)), maxI (l.map (·.2.2)))
def tabCols (rows : List (List Bx)) : List Int := (List.range (rows.headD []).length).map fun k => maxI (rows.map fun row => (row.getD k (0, 0, 0)).1)
def tabHigh (rows : List (List Bx)) : Int := (rows.map fun row => maxI (row.map (·.2.1)) + maxI (row.map (·.2.2)) + 1).sum + (rows.length : Int) - 1
def tabBox (rows : List (List Bx)) : Bx := ((tabCols rows).sum + 2 * (((tabCols rows).length : Int) - 1) + 2, tabHigh rows / 2, tabHigh rows - 1 - tabHigh rows / 2)
def Tr.bx : Tr → Bx
  | .word x => (x.length, 0, 0)
  | .held a => ((bx a).1 + 2, (bx a).2.1, (bx a).2.2)
  | .root a => ((bx a).1 + 1, (bx a).2.1 + 1, (bx a).2.2)
  | .over a b => (max (bx a).1 (bx b).1 + 2, (bx a).2.1 + (bx a).2.2 + 1, (bx b).2.1 + (bx b).2.2 + 1)
  | .script a none none => bx a
  | .script a (some u) none => ((bx a).1 + (bx u).1, (bx a).2.1 + ((bx u).2.1 + (bx u).2.2 + 1), (bx a).2.2 + 0)
  | .script a none (some d) => ((bx a).1 + (bx d).1, (bx a).2.1 + 0, (bx a).2.2 + ((bx d).2.1 + (bx d).2.2 + 1))
  | .script a (some u) (some d) => ((bx a).1 + max (bx u).1 (bx d).1, (bx a).2.1 + ((bx u).2.1 + (bx u).2.2 + 1), (bx a).2.2 + ((bx d).2.1 + (bx d).2.2 + 1))
  | .chain a r => chainBox (bx a :: r.map fun p => bx p.2)
  | .table rows => tabBox (rows.map fun row => row.map fun p => bx p)
decreasing_by all_goals first | (simp; omega) | (simp; done) | (have := Tr.lt_snd ‹_ ∈ _›; simp; omega) | (have := Tr.lt_row ‹_› ‹_›; simp; omega) | decreasing_tactic
theorem maxI_nn {l : List Int} (h : ∀ x ∈ l, 0 ≤ x) : 0 ≤ maxI l := by
  induction l with
  | nil => simp [maxI]
  | cons a l ih =>
    cases l with
    | nil => simpa [maxI] using h a (by simp)
    | cons b l => simp only [maxI]; have := h a (by simp); omega
theorem sum_nn {l : List Int} (h : ∀ x ∈ l, 0 ≤ x) : 0 ≤ l.sum := by
  induction l with
  | nil => simp
  | cons a l ih =>
    rw [List.sum_cons]
    have := h a (by simp)
    have := ih fun x hx => h x (by simp [hx])
    omega
theorem Tr.bx_nn : ∀ s : Tr, s.Wf → 0 ≤ s.bx.1 ∧ 0 ≤ s.bx.2.1 ∧ 0 ≤ s.bx.2.2 := Tr.ind fun s IH W => by
  have K : ∀ p ∈ s.kids, 0 ≤ p.bx.1 ∧ 0 ≤ p.bx.2.1 ∧ 0 ≤ p.bx.2.2 := fun p hp => IH p hp (W.k p hp)
  cases s with
  | word x => simp only [Tr.bx]; omega
  | held a => have := K a (by simp [kids]); simp only [Tr.bx]; omega
  | root a => have := K a (by simp [kids]); simp only [Tr.bx]; omega
  | over a b => have := K a (by simp [kids]); have := K b (by simp [kids]); simp only [Tr.bx]; omega
  | script a u d =>
    have := K a (by simp [kids])
    cases u with
    | none => cases d with
      | none => simp only [Tr.bx]; omega
      | some d => have := K d (by simp [kids]); simp only [Tr.bx]; omega
    | some u => cases d with
      | none => have := K u (by simp [kids]); simp only [Tr.bx]; omega
      | some d => have := K d (by simp [kids]); have := K u (by simp [kids]); simp only [Tr.bx]; omega
  | chain a r =>
    have k1 := K a (by simp [kids])
    have k2 : ∀ p ∈ r, 0 ≤ p.2.bx.1 ∧ 0 ≤ p.2.bx.2.1 ∧ 0 ≤ p.2.bx.2.2 := fun p hp => K _ (by simp only [kids, List.mem_cons, List.mem_map]; exact .inr ⟨p, hp, rfl⟩)
    simp only [Tr.bx, chainBox, List.map_cons, List.map_map, Function.comp_def]
    refine ⟨?_, maxI_nn fun x hx => ?_, maxI_nn fun x hx => ?_⟩
    · have := sum_nn (l := a.bx.1 :: r.map fun p => p.2.bx.1) fun x hx => by
        rcases List.mem_cons.mp hx with rfl | hx
        · exact k1.1
        · obtain ⟨p, hp, rfl⟩ := List.mem_map.mp hx
          exact (k2 p hp).1
      simp only [List.length_cons]; omega
    · rcases List.mem_cons.mp hx with rfl | hx
      · exact k1.2.1
      · obtain ⟨p, hp, rfl⟩ := List.mem_map.mp hx
        exact (k2 p hp).2.1
    · rcases List.mem_cons.mp hx with rfl | hx
      · exact k1.2.2
      · obtain ⟨p, hp, rfl⟩ := List.mem_map.mp hx
        exact (k2 p hp).2.2
  | table rows =>
    obtain ⟨w1, w2, w, w3, w4, w5⟩ : rows ≠ [] ∧ rows.length ≤ 1000 ∧ ∃ w, 1 ≤ w ∧ w ≤ 1000 ∧ ∀ row ∈ rows, row.length = w := W.n
    have k2 : ∀ row ∈ rows, ∀ p ∈ row, 0 ≤ p.bx.1 ∧ 0 ≤ p.bx.2.1 ∧ 0 ≤ p.bx.2.2 := fun row hr p hp => K _ (List.mem_flatten_of_mem hr hp)
    have hh : 1 ≤ tabHigh (rows.map fun row => row.map fun p => p.bx) := by
      unfold tabHigh
      rw [List.map_map, List.length_map]
      obtain ⟨r0, rs, rfl⟩ : ∃ r0 rs, rows = r0 :: rs := by
        cases rows with
        | nil => exact absurd rfl w1
        | cons a l => exact ⟨a, l, rfl⟩
      rw [List.map_cons, List.sum_cons]
      have g : ∀ row ∈ r0 :: rs, 1 ≤ ((fun row : List Bx => maxI (row.map (·.2.1)) + maxI (row.map (·.2.2)) + 1) ∘ fun row : List Tr => row.map fun p => p.bx) row := fun row hr => by
        simp only [Function.comp, List.map_map]
        have a1 : 0 ≤ maxI (row.map ((fun x : Bx => x.2.1) ∘ fun p : Tr => p.bx)) := maxI_nn fun x hx => by
          obtain ⟨p, hp, rfl⟩ := List.mem_map.mp hx
          exact (k2 row hr p hp).2.1
        have a2 : 0 ≤ maxI (row.map ((fun x : Bx => x.2.2) ∘ fun p : Tr => p.bx)) := maxI_nn fun x hx => by
          obtain ⟨p, hp, rfl⟩ := List.mem_map.mp hx
          exact (k2 row hr p hp).2.2
        omega
      have := g r0 (by simp)
      have : 0 ≤ (rs.map ((fun row : List Bx => maxI (row.map (·.2.1)) + maxI (row.map (·.2.2)) + 1) ∘ fun row : List Tr => row.map fun p => p.bx)).sum := sum_nn fun x hx => by
        obtain ⟨row, hr, rfl⟩ := List.mem_map.mp hx
        have := g row (by simp [hr])
        omega
      simp only [List.length_cons]
      omega
    simp only [Tr.bx, tabBox]
    refine ⟨?_, by omega, by omega⟩
    have : 0 ≤ (tabCols (rows.map fun row => row.map fun p => p.bx)).sum := sum_nn fun x hx => by
      unfold tabCols at hx
      obtain ⟨k, hk, rfl⟩ := List.mem_map.mp hx
      refine maxI_nn fun x hx => ?_
      obtain ⟨row, hr, rfl⟩ := List.mem_map.mp hx
      obtain ⟨row2, hr2, rfl⟩ := List.mem_map.mp hr
      by_cases h : k < row2.length
      · rw [List.getD_eq_getElem?_getD, List.getElem?_map, List.getElem?_eq_getElem h]
        exact (k2 row2 hr2 _ (List.getElem_mem h)).1
      · rw [List.getD_eq_getElem?_getD, List.getElem?_map, List.getElem?_eq_none (by omega)]
        decide
    have hl : 1 ≤ (tabCols (rows.map fun row => row.map fun p => p.bx)).length := by
      unfold tabCols
      rw [List.length_map, List.length_range]
      obtain ⟨r0, rs, rfl⟩ : ∃ r0 rs, rows = r0 :: rs := by
        cases rows with
        | nil => exact absurd rfl w1
        | cons a l => exact ⟨a, l, rfl⟩
      have := w5 r0 (by simp)
      simp; omega
    omega
def boxT (b : Bx) : T := .tup [.int b.1, .int b.2.1, .int b.2.2]
theorem allInt_mp {α : Type} (f : α → Int) : ∀ l : List α, allInt (l.map fun a => T.int (f a)) = some (l.map f)
  | [] => rfl
  | a :: l => by simp [allInt, allInt_mp f l]
theorem max_lst {α : Type} (f : α → Int) {l : List α} (h : l ≠ []) : biF .max [.lst (l.map fun a => T.int (f a))] = some (.int (maxI (l.map f))) := by
  cases l with
  | nil => exact absurd rfl h
  | cons a l =>
    have := allInt_mp f (a :: l)
    rw [List.map_cons] at this
    simp only [biF, List.map_cons, this]
theorem sum_lst {α : Type} (f : α → Int) (l : List α) : biF .sum [.lst (l.map fun a => T.int (f a))] = some (.int (l.map f).sum) := by
  simp only [biF, allInt_mp, Option.map_some]
end Ly
namespace Ly
open PySem PySem.Spec L2
open PyProof.Rows hiding St
theorem add_i {i j : Int} : T.add (.int i) (.int j) = some (.int (i + j)) := prf rfl
theorem add_s {x y : List Nat} : T.add (.str x) (.str y) = if x.length + y.length ≤ sizeLine then some (.str (x ++ y)) else none := prf rfl
theorem add_t {x y : List T} : T.add (.tup x) (.tup y) = if x.length + y.length ≤ sizeLine then some (.tup (x ++ y)) else none := prf rfl
theorem add_l {x y : List T} : T.add (.lst x) (.lst y) = if x.length + y.length ≤ sizeLine then some (.lst (x ++ y)) else none := prf rfl
theorem sub_i {i j : Int} : T.sub (.int i) (.int j) = some (.int (i - j)) := prf rfl
theorem mul_i {i j : Int} : T.mul (.int i) (.int j) = if mulOk i j then some (.int (i * j)) else none := prf rfl
theorem mul_il {i j : Int} (h : (decide (-18446744073709551616 < i) && decide (i < 18446744073709551616)) = true) : T.mul (.int i) (.int j) = some (.int (i * j)) := by
  rw [mul_i, if_pos]
  simp only [Bool.and_eq_true, decide_eq_true_eq] at h
  simp [mulOk]; omega
theorem mul_ir {i j : Int} (h : (decide (-18446744073709551616 < j) && decide (j < 18446744073709551616)) = true) : T.mul (.int i) (.int j) = some (.int (i * j)) := by
  rw [mul_i, if_pos]
  simp only [Bool.and_eq_true, decide_eq_true_eq] at h
  simp [mulOk]; omega
theorem mul_s {x : List Nat} {k : Int} : T.mul (.str x) (.int k) = if x.length * k.toNat ≤ sizeLine ∧ k < 2 ^ 62 ∧ -(2 ^ 62) < k then some (.str (reps x k)) else none := prf rfl
theorem fdv_i {i j : Int} : T.fdv (.int i) (.int j) = if 0 < j ∧ j < 1073741824 then some (.int (i / j)) else none := prf rfl
theorem mod_i {i j : Int} : T.mod (.int i) (.int j) = if 0 < j then some (.int (i % j)) else none := prf rfl
theorem lt_i {i j : Int} : T.lt (.int i) (.int j) = some (decide (i < j)) := prf rfl
theorem lt_s {i j : List Nat} : T.lt (.str i) (.str j) = some (strLt i j) := prf rfl
theorem le_i {i j : Int} : T.le (.int i) (.int j) = some (decide (i ≤ j)) := prf rfl
theorem le_s {i j : List Nat} : T.le (.str i) (.str j) = some (!strLt j i) := prf rfl
theorem fin_rt {t : T} {S : Store} : (OutS.rt t S).fin = .ok t S := prf rfl
theorem fin_nx {ρ : Lenv} {S : Store} : (OutS.nx ρ S).fin = .ok .non S := prf rfl
theorem fin_ex {c : Nat} {ρ : Lenv} {S : Store} : (OutS.ex c ρ S).fin = .exc c S := prf rfl
theorem ixOf_lt {n i : Nat} (h : i < n) : ixOf n (i : Nat) = some i := by
  unfold ixOf
  rw [if_pos (by omega), if_pos (by omega)]
  simp
theorem sub_tk {l : List T} {i : Nat} {t : T} (h : l[i]? = some t) : T.sub? (.tup l) (.int (i : Nat)) = some t := by
  have : i < l.length := (List.getElem?_eq_some_iff.mp h).1
  simp only [T.sub?, ixOf_lt this, Option.bind_some, h]
theorem sub_lk {l : List T} {i : Nat} {t : T} (h : l[i]? = some t) : T.sub? (.lst l) (.int (i : Nat)) = some t := by
  have : i < l.length := (List.getElem?_eq_some_iff.mp h).1
  simp only [T.sub?, ixOf_lt this, Option.bind_some, h]
theorem sub_sk {l : List Nat} {i : Nat} {t : Nat} (h : l[i]? = some t) : T.sub? (.str l) (.int (i : Nat)) = some (.str [t]) := by
  have : i < l.length := (List.getElem?_eq_some_iff.mp h).1
  simp only [T.sub?, ixOf_lt this, Option.bind_some, h, Option.map_some]
section
variable {a b d e : T} {l : List T}
theorem sub_t0 : T.sub? (.tup (a :: l)) (.int 0) = some a := sub_tk (i := 0) rfl
theorem sub_t1 : T.sub? (.tup (a :: b :: l)) (.int 1) = some b := sub_tk (i := 1) rfl
theorem sub_t2 : T.sub? (.tup (a :: b :: d :: l)) (.int 2) = some d := sub_tk (i := 2) rfl
theorem sub_t3 : T.sub? (.tup (a :: b :: d :: e :: l)) (.int 3) = some e := sub_tk (i := 3) rfl
theorem sub_l0 : T.sub? (.lst (a :: l)) (.int 0) = some a := sub_lk (i := 0) rfl
theorem sub_l1 : T.sub? (.lst (a :: b :: l)) (.int 1) = some b := sub_lk (i := 1) rfl
theorem sub_l2 : T.sub? (.lst (a :: b :: d :: l)) (.int 2) = some d := sub_lk (i := 2) rfl
theorem sub_l3 : T.sub? (.lst (a :: b :: d :: e :: l)) (.int 3) = some e := sub_lk (i := 3) rfl
theorem cut1 {α : Type} {a : α} {l : List α} : cutL (a :: l) (some 1) none = l := by
  unfold cutL clip
  simp
theorem cut2 {α : Type} {a b : α} {l : List α} : cutL (a :: b :: l) (some 2) none = l := by
  unfold cutL clip
  simp
theorem slc_t1 : T.slc (.tup (a :: l)) (some 1) none = some (.tup l) := by rw [T.slc, cut1]
theorem slc_t2 : T.slc (.tup (a :: b :: l)) (some 2) none = some (.tup l) := by rw [T.slc, cut2]
end
section
variable {ρ : Lenv} {S : Store} {r : Out T}
theorem bor_lit (t : T) : bor ρ (.lit t) S r = r := prf rfl
theorem bor_glb (x : Str) (t : T) : bor ρ (.glb x t) S r = r := prf rfl
theorem bor_var (i : Nat) : bor ρ (.var i) S r = r := prf rfl
theorem bor_bin (o : BOp) (a b : Ex) : bor ρ (.bin o a b) S r = r := prf rfl
theorem bor_neg (i : Int) : bor ρ (.neg i) S r = r := prf rfl
theorem bor_cmp (o : COp) (a b : Ex) : bor ρ (.cmp o a b) S r = r := prf rfl
theorem bor_chn (o o2 : COp) (a b d : Ex) : bor ρ (.chn o o2 a b d) S r = r := prf rfl
theorem bor_and (a b : Ex) : bor ρ (.and a b) S r = r := prf rfl
theorem bor_or (a b : Ex) : bor ρ (.or a b) S r = r := prf rfl
theorem bor_one (a : Ex) : bor ρ (.one a) S r = r := prf rfl
theorem bor_not (a : Ex) : bor ρ (.not a) S r = r := prf rfl
theorem bor_ife (d a b : Ex) : bor ρ (.ife d a b) S r = r := prf rfl
theorem bor_tup (es : Exs) : bor ρ (.tup es) S r = r := prf rfl
theorem bor_lst (es : Exs) : bor ρ (.lst es) S r = r := prf rfl
theorem bor_sub (a i : Ex) : bor ρ (.sub a i) S r = r := prf rfl
theorem bor_slc (a i j : Ex) : bor ρ (.slc a i j) S r = r := prf rfl
theorem bor_nop  : bor ρ (.nop ) S r = r := prf rfl
theorem bor_call (f : Nat) (es : Exs) : bor ρ (.call f es) S r = r := prf rfl
theorem bor_bi (b : Bi) (es : Exs) : bor ρ (.bi b es) S r = r := prf rfl
theorem bor_mth (m : Mt) (a : Ex) (es : Exs) : bor ρ (.mth m a es) S r = r := prf rfl
theorem bor_isIS (a : Ex) : bor ρ (.isIS a) S r = r := prf rfl
theorem bor_lc (e : Ex) (g : Tg) (k : SK) (s d : Exs) : bor ρ (.lc e g k s d) S r = r := prf rfl
def borO (S : Store) : Option Sl → Out T
  | some (.own l) => .ok (.lst l) S
  | _ => .stk
theorem borO_o {l : List T} : borO S (some (.own l)) = .ok (.lst l) S := prf rfl
theorem bor_own (i : Nat) : bor ρ (.bor i) S r = borO S ρ[i]? := prf rfl
end
section
variable {a b : T} {l : List T} {x y : List Nat} {i j : Int}
theorem cmp_eq : cmpF .eq a b = if a.dep < 64 ∧ b.dep < 64 then some (.bl (T.eqv a b)) else none := prf rfl
theorem cmp_ne : cmpF .ne a b = if a.dep < 64 ∧ b.dep < 64 then some (.bl (!T.eqv a b)) else none := prf rfl
theorem cmp_lt : cmpF .lt a b = (T.lt a b).map T.bl := prf rfl
theorem cmp_le : cmpF .le a b = (T.le a b).map T.bl := prf rfl
theorem cmp_gt : cmpF .gt a b = (T.lt b a).map T.bl := prf rfl
theorem cmp_ge : cmpF .ge a b = (T.le b a).map T.bl := prf rfl
theorem cmp_inn : cmpF .inn a b = (T.inn a b).map T.bl := prf rfl
theorem cmp_nin : cmpF .nin a b = (T.inn a b).map fun k => T.bl (!k) := prf rfl
theorem cmp_is : cmpF .is a .non = some (.bl a.isNon) := by cases a <;> rfl
theorem cmp_isn : cmpF .isn a .non = some (.bl (!a.isNon)) := by cases a <;> rfl
theorem bi_len_s : biF .len [.str x] = some (.int x.length) := prf rfl
theorem bi_len_t : biF .len [.tup l] = some (.int l.length) := prf rfl
theorem bi_len_l : biF .len [.lst l] = some (.int l.length) := prf rfl
theorem bi_len_r {ns : List Int} : biF .len [.scr ns] = some (.int ns.length) := prf rfl
theorem bi_max2 : biF .max [.int i, .int j] = some (.int (max i j)) := prf rfl
theorem bi_min2 : biF .min [.int i, .int j] = some (.int (min i j)) := prf rfl
theorem bi_tup_l : biF .tup [.lst l] = some (.tup l) := prf rfl
theorem bi_tup_t : biF .tup [.tup l] = some (.tup l) := prf rfl
theorem bi_lst_l : biF .lst [.lst l] = some (.lst l) := prf rfl
theorem bi_lst_t : biF .lst [.tup l] = some (.lst l) := prf rfl
theorem bi_isT_t : biF .isT [.tup l] = some (.bl true) := prf rfl
theorem bi_isT_s : biF .isT [.str x] = some (.bl false) := prf rfl
theorem bi_isT_i : biF .isT [.int i] = some (.bl false) := prf rfl
theorem bi_isT_n : biF .isT [.non] = some (.bl false) := prf rfl
theorem bi_isT_b {k : Bool} : biF .isT [.bl k] = some (.bl false) := prf rfl
theorem bi_isT_l : biF .isT [.lst l] = some (.bl false) := prf rfl
theorem bi_isB_b {k : Bool} : biF .isB [.bl k] = some (.bl true) := prf rfl
theorem bi_isB_t : biF .isB [.tup l] = some (.bl false) := prf rfl
theorem bi_isB_s : biF .isB [.str x] = some (.bl false) := prf rfl
theorem bi_isB_i : biF .isB [.int i] = some (.bl false) := prf rfl
theorem bi_isB_n : biF .isB [.non] = some (.bl false) := prf rfl
theorem isIS_i : isISf (.int i) = some (.bl true) := prf rfl
theorem isIS_s : isISf (.str x) = some (.bl true) := prf rfl
theorem isIS_t : isISf (.tup l) = some (.bl false) := prf rfl
theorem isIS_n : isISf .non = some (.bl false) := prf rfl
theorem dep_n : T.dep .non = 0 := prf rfl
theorem dep_b {k : Bool} : T.dep (.bl k) = 0 := prf rfl
theorem dep_i : T.dep (.int i) = 0 := prf rfl
theorem dep_s : T.dep (.str x) = 0 := prf rfl
theorem dep_i3 {i j k : Int} : T.dep (.tup [.int i, .int j, .int k]) = 1 := prf rfl
theorem dep_i2 {i j : Int} : T.dep (.tup [.int i, .int j]) = 1 := prf rfl
theorem non_non : T.isNon .non = true := prf rfl
theorem non_tup : T.isNon (.tup l) = false := prf rfl
theorem non_lst : T.isNon (.lst l) = false := prf rfl
theorem non_int : T.isNon (.int i) = false := prf rfl
theorem non_str : T.isNon (.str x) = false := prf rfl
theorem tru_non : T.tru .non = some false := prf rfl
theorem tru_bl {k : Bool} : T.tru (.bl k) = some k := prf rfl
theorem tru_i : T.tru (.int i) = some (i != 0) := prf rfl
theorem tru_s : T.tru (.str x) = some (!x.isEmpty) := prf rfl
theorem tru_t : T.tru (.tup l) = some (!l.isEmpty) := prf rfl
theorem tru_l : T.tru (.lst l) = some (!l.isEmpty) := prf rfl
theorem items_t : T.items (.tup l) = some l := prf rfl
theorem items_l : T.items (.lst l) = some l := prf rfl
theorem items_s : T.items (.str x) = some (x.map fun c => T.str [c]) := prf rfl
theorem seq_t : T.seq (.tup l) = some l := prf rfl
theorem seq_l : T.seq (.lst l) = some l := prf rfl
theorem it_val : itemsF .val [a] = a.items := prf rfl
theorem it_zip {x y : List T} (h1 : a.items = some x) (h2 : b.items = some y) : itemsF .zip [a, b] = some ((x.zip y).map fun p => T.tup [p.1, p.2]) := by simp only [itemsF, h1, h2]
theorem it_enm {x : List T} (h1 : a.items = some x) : itemsF .enm [a] = some (x.zipIdx.map fun p => T.tup [.int (p.2 : Nat), p.1]) := by simp only [itemsF, h1, Option.map_some]
theorem it_rng1 (h : -1000000 ≤ i ∧ i ≤ 1000000) : itemsF .rng [.int i] = some ((List.range i.toNat).map fun (k : Nat) => T.int k) := by rw [itemsF, if_pos h]
end
/-- a loop's turn that goes on, the first slot as it was -/
def Cont (x : Sl) (m : Nat) (S : Store) : OutS → Prop
  | .nx ρ S' => S' = S ∧ ∃ r, ρ = x :: r ∧ r.length = m
  | _ => False
theorem Cont.ex {x : Sl} {m : Nat} {S : Store} {o : OutS} (h : Cont x m S o) : ∃ r, o = .nx (x :: r) S ∧ r.length = m := by
  cases o <;> first | exact h.elim | skip
  obtain ⟨rfl, r, rfl, h⟩ := h
  exact ⟨r, rfl, h⟩
end Ly
open Ly
open Lean.Parser.Tactic in
local macro_rules
  | `(tactic| simp! [$ls:simpLemma,*]) => `(tactic| simp only [exs_nil', exs_cons', ex_ret', ex_retN', ex_expr', ex_asg', ex_asgC', ex_own', ex_ownC', ownS_l, ex_rel', relS_o, relS_v, ex_app', appS, ex_ext', extS_l, ex_par2', ex_par3', ex_unp', ex_iff', ifS_t, ifS_f, ex_brk', ex_cnt', ex_pass', ex_raise', nxS_nx, nxS_rt, nxS_bk, nxS_ct, nxS_ex, ifE_t, ifE_f, beq_self_eq_true,
  ev_lit', ev_glb', ev_var', ev_neg', ev_nop', ev_bin', ev_cmp', ev_chn', ev_and', ev_or', ev_one', ev_not', ev_ife2, ev_tup', ev_lst', ev_sub', ev_slc', ev_call', ev_bi', ev_isIS', ev_mth', evs, evb, bor_own, borO_o, bor_lit, bor_glb, bor_var, bor_bin, bor_neg, bor_cmp, bor_chn, bor_and, bor_or, bor_one, bor_not, bor_ife, bor_tup, bor_lst, bor_sub, bor_slc, bor_nop, bor_call, bor_bi, bor_mth, bor_isIS, bor_lc, bind_ok, st_ok', opt_some, optS_some, of_some, ifBl_t, ifBl_f, fin_rt, fin_nx, fin_ex,
  List.map_cons, List.map_nil, List.replicate, List.append, List.nil_append, List.cons_append, List.getElem?_cons_zero, List.getElem?_cons_succ, List.set_cons_zero, List.set_cons_succ, List.length_cons, List.length_nil, List.getElem?_nil, List.set_nil,
  binF, cmp_eq, cmp_ne, cmp_lt, cmp_le, cmp_gt, cmp_ge, cmp_inn, cmp_nin, cmp_is, cmp_isn, bi_len_s, bi_len_t, bi_len_l, bi_len_r, bi_max2, bi_min2, bi_tup_l, bi_tup_t, bi_lst_l, bi_lst_t, bi_isT_t, bi_isT_s, bi_isT_i, bi_isT_n, bi_isT_b, bi_isT_l, bi_isB_b, bi_isB_t, bi_isB_s, bi_isB_i, bi_isB_n, isIS_i, isIS_s, isIS_t, isIS_n, add_i, add_s, add_t, add_l, sub_i, mul_il, mul_ir, mul_s, fdv_i, mod_i, T.eqv, T.eqvs, dep_n, dep_b, dep_i, dep_s, dep_i3, dep_i2, non_non, non_tup, non_int, non_str, non_lst, Tr.isNon, lt_i, le_i, lt_s, le_s, tru_non, tru_bl, tru_i, tru_s, tru_t, tru_l, items_t, items_l, items_s, seq_t, seq_l, it_val,
  sub_t0, sub_t1, sub_t2, sub_t3, sub_l0, sub_l1, sub_l2, sub_l3, slc_t1, slc_t2, optI, ownAt, allTru, Tg.put, Tgs.put, Tg.slots, Tgs.slots, wipeR, fresh, Option.map_some, Option.map_none, Option.bind_some, Option.bind_none,
  if_true, if_false, Bool.true_and, Bool.and_true, Bool.false_and, Bool.and_false, Bool.true_or, Bool.or_true, Bool.false_or, Bool.or_false, Bool.not_true, Bool.not_false, ite_true, ite_false, decide_true, decide_false, reduceCtorEq, Nat.reduceAdd, Nat.reduceLT, Nat.reduceLeDiff, Int.reduceLT, Int.reduceLE, Int.reduceBEq, Nat.reduceBEq, Int.reduceNeg, Int.reduceAdd, Int.reduceSub, Int.reduceMul, List.cons_beq_cons, and_true, true_and, and_self, Bool.false_eq_true, $ls,*])
namespace K03
open PySem PySem.Spec L2 Ly
open PyProof.Rows hiding St
abbrev i_kind : Nat := 0
def b_kind : Sms := (Sms.cons (Sm.ret (Ex.sub (Ex.var 0) (Ex.lit (T.int 0)))) Sms.nil)
def f_kind : FnI := ⟨(Str.ofString "kind"), 1, [(Str.ofString "some")], b_kind⟩
abbrev i_parts : Nat := 1
def x_parts_1 : Ex := Ex.lc (Ex.var 3) (Tg.tp (Tgs.cons (Tg.nm 2) (Tgs.cons (Tg.nm 3) Tgs.nil))) .val (Exs.cons (Ex.sub (Ex.var 0) (Ex.lit (T.int 2))) Exs.nil) Exs.nil
theorem q_parts_1 {ρ : Lenv} {S : Store} {r : Out T} : bor ρ x_parts_1 S r = r := prf rfl
theorem w_parts_1 : fresh x_parts_1 = true := prf rfl
def l_parts_1 : Sms := (Sms.cons (Sm.asg 4 (Ex.bin .add (Ex.var 4) (Ex.var 5))) Sms.nil)
def s_parts_1 : Sm := Sm.for_ (Tg.nm 5) .val (Exs.cons (Ex.sub (Ex.var 0) (Ex.lit (T.int 1))) Exs.nil) l_parts_1
def x_parts_2 : Ex := Ex.lc (Ex.var 3) (Tg.nm 3) .val (Exs.cons (Ex.slc (Ex.var 0) (Ex.lit (T.int 1)) Ex.nop) Exs.nil) (Exs.cons (Ex.cmp .isn (Ex.var 3) (Ex.lit T.non)) Exs.nil)
theorem q_parts_2 {ρ : Lenv} {S : Store} {r : Out T} : bor ρ x_parts_2 S r = r := prf rfl
theorem w_parts_2 : fresh x_parts_2 = true := prf rfl
def b_parts : Sms := (Sms.cons (Sm.asg 1 (Ex.call 0 (Exs.cons (Ex.var 0) Exs.nil))) (Sms.cons (Sm.iff (Ex.cmp .eq (Ex.var 1) (Ex.lit (T.str [119, 111, 114, 100]))) (Sms.cons (Sm.ret (Ex.tup Exs.nil)) Sms.nil) Sms.nil) (Sms.cons (Sm.iff (Ex.cmp .eq (Ex.var 1) (Ex.lit (T.str [99, 104, 97, 105, 110]))) (Sms.cons (Sm.ret (Ex.bin .add (Ex.tup (Exs.cons (Ex.sub (Ex.var 0) (Ex.lit (T.int 1))) Exs.nil)) (Ex.bi .tup (Exs.cons x_parts_1 Exs.nil)))) Sms.nil) Sms.nil) (Sms.cons (Sm.iff (Ex.cmp .eq (Ex.var 1) (Ex.lit (T.str [116, 97, 98, 108, 101]))) (Sms.cons (Sm.asg 4 (Ex.tup Exs.nil)) (Sms.cons s_parts_1 (Sms.cons (Sm.ret (Ex.var 4)) Sms.nil))) Sms.nil) (Sms.cons (Sm.ret (Ex.bi .tup (Exs.cons x_parts_2 Exs.nil))) Sms.nil)))))
def f_parts : FnI := ⟨(Str.ofString "parts"), 1, [(Str.ofString "some"), (Str.ofString "word"), (Str.ofString "sign"), (Str.ofString "part"), (Str.ofString "found"), (Str.ofString "row")], b_parts⟩
abbrev i_rows_of : Nat := 2
def b_rows_of : Sms := (Sms.cons (Sm.iff (Ex.cmp .is (Ex.var 0) (Ex.lit T.non)) (Sms.cons (Sm.ret (Ex.lit (T.int 0))) Sms.nil) Sms.nil) (Sms.cons (Sm.ret (Ex.bin .add (Ex.bin .add (Ex.sub (Ex.var 0) (Ex.lit (T.int 1))) (Ex.sub (Ex.var 0) (Ex.lit (T.int 2)))) (Ex.lit (T.int 1)))) Sms.nil))
def f_rows_of : FnI := ⟨(Str.ofString "rows_of"), 1, [(Str.ofString "one")], b_rows_of⟩
abbrev i_box_or_none : Nat := 3
def b_box_or_none : Sms := (Sms.cons (Sm.iff (Ex.cmp .is (Ex.var 0) (Ex.lit T.non)) (Sms.cons (Sm.ret (Ex.lit T.non)) Sms.nil) Sms.nil) (Sms.cons (Sm.ret (Ex.call 7 (Exs.cons (Ex.var 0) Exs.nil))) Sms.nil))
def f_box_or_none : FnI := ⟨(Str.ofString "box_or_none"), 1, [(Str.ofString "some")], b_box_or_none⟩
abbrev i_columns : Nat := 4
def x_columns_1 : Ex := Ex.lc (Ex.sub (Ex.call 7 (Exs.cons (Ex.sub (Ex.var 2) (Ex.var 1)) Exs.nil)) (Ex.lit (T.int 0))) (Tg.nm 2) .val (Exs.cons (Ex.var 0) Exs.nil) Exs.nil
theorem q_columns_1 {ρ : Lenv} {S : Store} {r : Out T} : bor ρ x_columns_1 S r = r := prf rfl
theorem w_columns_1 : fresh x_columns_1 = true := prf rfl
def x_columns_2 : Ex := Ex.lc (Ex.bi .max (Exs.cons x_columns_1 Exs.nil)) (Tg.nm 1) .rng (Exs.cons (Ex.bi .len (Exs.cons (Ex.sub (Ex.var 0) (Ex.lit (T.int 0))) Exs.nil)) Exs.nil) Exs.nil
theorem q_columns_2 {ρ : Lenv} {S : Store} {r : Out T} : bor ρ x_columns_2 S r = r := prf rfl
theorem w_columns_2 : fresh x_columns_2 = true := prf rfl
def b_columns : Sms := (Sms.cons (Sm.ret x_columns_2) Sms.nil)
def f_columns : FnI := ⟨(Str.ofString "columns"), 1, [(Str.ofString "rows"), (Str.ofString "k"), (Str.ofString "row")], b_columns⟩
abbrev i_heights : Nat := 5
def x_heights_1 : Ex := Ex.lc (Ex.sub (Ex.call 7 (Exs.cons (Ex.var 2) Exs.nil)) (Ex.lit (T.int 1))) (Tg.nm 2) .val (Exs.cons (Ex.var 1) Exs.nil) Exs.nil
theorem q_heights_1 {ρ : Lenv} {S : Store} {r : Out T} : bor ρ x_heights_1 S r = r := prf rfl
theorem w_heights_1 : fresh x_heights_1 = true := prf rfl
def x_heights_2 : Ex := Ex.lc (Ex.sub (Ex.call 7 (Exs.cons (Ex.var 2) Exs.nil)) (Ex.lit (T.int 2))) (Tg.nm 2) .val (Exs.cons (Ex.var 1) Exs.nil) Exs.nil
theorem q_heights_2 {ρ : Lenv} {S : Store} {r : Out T} : bor ρ x_heights_2 S r = r := prf rfl
theorem w_heights_2 : fresh x_heights_2 = true := prf rfl
def x_heights_3 : Ex := Ex.lc (Ex.tup (Exs.cons (Ex.bi .max (Exs.cons x_heights_1 Exs.nil)) (Exs.cons (Ex.bi .max (Exs.cons x_heights_2 Exs.nil)) Exs.nil))) (Tg.nm 1) .val (Exs.cons (Ex.var 0) Exs.nil) Exs.nil
theorem q_heights_3 {ρ : Lenv} {S : Store} {r : Out T} : bor ρ x_heights_3 S r = r := prf rfl
theorem w_heights_3 : fresh x_heights_3 = true := prf rfl
def b_heights : Sms := (Sms.cons (Sm.ret x_heights_3) Sms.nil)
def f_heights : FnI := ⟨(Str.ofString "heights"), 1, [(Str.ofString "rows"), (Str.ofString "row"), (Str.ofString "part")], b_heights⟩
abbrev i_table_box : Nat := 6
def x_table_box_1 : Ex := Ex.lc (Ex.bin .add (Ex.bin .add (Ex.var 3) (Ex.var 4)) (Ex.lit (T.int 1))) (Tg.tp (Tgs.cons (Tg.nm 3) (Tgs.cons (Tg.nm 4) Tgs.nil))) .val (Exs.cons (Ex.call 5 (Exs.cons (Ex.var 0) Exs.nil)) Exs.nil) Exs.nil
theorem q_table_box_1 {ρ : Lenv} {S : Store} {r : Out T} : bor ρ x_table_box_1 S r = r := prf rfl
theorem w_table_box_1 : fresh x_table_box_1 = true := prf rfl
def b_table_box : Sms := (Sms.cons (Sm.asg 1 (Ex.call 4 (Exs.cons (Ex.var 0) Exs.nil))) (Sms.cons (Sm.asg 2 (Ex.bin .sub (Ex.bin .add (Ex.bi .sum (Exs.cons x_table_box_1 Exs.nil)) (Ex.bi .len (Exs.cons (Ex.var 0) Exs.nil))) (Ex.lit (T.int 1)))) (Sms.cons (Sm.ret (Ex.tup (Exs.cons (Ex.bin .add (Ex.bin .add (Ex.bi .sum (Exs.cons (Ex.var 1) Exs.nil)) (Ex.bin .mul (Ex.glb (Str.ofString "BETWEEN") (T.int 2)) (Ex.bin .sub (Ex.bi .len (Exs.cons (Ex.var 1) Exs.nil)) (Ex.lit (T.int 1))))) (Ex.lit (T.int 2))) (Exs.cons (Ex.bin .fdv (Ex.var 2) (Ex.lit (T.int 2))) (Exs.cons (Ex.bin .sub (Ex.bin .sub (Ex.var 2) (Ex.lit (T.int 1))) (Ex.bin .fdv (Ex.var 2) (Ex.lit (T.int 2)))) Exs.nil))))) Sms.nil)))
def f_table_box : FnI := ⟨(Str.ofString "table_box"), 1, [(Str.ofString "rows"), (Str.ofString "wide"), (Str.ofString "high"), (Str.ofString "up"), (Str.ofString "down")], b_table_box⟩
abbrev i_box : Nat := 7
def x_box_1 : Ex := Ex.lc (Ex.call 3 (Exs.cons (Ex.var 6) Exs.nil)) (Tg.nm 6) .val (Exs.cons (Ex.slc (Ex.var 0) (Ex.lit (T.int 1)) Ex.nop) Exs.nil) Exs.nil
theorem q_box_1 {ρ : Lenv} {S : Store} {r : Out T} : bor ρ x_box_1 S r = r := prf rfl
theorem w_box_1 : fresh x_box_1 = true := prf rfl
def x_box_2 : Ex := Ex.lc (Ex.sub (Ex.var 7) (Ex.lit (T.int 0))) (Tg.nm 7) .val (Exs.cons (Ex.tup (Exs.cons (Ex.var 4) (Exs.cons (Ex.var 5) Exs.nil))) Exs.nil) (Exs.cons (Ex.cmp .isn (Ex.var 7) (Ex.lit T.non)) Exs.nil)
theorem q_box_2 {ρ : Lenv} {S : Store} {r : Out T} : bor ρ x_box_2 S r = r := prf rfl
theorem w_box_2 : fresh x_box_2 = true := prf rfl
def x_box_3 : Ex := Ex.lc (Ex.call 7 (Exs.cons (Ex.var 6) Exs.nil)) (Tg.nm 6) .val (Exs.cons (Ex.call 1 (Exs.cons (Ex.var 0) Exs.nil)) Exs.nil) Exs.nil
theorem q_box_3 {ρ : Lenv} {S : Store} {r : Out T} : bor ρ x_box_3 S r = r := prf rfl
theorem w_box_3 : fresh x_box_3 = true := prf rfl
def x_box_4 : Ex := Ex.lc (Ex.sub (Ex.var 7) (Ex.lit (T.int 0))) (Tg.nm 7) .val (Exs.cons (Ex.var 8) Exs.nil) Exs.nil
theorem q_box_4 {ρ : Lenv} {S : Store} {r : Out T} : bor ρ x_box_4 S r = r := prf rfl
theorem w_box_4 : fresh x_box_4 = true := prf rfl
def x_box_5 : Ex := Ex.lc (Ex.sub (Ex.var 7) (Ex.lit (T.int 1))) (Tg.nm 7) .val (Exs.cons (Ex.var 8) Exs.nil) Exs.nil
theorem q_box_5 {ρ : Lenv} {S : Store} {r : Out T} : bor ρ x_box_5 S r = r := prf rfl
theorem w_box_5 : fresh x_box_5 = true := prf rfl
def x_box_6 : Ex := Ex.lc (Ex.sub (Ex.var 7) (Ex.lit (T.int 2))) (Tg.nm 7) .val (Exs.cons (Ex.var 8) Exs.nil) Exs.nil
theorem q_box_6 {ρ : Lenv} {S : Store} {r : Out T} : bor ρ x_box_6 S r = r := prf rfl
theorem w_box_6 : fresh x_box_6 = true := prf rfl
def b_box : Sms := (Sms.cons (Sm.asg 1 (Ex.call 0 (Exs.cons (Ex.var 0) Exs.nil))) (Sms.cons (Sm.iff (Ex.cmp .eq (Ex.var 1) (Ex.lit (T.str [119, 111, 114, 100]))) (Sms.cons (Sm.ret (Ex.tup (Exs.cons (Ex.bi .len (Exs.cons (Ex.sub (Ex.var 0) (Ex.lit (T.int 1))) Exs.nil)) (Exs.cons (Ex.lit (T.int 0)) (Exs.cons (Ex.lit (T.int 0)) Exs.nil))))) Sms.nil) Sms.nil) (Sms.cons (Sm.iff (Ex.cmp .eq (Ex.var 1) (Ex.lit (T.str [116, 97, 98, 108, 101]))) (Sms.cons (Sm.ret (Ex.call 6 (Exs.cons (Ex.sub (Ex.var 0) (Ex.lit (T.int 1))) Exs.nil))) Sms.nil) Sms.nil) (Sms.cons (Sm.iff (Ex.cmp .eq (Ex.var 1) (Ex.lit (T.str [115, 99, 114, 105, 112, 116]))) (Sms.cons (Sm.unp (Tgs.cons (Tg.nm 3) (Tgs.cons (Tg.nm 4) (Tgs.cons (Tg.nm 5) Tgs.nil))) x_box_1) (Sms.cons (Sm.asg 2 (Ex.bi .max (Exs.cons x_box_2 Exs.nil))) (Sms.cons (Sm.ret (Ex.tup (Exs.cons (Ex.bin .add (Ex.sub (Ex.var 3) (Ex.lit (T.int 0))) (Ex.var 2)) (Exs.cons (Ex.bin .add (Ex.sub (Ex.var 3) (Ex.lit (T.int 1))) (Ex.call 2 (Exs.cons (Ex.var 4) Exs.nil))) (Exs.cons (Ex.bin .add (Ex.sub (Ex.var 3) (Ex.lit (T.int 2))) (Ex.call 2 (Exs.cons (Ex.var 5) Exs.nil))) Exs.nil))))) Sms.nil))) Sms.nil) (Sms.cons (Sm.asgC 8 x_box_3) (Sms.cons (Sm.iff (Ex.cmp .eq (Ex.var 1) (Ex.lit (T.str [99, 104, 97, 105, 110]))) (Sms.cons (Sm.asg 2 (Ex.bin .add (Ex.bi .sum (Exs.cons x_box_4 Exs.nil)) (Ex.bin .mul (Ex.glb (Str.ofString "GAP") (T.int 3)) (Ex.bin .sub (Ex.bi .len (Exs.cons (Ex.var 8) Exs.nil)) (Ex.lit (T.int 1)))))) (Sms.cons (Sm.ret (Ex.tup (Exs.cons (Ex.var 2) (Exs.cons (Ex.bi .max (Exs.cons x_box_5 Exs.nil)) (Exs.cons (Ex.bi .max (Exs.cons x_box_6 Exs.nil)) Exs.nil))))) Sms.nil)) Sms.nil) (Sms.cons (Sm.iff (Ex.cmp .eq (Ex.var 1) (Ex.lit (T.str [111, 118, 101, 114]))) (Sms.cons (Sm.ret (Ex.tup (Exs.cons (Ex.bin .add (Ex.bi .max (Exs.cons (Ex.sub (Ex.sub (Ex.var 8) (Ex.lit (T.int 0))) (Ex.lit (T.int 0))) (Exs.cons (Ex.sub (Ex.sub (Ex.var 8) (Ex.lit (T.int 1))) (Ex.lit (T.int 0))) Exs.nil))) (Ex.lit (T.int 2))) (Exs.cons (Ex.call 2 (Exs.cons (Ex.sub (Ex.var 8) (Ex.lit (T.int 0))) Exs.nil)) (Exs.cons (Ex.call 2 (Exs.cons (Ex.sub (Ex.var 8) (Ex.lit (T.int 1))) Exs.nil)) Exs.nil))))) Sms.nil) Sms.nil) (Sms.cons (Sm.unp (Tgs.cons (Tg.nm 2) (Tgs.cons (Tg.nm 4) (Tgs.cons (Tg.nm 5) Tgs.nil))) (Ex.sub (Ex.var 8) (Ex.lit (T.int 0)))) (Sms.cons (Sm.iff (Ex.cmp .eq (Ex.var 1) (Ex.lit (T.str [114, 111, 111, 116]))) (Sms.cons (Sm.ret (Ex.tup (Exs.cons (Ex.bin .add (Ex.var 2) (Ex.lit (T.int 1))) (Exs.cons (Ex.bin .add (Ex.var 4) (Ex.lit (T.int 1))) (Exs.cons (Ex.var 5) Exs.nil))))) Sms.nil) Sms.nil) (Sms.cons (Sm.ret (Ex.tup (Exs.cons (Ex.bin .add (Ex.var 2) (Ex.lit (T.int 2))) (Exs.cons (Ex.var 4) (Exs.cons (Ex.var 5) Exs.nil))))) Sms.nil))))))))))
def f_box : FnI := ⟨(Str.ofString "box"), 1, [(Str.ofString "some"), (Str.ofString "word"), (Str.ofString "wide"), (Str.ofString "base"), (Str.ofString "up"), (Str.ofString "down"), (Str.ofString "part"), (Str.ofString "one"), (Str.ofString "boxes")], b_box⟩
abbrev i__law_cell : Nat := 8
def b__law_cell : Sms := (Sms.cons (Sm.iff (Ex.cmp .lt (Ex.var 1) (Ex.bi .len (Exs.cons (Ex.var 0) Exs.nil))) (Sms.cons (Sm.ret (Ex.sub (Ex.var 0) (Ex.var 1))) Sms.nil) Sms.nil) (Sms.cons (Sm.ret (Ex.lit (T.int 0))) Sms.nil))
def f__law_cell : FnI := ⟨(Str.ofString "_law_cell"), 2, [(Str.ofString "_law_script"), (Str.ofString "_law_k")], b__law_cell⟩
abbrev i__law_mix : Nat := 9
def b__law_mix : Sms := (Sms.cons (Sm.asg 3 (Ex.bin .mod (Ex.bin .mul (Ex.var 0) (Ex.lit (T.int 48271))) (Ex.var 1))) (Sms.cons (Sm.ret (Ex.bin .mod (Ex.bin .mod (Ex.bin .mul (Ex.var 3) (Ex.bin .add (Ex.var 3) (Ex.lit (T.int 7)))) (Ex.var 1)) (Ex.var 2))) Sms.nil))
def f__law_mix : FnI := ⟨(Str.ofString "_law_mix"), 3, [(Str.ofString "_law_cell_here"), (Str.ofString "_law_prime"), (Str.ofString "_law_many"), (Str.ofString "_law_blend")], b__law_mix⟩
abbrev i__law_same : Nat := 10
def x__law_same_1 : Ex := Ex.lc (Ex.call 10 (Exs.cons (Ex.var 2) (Exs.cons (Ex.var 3) Exs.nil))) (Tg.tp (Tgs.cons (Tg.nm 2) (Tgs.cons (Tg.nm 3) Tgs.nil))) .zip (Exs.cons (Ex.var 0) (Exs.cons (Ex.var 1) Exs.nil)) Exs.nil
theorem q__law_same_1 {ρ : Lenv} {S : Store} {r : Out T} : bor ρ x__law_same_1 S r = r := prf rfl
theorem w__law_same_1 : fresh x__law_same_1 = true := prf rfl
def b__law_same : Sms := (Sms.cons (Sm.iff (Ex.bi .isT (Exs.cons (Ex.var 1) Exs.nil)) (Sms.cons (Sm.iff (Ex.or (Ex.not (Ex.bi .isT (Exs.cons (Ex.var 0) Exs.nil))) (Ex.one (Ex.cmp .ne (Ex.bi .len (Exs.cons (Ex.var 0) Exs.nil)) (Ex.bi .len (Exs.cons (Ex.var 1) Exs.nil))))) (Sms.cons (Sm.ret (Ex.lit (T.bl false))) Sms.nil) Sms.nil) (Sms.cons (Sm.ret (Ex.bi .all (Exs.cons x__law_same_1 Exs.nil))) Sms.nil)) Sms.nil) (Sms.cons (Sm.iff (Ex.cmp .is (Ex.var 1) (Ex.lit T.non)) (Sms.cons (Sm.ret (Ex.cmp .is (Ex.var 0) (Ex.lit T.non))) Sms.nil) Sms.nil) (Sms.cons (Sm.iff (Ex.or (Ex.bi .isB (Exs.cons (Ex.var 1) Exs.nil)) (Ex.one (Ex.bi .isB (Exs.cons (Ex.var 0) Exs.nil)))) (Sms.cons (Sm.ret (Ex.and (Ex.bi .isB (Exs.cons (Ex.var 1) Exs.nil)) (Ex.and (Ex.bi .isB (Exs.cons (Ex.var 0) Exs.nil)) (Ex.one (Ex.cmp .eq (Ex.var 0) (Ex.var 1)))))) Sms.nil) Sms.nil) (Sms.cons (Sm.ret (Ex.and (Ex.isIS (Ex.var 0)) (Ex.one (Ex.cmp .eq (Ex.var 0) (Ex.var 1))))) Sms.nil))))
def f__law_same : FnI := ⟨(Str.ofString "_law_same"), 2, [(Str.ofString "_law_found"), (Str.ofString "_law_due"), (Str.ofString "_law_one"), (Str.ofString "_law_other")], b__law_same⟩
abbrev i__law_atom : Nat := 11
def b__law_atom : Sms := (Sms.cons (Sm.ret (Ex.tup (Exs.cons (Ex.lit (T.str [119, 111, 114, 100])) (Exs.cons (Ex.sub (Ex.tup (Exs.cons (Ex.lit (T.str [97])) (Exs.cons (Ex.lit (T.str [98])) (Exs.cons (Ex.lit (T.str [120, 49])) (Exs.cons (Ex.lit (T.str [108, 111, 110, 103])) (Exs.cons (Ex.lit (T.str [55])) (Exs.cons (Ex.lit (T.str [97, 98, 99, 100, 101, 102])) Exs.nil))))))) (Ex.call 9 (Exs.cons (Ex.var 0) (Exs.cons (Ex.lit (T.int 9973)) (Exs.cons (Ex.lit (T.int 6)) Exs.nil))))) Exs.nil)))) Sms.nil)
def f__law_atom : FnI := ⟨(Str.ofString "_law_atom"), 1, [(Str.ofString "_law_cell_here")], b__law_atom⟩
abbrev i__law_base : Nat := 12
def x__law_base_1 : Ex := Ex.lc (Ex.bin .add (Ex.bin .add (Ex.bin .add (Ex.bin .mul (Ex.var 0) (Ex.lit (T.int 3))) (Ex.bin .mul (Ex.lit (T.int 7)) (Ex.var 5))) (Ex.bin .mul (Ex.lit (T.int 5)) (Ex.var 7))) (Ex.lit (T.int 2))) (Tg.nm 7) .rng (Exs.cons (Ex.var 4) Exs.nil) Exs.nil
theorem q__law_base_1 {ρ : Lenv} {S : Store} {r : Out T} : bor ρ x__law_base_1 S r = r := prf rfl
theorem w__law_base_1 : fresh x__law_base_1 = true := prf rfl
def x__law_base_2 : Ex := Ex.lc (Ex.call 14 (Exs.cons (Ex.var 8) (Exs.cons (Ex.bi .min (Exs.cons (Ex.bin .sub (Ex.var 1) (Ex.lit (T.int 1))) (Exs.cons (Ex.lit (T.int 2)) Exs.nil))) Exs.nil))) (Tg.nm 8) .val (Exs.cons (Ex.var 6) Exs.nil) Exs.nil
theorem q__law_base_2 {ρ : Lenv} {S : Store} {r : Out T} : bor ρ x__law_base_2 S r = r := prf rfl
theorem w__law_base_2 : fresh x__law_base_2 = true := prf rfl
def l__law_base_1 : Sms := (Sms.cons (Sm.asgC 6 x__law_base_1) (Sms.cons (Sm.asg 3 (Ex.bin .add (Ex.var 3) (Ex.tup (Exs.cons (Ex.bi .tup (Exs.cons x__law_base_2 Exs.nil)) Exs.nil)))) Sms.nil))
def s__law_base_1 : Sm := Sm.for_ (Tg.nm 5) .rng (Exs.cons (Ex.bin .add (Ex.lit (T.int 1)) (Ex.call 9 (Exs.cons (Ex.var 0) (Exs.cons (Ex.lit (T.int 9941)) (Exs.cons (Ex.lit (T.int 3)) Exs.nil))))) Exs.nil) l__law_base_1
def b__law_base : Sms := (Sms.cons (Sm.asg 2 (Ex.call 9 (Exs.cons (Ex.var 0) (Exs.cons (Ex.lit (T.int 9967)) (Exs.cons (Ex.lit (T.int 4)) Exs.nil))))) (Sms.cons (Sm.iff (Ex.or (Ex.cmp .eq (Ex.var 1) (Ex.lit (T.int 1))) (Ex.one (Ex.cmp .lt (Ex.var 2) (Ex.lit (T.int 2))))) (Sms.cons (Sm.ret (Ex.call 11 (Exs.cons (Ex.var 0) Exs.nil))) Sms.nil) Sms.nil) (Sms.cons (Sm.iff (Ex.cmp .eq (Ex.var 2) (Ex.lit (T.int 2))) (Sms.cons (Sm.ret (Ex.tup (Exs.cons (Ex.lit (T.str [104, 101, 108, 100])) (Exs.cons (Ex.call 14 (Exs.cons (Ex.bin .add (Ex.bin .mul (Ex.var 0) (Ex.lit (T.int 3))) (Ex.lit (T.int 1))) (Exs.cons (Ex.bin .sub (Ex.var 1) (Ex.lit (T.int 1))) Exs.nil))) Exs.nil)))) Sms.nil) Sms.nil) (Sms.cons (Sm.asg 3 (Ex.tup Exs.nil)) (Sms.cons (Sm.asg 4 (Ex.bin .add (Ex.lit (T.int 1)) (Ex.call 9 (Exs.cons (Ex.var 0) (Exs.cons (Ex.lit (T.int 9949)) (Exs.cons (Ex.lit (T.int 3)) Exs.nil)))))) (Sms.cons s__law_base_1 (Sms.cons (Sm.ret (Ex.tup (Exs.cons (Ex.lit (T.str [116, 97, 98, 108, 101])) (Exs.cons (Ex.var 3) Exs.nil)))) Sms.nil)))))))
def f__law_base : FnI := ⟨(Str.ofString "_law_base"), 2, [(Str.ofString "_law_cell_here"), (Str.ofString "_law_left"), (Str.ofString "_law_way"), (Str.ofString "_law_rows_here"), (Str.ofString "_law_wide"), (Str.ofString "_law_k"), (Str.ofString "_law_seeds"), (Str.ofString "_law_j"), (Str.ofString "_law_seed")], b__law_base⟩
abbrev i__law_item : Nat := 13
def b__law_item : Sms := (Sms.cons (Sm.asg 2 (Ex.call 9 (Exs.cons (Ex.var 0) (Exs.cons (Ex.lit (T.int 9931)) (Exs.cons (Ex.lit (T.int 8)) Exs.nil))))) (Sms.cons (Sm.iff (Ex.or (Ex.cmp .eq (Ex.var 1) (Ex.lit (T.int 1))) (Ex.one (Ex.cmp .lt (Ex.var 2) (Ex.lit (T.int 2))))) (Sms.cons (Sm.ret (Ex.call 12 (Exs.cons (Ex.var 0) (Exs.cons (Ex.var 1) Exs.nil)))) Sms.nil) Sms.nil) (Sms.cons (Sm.iff (Ex.cmp .eq (Ex.var 2) (Ex.lit (T.int 2))) (Sms.cons (Sm.ret (Ex.tup (Exs.cons (Ex.lit (T.str [111, 118, 101, 114])) (Exs.cons (Ex.call 14 (Exs.cons (Ex.bin .add (Ex.bin .mul (Ex.var 0) (Ex.lit (T.int 3))) (Ex.lit (T.int 1))) (Exs.cons (Ex.bin .sub (Ex.var 1) (Ex.lit (T.int 1))) Exs.nil))) (Exs.cons (Ex.call 14 (Exs.cons (Ex.bin .add (Ex.bin .mul (Ex.var 0) (Ex.lit (T.int 3))) (Ex.lit (T.int 2))) (Exs.cons (Ex.bin .sub (Ex.var 1) (Ex.lit (T.int 1))) Exs.nil))) Exs.nil))))) Sms.nil) Sms.nil) (Sms.cons (Sm.iff (Ex.cmp .eq (Ex.var 2) (Ex.lit (T.int 3))) (Sms.cons (Sm.ret (Ex.tup (Exs.cons (Ex.lit (T.str [114, 111, 111, 116])) (Exs.cons (Ex.call 14 (Exs.cons (Ex.bin .add (Ex.bin .mul (Ex.var 0) (Ex.lit (T.int 3))) (Ex.lit (T.int 1))) (Exs.cons (Ex.bin .sub (Ex.var 1) (Ex.lit (T.int 1))) Exs.nil))) Exs.nil)))) Sms.nil) Sms.nil) (Sms.cons (Sm.iff (Ex.cmp .lt (Ex.var 2) (Ex.lit (T.int 6))) (Sms.cons (Sm.asg 3 (Ex.lst (Exs.cons (Ex.call 14 (Exs.cons (Ex.bin .add (Ex.bin .mul (Ex.var 0) (Ex.lit (T.int 3))) (Ex.lit (T.int 4))) (Exs.cons (Ex.bin .sub (Ex.var 1) (Ex.lit (T.int 1))) Exs.nil))) (Exs.cons (Ex.call 14 (Exs.cons (Ex.bin .add (Ex.bin .mul (Ex.var 0) (Ex.lit (T.int 3))) (Ex.lit (T.int 5))) (Exs.cons (Ex.bin .sub (Ex.var 1) (Ex.lit (T.int 1))) Exs.nil))) Exs.nil)))) (Sms.cons (Sm.asg 4 (Ex.call 9 (Exs.cons (Ex.var 0) (Exs.cons (Ex.lit (T.int 9929)) (Exs.cons (Ex.lit (T.int 3)) Exs.nil))))) (Sms.cons (Sm.ret (Ex.tup (Exs.cons (Ex.lit (T.str [115, 99, 114, 105, 112, 116])) (Exs.cons (Ex.call 12 (Exs.cons (Ex.bin .add (Ex.var 0) (Ex.lit (T.int 1))) (Exs.cons (Ex.bin .sub (Ex.var 1) (Ex.lit (T.int 1))) Exs.nil))) (Exs.cons (Ex.ife (Ex.cmp .eq (Ex.var 4) (Ex.lit (T.int 0))) (Ex.lit T.non) (Ex.sub (Ex.var 3) (Ex.lit (T.int 0)))) (Exs.cons (Ex.ife (Ex.cmp .eq (Ex.var 4) (Ex.lit (T.int 1))) (Ex.lit T.non) (Ex.sub (Ex.var 3) (Ex.lit (T.int 1)))) Exs.nil)))))) Sms.nil))) Sms.nil) (Sms.cons (Sm.ret (Ex.call 12 (Exs.cons (Ex.bin .add (Ex.var 0) (Ex.lit (T.int 1))) (Exs.cons (Ex.var 1) Exs.nil)))) Sms.nil))))))
def f__law_item : FnI := ⟨(Str.ofString "_law_item"), 2, [(Str.ofString "_law_cell_here"), (Str.ofString "_law_left"), (Str.ofString "_law_way"), (Str.ofString "_law_both"), (Str.ofString "_law_some")], b__law_item⟩
abbrev i__law_draw : Nat := 14
def l__law_draw_1 : Sms := (Sms.cons (Sm.asg 4 (Ex.sub (Ex.lit (T.str [43, 45, 42, 61, 60])) (Ex.call 9 (Exs.cons (Ex.bin .add (Ex.var 0) (Ex.var 3)) (Exs.cons (Ex.lit (T.int 9901)) (Exs.cons (Ex.lit (T.int 5)) Exs.nil)))))) (Sms.cons (Sm.asg 2 (Ex.bin .add (Ex.var 2) (Ex.tup (Exs.cons (Ex.tup (Exs.cons (Ex.var 4) (Exs.cons (Ex.call 13 (Exs.cons (Ex.bin .add (Ex.bin .add (Ex.bin .mul (Ex.var 0) (Ex.lit (T.int 2))) (Ex.bin .mul (Ex.lit (T.int 11)) (Ex.var 3))) (Ex.lit (T.int 3))) (Exs.cons (Ex.bin .sub (Ex.var 1) (Ex.lit (T.int 1))) Exs.nil))) Exs.nil))) Exs.nil)))) Sms.nil))
def s__law_draw_1 : Sm := Sm.for_ (Tg.nm 3) .rng (Exs.cons (Ex.bin .add (Ex.lit (T.int 1)) (Ex.call 9 (Exs.cons (Ex.var 0) (Exs.cons (Ex.lit (T.int 9907)) (Exs.cons (Ex.lit (T.int 3)) Exs.nil))))) Exs.nil) l__law_draw_1
def b__law_draw : Sms := (Sms.cons (Sm.iff (Ex.and (Ex.cmp .gt (Ex.var 1) (Ex.lit (T.int 1))) (Ex.one (Ex.cmp .eq (Ex.call 9 (Exs.cons (Ex.var 0) (Exs.cons (Ex.lit (T.int 9923)) (Exs.cons (Ex.lit (T.int 3)) Exs.nil)))) (Ex.lit (T.int 0))))) (Sms.cons (Sm.asg 2 (Ex.tup Exs.nil)) (Sms.cons s__law_draw_1 (Sms.cons (Sm.ret (Ex.tup (Exs.cons (Ex.lit (T.str [99, 104, 97, 105, 110])) (Exs.cons (Ex.call 13 (Exs.cons (Ex.bin .add (Ex.bin .mul (Ex.var 0) (Ex.lit (T.int 2))) (Ex.lit (T.int 1))) (Exs.cons (Ex.bin .sub (Ex.var 1) (Ex.lit (T.int 1))) Exs.nil))) (Exs.cons (Ex.var 2) Exs.nil))))) Sms.nil))) Sms.nil) (Sms.cons (Sm.ret (Ex.call 13 (Exs.cons (Ex.var 0) (Exs.cons (Ex.var 1) Exs.nil)))) Sms.nil))
def f__law_draw : FnI := ⟨(Str.ofString "_law_draw"), 2, [(Str.ofString "_law_cell_here"), (Str.ofString "_law_left"), (Str.ofString "_law_rest"), (Str.ofString "_law_k"), (Str.ofString "_law_sign")], b__law_draw⟩
abbrev i__law_parts : Nat := 15
def x__law_parts_1 : Ex := Ex.lc (Ex.sub (Ex.var 1) (Ex.lit (T.int 1))) (Tg.nm 1) .val (Exs.cons (Ex.sub (Ex.var 0) (Ex.lit (T.int 2))) Exs.nil) Exs.nil
theorem q__law_parts_1 {ρ : Lenv} {S : Store} {r : Out T} : bor ρ x__law_parts_1 S r = r := prf rfl
theorem w__law_parts_1 : fresh x__law_parts_1 = true := prf rfl
def l__law_parts_1 : Sms := (Sms.cons (Sm.ext 2 (Ex.bi .lst (Exs.cons (Ex.var 3) Exs.nil))) Sms.nil)
def s__law_parts_1 : Sm := Sm.for_ (Tg.nm 3) .val (Exs.cons (Ex.sub (Ex.var 0) (Ex.lit (T.int 1))) Exs.nil) l__law_parts_1
def x__law_parts_2 : Ex := Ex.lc (Ex.var 4) (Tg.nm 4) .val (Exs.cons (Ex.slc (Ex.var 0) (Ex.lit (T.int 1)) Ex.nop) Exs.nil) (Exs.cons (Ex.cmp .isn (Ex.var 4) (Ex.lit T.non)) Exs.nil)
theorem q__law_parts_2 {ρ : Lenv} {S : Store} {r : Out T} : bor ρ x__law_parts_2 S r = r := prf rfl
theorem w__law_parts_2 : fresh x__law_parts_2 = true := prf rfl
def b__law_parts : Sms := (Sms.cons (Sm.iff (Ex.cmp .eq (Ex.sub (Ex.var 0) (Ex.lit (T.int 0))) (Ex.lit (T.str [119, 111, 114, 100]))) (Sms.cons (Sm.ret (Ex.lst Exs.nil)) Sms.nil) Sms.nil) (Sms.cons (Sm.iff (Ex.cmp .eq (Ex.sub (Ex.var 0) (Ex.lit (T.int 0))) (Ex.lit (T.str [99, 104, 97, 105, 110]))) (Sms.cons (Sm.ret (Ex.bin .add (Ex.lst (Exs.cons (Ex.sub (Ex.var 0) (Ex.lit (T.int 1))) Exs.nil)) x__law_parts_1)) Sms.nil) Sms.nil) (Sms.cons (Sm.iff (Ex.cmp .eq (Ex.sub (Ex.var 0) (Ex.lit (T.int 0))) (Ex.lit (T.str [116, 97, 98, 108, 101]))) (Sms.cons (Sm.own 2 (Ex.lst Exs.nil)) (Sms.cons s__law_parts_1 (Sms.cons (Sm.rel 2) (Sms.cons (Sm.ret (Ex.var 2)) Sms.nil)))) Sms.nil) (Sms.cons (Sm.ret x__law_parts_2) Sms.nil))))
def f__law_parts : FnI := ⟨(Str.ofString "_law_parts"), 1, [(Str.ofString "_law_some"), (Str.ofString "_law_pair"), (Str.ofString "_law_gathered"), (Str.ofString "_law_row"), (Str.ofString "_law_part")], b__law_parts⟩
abbrev i__law_ways : Nat := 16
def x__law_ways_1 : Ex := Ex.lc (Ex.bin .add (Ex.tup (Exs.cons (Ex.var 2) Exs.nil)) (Ex.var 4)) (Tg.nm 4) .val (Exs.cons (Ex.call 16 (Exs.cons (Ex.var 3) Exs.nil)) Exs.nil) Exs.nil
theorem q__law_ways_1 {ρ : Lenv} {S : Store} {r : Out T} : bor ρ x__law_ways_1 S r = r := prf rfl
theorem w__law_ways_1 : fresh x__law_ways_1 = true := prf rfl
def l__law_ways_1 : Sms := (Sms.cons (Sm.ext 1 x__law_ways_1) Sms.nil)
def s__law_ways_1 : Sm := Sm.for_ (Tg.tp (Tgs.cons (Tg.nm 2) (Tgs.cons (Tg.nm 3) Tgs.nil))) .enm (Exs.cons (Ex.call 15 (Exs.cons (Ex.var 0) Exs.nil)) Exs.nil) l__law_ways_1
def b__law_ways : Sms := (Sms.cons (Sm.own 1 (Ex.lst (Exs.cons (Ex.tup Exs.nil) Exs.nil))) (Sms.cons s__law_ways_1 (Sms.cons (Sm.rel 1) (Sms.cons (Sm.ret (Ex.var 1)) Sms.nil))))
def f__law_ways : FnI := ⟨(Str.ofString "_law_ways"), 1, [(Str.ofString "_law_some"), (Str.ofString "_law_gathered"), (Str.ofString "_law_k"), (Str.ofString "_law_part"), (Str.ofString "_law_way")], b__law_ways⟩
abbrev i__law_rows : Nat := 17
def b__law_rows : Sms := (Sms.cons (Sm.ret (Ex.ife (Ex.cmp .is (Ex.var 0) (Ex.lit T.non)) (Ex.lit (T.int 0)) (Ex.bin .add (Ex.bin .add (Ex.sub (Ex.var 0) (Ex.lit (T.int 1))) (Ex.sub (Ex.var 0) (Ex.lit (T.int 2)))) (Ex.lit (T.int 1))))) Sms.nil)
def f__law_rows : FnI := ⟨(Str.ofString "_law_rows"), 1, [(Str.ofString "_law_one")], b__law_rows⟩
abbrev i__law_box : Nat := 18
def x__law_box_1 : Ex := Ex.lc (Ex.ife (Ex.cmp .is (Ex.var 6) (Ex.lit T.non)) (Ex.lit T.non) (Ex.call 18 (Exs.cons (Ex.var 6) Exs.nil))) (Tg.nm 6) .val (Exs.cons (Ex.slc (Ex.var 0) (Ex.lit (T.int 2)) Ex.nop) Exs.nil) Exs.nil
theorem q__law_box_1 {ρ : Lenv} {S : Store} {r : Out T} : bor ρ x__law_box_1 S r = r := prf rfl
theorem w__law_box_1 : fresh x__law_box_1 = true := prf rfl
def x__law_box_2 : Ex := Ex.lc (Ex.sub (Ex.var 7) (Ex.lit (T.int 0))) (Tg.nm 7) .val (Exs.cons (Ex.tup (Exs.cons (Ex.var 4) (Exs.cons (Ex.var 5) Exs.nil))) Exs.nil) (Exs.cons (Ex.cmp .isn (Ex.var 7) (Ex.lit T.non)) Exs.nil)
theorem q__law_box_2 {ρ : Lenv} {S : Store} {r : Out T} : bor ρ x__law_box_2 S r = r := prf rfl
theorem w__law_box_2 : fresh x__law_box_2 = true := prf rfl
def x__law_box_3 : Ex := Ex.lc (Ex.sub (Ex.call 18 (Exs.cons (Ex.sub (Ex.var 9) (Ex.var 8)) Exs.nil)) (Ex.lit (T.int 0))) (Tg.nm 9) .val (Exs.cons (Ex.sub (Ex.var 0) (Ex.lit (T.int 1))) Exs.nil) Exs.nil
theorem q__law_box_3 {ρ : Lenv} {S : Store} {r : Out T} : bor ρ x__law_box_3 S r = r := prf rfl
theorem w__law_box_3 : fresh x__law_box_3 = true := prf rfl
def l__law_box_1 : Sms := (Sms.cons (Sm.asg 3 (Ex.bin .add (Ex.bin .add (Ex.var 3) (Ex.bi .max (Exs.cons x__law_box_3 Exs.nil))) (Ex.lit (T.int 2)))) Sms.nil)
def s__law_box_1 : Sm := Sm.for_ (Tg.nm 8) .rng (Exs.cons (Ex.bi .len (Exs.cons (Ex.sub (Ex.sub (Ex.var 0) (Ex.lit (T.int 1))) (Ex.lit (T.int 0))) Exs.nil)) Exs.nil) l__law_box_1
def x__law_box_4 : Ex := Ex.lc (Ex.call 18 (Exs.cons (Ex.var 6) Exs.nil)) (Tg.nm 6) .val (Exs.cons (Ex.var 9) Exs.nil) Exs.nil
theorem q__law_box_4 {ρ : Lenv} {S : Store} {r : Out T} : bor ρ x__law_box_4 S r = r := prf rfl
theorem w__law_box_4 : fresh x__law_box_4 = true := prf rfl
def x__law_box_5 : Ex := Ex.lc (Ex.sub (Ex.var 7) (Ex.lit (T.int 1))) (Tg.nm 7) .val (Exs.cons (Ex.var 11) Exs.nil) Exs.nil
theorem q__law_box_5 {ρ : Lenv} {S : Store} {r : Out T} : bor ρ x__law_box_5 S r = r := prf rfl
theorem w__law_box_5 : fresh x__law_box_5 = true := prf rfl
def x__law_box_6 : Ex := Ex.lc (Ex.sub (Ex.var 7) (Ex.lit (T.int 2))) (Tg.nm 7) .val (Exs.cons (Ex.var 11) Exs.nil) Exs.nil
theorem q__law_box_6 {ρ : Lenv} {S : Store} {r : Out T} : bor ρ x__law_box_6 S r = r := prf rfl
theorem w__law_box_6 : fresh x__law_box_6 = true := prf rfl
def l__law_box_2 : Sms := (Sms.cons (Sm.asgC 11 x__law_box_4) (Sms.cons (Sm.asg 10 (Ex.bin .add (Ex.bin .add (Ex.bin .add (Ex.var 10) (Ex.bi .max (Exs.cons x__law_box_5 Exs.nil))) (Ex.bi .max (Exs.cons x__law_box_6 Exs.nil))) (Ex.lit (T.int 1)))) Sms.nil))
def s__law_box_2 : Sm := Sm.for_ (Tg.nm 9) .val (Exs.cons (Ex.sub (Ex.var 0) (Ex.lit (T.int 1))) Exs.nil) l__law_box_2
def x__law_box_7 : Ex := Ex.lc (Ex.call 18 (Exs.cons (Ex.var 6) Exs.nil)) (Tg.nm 6) .val (Exs.cons (Ex.call 15 (Exs.cons (Ex.var 0) Exs.nil)) Exs.nil) Exs.nil
theorem q__law_box_7 {ρ : Lenv} {S : Store} {r : Out T} : bor ρ x__law_box_7 S r = r := prf rfl
theorem w__law_box_7 : fresh x__law_box_7 = true := prf rfl
def x__law_box_8 : Ex := Ex.lc (Ex.bin .add (Ex.sub (Ex.var 7) (Ex.lit (T.int 0))) (Ex.lit (T.int 3))) (Tg.nm 7) .val (Exs.cons (Ex.var 11) Exs.nil) Exs.nil
theorem q__law_box_8 {ρ : Lenv} {S : Store} {r : Out T} : bor ρ x__law_box_8 S r = r := prf rfl
theorem w__law_box_8 : fresh x__law_box_8 = true := prf rfl
def x__law_box_9 : Ex := Ex.lc (Ex.sub (Ex.var 7) (Ex.lit (T.int 1))) (Tg.nm 7) .val (Exs.cons (Ex.var 11) Exs.nil) Exs.nil
theorem q__law_box_9 {ρ : Lenv} {S : Store} {r : Out T} : bor ρ x__law_box_9 S r = r := prf rfl
theorem w__law_box_9 : fresh x__law_box_9 = true := prf rfl
def x__law_box_10 : Ex := Ex.lc (Ex.sub (Ex.var 7) (Ex.lit (T.int 2))) (Tg.nm 7) .val (Exs.cons (Ex.var 11) Exs.nil) Exs.nil
theorem q__law_box_10 {ρ : Lenv} {S : Store} {r : Out T} : bor ρ x__law_box_10 S r = r := prf rfl
theorem w__law_box_10 : fresh x__law_box_10 = true := prf rfl
def b__law_box : Sms := (Sms.cons (Sm.asg 1 (Ex.sub (Ex.var 0) (Ex.lit (T.int 0)))) (Sms.cons (Sm.iff (Ex.cmp .eq (Ex.var 1) (Ex.lit (T.str [119, 111, 114, 100]))) (Sms.cons (Sm.ret (Ex.tup (Exs.cons (Ex.bi .len (Exs.cons (Ex.sub (Ex.var 0) (Ex.lit (T.int 1))) Exs.nil)) (Exs.cons (Ex.lit (T.int 0)) (Exs.cons (Ex.lit (T.int 0)) Exs.nil))))) Sms.nil) Sms.nil) (Sms.cons (Sm.iff (Ex.cmp .eq (Ex.var 1) (Ex.lit (T.str [115, 99, 114, 105, 112, 116]))) (Sms.cons (Sm.asg 2 (Ex.call 18 (Exs.cons (Ex.sub (Ex.var 0) (Ex.lit (T.int 1))) Exs.nil))) (Sms.cons (Sm.unp (Tgs.cons (Tg.nm 4) (Tgs.cons (Tg.nm 5) Tgs.nil)) x__law_box_1) (Sms.cons (Sm.asg 3 (Ex.bi .max (Exs.cons x__law_box_2 Exs.nil))) (Sms.cons (Sm.ret (Ex.tup (Exs.cons (Ex.bin .add (Ex.sub (Ex.var 2) (Ex.lit (T.int 0))) (Ex.var 3)) (Exs.cons (Ex.bin .add (Ex.sub (Ex.var 2) (Ex.lit (T.int 1))) (Ex.call 17 (Exs.cons (Ex.var 4) Exs.nil))) (Exs.cons (Ex.bin .add (Ex.sub (Ex.var 2) (Ex.lit (T.int 2))) (Ex.call 17 (Exs.cons (Ex.var 5) Exs.nil))) Exs.nil))))) Sms.nil)))) Sms.nil) (Sms.cons (Sm.iff (Ex.cmp .eq (Ex.var 1) (Ex.lit (T.str [116, 97, 98, 108, 101]))) (Sms.cons (Sm.par2 3 10 (Ex.lit (T.int 0)) (Ex.bin .sub (Ex.bi .len (Exs.cons (Ex.sub (Ex.var 0) (Ex.lit (T.int 1))) Exs.nil)) (Ex.lit (T.int 1)))) (Sms.cons s__law_box_1 (Sms.cons s__law_box_2 (Sms.cons (Sm.ret (Ex.tup (Exs.cons (Ex.var 3) (Exs.cons (Ex.bin .fdv (Ex.var 10) (Ex.lit (T.int 2))) (Exs.cons (Ex.bin .sub (Ex.bin .sub (Ex.var 10) (Ex.bin .fdv (Ex.var 10) (Ex.lit (T.int 2)))) (Ex.lit (T.int 1))) Exs.nil))))) Sms.nil)))) Sms.nil) (Sms.cons (Sm.asgC 11 x__law_box_7) (Sms.cons (Sm.iff (Ex.cmp .eq (Ex.var 1) (Ex.lit (T.str [99, 104, 97, 105, 110]))) (Sms.cons (Sm.asg 3 (Ex.bin .sub (Ex.bi .sum (Exs.cons x__law_box_8 Exs.nil)) (Ex.lit (T.int 3)))) (Sms.cons (Sm.ret (Ex.tup (Exs.cons (Ex.var 3) (Exs.cons (Ex.bi .max (Exs.cons x__law_box_9 Exs.nil)) (Exs.cons (Ex.bi .max (Exs.cons x__law_box_10 Exs.nil)) Exs.nil))))) Sms.nil)) Sms.nil) (Sms.cons (Sm.iff (Ex.cmp .eq (Ex.var 1) (Ex.lit (T.str [111, 118, 101, 114]))) (Sms.cons (Sm.ret (Ex.tup (Exs.cons (Ex.bin .add (Ex.bi .max (Exs.cons (Ex.sub (Ex.sub (Ex.var 11) (Ex.lit (T.int 0))) (Ex.lit (T.int 0))) (Exs.cons (Ex.sub (Ex.sub (Ex.var 11) (Ex.lit (T.int 1))) (Ex.lit (T.int 0))) Exs.nil))) (Ex.lit (T.int 2))) (Exs.cons (Ex.call 17 (Exs.cons (Ex.sub (Ex.var 11) (Ex.lit (T.int 0))) Exs.nil)) (Exs.cons (Ex.call 17 (Exs.cons (Ex.sub (Ex.var 11) (Ex.lit (T.int 1))) Exs.nil)) Exs.nil))))) Sms.nil) Sms.nil) (Sms.cons (Sm.asg 12 (Ex.ife (Ex.cmp .eq (Ex.var 1) (Ex.lit (T.str [114, 111, 111, 116]))) (Ex.lit (T.int 1)) (Ex.lit (T.int 2)))) (Sms.cons (Sm.ret (Ex.tup (Exs.cons (Ex.bin .add (Ex.sub (Ex.sub (Ex.var 11) (Ex.lit (T.int 0))) (Ex.lit (T.int 0))) (Ex.var 12)) (Exs.cons (Ex.bin .sub (Ex.bin .add (Ex.sub (Ex.sub (Ex.var 11) (Ex.lit (T.int 0))) (Ex.lit (T.int 1))) (Ex.lit (T.int 2))) (Ex.var 12)) (Exs.cons (Ex.sub (Ex.sub (Ex.var 11) (Ex.lit (T.int 0))) (Ex.lit (T.int 2))) Exs.nil))))) Sms.nil)))))))))
def f__law_box : FnI := ⟨(Str.ofString "_law_box"), 1, [(Str.ofString "_law_some"), (Str.ofString "_law_word"), (Str.ofString "_law_base_here"), (Str.ofString "_law_wide"), (Str.ofString "_law_up"), (Str.ofString "_law_down"), (Str.ofString "_law_part"), (Str.ofString "_law_one"), (Str.ofString "_law_k"), (Str.ofString "_law_row"), (Str.ofString "_law_high"), (Str.ofString "_law_boxes"), (Str.ofString "_law_more")], b__law_box⟩
abbrev i_law : Nat := 19
def l_law_1 : Sms := (Sms.cons (Sm.asg 2 (Ex.call 14 (Exs.cons (Ex.bin .add (Ex.call 8 (Exs.cons (Ex.var 0) (Exs.cons (Ex.bin .mod (Ex.var 1) (Ex.lit (T.int 9))) Exs.nil))) (Ex.bin .mul (Ex.lit (T.int 31)) (Ex.var 1))) (Exs.cons (Ex.lit (T.int 5)) Exs.nil)))) (Sms.cons (Sm.iff (Ex.not (Ex.call 10 (Exs.cons (Ex.call 7 (Exs.cons (Ex.var 2) Exs.nil)) (Exs.cons (Ex.call 18 (Exs.cons (Ex.var 2) Exs.nil)) Exs.nil)))) (Sms.cons (Sm.ret (Ex.lit (T.bl false))) Sms.nil) Sms.nil) Sms.nil))
def s_law_1 : Sm := Sm.for_ (Tg.nm 1) .rng (Exs.cons (Ex.lit (T.int 16)) Exs.nil) l_law_1
def b_law_5 : Sms := Sms.cons (Sm.ret (Ex.and (Ex.cmp .eq (Ex.call 7 (Exs.cons (Ex.tup (Exs.cons (Ex.lit (T.str [116, 97, 98, 108, 101])) (Exs.cons (Ex.tup (Exs.cons (Ex.tup (Exs.cons (Ex.var 3) (Exs.cons (Ex.var 3) Exs.nil))) (Exs.cons (Ex.tup (Exs.cons (Ex.var 3) (Exs.cons (Ex.var 3) Exs.nil))) Exs.nil))) Exs.nil))) Exs.nil)) (Ex.tup (Exs.cons (Ex.lit (T.int 6)) (Exs.cons (Ex.lit (T.int 1)) (Exs.cons (Ex.lit (T.int 1)) Exs.nil))))) (Ex.one (Ex.cmp .eq (Ex.call 7 (Exs.cons (Ex.tup (Exs.cons (Ex.lit (T.str [99, 104, 97, 105, 110])) (Exs.cons (Ex.var 3) (Exs.cons (Ex.tup (Exs.cons (Ex.tup (Exs.cons (Ex.lit (T.str [43])) (Exs.cons (Ex.tup (Exs.cons (Ex.lit (T.str [111, 118, 101, 114])) (Exs.cons (Ex.var 3) (Exs.cons (Ex.var 3) Exs.nil)))) Exs.nil))) Exs.nil)) Exs.nil)))) Exs.nil)) (Ex.tup (Exs.cons (Ex.lit (T.int 7)) (Exs.cons (Ex.lit (T.int 1)) (Exs.cons (Ex.lit (T.int 1)) Exs.nil)))))))) Sms.nil
def b_law_4 : Sms := Sms.cons (Sm.iff (Ex.cmp .ne (Ex.call 7 (Exs.cons (Ex.tup (Exs.cons (Ex.lit (T.str [115, 99, 114, 105, 112, 116])) (Exs.cons (Ex.var 3) (Exs.cons (Ex.var 3) (Exs.cons (Ex.var 3) Exs.nil))))) Exs.nil)) (Ex.tup (Exs.cons (Ex.lit (T.int 2)) (Exs.cons (Ex.lit (T.int 1)) (Exs.cons (Ex.lit (T.int 1)) Exs.nil))))) (Sms.cons (Sm.ret (Ex.lit (T.bl false))) Sms.nil) Sms.nil) b_law_5
def b_law_3 : Sms := Sms.cons (Sm.iff (Ex.or (Ex.cmp .ne (Ex.call 7 (Exs.cons (Ex.tup (Exs.cons (Ex.lit (T.str [111, 118, 101, 114])) (Exs.cons (Ex.tup (Exs.cons (Ex.lit (T.str [119, 111, 114, 100])) (Exs.cons (Ex.lit (T.str [97, 98, 99])) Exs.nil))) (Exs.cons (Ex.var 3) Exs.nil)))) Exs.nil)) (Ex.tup (Exs.cons (Ex.lit (T.int 5)) (Exs.cons (Ex.lit (T.int 1)) (Exs.cons (Ex.lit (T.int 1)) Exs.nil))))) (Ex.one (Ex.cmp .ne (Ex.call 7 (Exs.cons (Ex.tup (Exs.cons (Ex.lit (T.str [114, 111, 111, 116])) (Exs.cons (Ex.var 3) Exs.nil))) Exs.nil)) (Ex.tup (Exs.cons (Ex.lit (T.int 2)) (Exs.cons (Ex.lit (T.int 1)) (Exs.cons (Ex.lit (T.int 0)) Exs.nil))))))) (Sms.cons (Sm.ret (Ex.lit (T.bl false))) Sms.nil) Sms.nil) b_law_4
def b_law_2 : Sms := Sms.cons (Sm.asg 3 (Ex.tup (Exs.cons (Ex.lit (T.str [119, 111, 114, 100])) (Exs.cons (Ex.lit (T.str [97])) Exs.nil)))) b_law_3
def b_law : Sms := Sms.cons s_law_1 b_law_2
def f_law : FnI := ⟨(Str.ofString "law"), 1, [(Str.ofString "_law_script"), (Str.ofString "_law_k"), (Str.ofString "_law_some"), (Str.ofString "_law_a")], b_law⟩
def tab : List FnI := [f_kind, f_parts, f_rows_of, f_box_or_none, f_columns, f_heights, f_table_box, f_box, f__law_cell, f__law_mix, f__law_same, f__law_atom, f__law_base, f__law_item, f__law_draw, f__law_parts, f__law_ways, f__law_rows, f__law_box, f_law]
def glo : List (Str × T) := [((Str.ofString "GAP"), (T.int 3)), ((Str.ofString "BETWEEN"), (T.int 2))]
def exn : List Str := []
def top (i : Nat) : Stmt := PySem.Challenge.pw_sumlays_k03_boxes.main.body.getD i (.Pass ⟨0, 0, 0, 0⟩)
def d_kind : He.DefD := ⟨((Str.ofString "kind"), none), (Str.ofString "kind"), (Str.ofString "kind"), defArgs (top 1), defBody (top 1), defScope (top 1), [], []⟩
def d_parts : He.DefD := ⟨((Str.ofString "parts"), none), (Str.ofString "parts"), (Str.ofString "parts"), defArgs (top 2), defBody (top 2), defScope (top 2), [], []⟩
def d_rows_of : He.DefD := ⟨((Str.ofString "rows_of"), none), (Str.ofString "rows_of"), (Str.ofString "rows_of"), defArgs (top 6), defBody (top 6), defScope (top 6), [], []⟩
def d_box_or_none : He.DefD := ⟨((Str.ofString "box_or_none"), none), (Str.ofString "box_or_none"), (Str.ofString "box_or_none"), defArgs (top 7), defBody (top 7), defScope (top 7), [], []⟩
def d_columns : He.DefD := ⟨((Str.ofString "columns"), none), (Str.ofString "columns"), (Str.ofString "columns"), defArgs (top 8), defBody (top 8), defScope (top 8), [], []⟩
def d_heights : He.DefD := ⟨((Str.ofString "heights"), none), (Str.ofString "heights"), (Str.ofString "heights"), defArgs (top 9), defBody (top 9), defScope (top 9), [], []⟩
def d_table_box : He.DefD := ⟨((Str.ofString "table_box"), none), (Str.ofString "table_box"), (Str.ofString "table_box"), defArgs (top 10), defBody (top 10), defScope (top 10), [], []⟩
def d_box : He.DefD := ⟨((Str.ofString "box"), none), (Str.ofString "box"), (Str.ofString "box"), defArgs (top 11), defBody (top 11), defScope (top 11), [], []⟩
def d__law_cell : He.DefD := ⟨((Str.ofString "_law_cell"), none), (Str.ofString "_law_cell"), (Str.ofString "_law_cell"), defArgs (top 13), defBody (top 13), defScope (top 13), [], []⟩
def d__law_mix : He.DefD := ⟨((Str.ofString "_law_mix"), none), (Str.ofString "_law_mix"), (Str.ofString "_law_mix"), defArgs (top 14), defBody (top 14), defScope (top 14), [], []⟩
def d__law_same : He.DefD := ⟨((Str.ofString "_law_same"), none), (Str.ofString "_law_same"), (Str.ofString "_law_same"), defArgs (top 15), defBody (top 15), defScope (top 15), [], []⟩
def d__law_atom : He.DefD := ⟨((Str.ofString "_law_atom"), none), (Str.ofString "_law_atom"), (Str.ofString "_law_atom"), defArgs (top 16), defBody (top 16), defScope (top 16), [], []⟩
def d__law_base : He.DefD := ⟨((Str.ofString "_law_base"), none), (Str.ofString "_law_base"), (Str.ofString "_law_base"), defArgs (top 17), defBody (top 17), defScope (top 17), [], []⟩
def d__law_item : He.DefD := ⟨((Str.ofString "_law_item"), none), (Str.ofString "_law_item"), (Str.ofString "_law_item"), defArgs (top 18), defBody (top 18), defScope (top 18), [], []⟩
def d__law_draw : He.DefD := ⟨((Str.ofString "_law_draw"), none), (Str.ofString "_law_draw"), (Str.ofString "_law_draw"), defArgs (top 19), defBody (top 19), defScope (top 19), [], []⟩
def d__law_parts : He.DefD := ⟨((Str.ofString "_law_parts"), none), (Str.ofString "_law_parts"), (Str.ofString "_law_parts"), defArgs (top 20), defBody (top 20), defScope (top 20), [], []⟩
def d__law_ways : He.DefD := ⟨((Str.ofString "_law_ways"), none), (Str.ofString "_law_ways"), (Str.ofString "_law_ways"), defArgs (top 21), defBody (top 21), defScope (top 21), [], []⟩
def d__law_rows : He.DefD := ⟨((Str.ofString "_law_rows"), none), (Str.ofString "_law_rows"), (Str.ofString "_law_rows"), defArgs (top 22), defBody (top 22), defScope (top 22), [], []⟩
def d__law_box : He.DefD := ⟨((Str.ofString "_law_box"), none), (Str.ofString "_law_box"), (Str.ofString "_law_box"), defArgs (top 23), defBody (top 23), defScope (top 23), [], []⟩
def d_law : He.DefD := ⟨((Str.ofString "law"), none), (Str.ofString "law"), (Str.ofString "law"), defArgs (top 24), defBody (top 24), defScope (top 24), [], []⟩
def ds : List He.DefD := [d_kind, d_parts, d_rows_of, d_box_or_none, d_columns, d_heights, d_table_box, d_box, d__law_cell, d__law_mix, d__law_same, d__law_atom, d__law_base, d__law_item, d__law_draw, d__law_parts, d__law_ways, d__law_rows, d__law_box, d_law]
theorem bd_kind : BindOk f_kind d_kind := fun _ _ _ _ _ _ us hl => match us, hl with | [_], _ => rfl
theorem bd_parts : BindOk f_parts d_parts := fun _ _ _ _ _ _ us hl => match us, hl with | [_], _ => rfl
theorem bd_rows_of : BindOk f_rows_of d_rows_of := fun _ _ _ _ _ _ us hl => match us, hl with | [_], _ => rfl
theorem bd_box_or_none : BindOk f_box_or_none d_box_or_none := fun _ _ _ _ _ _ us hl => match us, hl with | [_], _ => rfl
theorem bd_columns : BindOk f_columns d_columns := fun _ _ _ _ _ _ us hl => match us, hl with | [_], _ => rfl
theorem bd_heights : BindOk f_heights d_heights := fun _ _ _ _ _ _ us hl => match us, hl with | [_], _ => rfl
theorem bd_table_box : BindOk f_table_box d_table_box := fun _ _ _ _ _ _ us hl => match us, hl with | [_], _ => rfl
theorem bd_box : BindOk f_box d_box := fun _ _ _ _ _ _ us hl => match us, hl with | [_], _ => rfl
theorem bd__law_cell : BindOk f__law_cell d__law_cell := fun _ _ _ _ _ _ us hl => match us, hl with | [_, _], _ => rfl
theorem bd__law_mix : BindOk f__law_mix d__law_mix := fun _ _ _ _ _ _ us hl => match us, hl with | [_, _, _], _ => rfl
theorem bd__law_same : BindOk f__law_same d__law_same := fun _ _ _ _ _ _ us hl => match us, hl with | [_, _], _ => rfl
theorem bd__law_atom : BindOk f__law_atom d__law_atom := fun _ _ _ _ _ _ us hl => match us, hl with | [_], _ => rfl
theorem bd__law_base : BindOk f__law_base d__law_base := fun _ _ _ _ _ _ us hl => match us, hl with | [_, _], _ => rfl
theorem bd__law_item : BindOk f__law_item d__law_item := fun _ _ _ _ _ _ us hl => match us, hl with | [_, _], _ => rfl
theorem bd__law_draw : BindOk f__law_draw d__law_draw := fun _ _ _ _ _ _ us hl => match us, hl with | [_, _], _ => rfl
theorem bd__law_parts : BindOk f__law_parts d__law_parts := fun _ _ _ _ _ _ us hl => match us, hl with | [_], _ => rfl
theorem bd__law_ways : BindOk f__law_ways d__law_ways := fun _ _ _ _ _ _ us hl => match us, hl with | [_], _ => rfl
theorem bd__law_rows : BindOk f__law_rows d__law_rows := fun _ _ _ _ _ _ us hl => match us, hl with | [_], _ => rfl
theorem bd__law_box : BindOk f__law_box d__law_box := fun _ _ _ _ _ _ us hl => match us, hl with | [_], _ => rfl
theorem bd_law : BindOk f_law d_law := fun _ _ _ _ _ _ us hl => match us, hl with | [_], _ => rfl
theorem bds : BindAll tab ds := ⟨bd_kind, bd_parts, bd_rows_of, bd_box_or_none, bd_columns, bd_heights, bd_table_box, bd_box, bd__law_cell, bd__law_mix, bd__law_same, bd__law_atom, bd__law_base, bd__law_item, bd__law_draw, bd__law_parts, bd__law_ways, bd__law_rows, bd__law_box, bd_law, trivial⟩
theorem oks : okAll tab glo exn tab ds = true := by decide +kernel
theorem t_kind : tab[i_kind]? = some f_kind := rfl
theorem t_parts : tab[i_parts]? = some f_parts := rfl
theorem t_rows_of : tab[i_rows_of]? = some f_rows_of := rfl
theorem t_box_or_none : tab[i_box_or_none]? = some f_box_or_none := rfl
theorem t_columns : tab[i_columns]? = some f_columns := rfl
theorem t_heights : tab[i_heights]? = some f_heights := rfl
theorem t_table_box : tab[i_table_box]? = some f_table_box := rfl
theorem t_box : tab[i_box]? = some f_box := rfl
theorem t__law_cell : tab[i__law_cell]? = some f__law_cell := rfl
theorem t__law_mix : tab[i__law_mix]? = some f__law_mix := rfl
theorem t__law_same : tab[i__law_same]? = some f__law_same := rfl
theorem t__law_atom : tab[i__law_atom]? = some f__law_atom := rfl
theorem t__law_base : tab[i__law_base]? = some f__law_base := rfl
theorem t__law_item : tab[i__law_item]? = some f__law_item := rfl
theorem t__law_draw : tab[i__law_draw]? = some f__law_draw := rfl
theorem t__law_parts : tab[i__law_parts]? = some f__law_parts := rfl
theorem t__law_ways : tab[i__law_ways]? = some f__law_ways := rfl
theorem t__law_rows : tab[i__law_rows]? = some f__law_rows := rfl
theorem t__law_box : tab[i__law_box]? = some f__law_box := rfl
theorem t_law : tab[i_law]? = some f_law := rfl
end K03
namespace K03
open PySem PySem.Spec L2 Ly
open PyProof.Rows hiding St
theorem kind_ev (t : T) (l : List T) : Ev tab i_kind [.tup (t :: l)] t 1 := Ev.mk t_kind rfl fun n hn S => by
  show (exs _ b_kind [.val _] S).fin = _
  simp! [b_kind]
theorem rows_non : Ev tab i_rows_of [.non] (.int 0) 1 := Ev.mk t_rows_of rfl fun n hn S => by
  show (exs _ b_rows_of [.val _] S).fin = _
  simp! [b_rows_of]
theorem rows_box (b : Bx) : Ev tab i_rows_of [boxT b] (.int (b.2.1 + b.2.2 + 1)) 1 := Ev.mk t_rows_of rfl fun n hn S => by
  show (exs _ b_rows_of [.val _] S).fin = _
  simp! [b_rows_of, boxT]
/-- the rows of a table, one behind another -/
theorem parts_loop (c : Call) (S : Store) (a b x1 x2 : Sl) (rows : List (List Tr)) (acc : List T) (y : Sl) (h : acc.length + rows.flatten.length ≤ sizeLine) :
    ∃ y', forL (fun x ρ S => optS ((Tg.nm 5).put x ρ) fun ρ' => exs c l_parts_1 ρ' S) (rows.map fun row => T.tup (row.map fun p => p.toT)) [a, b, x1, x2, .val (.tup acc), y] S = .nx [a, b, x1, x2, .val (.tup (acc ++ rows.flatten.map fun p => p.toT)), y'] S := by
  induction rows generalizing acc y with
  | nil => exact ⟨y, by simp [forL]⟩
  | cons row rows ih =>
    simp only [List.flatten_cons, List.length_append] at h
    have e : exs c l_parts_1 [a, b, x1, x2, .val (.tup acc), .val (.tup (row.map fun p => p.toT))] S = .nx [a, b, x1, x2, .val (.tup (acc ++ row.map fun p => p.toT)), .val (.tup (row.map fun p => p.toT))] S := by
      simp! [l_parts_1, List.length_map, show acc.length + row.length ≤ sizeLine from by omega]
    obtain ⟨y', k⟩ := ih (acc ++ row.map fun p => p.toT) (.val (.tup (row.map fun p => p.toT))) (by rw [List.length_append, List.length_map]; omega)
    refine ⟨y', ?_⟩
    rw [List.map_cons, forL_nx e, k, List.flatten_cons, List.map_append, List.append_assoc]
theorem parts_ev (s : Tr) (w : s.nd) : Ev tab i_parts [s.toT] (.tup (s.kids.map fun p => p.toT)) 2 := Ev.mk t_parts rfl fun n hn S => by
  have sl : (2000000 : Nat) ≤ sizeLine := by decide
  have hk : ∀ t l S, callF tab n i_kind [.tup (t :: l)] S = .ok t S := fun t l S => kind_ev t l n hn S
  show (exs _ b_parts [.val _, .un, .un, .un, .un, .un] S).fin = _
  cases s with
  | word x => simp! [b_parts, Tr.toT, hk, Tr.kids]
  | held a =>
    have e : ev (callF tab n) x_parts_2 [.val (.tup [.str ([104, 101, 108, 100] : List Nat), a.toT]), .val (.str ([104, 101, 108, 100] : List Nat)), .un, .un, .un, .un] S = .ok (.lst [a.toT]) S := by
      refine ev_lcf (l := [a.toT]) (fun x => x) some (ts := [.tup [a.toT]]) (by simp! []) rfl fun t ht => ?_
      rw [List.mem_singleton] at ht
      subst ht
      exact ⟨_, .bl true, rfl, by simp! [], .inl ⟨rfl, _, rfl, by simp! []⟩⟩
    simp! [b_parts, Tr.toT, hk, e, q_parts_2, Tr.kids]
  | root a =>
    have e : ev (callF tab n) x_parts_2 [.val (.tup [.str ([114, 111, 111, 116] : List Nat), a.toT]), .val (.str ([114, 111, 111, 116] : List Nat)), .un, .un, .un, .un] S = .ok (.lst [a.toT]) S := by
      refine ev_lcf (l := [a.toT]) (fun x => x) some (ts := [.tup [a.toT]]) (by simp! []) rfl fun t ht => ?_
      rw [List.mem_singleton] at ht
      subst ht
      exact ⟨_, .bl true, rfl, by simp! [], .inl ⟨rfl, _, rfl, by simp! []⟩⟩
    simp! [b_parts, Tr.toT, hk, e, q_parts_2, Tr.kids]
  | over a b =>
    have e : ev (callF tab n) x_parts_2 [.val (.tup [.str ([111, 118, 101, 114] : List Nat), a.toT, b.toT]), .val (.str ([111, 118, 101, 114] : List Nat)), .un, .un, .un, .un] S = .ok (.lst [a.toT, b.toT]) S := by
      refine ev_lcf (l := [a.toT, b.toT]) (fun x => x) some (ts := [.tup [a.toT, b.toT]]) (by simp! []) rfl fun t ht => ?_
      simp only [List.mem_cons, List.not_mem_nil, or_false] at ht
      rcases ht with rfl | rfl <;> exact ⟨_, .bl true, rfl, by simp! [], .inl ⟨rfl, _, rfl, by simp! []⟩⟩
    simp! [b_parts, Tr.toT, hk, e, q_parts_2, Tr.kids]
  | script a u d =>
    have e : ∀ t1 t2, (t1 = .non ∨ T.isNon t1 = false) → (t2 = .non ∨ T.isNon t2 = false) → ev (callF tab n) x_parts_2 [.val (.tup [.str ([115, 99, 114, 105, 112, 116] : List Nat), a.toT, t1, t2]), .val (.str ([115, 99, 114, 105, 112, 116] : List Nat)), .un, .un, .un, .un] S = .ok (.lst ([a.toT, t1, t2].filterMap fun t => if t.isNon then none else some t)) S := by
      intro t1 t2 h1 h2
      refine ev_lcf (l := [a.toT, t1, t2]) (fun x => x) _ (ts := [.tup [a.toT, t1, t2]]) (by simp! []) rfl fun t ht => ?_
      have ht : t = .non ∨ T.isNon t = false := by
        simp only [List.mem_cons, List.not_mem_nil, or_false] at ht
        rcases ht with rfl | rfl | rfl
        · exact .inr (Tr.isNon _)
        · exact h1
        · exact h2
      rcases ht with rfl | ht
      · exact ⟨_, .bl false, rfl, by simp! [], .inr ⟨rfl, if_pos rfl⟩⟩
      · exact ⟨_, .bl true, rfl, by simp! [ht], .inl ⟨rfl, t, if_neg (by rw [ht]; exact Bool.false_ne_true), by simp! []⟩⟩
    cases u <;> cases d
    · simp! [b_parts, Tr.toT, hk, e _ _ (.inl rfl) (.inl rfl), q_parts_2, Tr.kids]
      simp only [List.filterMap_cons, List.filterMap_nil, Tr.isNon, non_non, if_true, if_false, Bool.false_eq_true, List.append_nil, List.nil_append, Option.toList, List.map_cons, List.map_nil, List.cons_append]
    · rename_i d
      simp! [b_parts, Tr.toT, hk, e _ _ (.inl rfl) (.inr d.isNon), q_parts_2, Tr.kids]
      simp only [List.filterMap_cons, List.filterMap_nil, Tr.isNon, non_non, if_true, if_false, Bool.false_eq_true, List.append_nil, List.nil_append, Option.toList, List.map_cons, List.map_nil, List.cons_append]
    · rename_i u
      simp! [b_parts, Tr.toT, hk, e _ _ (.inr u.isNon) (.inl rfl), q_parts_2, Tr.kids]
      simp only [List.filterMap_cons, List.filterMap_nil, Tr.isNon, non_non, if_true, if_false, Bool.false_eq_true, List.append_nil, List.nil_append, Option.toList, List.map_cons, List.map_nil, List.cons_append]
    · rename_i u d
      simp! [b_parts, Tr.toT, hk, e _ _ (.inr u.isNon) (.inr d.isNon), q_parts_2, Tr.kids]
      simp only [List.filterMap_cons, List.filterMap_nil, Tr.isNon, non_non, if_true, if_false, Bool.false_eq_true, List.append_nil, List.nil_append, Option.toList, List.map_cons, List.map_nil, List.cons_append]
  | chain a r =>
    have w : 1 ≤ r.length ∧ r.length ≤ 1000 := w
    have e : ev (callF tab n) x_parts_1 [.val (.tup [.str ([99, 104, 97, 105, 110] : List Nat), a.toT, .tup (r.map fun p => .tup [.str [p.1], p.2.toT])]), .val (.str ([99, 104, 97, 105, 110] : List Nat)), .un, .un, .un, .un] S = .ok (.lst (r.map fun p => p.2.toT)) S := by
      refine ev_lcm (l := r) _ _ (ts := [.tup (r.map fun p => .tup [.str [p.1], p.2.toT])]) (by simp! []) rfl fun p hp => ?_
      exact ⟨_, rfl, by simp! []⟩
    simp! [b_parts, Tr.toT, hk, e, q_parts_1, Tr.kids, List.length_map, List.map_map, show 0 + 1 + r.length ≤ sizeLine from by omega]
    rfl
  | table rows =>
    obtain ⟨w1, w2, w, w3, w4, w5⟩ : rows ≠ [] ∧ rows.length ≤ 1000 ∧ ∃ w, 1 ≤ w ∧ w ≤ 1000 ∧ ∀ row ∈ rows, row.length = w := w
    have hl : rows.flatten.length = rows.length * w := by
      clear w1 w2
      induction rows with
      | nil => simp
      | cons a l ih => rw [List.flatten_cons, List.length_append, ih fun r hr => w5 r (List.mem_cons_of_mem _ hr), w5 a List.mem_cons_self, List.length_cons, Nat.add_mul]; omega
    have hl2 : rows.length * w ≤ 1000 * 1000 := Nat.mul_le_mul w2 w4
    obtain ⟨y', k⟩ := parts_loop (callF tab n) S (.val (.tup [.str ([116, 97, 98, 108, 101] : List Nat), .tup (rows.map fun row => .tup (row.map fun p => p.toT))])) (.val (.str ([116, 97, 98, 108, 101] : List Nat))) .un .un rows [] .un (by simp only [List.length_nil]; omega)
    have e : ex (callF tab n) s_parts_1 [.val (.tup [.str ([116, 97, 98, 108, 101] : List Nat), .tup (rows.map fun row => .tup (row.map fun p => p.toT))]), .val (.str ([116, 97, 98, 108, 101] : List Nat)), .un, .un, .val (.tup []), .un] S = _ := (ex_for (ts := [.tup (rows.map fun row => .tup (row.map fun p => p.toT))]) (by simp! []) rfl).trans k
    simp! [b_parts, Tr.toT, hk, e, Tr.kids]
end K03
namespace K03
open PySem PySem.Spec L2 Ly
open PyProof.Rows hiding St
/-- box, of things of less height -/
def BoxAt (n : Nat) (p : Tr) : Prop := ∀ S, callF tab n i_box [p.toT] S = .ok (boxT p.bx) S
theorem columns_ev (rows : List (List Tr)) (h0 : rows ≠ []) (w : Nat) (hw : ∀ row ∈ rows, row.length = w) (hw2 : w ≤ 1000) (m : Nat) (hb : ∀ row ∈ rows, ∀ p ∈ row, BoxAt m p) (S : Store) :
    callF tab (m + 1) i_columns [.tup (rows.map fun row => .tup (row.map fun p => p.toT))] S = .ok (.lst ((tabCols (rows.map fun row => row.map fun p => p.bx)).map T.int)) S := by
  refine call_ok t_columns rfl ?_
  show (exs _ b_columns [.val _, .un, .un] S).fin = _
  obtain ⟨r0, rs, rfl⟩ : ∃ r0 rs, rows = r0 :: rs := by
    cases rows with
    | nil => exact absurd rfl h0
    | cons a l => exact ⟨a, l, rfl⟩
  have e1 : ∀ (k : Nat), k < w → ∀ x, ev (callF tab m) x_columns_1 [.val (.tup ((r0 :: rs).map fun row => .tup (row.map fun p => p.toT))), .val (.int k), x] S = .ok (.lst ((r0 :: rs).map fun row => .int ((row.map fun p => p.bx).getD k (0, 0, 0)).1)) S := fun k hk x => by
    refine ev_lcm (l := r0 :: rs) (fun row => .tup (row.map fun p => p.toT)) _ (ts := [.tup ((r0 :: rs).map fun row => .tup (row.map fun p => p.toT))]) (by simp! []) rfl fun row hr => ⟨_, rfl, ?_⟩
    have hl := hw row hr
    have hk2 : k < row.length := by omega
    have hp := hb row hr _ (List.getElem_mem hk2) S
    have hs : T.sub? (.tup (row.map fun p => p.toT)) (.int (k : Nat)) = some (row[k].toT) := sub_tk (by rw [List.getElem?_map, List.getElem?_eq_getElem hk2]; rfl)
    have hg : (row.map fun p => p.bx).getD k (0, 0, 0) = row[k].bx := by rw [List.getD_eq_getElem?_getD, List.getElem?_map, List.getElem?_eq_getElem hk2]; rfl
    simp! [hs, hp, hg, boxT]
  have e2 : ∀ x y, ev (callF tab m) x_columns_2 [.val (.tup ((r0 :: rs).map fun row => .tup (row.map fun p => p.toT))), x, y] S = .ok (.lst ((tabCols ((r0 :: rs).map fun row => row.map fun p => p.bx)).map T.int)) S := fun x y => by
    have hl := hw r0 List.mem_cons_self
    have q : (tabCols ((r0 :: rs).map fun row => row.map fun p => p.bx)).map T.int = (List.range w).map fun k => T.int (maxI ((r0 :: rs).map fun row => ((row.map fun p => p.bx).getD k (0, 0, 0)).1)) := by
      unfold tabCols
      rw [List.map_map, List.map_cons, List.headD_cons, List.length_map, hl, ← List.map_cons (f := fun row : List Tr => row.map fun p => p.bx)]
      refine List.map_congr_left fun k _ => ?_
      rw [Function.comp, List.map_map]
      rfl
    rw [q]
    refine ev_lcm (l := List.range w) (fun (k : Nat) => T.int k) _ (ts := [.int w]) (by simp! [List.length_map, hl]) ?_ fun k hk => ⟨_, rfl, ?_⟩
    · rw [it_rng1 (by omega)]; rfl
    · have hk := List.mem_range.mp hk
      have := max_lst (fun row : List Tr => ((row.map fun p => p.bx).getD k (0, 0, 0)).1) (l := r0 :: rs) (by simp)
      have e1 := e1 k hk
      simp only [List.map_cons] at this e1 ⊢
      simp! [e1, q_columns_1, this]
  have e2 := e2 .un .un
  simp only [List.map_cons] at e2 ⊢
  simp! [b_columns, e2]
def highs (rows : List (List Bx)) : List (Int × Int) := rows.map fun row => (maxI (row.map (·.2.1)), maxI (row.map (·.2.2)))
theorem heights_ev (rows : List (List Tr)) (w : Nat) (hw : ∀ row ∈ rows, row.length = w) (hw1 : 1 ≤ w) (m : Nat) (hb : ∀ row ∈ rows, ∀ p ∈ row, BoxAt m p) (S : Store) :
    callF tab (m + 1) i_heights [.tup (rows.map fun row => .tup (row.map fun p => p.toT))] S = .ok (.lst (rows.map fun row => .tup [.int (maxI (row.map fun p => p.bx.2.1)), .int (maxI (row.map fun p => p.bx.2.2))])) S := by
  refine call_ok t_heights rfl ?_
  show (exs _ b_heights [.val _, .un, .un] S).fin = _
  have e1 : ∀ row ∈ rows, ∀ a x, ev (callF tab m) x_heights_1 [a, .val (.tup (row.map fun p => p.toT)), x] S = .ok (.lst (row.map fun p => .int p.bx.2.1)) S := fun row hr a x => by
    refine ev_lcm (l := row) (fun p => p.toT) _ (ts := [.tup (row.map fun p => p.toT)]) (by simp! []) rfl fun p hp => ⟨_, rfl, ?_⟩
    have hp := hb row hr p hp S
    simp! [hp, boxT]
  have e2 : ∀ row ∈ rows, ∀ a x, ev (callF tab m) x_heights_2 [a, .val (.tup (row.map fun p => p.toT)), x] S = .ok (.lst (row.map fun p => .int p.bx.2.2)) S := fun row hr a x => by
    refine ev_lcm (l := row) (fun p => p.toT) _ (ts := [.tup (row.map fun p => p.toT)]) (by simp! []) rfl fun p hp => ⟨_, rfl, ?_⟩
    have hp := hb row hr p hp S
    simp! [hp, boxT]
  have e3 : ev (callF tab m) x_heights_3 [.val (.tup (rows.map fun row => .tup (row.map fun p => p.toT))), .un, .un] S = .ok (.lst (rows.map fun row => .tup [.int (maxI (row.map fun p => p.bx.2.1)), .int (maxI (row.map fun p => p.bx.2.2))])) S := by
    refine ev_lcm (l := rows) (fun row => .tup (row.map fun p => p.toT)) _ (ts := [.tup (rows.map fun row => .tup (row.map fun p => p.toT))]) (by simp! []) rfl fun row hr => ⟨_, rfl, ?_⟩
    have hn : row ≠ [] := fun q => by have := hw row hr; rw [q] at this; simp at this; omega
    simp! [e1 row hr, e2 row hr, q_heights_1, q_heights_2, max_lst (fun p : Tr => p.bx.2.1) hn, max_lst (fun p : Tr => p.bx.2.2) hn]
  simp! [b_heights, e3]
theorem table_ev (rows : List (List Tr)) (h0 : (Tr.table rows).nd) (m : Nat) (hb : ∀ row ∈ rows, ∀ p ∈ row, BoxAt m p) (S : Store) :
    callF tab (m + 2) i_table_box [.tup (rows.map fun row => .tup (row.map fun p => p.toT))] S = .ok (boxT (Tr.table rows).bx) S := by
  obtain ⟨w1, w2, w, w3, w4, w5⟩ : rows ≠ [] ∧ rows.length ≤ 1000 ∧ ∃ w, 1 ≤ w ∧ w ≤ 1000 ∧ ∀ row ∈ rows, row.length = w := h0
  refine call_ok t_table_box rfl ?_
  show (exs _ b_table_box [.val _, .un, .un, .un, .un] S).fin = _
  have c1 := columns_ev rows w1 w w5 w4 m hb
  have c2 := heights_ev rows w w5 w3 m hb
  have e1 : ∀ a b x y, ev (callF tab (m + 1)) x_table_box_1 [.val (.tup (rows.map fun row => .tup (row.map fun p => p.toT))), a, b, x, y] S = .ok (.lst (rows.map fun row => .int (maxI (row.map fun p => p.bx.2.1) + maxI (row.map fun p => p.bx.2.2) + 1))) S := fun a b x y => by
    refine ev_lcm (l := rows) (fun row => .tup [.int (maxI (row.map fun p => p.bx.2.1)), .int (maxI (row.map fun p => p.bx.2.2))]) _ (ts := [.lst (rows.map fun row => .tup [.int (maxI (row.map fun p => p.bx.2.1)), .int (maxI (row.map fun p => p.bx.2.2))])]) (by simp! [c2]) rfl fun row hr => ⟨_, rfl, ?_⟩
    simp! []
  have s1 := sum_lst (fun row : List Tr => maxI (row.map fun p => p.bx.2.1) + maxI (row.map fun p => p.bx.2.2) + 1) rows
  have s2 := sum_lst (fun x : Int => x) (tabCols (rows.map fun row => row.map fun p => p.bx))
  simp! [b_table_box, c1, e1, q_table_box_1, s1, s2, List.length_map]
  rw [Tr.bx, tabBox, boxT, tabHigh, List.length_map, List.map_map]
  simp only [List.map_id', Function.comp_def, List.map_map]
theorem bon_non (n : Nat) (S : Store) : callF tab (n + 1) i_box_or_none [.non] S = .ok .non S := by
  refine call_ok t_box_or_none rfl ?_
  show (exs _ b_box_or_none [.val _] S).fin = _
  simp! [b_box_or_none]
theorem bon_some (n : Nat) (p : Tr) (h : BoxAt n p) (S : Store) : callF tab (n + 1) i_box_or_none [p.toT] S = .ok (boxT p.bx) S := by
  refine call_ok t_box_or_none rfl ?_
  show (exs _ b_box_or_none [.val _] S).fin = _
  have h := h S
  simp! [b_box_or_none, h]
theorem boxT_non (b : Bx) : T.isNon (boxT b) = false := rfl
def HasBox (s : Tr) : Prop := ∀ n, 3 * s.ht ≤ n → BoxAt n s
theorem box_ev : ∀ s : Tr, s.Wf → HasBox s := Tr.ind fun s IH W n hn => by
  have IHn : ∀ m, n ≤ m + 3 → ∀ p ∈ s.kids, BoxAt m p := fun m hm p hp => IH p hp (W.k p hp) m (by have := Tr.ht_lt hp; omega)
  have hpos := s.ht_pos
  obtain ⟨n, rfl⟩ : ∃ m, n = m + 3 := ⟨n - 3, by omega⟩
  intro S
  refine call_ok t_box rfl ?_
  show (exs _ b_box [.val _, .un, .un, .un, .un, .un, .un, .un, .un] S).fin = _
  have hk : ∀ t l S, callF tab (n + 2) i_kind [.tup (t :: l)] S = .ok t S := fun t l S => kind_ev t l _ (by omega) S
  have hp : ∀ S, callF tab (n + 2) i_parts [s.toT] S = .ok (.tup (s.kids.map fun p => p.toT)) S := parts_ev s W.n _ (by omega)
  have hb : ∀ p ∈ s.kids, BoxAt (n + 2) p := IHn _ (by omega)
  have e3 : ∀ x0 x1 x2 x3 x4 x5 x6 x7 x8, x0 = .val s.toT → ev (callF tab (n + 2)) x_box_3 [x0, x1, x2, x3, x4, x5, x6, x7, x8] S = .ok (.lst (s.kids.map fun p => boxT p.bx)) S := fun x0 x1 x2 x3 x4 x5 x6 x7 x8 h0 => by
    subst h0
    refine ev_lcm (l := s.kids) (fun p => p.toT) _ (ts := [.tup (s.kids.map fun p => p.toT)]) (by simp! [hp]) rfl fun p h => ⟨_, rfl, ?_⟩
    have := hb p h S
    simp! [this]
  cases s with
  | word x => simp! [b_box, Tr.toT, hk, Tr.bx, boxT]
  | held a =>
    have e3 := fun x1 x2 x3 x4 x5 x6 x7 x8 => e3 _ x1 x2 x3 x4 x5 x6 x7 x8 rfl
    simp only [Tr.toT, Tr.kids] at e3
    simp! [b_box, Tr.toT, hk, Tr.bx, boxT, e3, q_box_3]
  | root a =>
    have e3 := fun x1 x2 x3 x4 x5 x6 x7 x8 => e3 _ x1 x2 x3 x4 x5 x6 x7 x8 rfl
    simp only [Tr.toT, Tr.kids] at e3
    simp! [b_box, Tr.toT, hk, Tr.bx, boxT, e3, q_box_3]
  | over a b =>
    have e3 := fun x1 x2 x3 x4 x5 x6 x7 x8 => e3 _ x1 x2 x3 x4 x5 x6 x7 x8 rfl
    simp only [Tr.toT, Tr.kids] at e3
    have r := fun b S => rows_box b (n + 2) (by omega) S
    simp only [boxT] at r
    simp! [b_box, Tr.toT, hk, Tr.bx, boxT, e3, q_box_3, r]
  | table rows =>
    have := table_ev rows W.n n fun row hr p hp => IHn n (by omega) p (List.mem_flatten_of_mem hr hp)
    simp! [b_box, Tr.toT, hk, this]
  | chain a r =>
    have e3 := fun x1 x2 x3 x4 x5 x6 x7 x8 => e3 _ x1 x2 x3 x4 x5 x6 x7 x8 rfl
    simp only [Tr.toT] at e3
    have q : (Tr.chain a r).bx = chainBox ((Tr.chain a r).kids.map fun p => p.bx) := by
      rw [Tr.bx, Tr.kids, List.map_cons, List.map_map]; rfl
    have ne : (Tr.chain a r).kids ≠ [] := by simp [Tr.kids]
    generalize (Tr.chain a r).kids = ks at e3 q ne
    have e4 : ∀ x0 x1 x2 x3 x4 x5 x6 x7, ev (callF tab (n + 2)) x_box_4 [x0, x1, x2, x3, x4, x5, x6, x7, .val (.lst (ks.map fun p => boxT p.bx))] S = .ok (.lst (ks.map fun p => .int p.bx.1)) S := fun x0 x1 x2 x3 x4 x5 x6 x7 => by
      refine ev_lcm (l := ks) (fun p => boxT p.bx) _ (ts := [.lst (ks.map fun p => boxT p.bx)]) (by simp! []) rfl fun p h => ⟨_, rfl, ?_⟩
      simp! [boxT]
    have e5 : ∀ x0 x1 x2 x3 x4 x5 x6 x7, ev (callF tab (n + 2)) x_box_5 [x0, x1, x2, x3, x4, x5, x6, x7, .val (.lst (ks.map fun p => boxT p.bx))] S = .ok (.lst (ks.map fun p => .int p.bx.2.1)) S := fun x0 x1 x2 x3 x4 x5 x6 x7 => by
      refine ev_lcm (l := ks) (fun p => boxT p.bx) _ (ts := [.lst (ks.map fun p => boxT p.bx)]) (by simp! []) rfl fun p h => ⟨_, rfl, ?_⟩
      simp! [boxT]
    have e6 : ∀ x0 x1 x2 x3 x4 x5 x6 x7, ev (callF tab (n + 2)) x_box_6 [x0, x1, x2, x3, x4, x5, x6, x7, .val (.lst (ks.map fun p => boxT p.bx))] S = .ok (.lst (ks.map fun p => .int p.bx.2.2)) S := fun x0 x1 x2 x3 x4 x5 x6 x7 => by
      refine ev_lcm (l := ks) (fun p => boxT p.bx) _ (ts := [.lst (ks.map fun p => boxT p.bx)]) (by simp! []) rfl fun p h => ⟨_, rfl, ?_⟩
      simp! [boxT]
    have s1 := sum_lst (fun p : Tr => p.bx.1) ks
    have s2 := max_lst (fun p : Tr => p.bx.2.1) ne
    have s3 := max_lst (fun p : Tr => p.bx.2.2) ne
    rw [q, chainBox, boxT]
    simp only [List.length_map, List.map_map, Function.comp_def]
    simp! [b_box, Tr.toT, hk, e3, q_box_3, e4, e5, e6, q_box_4, q_box_5, q_box_6, s1, s2, s3, List.length_map]
  | script a u d =>
    have hw : u.isSome = true ∨ d.isSome = true := W.n
    have hb1 : ∀ p ∈ (Tr.script a u d).kids, ∀ S, callF tab (n + 2) i_box_or_none [p.toT] S = .ok (boxT p.bx) S := fun p h => bon_some _ p (IHn _ (by omega) p h)
    have hb0 := bon_non (n + 1)
    have hr1 := fun b S => rows_box b (n + 2) (by omega) S
    have hr0 := fun S => rows_non (n + 2) (by omega) S
    have e1 : ∀ (t1 t2 : Option Tr), (∀ p ∈ t1, p ∈ (Tr.script a u d).kids) → (∀ p ∈ t2, p ∈ (Tr.script a u d).kids) → ∀ x1 x2 x3 x4 x5 x6 x7 x8, ev (callF tab (n + 2)) x_box_1 [.val (.tup [.str ([115, 99, 114, 105, 112, 116] : List Nat), a.toT, optT Tr.toT t1, optT Tr.toT t2]), x1, x2, x3, x4, x5, x6, x7, x8] S = .ok (.lst [boxT a.bx, optT (fun p => boxT p.bx) t1, optT (fun p => boxT p.bx) t2]) S := by
      intro t1 t2 h1 h2 x1 x2 x3 x4 x5 x6 x7 x8
      refine ev_lcm (l := [some a, t1, t2]) (optT Tr.toT) (optT fun p => boxT p.bx) (ts := [.tup [a.toT, optT Tr.toT t1, optT Tr.toT t2]]) (by simp! []) rfl fun t ht => ⟨_, rfl, ?_⟩
      have : ∀ p ∈ t, p ∈ (Tr.script a u d).kids := by
        simp only [List.mem_cons, List.not_mem_nil, or_false] at ht
        rcases ht with rfl | rfl | rfl
        · intro p hp; cases hp; simp [Tr.kids]
        · exact h1
        · exact h2
      cases t with
      | none => simp! [optT, hb0]
      | some p => simp! [optT, hb1 p (this p rfl)]
    have e2 : ∀ (t1 t2 : Option Tr) x0 x1 x2 x3 x6 x7 x8, ev (callF tab (n + 2)) x_box_2 [x0, x1, x2, x3, .val (optT (fun p => boxT p.bx) t1), .val (optT (fun p => boxT p.bx) t2), x6, x7, x8] S = .ok (.lst ((t1.toList ++ t2.toList).map fun p => .int p.bx.1)) S := by
      intro t1 t2 x0 x1 x2 x3 x6 x7 x8
      have q : (t1.toList ++ t2.toList).map (fun p : Tr => T.int p.bx.1) = [t1, t2].filterMap fun t => t.map fun p => T.int p.bx.1 := by cases t1 <;> cases t2 <;> rfl
      rw [q]
      refine ev_lcf (l := [t1, t2]) (optT fun p => boxT p.bx) _ (ts := [.tup [optT (fun p => boxT p.bx) t1, optT (fun p => boxT p.bx) t2]]) (by simp! []) rfl fun t ht => ?_
      cases t with
      | none => exact ⟨_, .bl false, rfl, by simp! [optT], .inr ⟨rfl, rfl⟩⟩
      | some p => exact ⟨_, .bl true, rfl, by simp! [optT, boxT_non], .inl ⟨rfl, _, rfl, by simp! [optT, boxT]⟩⟩
    have mx := fun (t1 t2 : Option Tr) (h : t1.toList ++ t2.toList ≠ []) => max_lst (fun p : Tr => p.bx.1) h
    cases u with
    | none =>
      cases d with
      | none => simp at hw
      | some d =>
        have e1 := e1 none (some d) (by simp) (by simp [Tr.kids])
        have e2 := e2 none (some d)
        have mx := mx none (some d) (by simp)
        simp only [optT, Option.toList, List.nil_append, List.map_cons, List.map_nil, maxI, boxT] at e1 e2 mx hr1
        simp! [b_box, Tr.toT, hk, e1, e2, q_box_1, q_box_2, mx, hr0, hr1, Tr.bx, boxT]
    | some u =>
      cases d with
      | none =>
        have e1 := e1 (some u) none (by simp [Tr.kids]) (by simp)
        have e2 := e2 (some u) none
        have mx := mx (some u) none (by simp)
        simp only [optT, Option.toList, List.append_nil, List.map_cons, List.map_nil, maxI, boxT] at e1 e2 mx hr1
        simp! [b_box, Tr.toT, hk, e1, e2, q_box_1, q_box_2, mx, hr0, hr1, Tr.bx, boxT]
      | some d =>
        have e1 := e1 (some u) (some d) (by simp [Tr.kids]) (by simp [Tr.kids])
        have e2 := e2 (some u) (some d)
        have mx := mx (some u) (some d) (by simp)
        simp only [optT, Option.toList, List.cons_append, List.nil_append, List.map_cons, List.map_nil, maxI, boxT] at e1 e2 mx hr1
        simp! [b_box, Tr.toT, hk, e1, e2, q_box_1, q_box_2, mx, hr0, hr1, Tr.bx, boxT]
end K03
namespace K03
open PySem PySem.Spec L2 Ly
open PyProof.Rows hiding St
def mixI (c p m : Int) : Int := (c * 48271 % p) * ((c * 48271 % p) + 7) % p % m
theorem mix_lt (c p : Int) {m : Int} (h : 0 < m) : 0 ≤ mixI c p m ∧ mixI c p m < m := ⟨Int.emod_nonneg _ (by omega), Int.emod_lt_of_pos _ h⟩
theorem mix_ev (c p m : Int) (h1 : 0 < p) (h2 : p ≤ 1000000) (h3 : 0 < m) : Ev tab i__law_mix [.int c, .int p, .int m] (.int (mixI c p m)) 1 := Ev.mk t__law_mix rfl fun n hn S => by
  show (exs _ b__law_mix [.val _, .val _, .val _, .un] S).fin = _
  have e1 := Int.emod_nonneg (c * 48271) (show p ≠ 0 by omega)
  have e2 := Int.emod_lt_of_pos (c * 48271) h1
  have e3 : T.mul (.int (c * 48271 % p)) (.int (c * 48271 % p + 7)) = some (.int ((c * 48271 % p) * (c * 48271 % p + 7))) := mul_il (by simp only [Bool.and_eq_true, decide_eq_true_eq]; omega)
  simp! [b__law_mix, mod_i, h1, h3, e3, mixI]
theorem atom_ev (c : Int) : ∃ x, x ∈ atoms ∧ Ev tab i__law_atom [.int c] (.tup [.str ([119, 111, 114, 100] : List Nat), .str x]) 2 := by
  have h := mix_lt c 9973 (m := 6) (by omega)
  have hm := mix_ev c 9973 6 (by omega) (by omega) (by omega)
  generalize mixI c 9973 6 = i at h hm
  obtain ⟨k, rfl⟩ : ∃ k : Nat, i = k := ⟨i.toNat, by omega⟩
  have hk : k < atoms.length := by simp [atoms]; omega
  refine ⟨atoms[k], List.getElem_mem hk, Ev.mk t__law_atom rfl fun n hn S => ?_⟩
  show (exs _ b__law_atom [.val _] S).fin = _
  have hm := hm n hn
  have hs : T.sub? (.tup [.str [97], .str [98], .str [120, 49], .str [108, 111, 110, 103], .str [55], .str [97, 98, 99, 100, 101, 102]]) (.int (k : Nat)) = some (.str atoms[k]) := by
    refine sub_tk (l := atoms.map T.str) ?_
    rw [List.getElem?_map, List.getElem?_eq_getElem hk]; rfl
  simp! [b__law_atom, hm, hs]
theorem base_loop (m : Nat) (S : Store) (f : Int → Tr) (cell : Int) (L w : Nat) (hw : w ≤ 3) (hf : ∀ c S, callF tab m i__law_draw [.int c, .int (min ((L : Int) - 1) 2)] S = .ok ((f c).toT) S) (x2 : Sl) (ks : List Nat) : ∀ (acc : List T) (x5 x6 : Sl), acc.length + ks.length ≤ 1000 →
    ∃ y5 y6, forL (fun x ρ S => optS ((Tg.nm 5).put x ρ) fun ρ' => exs (callF tab m) l__law_base_1 ρ' S) (ks.map fun (k : Nat) => T.int k) [.val (.int cell), .val (.int L), x2, .val (.tup acc), .val (.int w), x5, x6, .un, .un] S
      = .nx [.val (.int cell), .val (.int L), x2, .val (.tup (acc ++ ks.map fun k => .tup ((List.range w).map fun j => (f (cell * 3 + 7 * (k : Nat) + 5 * (j : Nat) + 2)).toT))), .val (.int w), y5, y6, .un, .un] S := by
  induction ks with
  | nil => exact fun acc x5 x6 _ => ⟨x5, x6, by simp [forL]⟩
  | cons k ks ih =>
    intro acc x5 x6 hl
    have sl : (1000000 : Nat) ≤ sizeLine := by decide
    rw [List.length_cons] at hl
    have e1 : ∀ x3 x6, ev (callF tab m) x__law_base_1 [.val (.int cell), .val (.int L), x2, x3, .val (.int w), .val (.int k), x6, .un, .un] S = .ok (.lst ((List.range w).map fun (j : Nat) => T.int (cell * 3 + 7 * (k : Nat) + 5 * (j : Nat) + 2))) S := fun x3 x6 => by
      refine ev_lcm (l := List.range w) (fun (j : Nat) => T.int j) _ (ts := [.int w]) (by simp! []) (it_rng1 (by omega)) fun j hj => ⟨_, rfl, ?_⟩
      simp! []
    have e2 : ∀ x3 x4, ev (callF tab m) x__law_base_2 [.val (.int cell), .val (.int L), x2, x3, x4, .val (.int k), .val (.lst ((List.range w).map fun (j : Nat) => T.int (cell * 3 + 7 * (k : Nat) + 5 * (j : Nat) + 2))), .un, .un] S = .ok (.lst ((List.range w).map fun (j : Nat) => (f (cell * 3 + 7 * (k : Nat) + 5 * (j : Nat) + 2)).toT)) S := fun x3 x4 => by
      refine ev_lcm (l := List.range w) (fun (j : Nat) => T.int (cell * 3 + 7 * (k : Nat) + 5 * (j : Nat) + 2)) _ (ts := [.lst ((List.range w).map fun (j : Nat) => T.int (cell * 3 + 7 * (k : Nat) + 5 * (j : Nat) + 2))]) (by simp! []) rfl fun j hj => ⟨_, rfl, ?_⟩
      simp! [hf]
    have e : exs (callF tab m) l__law_base_1 [.val (.int cell), .val (.int L), x2, .val (.tup acc), .val (.int w), .val (.int k), x6, .un, .un] S = .nx [.val (.int cell), .val (.int L), x2, .val (.tup (acc ++ [.tup ((List.range w).map fun (j : Nat) => (f (cell * 3 + 7 * (k : Nat) + 5 * (j : Nat) + 2)).toT)])), .val (.int w), .val (.int k), .val (.lst ((List.range w).map fun (j : Nat) => T.int (cell * 3 + 7 * (k : Nat) + 5 * (j : Nat) + 2))), .un, .un] S := by
      simp! [l__law_base_1, e1, e2, q__law_base_2, show acc.length + (0 + 1) ≤ sizeLine from by omega]
    obtain ⟨y5, y6, h⟩ := ih (acc ++ [.tup ((List.range w).map fun (j : Nat) => (f (cell * 3 + 7 * (k : Nat) + 5 * (j : Nat) + 2)).toT)]) (.val (.int k)) (.val (.lst ((List.range w).map fun (j : Nat) => T.int (cell * 3 + 7 * (k : Nat) + 5 * (j : Nat) + 2)))) (by simp; omega)
    refine ⟨y5, y6, ?_⟩
    rw [List.map_cons, forL_nx e, h, List.append_assoc]
    rfl
/-- what is drawn -/
def DrawOk (f : Nat) (L N : Nat) (P : Tr → Prop) : Prop := ∀ c : Int, ∃ s : Tr, s.Dr ∧ s.ht ≤ L ∧ P s ∧ Ev tab f [.int c, .int (L : Nat)] s.toT N
theorem base_step (L : Nat) (hL : 1 ≤ L) (IH : ∀ M, 1 ≤ M → M < L → DrawOk i__law_draw M (3 * M + 2) fun _ => True) : DrawOk i__law_base L (3 * L) fun s => s.isBase = true := fun c => by
  have m1 := mix_lt c 9967 (m := 4) (by omega)
  have v1 := mix_ev c 9967 4 (by omega) (by omega) (by omega)
  generalize mixI c 9967 4 = way at m1 v1
  by_cases ha : L = 1 ∨ way < 2
  · obtain ⟨x, hx, va⟩ := atom_ev c
    refine ⟨.word x, ⟨_, hx, fun p hp => by simp [Tr.kids] at hp⟩, by simp [Tr.ht]; omega, rfl, (Ev.mk (N := 2) t__law_base rfl fun n hn S => ?_).mono (by omega)⟩
    show (exs _ b__law_base [.val _, .val _, .un, .un, .un, .un, .un, .un, .un] S).fin = _
    have v1 := v1 n (by omega)
    have va := va n hn
    rcases ha with rfl | ha
    · simp! [b__law_base, v1, va, Tr.toT, Int.natCast_one]
    · cases hb : ((L : Int) == 1) <;> simp! [b__law_base, v1, va, Tr.toT, hb, ha]
  · have hb1 : ((L : Int) == 1) = false := by simp only [beq_eq_false_iff_ne]; omega
    have hb2 : ¬ way < 2 := by omega
    by_cases hc : way = 2
    · subst hc
      obtain ⟨M, rfl⟩ : ∃ M, L = M + 1 := ⟨L - 1, by omega⟩
      obtain ⟨s, d1, d2, _, d3⟩ := IH M (by omega) (by omega) (c * 3 + 1)
      refine ⟨.held s, ⟨_, trivial, fun p hp => by simp [Tr.kids] at hp; subst hp; exact d1⟩, Tr.ht_of fun p hp => by simp [Tr.kids] at hp; subst hp; exact d2, rfl, (Ev.mk (N := 3 * M + 2) t__law_base rfl fun n hn S => ?_).mono (by omega)⟩
      show (exs _ b__law_base [.val _, .val _, .un, .un, .un, .un, .un, .un, .un] S).fin = _
      have v1 := v1 n (by omega)
      have d3 := d3 n hn
      have hM : ((M + 1 : Nat) : Int) - 1 = M := by omega
      simp! [b__law_base, v1, Tr.toT, hb1, hM, d3]
    · have hc : (way == 2) = false := by simp only [beq_eq_false_iff_ne]; exact hc
      have m2 := mix_lt c 9949 (m := 3) (by omega)
      have v2 := mix_ev c 9949 3 (by omega) (by omega) (by omega)
      have m3 := mix_lt c 9941 (m := 3) (by omega)
      have v3 := mix_ev c 9941 3 (by omega) (by omega) (by omega)
      generalize mixI c 9949 3 = wd at m2 v2
      generalize mixI c 9941 3 = hg at m3 v3
      obtain ⟨w, hw⟩ : ∃ w : Nat, 1 + wd = w := ⟨(1 + wd).toNat, by omega⟩
      obtain ⟨h, hh⟩ : ∃ h : Nat, 1 + hg = h := ⟨(1 + hg).toNat, by omega⟩
      obtain ⟨M, hM1, hM2⟩ : ∃ M : Nat, min ((L : Int) - 1) 2 = M ∧ (1 ≤ M ∧ M < L) := ⟨min (L - 1) 2, by omega, by omega⟩
      obtain ⟨f, hf⟩ := Classical.axiomOfChoice (IH M hM2.1 hM2.2)
      refine ⟨.table ((List.range h).map fun k => (List.range w).map fun j => f (c * 3 + 7 * (k : Nat) + 5 * (j : Nat) + 2)), ⟨_, ⟨by simp; omega, by simp; omega, w, by omega, by omega, fun row hr => ?_⟩, fun p hp => ?_⟩, Nat.le_trans (Tr.ht_of (L := M) fun p hp => ?_) (by omega), rfl, (Ev.mk (N := 3 * M + 2) t__law_base rfl fun n hn S => ?_).mono (by omega)⟩
      · obtain ⟨k, _, rfl⟩ := List.mem_map.mp hr
        simp
      · obtain ⟨row, hr, hp⟩ := List.mem_flatten.mp hp
        obtain ⟨k, _, rfl⟩ := List.mem_map.mp hr
        obtain ⟨j, _, rfl⟩ := List.mem_map.mp hp
        exact (hf _).1
      · obtain ⟨row, hr, hp⟩ := List.mem_flatten.mp hp
        obtain ⟨k, _, rfl⟩ := List.mem_map.mp hr
        obtain ⟨j, _, rfl⟩ := List.mem_map.mp hp
        exact (hf _).2.1
      · show (exs _ b__law_base [.val _, .val _, .un, .un, .un, .un, .un, .un, .un] S).fin = _
        have v1 := v1 n (by omega)
        have v2 := v2 n (by omega)
        have v3 := v3 n (by omega)
        obtain ⟨y5, y6, lp⟩ := base_loop n S f c L w (by omega) (fun c S => by rw [hM1]; exact (hf c).2.2.2 n hn S) (.val (.int way)) (List.range h) [] .un .un (by simp; omega)
        have e : ex (callF tab n) s__law_base_1 [.val (.int c), .val (.int L), .val (.int way), .val (.tup []), .val (.int w), .un, .un, .un, .un] S = _ := (ex_for (ts := [.int h]) (by simp! [v3, hh]) (it_rng1 (by omega))).trans lp
        simp! [b__law_base, v1, v2, hw, e, hb1, hb2, hc, Tr.toT, List.map_map, Function.comp_def]
theorem item_step (L : Nat) (hL : 1 ≤ L) (IB : ∀ M, 1 ≤ M → M ≤ L → DrawOk i__law_base M (3 * M) fun s => s.isBase = true) (ID : ∀ M, 1 ≤ M → M < L → DrawOk i__law_draw M (3 * M + 2) fun _ => True) : DrawOk i__law_item L (3 * L + 1) fun s => s.isChain = false := fun c => by
  have m1 := mix_lt c 9931 (m := 8) (by omega)
  have v1 := mix_ev c 9931 8 (by omega) (by omega) (by omega)
  generalize mixI c 9931 8 = way at m1 v1
  by_cases ha : L = 1 ∨ way < 2
  · obtain ⟨s, d1, d2, d3, d4⟩ := IB L hL (Nat.le_refl _) c
    refine ⟨s, d1, d2, Tr.base_nc d3, Ev.mk t__law_item rfl fun n hn S => ?_⟩
    show (exs _ b__law_item [.val _, .val _, .un, .un, .un] S).fin = _
    have v1 := v1 n (by omega)
    have va := d4 n hn
    rcases ha with rfl | ha
    · rw [Int.natCast_one] at va
      simp! [b__law_item, v1, va, Int.natCast_one]
    · cases hb : ((L : Int) == 1) <;> simp! [b__law_item, v1, va, hb, ha]
  · have hb1 : ((L : Int) == 1) = false := by simp only [beq_eq_false_iff_ne]; omega
    have hb2 : ¬ way < 2 := by omega
    obtain ⟨M, rfl⟩ : ∃ M, L = M + 1 := ⟨L - 1, by omega⟩
    have hM : ((M + 1 : Nat) : Int) - 1 = M := by omega
    have hM1 : 1 ≤ M := by omega
    have hcs : way = 2 ∨ way = 3 ∨ way = 4 ∨ way = 5 ∨ 6 ≤ way := by omega
    rcases hcs with rfl | rfl | hcs
    · obtain ⟨s, d1, d2, _, d3⟩ := ID M hM1 (by omega) (c * 3 + 1)
      obtain ⟨t, e1, e2, _, e3⟩ := ID M hM1 (by omega) (c * 3 + 2)
      refine ⟨.over s t, ⟨_, trivial, fun p hp => ?_⟩, Tr.ht_of fun p hp => ?_, rfl, (Ev.mk (N := 3 * M + 2) t__law_item rfl fun n hn S => ?_).mono (by omega)⟩
      · simp [Tr.kids] at hp; rcases hp with rfl | rfl <;> assumption
      · simp [Tr.kids] at hp; rcases hp with rfl | rfl <;> assumption
      · show (exs _ b__law_item [.val _, .val _, .un, .un, .un] S).fin = _
        have v1 := v1 n (by omega)
        have d3 := d3 n hn
        have e3 := e3 n hn
        simp! [b__law_item, v1, Tr.toT, hb1, hM, d3, e3]
    · obtain ⟨s, d1, d2, _, d3⟩ := ID M hM1 (by omega) (c * 3 + 1)
      refine ⟨.root s, ⟨_, trivial, fun p hp => ?_⟩, Tr.ht_of fun p hp => ?_, rfl, (Ev.mk (N := 3 * M + 2) t__law_item rfl fun n hn S => ?_).mono (by omega)⟩
      · simp [Tr.kids] at hp; subst hp; assumption
      · simp [Tr.kids] at hp; subst hp; assumption
      · show (exs _ b__law_item [.val _, .val _, .un, .un, .un] S).fin = _
        have v1 := v1 n (by omega)
        have d3 := d3 n hn
        simp! [b__law_item, v1, Tr.toT, hb1, hM, d3]
    · by_cases h6 : way < 6
      · have h2 : (way == 2) = false := by simp only [beq_eq_false_iff_ne]; omega
        have h3 : (way == 3) = false := by simp only [beq_eq_false_iff_ne]; omega
        obtain ⟨s, d1, d2, _, d3⟩ := ID M hM1 (by omega) (c * 3 + 4)
        obtain ⟨t, e1, e2, _, e3⟩ := ID M hM1 (by omega) (c * 3 + 5)
        obtain ⟨b, f1, f2, f4, f3⟩ := IB M hM1 (by omega) (c + 1)
        have m2 := mix_lt c 9929 (m := 3) (by omega)
        have v2 := mix_ev c 9929 3 (by omega) (by omega) (by omega)
        generalize mixI c 9929 3 = sm at m2 v2
        have gen : ∀ u d : Option Tr, (u.isSome = true ∨ d.isSome = true) → (∀ p ∈ u, p = s ∨ p = t) → (∀ p ∈ d, p = s ∨ p = t) → (Tr.script b u d).Dr ∧ (Tr.script b u d).ht ≤ M + 1 := fun u d hud hu hd => by
          have kd : ∀ p ∈ (Tr.script b u d).kids, p.Dr ∧ p.ht ≤ M := fun p hp => by
            simp only [Tr.kids, List.mem_cons, List.mem_append, Option.mem_toList] at hp
            have : p = b ∨ p = s ∨ p = t := by
              rcases hp with h | h | h
              · exact .inl h
              · exact .inr (hu p h)
              · exact .inr (hd p h)
            rcases this with rfl | rfl | rfl
            · exact ⟨f1, f2⟩
            · exact ⟨d1, d2⟩
            · exact ⟨e1, e2⟩
          exact ⟨⟨_, ⟨f4, hud⟩, fun p hp => (kd p hp).1⟩, Tr.ht_of fun p hp => (kd p hp).2⟩
        have hsm : sm = 0 ∨ sm = 1 ∨ sm = 2 := by omega
        rcases hsm with rfl | rfl | rfl
        · obtain ⟨g1, g2⟩ := gen none (some t) (by simp) (by simp) (by simp)
          refine ⟨.script b none (some t), g1, g2, rfl, (Ev.mk (N := 3 * M + 2) t__law_item rfl fun n hn S => ?_).mono (by omega)⟩
          show (exs _ b__law_item [.val _, .val _, .un, .un, .un] S).fin = _
          have v1 := v1 n (by omega)
          have v2 := v2 n (by omega)
          have d3 := d3 n hn
          have e3 := e3 n hn
          have f3 := f3 n (by omega)
          simp! [b__law_item, v1, v2, Tr.toT, hb1, hb2, h2, h3, h6, hM, d3, e3, f3]
        · obtain ⟨g1, g2⟩ := gen (some s) none (by simp) (by simp) (by simp)
          refine ⟨.script b (some s) none, g1, g2, rfl, (Ev.mk (N := 3 * M + 2) t__law_item rfl fun n hn S => ?_).mono (by omega)⟩
          show (exs _ b__law_item [.val _, .val _, .un, .un, .un] S).fin = _
          have v1 := v1 n (by omega)
          have v2 := v2 n (by omega)
          have d3 := d3 n hn
          have e3 := e3 n hn
          have f3 := f3 n (by omega)
          simp! [b__law_item, v1, v2, Tr.toT, hb1, hb2, h2, h3, h6, hM, d3, e3, f3]
        · obtain ⟨g1, g2⟩ := gen (some s) (some t) (by simp) (by simp) (by simp)
          refine ⟨.script b (some s) (some t), g1, g2, rfl, (Ev.mk (N := 3 * M + 2) t__law_item rfl fun n hn S => ?_).mono (by omega)⟩
          show (exs _ b__law_item [.val _, .val _, .un, .un, .un] S).fin = _
          have v1 := v1 n (by omega)
          have v2 := v2 n (by omega)
          have d3 := d3 n hn
          have e3 := e3 n hn
          have f3 := f3 n (by omega)
          simp! [b__law_item, v1, v2, Tr.toT, hb1, hb2, h2, h3, h6, hM, d3, e3, f3]
      · have h2 : (way == 2) = false := by simp only [beq_eq_false_iff_ne]; omega
        have h3 : (way == 3) = false := by simp only [beq_eq_false_iff_ne]; omega
        obtain ⟨s, d1, d2, d3, d4⟩ := IB (M + 1) hL (Nat.le_refl _) (c + 1)
        refine ⟨s, d1, d2, Tr.base_nc d3, Ev.mk t__law_item rfl fun n hn S => ?_⟩
        show (exs _ b__law_item [.val _, .val _, .un, .un, .un] S).fin = _
        have v1 := v1 n (by omega)
        have va := d4 n hn
        simp! [b__law_item, v1, va, hb1, hb2, h2, h3, h6]
theorem draw_loop (m : Nat) (S : Store) (g : Int → Tr) (sg : Int → Nat) (cell : Int) (L : Nat) (hg : ∀ c S, callF tab m i__law_item [.int c, .int ((L : Int) - 1)] S = .ok ((g c).toT) S)
    (hs : ∀ c S, ∃ i, callF tab m i__law_mix [.int c, .int 9901, .int 5] S = .ok (.int i) S ∧ T.sub? (.str [43, 45, 42, 61, 60]) (.int i) = some (.str [sg c])) (ks : List Nat) : ∀ (acc : List T) (x3 x4 : Sl), acc.length + ks.length ≤ 1000 →
    ∃ y3 y4, forL (fun x ρ S => optS ((Tg.nm 3).put x ρ) fun ρ' => exs (callF tab m) l__law_draw_1 ρ' S) (ks.map fun (k : Nat) => T.int k) [.val (.int cell), .val (.int L), .val (.tup acc), x3, x4] S
      = .nx [.val (.int cell), .val (.int L), .val (.tup (acc ++ ks.map fun k => .tup [.str [sg (cell + (k : Nat))], (g (cell * 2 + 11 * (k : Nat) + 3)).toT])), y3, y4] S := by
  induction ks with
  | nil => exact fun acc x3 x4 _ => ⟨x3, x4, by simp [forL]⟩
  | cons k ks ih =>
    intro acc x3 x4 hl
    have sl : (1000000 : Nat) ≤ sizeLine := by decide
    rw [List.length_cons] at hl
    obtain ⟨i, hs1, hs2⟩ := hs (cell + (k : Nat)) S
    have e : exs (callF tab m) l__law_draw_1 [.val (.int cell), .val (.int L), .val (.tup acc), .val (.int k), x4] S = .nx [.val (.int cell), .val (.int L), .val (.tup (acc ++ [.tup [.str [sg (cell + (k : Nat))], (g (cell * 2 + 11 * (k : Nat) + 3)).toT]])), .val (.int k), .val (.str [sg (cell + (k : Nat))])] S := by
      simp! [l__law_draw_1, hs1, hs2, hg, show acc.length + (0 + 1) ≤ sizeLine from by omega]
    obtain ⟨y3, y4, h⟩ := ih (acc ++ [.tup [.str [sg (cell + (k : Nat))], (g (cell * 2 + 11 * (k : Nat) + 3)).toT]]) (.val (.int k)) (.val (.str [sg (cell + (k : Nat))])) (by simp; omega)
    refine ⟨y3, y4, ?_⟩
    rw [List.map_cons, forL_nx e, h, List.append_assoc]
    rfl
def signI (c : Int) : Nat := sgns.getD (mixI c 9901 5).toNat 0
theorem signI_in (c : Int) : signI c ∈ sgns := by
  have h := mix_lt c 9901 (m := 5) (by omega)
  unfold signI
  have hk : (mixI c 9901 5).toNat < sgns.length := by simp [sgns]; omega
  rw [List.getD_eq_getElem?_getD, List.getElem?_eq_getElem hk]
  exact List.getElem_mem hk
theorem sign_sub (c : Int) (p : Int) : T.sub? (.str [43, 45, 42, 61, 60]) (.int (mixI c p 5)) = some (.str [sgns.getD (mixI c p 5).toNat 0]) := by
  have h := mix_lt c p (m := 5) (by omega)
  generalize mixI c p 5 = i at h
  obtain ⟨k, rfl⟩ : ∃ k : Nat, i = k := ⟨i.toNat, by omega⟩
  have hk : k < sgns.length := by simp [sgns]; omega
  refine sub_sk (l := sgns) ?_
  rw [List.getElem?_eq_getElem hk, Int.toNat_natCast, List.getD_eq_getElem?_getD, List.getElem?_eq_getElem hk]
  rfl
theorem draw_step (L : Nat) (hL : 1 ≤ L) (II : ∀ M, 1 ≤ M → M ≤ L → DrawOk i__law_item M (3 * M + 1) fun s => s.isChain = false) : DrawOk i__law_draw L (3 * L + 2) fun _ => True := fun c => by
  have m1 := mix_lt c 9923 (m := 3) (by omega)
  have v1 := mix_ev c 9923 3 (by omega) (by omega) (by omega)
  generalize mixI c 9923 3 = way at m1 v1
  by_cases ha : 1 < (L : Int) ∧ way = 0
  · obtain ⟨ha, rfl⟩ := ha
    obtain ⟨M, rfl⟩ : ∃ M, L = M + 1 := ⟨L - 1, by omega⟩
    have hM : ((M + 1 : Nat) : Int) - 1 = M := by omega
    obtain ⟨g, hg⟩ := Classical.axiomOfChoice (II M (by omega) (by omega))
    have m3 := mix_lt c 9907 (m := 3) (by omega)
    have v3 := mix_ev c 9907 3 (by omega) (by omega) (by omega)
    generalize mixI c 9907 3 = hg2 at m3 v3
    obtain ⟨h, hh⟩ : ∃ h : Nat, 1 + hg2 = h := ⟨(1 + hg2).toNat, by omega⟩
    refine ⟨.chain (g (c * 2 + 1)) ((List.range h).map fun k => (signI (c + (k : Nat)), g (c * 2 + 11 * (k : Nat) + 3))), ⟨_, ⟨(hg _).2.2.1, by simp; omega, by simp; omega, fun p hp => ?_⟩, fun p hp => ?_⟩, Tr.ht_of fun p hp => ?_, trivial, (Ev.mk (N := 3 * M + 1) t__law_draw rfl fun n hn S => ?_).mono (by omega)⟩
    · obtain ⟨k, _, rfl⟩ := List.mem_map.mp hp
      exact ⟨signI_in _, (hg _).2.2.1⟩
    · simp only [Tr.kids, List.mem_cons, List.mem_map, List.map_map] at hp
      rcases hp with rfl | ⟨k, _, rfl⟩
      · exact (hg _).1
      · exact (hg _).1
    · simp only [Tr.kids, List.mem_cons, List.mem_map, List.map_map] at hp
      rcases hp with rfl | ⟨k, _, rfl⟩
      · exact (hg _).2.1
      · exact (hg _).2.1
    · show (exs _ b__law_draw [.val _, .val _, .un, .un, .un] S).fin = _
      have v1 := v1 n (by omega)
      have v3 := v3 n (by omega)
      have hg' := fun c => (hg c).2.2.2 n hn
      obtain ⟨y3, y4, lp⟩ := draw_loop n S g signI c (M + 1) (fun c S => by rw [hM]; exact hg' c S) (fun c S => ⟨_, mix_ev c 9901 5 (by omega) (by omega) (by omega) n (by omega) S, sign_sub c 9901⟩) (List.range h) [] .un .un (by simp; omega)
      have e : ex (callF tab n) s__law_draw_1 [.val (.int c), .val (.int (M + 1 : Nat)), .val (.tup []), .un, .un] S = _ := (ex_for (ts := [.int h]) (by simp! [v3, hh]) (it_rng1 (by omega))).trans lp
      simp! [b__law_draw, v1, ha, e, hM, hg', Tr.toT, List.map_map, Function.comp_def]
  · obtain ⟨s, d1, d2, d3, d4⟩ := II L hL (Nat.le_refl _) c
    refine ⟨s, d1, d2, trivial, Ev.mk t__law_draw rfl fun n hn S => ?_⟩
    show (exs _ b__law_draw [.val _, .val _, .un, .un, .un] S).fin = _
    have v1 := v1 n (by omega)
    have d4 := d4 n hn
    by_cases h1 : 1 < (L : Int)
    · have : (way == 0) = false := by simp only [beq_eq_false_iff_ne]; omega
      simp! [b__law_draw, v1, d4, h1, this]
    · simp! [b__law_draw, v1, d4, h1]
theorem draws (L : Nat) : (1 ≤ L → DrawOk i__law_base L (3 * L) fun s => s.isBase = true) ∧ (1 ≤ L → DrawOk i__law_item L (3 * L + 1) fun s => s.isChain = false) ∧ (1 ≤ L → DrawOk i__law_draw L (3 * L + 2) fun _ => True) := by
  induction L using Nat.strongRecOn with
  | ind L IH =>
    have b : 1 ≤ L → DrawOk i__law_base L (3 * L) fun s => s.isBase = true := fun hL => base_step L hL fun M h1 h2 => (IH M h2).2.2 h1
    have i : 1 ≤ L → DrawOk i__law_item L (3 * L + 1) fun s => s.isChain = false := fun hL => item_step L hL (fun M h1 h2 => by
      rcases Nat.lt_or_ge M L with h | h
      · exact (IH M h).1 h1
      · obtain rfl : M = L := by omega
        exact b h1) fun M h1 h2 => (IH M h2).2.2 h1
    exact ⟨b, i, fun hL => draw_step L hL fun M h1 h2 => by
      rcases Nat.lt_or_ge M L with h | h
      · exact (IH M h).2.1 h1
      · obtain rfl : M = L := by omega
        exact i h1⟩
theorem draw_ok (L : Nat) (h : 1 ≤ L) : DrawOk i__law_draw L (3 * L + 2) fun _ => True := (draws L).2.2 h
end K03
namespace K03
open PySem PySem.Spec L2 Ly
open PyProof.Rows hiding St
/-! ### the law's own parts -/
theorem lparts_loop (c : Call) (S : Store) (a x1 x4 : Sl) (rows : List (List Tr)) (acc : List T) (y : Sl) (h : acc.length + rows.flatten.length ≤ sizeLine) :
    ∃ y', forL (fun x ρ S => optS ((Tg.nm 3).put x ρ) fun ρ' => exs c l__law_parts_1 ρ' S) (rows.map fun row => T.tup (row.map fun p => p.toT)) [a, x1, .own acc, y, x4] S = .nx [a, x1, .own (acc ++ rows.flatten.map fun p => p.toT), y', x4] S := by
  induction rows generalizing acc y with
  | nil => exact ⟨y, by simp [forL]⟩
  | cons row rows ih =>
    rw [List.flatten_cons, List.length_append] at h
    have e : exs c l__law_parts_1 [a, x1, .own acc, .val (.tup (row.map fun p => p.toT)), x4] S = .nx [a, x1, .own (acc ++ row.map fun p => p.toT), .val (.tup (row.map fun p => p.toT)), x4] S := by
      simp! [l__law_parts_1, List.length_map, show acc.length + row.length ≤ sizeLine from by omega]
    obtain ⟨y', k⟩ := ih (acc ++ row.map fun p => p.toT) (.val (.tup (row.map fun p => p.toT))) (by rw [List.length_append, List.length_map]; omega)
    refine ⟨y', ?_⟩
    rw [List.map_cons, forL_nx e, k, List.flatten_cons, List.map_append, List.append_assoc]
theorem lparts_ev (s : Tr) (w : s.nd) : Ev tab i__law_parts [s.toT] (.lst (s.kids.map fun p => p.toT)) 1 := Ev.mk t__law_parts rfl fun n hn S => by
  have sl : (2000000 : Nat) ≤ sizeLine := by decide
  show (exs _ b__law_parts [.val _, .un, .un, .un, .un] S).fin = _
  have e2 : ∀ (k : List Nat) (l : List T), ev (callF tab n) x__law_parts_2 [.val (.tup (.str k :: l)), .un, .un, .un, .un] S = .ok (.lst (l.filterMap fun t => if t.isNon then none else some t)) S := fun k l => by
    refine ev_lcf (l := l) (fun x => x) _ (ts := [.tup l]) (by simp! []) (by rw [it_val, List.map_id']; rfl) fun t _ => ?_
    by_cases ht : t.isNon = true
    · exact ⟨_, .bl false, rfl, by simp! [ht], .inr ⟨rfl, if_pos ht⟩⟩
    · exact ⟨_, .bl true, rfl, by simp! [Bool.eq_false_iff.mpr ht], .inl ⟨rfl, t, if_neg ht, by simp! []⟩⟩
  cases s with
  | word x => simp! [b__law_parts, Tr.toT, Tr.kids]
  | held a => simp! [b__law_parts, Tr.toT, e2, Tr.kids, List.filterMap_cons, List.filterMap_nil]
  | root a => simp! [b__law_parts, Tr.toT, e2, Tr.kids, List.filterMap_cons, List.filterMap_nil]
  | over a b => simp! [b__law_parts, Tr.toT, e2, Tr.kids, List.filterMap_cons, List.filterMap_nil]
  | script a u d => cases u <;> cases d <;> simp! [b__law_parts, Tr.toT, e2, Tr.kids, List.filterMap_cons, List.filterMap_nil, Option.toList, List.append_nil]
  | chain a r =>
    have w : 1 ≤ r.length ∧ r.length ≤ 1000 := w
    have e : ev (callF tab n) x__law_parts_1 [.val (.tup [.str ([99, 104, 97, 105, 110] : List Nat), a.toT, .tup (r.map fun p => .tup [.str [p.1], p.2.toT])]), .un, .un, .un, .un] S = .ok (.lst (r.map fun p => p.2.toT)) S := by
      refine ev_lcm (l := r) (fun p => .tup [.str [p.1], p.2.toT]) _ (ts := [.tup (r.map fun p => .tup [.str [p.1], p.2.toT])]) (by simp! []) rfl fun p hp => ?_
      exact ⟨_, rfl, by simp! []⟩
    simp! [b__law_parts, Tr.toT, e, q__law_parts_1, Tr.kids, List.length_map, List.map_map, show 0 + 1 + r.length ≤ sizeLine from by omega]
    rfl
  | table rows =>
    obtain ⟨w1, w2, w, w3, w4, w5⟩ : rows ≠ [] ∧ rows.length ≤ 1000 ∧ ∃ w, 1 ≤ w ∧ w ≤ 1000 ∧ ∀ row ∈ rows, row.length = w := w
    have hl : rows.flatten.length = rows.length * w := by
      clear w1 w2
      induction rows with
      | nil => simp
      | cons a l ih => rw [List.flatten_cons, List.length_append, ih fun r hr => w5 r (List.mem_cons_of_mem _ hr), w5 a List.mem_cons_self, List.length_cons, Nat.add_mul]; omega
    have hl2 : rows.length * w ≤ 1000 * 1000 := Nat.mul_le_mul w2 w4
    obtain ⟨y', k⟩ := lparts_loop (callF tab n) S (.val (.tup [.str ([116, 97, 98, 108, 101] : List Nat), .tup (rows.map fun row => .tup (row.map fun p => p.toT))])) .un .un rows [] .un (by simp only [List.length_nil]; omega)
    have e : ex (callF tab n) s__law_parts_1 [.val (.tup [.str ([116, 97, 98, 108, 101] : List Nat), .tup (rows.map fun row => .tup (row.map fun p => p.toT))]), .un, .own [], .un, .un] S = _ := (ex_for (ts := [.tup (rows.map fun row => .tup (row.map fun p => p.toT))]) (by simp! []) rfl).trans k
    simp! [b__law_parts, Tr.toT, e, Tr.kids]
end K03
namespace K03
open PySem PySem.Spec L2 Ly
open PyProof.Rows hiding St
theorem lrows_non : Ev tab i__law_rows [.non] (.int 0) 1 := Ev.mk t__law_rows rfl fun n hn S => by
  show (exs _ b__law_rows [.val _] S).fin = _
  simp! [b__law_rows]
theorem lrows_box (b : Bx) : Ev tab i__law_rows [boxT b] (.int (b.2.1 + b.2.2 + 1)) 1 := Ev.mk t__law_rows rfl fun n hn S => by
  show (exs _ b__law_rows [.val _] S).fin = _
  simp! [b__law_rows, boxT]
def LBoxAt (n : Nat) (p : Tr) : Prop := ∀ S, callF tab n i__law_box [p.toT] S = .ok (boxT p.bx) S
theorem sum_map_add {α : Type} (f : α → Int) (c : Int) : ∀ l : List α, (l.map fun a => f a + c).sum = (l.map f).sum + c * (l.length : Int)
  | [] => by simp
  | a :: l => by
    simp only [List.map_cons, List.sum_cons, sum_map_add f c l, List.length_cons]
    rw [show ((l.length + 1 : Nat) : Int) = (l.length : Int) + 1 by omega, Int.mul_add]
    omega
abbrev rowsT (rows : List (List Tr)) : List T := rows.map fun row => .tup (row.map fun p => p.toT)
def colI (rows : List (List Tr)) (k : Nat) : Int := maxI (rows.map fun row => ((row.map fun p => p.bx).getD k (0, 0, 0)).1)
theorem wide_loop (m : Nat) (S : Store) (rows : List (List Tr)) (h0 : rows ≠ []) (w : Nat) (hw : ∀ row ∈ rows, row.length = w) (hb : ∀ row ∈ rows, ∀ p ∈ row, LBoxAt m p) (x1 x2 x4 x5 x6 x7 x9 x10 x11 x12 : Sl) (ks : List Nat) : (∀ k ∈ ks, k < w) → ∀ (acc : Int) (y : Sl),
    ∃ y', forL (fun x ρ S => optS ((Tg.nm 8).put x ρ) fun ρ' => exs (callF tab m) l__law_box_1 ρ' S) (ks.map fun (k : Nat) => T.int k) [.val (.tup [.str ([116, 97, 98, 108, 101] : List Nat), .tup (rowsT rows)]), x1, x2, .val (.int acc), x4, x5, x6, x7, y, x9, x10, x11, x12] S
      = .nx [.val (.tup [.str ([116, 97, 98, 108, 101] : List Nat), .tup (rowsT rows)]), x1, x2, .val (.int (acc + (ks.map fun k => colI rows k + 2).sum)), x4, x5, x6, x7, y', x9, x10, x11, x12] S := by
  induction ks with
  | nil => exact fun _ acc y => ⟨y, by simp [forL]⟩
  | cons k ks ih =>
    intro hk acc y
    have hk0 := hk k List.mem_cons_self
    have e1 : ∀ x3 x9, ev (callF tab m) x__law_box_3 [.val (.tup [.str ([116, 97, 98, 108, 101] : List Nat), .tup (rowsT rows)]), x1, x2, x3, x4, x5, x6, x7, .val (.int k), x9, x10, x11, x12] S = .ok (.lst (rows.map fun row => .int ((row.map fun p => p.bx).getD k (0, 0, 0)).1)) S := fun x3 x9 => by
      refine ev_lcm (l := rows) (fun row => .tup (row.map fun p => p.toT)) _ (ts := [.tup (rowsT rows)]) (by simp! []) rfl fun row hr => ⟨_, rfl, ?_⟩
      have hl := hw row hr
      have hk2 : k < row.length := by omega
      have hp := hb row hr _ (List.getElem_mem hk2) S
      have hs : T.sub? (.tup (row.map fun p => p.toT)) (.int (k : Nat)) = some (row[k].toT) := sub_tk (by rw [List.getElem?_map, List.getElem?_eq_getElem hk2]; rfl)
      have hg : (row.map fun p => p.bx).getD k (0, 0, 0) = row[k].bx := by rw [List.getD_eq_getElem?_getD, List.getElem?_map, List.getElem?_eq_getElem hk2]; rfl
      simp! [hs, hp, hg, boxT]
    have mx := max_lst (fun row : List Tr => ((row.map fun p => p.bx).getD k (0, 0, 0)).1) h0
    have e : exs (callF tab m) l__law_box_1 [.val (.tup [.str ([116, 97, 98, 108, 101] : List Nat), .tup (rowsT rows)]), x1, x2, .val (.int acc), x4, x5, x6, x7, .val (.int k), x9, x10, x11, x12] S = .nx [.val (.tup [.str ([116, 97, 98, 108, 101] : List Nat), .tup (rowsT rows)]), x1, x2, .val (.int (acc + colI rows k + 2)), x4, x5, x6, x7, .val (.int k), x9, x10, x11, x12] S := by
      simp! [l__law_box_1, e1, q__law_box_3, mx, colI]
    obtain ⟨y', h⟩ := ih (fun j hj => hk j (List.mem_cons_of_mem _ hj)) (acc + colI rows k + 2) (.val (.int k))
    refine ⟨y', ?_⟩
    rw [List.map_cons, forL_nx e, h, List.map_cons, List.sum_cons, show acc + colI rows k + 2 + (ks.map fun k => colI rows k + 2).sum = acc + (colI rows k + 2 + (ks.map fun k => colI rows k + 2).sum) by omega]
def highI (row : List Tr) : Int := maxI (row.map fun p => p.bx.2.1) + maxI (row.map fun p => p.bx.2.2) + 1
theorem high_loop (m : Nat) (S : Store) (x0 x1 x2 x3 x4 x5 x6 x7 x8 x12 : Sl) (rows : List (List Tr)) : (∀ row ∈ rows, row ≠ []) → (∀ row ∈ rows, ∀ p ∈ row, LBoxAt m p) → ∀ (acc : Int) (y9 y11 : Sl),
    ∃ z9 z11, forL (fun x ρ S => optS ((Tg.nm 9).put x ρ) fun ρ' => exs (callF tab m) l__law_box_2 ρ' S) (rowsT rows) [x0, x1, x2, x3, x4, x5, x6, x7, x8, y9, .val (.int acc), y11, x12] S
      = .nx [x0, x1, x2, x3, x4, x5, x6, x7, x8, z9, .val (.int (acc + (rows.map highI).sum)), z11, x12] S := by
  induction rows with
  | nil => exact fun _ _ acc y9 y11 => ⟨y9, y11, by simp [forL]⟩
  | cons row rows ih =>
    intro h1 h2 acc y9 y11
    have hn := h1 row List.mem_cons_self
    have e4 : ∀ x6 x10 x11, ev (callF tab m) x__law_box_4 [x0, x1, x2, x3, x4, x5, x6, x7, x8, .val (.tup (row.map fun p => p.toT)), x10, x11, x12] S = .ok (.lst (row.map fun p => boxT p.bx)) S := fun x6 x10 x11 => by
      refine ev_lcm (l := row) (fun p => p.toT) _ (ts := [.tup (row.map fun p => p.toT)]) (by simp! []) rfl fun p hp => ⟨_, rfl, ?_⟩
      have := h2 row List.mem_cons_self p hp S
      simp! [this]
    have e5 : ∀ x9 x10, ev (callF tab m) x__law_box_5 [x0, x1, x2, x3, x4, x5, x6, x7, x8, x9, x10, .val (.lst (row.map fun p => boxT p.bx)), x12] S = .ok (.lst (row.map fun p => .int p.bx.2.1)) S := fun x9 x10 => by
      refine ev_lcm (l := row) (fun p => boxT p.bx) _ (ts := [.lst (row.map fun p => boxT p.bx)]) (by simp! []) rfl fun p hp => ⟨_, rfl, ?_⟩
      simp! [boxT]
    have e6 : ∀ x9 x10, ev (callF tab m) x__law_box_6 [x0, x1, x2, x3, x4, x5, x6, x7, x8, x9, x10, .val (.lst (row.map fun p => boxT p.bx)), x12] S = .ok (.lst (row.map fun p => .int p.bx.2.2)) S := fun x9 x10 => by
      refine ev_lcm (l := row) (fun p => boxT p.bx) _ (ts := [.lst (row.map fun p => boxT p.bx)]) (by simp! []) rfl fun p hp => ⟨_, rfl, ?_⟩
      simp! [boxT]
    have m1 := max_lst (fun p : Tr => p.bx.2.1) hn
    have m2 := max_lst (fun p : Tr => p.bx.2.2) hn
    have e : exs (callF tab m) l__law_box_2 [x0, x1, x2, x3, x4, x5, x6, x7, x8, .val (.tup (row.map fun p => p.toT)), .val (.int acc), y11, x12] S = .nx [x0, x1, x2, x3, x4, x5, x6, x7, x8, .val (.tup (row.map fun p => p.toT)), .val (.int (acc + maxI (row.map fun p => p.bx.2.1) + maxI (row.map fun p => p.bx.2.2) + 1)), .val (.lst (row.map fun p => boxT p.bx)), x12] S := by
      simp! [l__law_box_2, e4, e5, e6, q__law_box_4, q__law_box_5, q__law_box_6, m1, m2]
    obtain ⟨z9, z11, h⟩ := ih (fun r hr => h1 r (List.mem_cons_of_mem _ hr)) (fun r hr => h2 r (List.mem_cons_of_mem _ hr)) (acc + maxI (row.map fun p => p.bx.2.1) + maxI (row.map fun p => p.bx.2.2) + 1) (.val (.tup (row.map fun p => p.toT))) (.val (.lst (row.map fun p => boxT p.bx)))
    refine ⟨z9, z11, ?_⟩
    rw [rowsT, List.map_cons, forL_nx e]
    refine h.trans ?_
    rw [List.map_cons, List.sum_cons, show acc + maxI (row.map fun p => p.bx.2.1) + maxI (row.map fun p => p.bx.2.2) + 1 + (rows.map highI).sum = acc + (highI row + (rows.map highI).sum) by unfold highI; omega]
end K03
namespace K03
open PySem PySem.Spec L2 Ly
open PyProof.Rows hiding St
theorem bxT_int (s : Tr) : boxT s.bx = .tup [.int s.bx.1, .int s.bx.2.1, .int s.bx.2.2] := rfl
theorem lbox_ev : ∀ s : Tr, s.Wf → ∀ n, s.ht + 1 ≤ n → LBoxAt n s := Tr.ind fun s IH W n hn => by
  have hpos := s.ht_pos
  obtain ⟨n, rfl⟩ : ∃ m, n = m + 1 := ⟨n - 1, by omega⟩
  have hb : ∀ p ∈ s.kids, LBoxAt n p := fun p hp => IH p hp (W.k p hp) n (by have := Tr.ht_lt hp; omega)
  intro S
  refine call_ok t__law_box rfl ?_
  show (exs _ b__law_box [.val _, .un, .un, .un, .un, .un, .un, .un, .un, .un, .un, .un, .un] S).fin = _
  have hp : ∀ S, callF tab n i__law_parts [s.toT] S = .ok (.lst (s.kids.map fun p => p.toT)) S := lparts_ev s W.n _ (by omega)
  have hr1 := fun b S => lrows_box b n (by omega) S
  have hr0 := fun S => lrows_non n (by omega) S
  have e7 : ∀ x0 x1 x2 x3 x4 x5 x6 x7 x8 x9 x10 x11 x12, x0 = .val s.toT → ev (callF tab n) x__law_box_7 [x0, x1, x2, x3, x4, x5, x6, x7, x8, x9, x10, x11, x12] S = .ok (.lst (s.kids.map fun p => boxT p.bx)) S := fun x0 x1 x2 x3 x4 x5 x6 x7 x8 x9 x10 x11 x12 h0 => by
    subst h0
    refine ev_lcm (l := s.kids) (fun p => p.toT) _ (ts := [.lst (s.kids.map fun p => p.toT)]) (by simp! [hp]) rfl fun p h => ⟨_, rfl, ?_⟩
    have := hb p h S
    simp! [this]
  cases s with
  | word x => simp! [b__law_box, Tr.toT, Tr.bx, boxT]
  | held a =>
    have e7 := fun x1 x2 x3 x4 x5 x6 x7 x8 x9 x10 x11 x12 => e7 _ x1 x2 x3 x4 x5 x6 x7 x8 x9 x10 x11 x12 rfl
    simp only [Tr.toT, Tr.kids] at e7
    simp! [b__law_box, Tr.toT, Tr.bx, boxT, e7, q__law_box_7]
    rw [show a.bx.2.1 + 2 - 2 = a.bx.2.1 by omega]
  | root a =>
    have e7 := fun x1 x2 x3 x4 x5 x6 x7 x8 x9 x10 x11 x12 => e7 _ x1 x2 x3 x4 x5 x6 x7 x8 x9 x10 x11 x12 rfl
    simp only [Tr.toT, Tr.kids] at e7
    simp! [b__law_box, Tr.toT, Tr.bx, boxT, e7, q__law_box_7]
    rw [show a.bx.2.1 + 2 - 1 = a.bx.2.1 + 1 by omega]
  | over a b =>
    have e7 := fun x1 x2 x3 x4 x5 x6 x7 x8 x9 x10 x11 x12 => e7 _ x1 x2 x3 x4 x5 x6 x7 x8 x9 x10 x11 x12 rfl
    simp only [Tr.toT, Tr.kids] at e7
    simp only [boxT] at hr1
    simp! [b__law_box, Tr.toT, Tr.bx, boxT, e7, q__law_box_7, hr1]
  | chain a r =>
    have e7 := fun x1 x2 x3 x4 x5 x6 x7 x8 x9 x10 x11 x12 => e7 _ x1 x2 x3 x4 x5 x6 x7 x8 x9 x10 x11 x12 rfl
    simp only [Tr.toT] at e7
    have q : (Tr.chain a r).bx = chainBox ((Tr.chain a r).kids.map fun p => p.bx) := by
      rw [Tr.bx, Tr.kids, List.map_cons, List.map_map]; rfl
    have ne : (Tr.chain a r).kids ≠ [] := by simp [Tr.kids]
    generalize (Tr.chain a r).kids = ks at e7 q ne
    have e8 : ∀ x0 x1 x2 x3 x4 x5 x6 x7 x8 x9 x10 x12, ev (callF tab n) x__law_box_8 [x0, x1, x2, x3, x4, x5, x6, x7, x8, x9, x10, .val (.lst (ks.map fun p => boxT p.bx)), x12] S = .ok (.lst (ks.map fun p => .int (p.bx.1 + 3))) S := fun x0 x1 x2 x3 x4 x5 x6 x7 x8 x9 x10 x12 => by
      refine ev_lcm (l := ks) (fun p => boxT p.bx) _ (ts := [.lst (ks.map fun p => boxT p.bx)]) (by simp! []) rfl fun p h => ⟨_, rfl, ?_⟩
      simp! [boxT]
    have e9 : ∀ x0 x1 x2 x3 x4 x5 x6 x7 x8 x9 x10 x12, ev (callF tab n) x__law_box_9 [x0, x1, x2, x3, x4, x5, x6, x7, x8, x9, x10, .val (.lst (ks.map fun p => boxT p.bx)), x12] S = .ok (.lst (ks.map fun p => .int p.bx.2.1)) S := fun x0 x1 x2 x3 x4 x5 x6 x7 x8 x9 x10 x12 => by
      refine ev_lcm (l := ks) (fun p => boxT p.bx) _ (ts := [.lst (ks.map fun p => boxT p.bx)]) (by simp! []) rfl fun p h => ⟨_, rfl, ?_⟩
      simp! [boxT]
    have e10 : ∀ x0 x1 x2 x3 x4 x5 x6 x7 x8 x9 x10 x12, ev (callF tab n) x__law_box_10 [x0, x1, x2, x3, x4, x5, x6, x7, x8, x9, x10, .val (.lst (ks.map fun p => boxT p.bx)), x12] S = .ok (.lst (ks.map fun p => .int p.bx.2.2)) S := fun x0 x1 x2 x3 x4 x5 x6 x7 x8 x9 x10 x12 => by
      refine ev_lcm (l := ks) (fun p => boxT p.bx) _ (ts := [.lst (ks.map fun p => boxT p.bx)]) (by simp! []) rfl fun p h => ⟨_, rfl, ?_⟩
      simp! [boxT]
    have s1 := sum_lst (fun p : Tr => p.bx.1 + 3) ks
    have s2 := max_lst (fun p : Tr => p.bx.2.1) ne
    have s3 := max_lst (fun p : Tr => p.bx.2.2) ne
    have sm := sum_map_add (fun p : Tr => p.bx.1) 3 ks
    rw [q, chainBox, boxT]
    simp only [List.length_map, List.map_map, Function.comp_def]
    simp! [b__law_box, Tr.toT, e7, q__law_box_7, e8, e9, e10, q__law_box_8, q__law_box_9, q__law_box_10, s1, s2, s3, List.length_map]
    rw [sm, show (ks.map fun p => p.bx.1).sum + 3 * (ks.length : Int) - 3 = (ks.map fun p => p.bx.1).sum + 3 * ((ks.length : Int) - 1) by omega]
  | table rows =>
    obtain ⟨w1, w2, w, w3, w4, w5⟩ : rows ≠ [] ∧ rows.length ≤ 1000 ∧ ∃ w, 1 ≤ w ∧ w ≤ 1000 ∧ ∀ row ∈ rows, row.length = w := W.n
    have hb' : ∀ row ∈ rows, ∀ p ∈ row, LBoxAt n p := fun row hr p hp => hb p (List.mem_flatten_of_mem hr hp)
    obtain ⟨y8, l1⟩ := wide_loop n S rows w1 w w5 hb' (.val (.str ([116, 97, 98, 108, 101] : List Nat))) .un .un .un .un .un .un (.val (.int ((rows.length : Int) - 1))) .un .un (List.range w) (fun k hk => List.mem_range.mp hk) 0 .un
    have hn : ∀ row ∈ rows, row ≠ [] := fun row hr q => by have := w5 row hr; rw [q] at this; simp at this; omega
    obtain ⟨z9, z11, l2⟩ := high_loop n S (.val (.tup [.str ([116, 97, 98, 108, 101] : List Nat), .tup (rowsT rows)])) (.val (.str ([116, 97, 98, 108, 101] : List Nat))) .un (.val (.int (0 + ((List.range w).map fun k => colI rows k + 2).sum))) .un .un .un .un y8 .un rows hn hb' ((rows.length : Int) - 1) .un .un
    obtain ⟨r0, rs, hrs⟩ : ∃ r0 rs, rows = r0 :: rs := by
      cases rows with
      | nil => exact absurd rfl w1
      | cons a l => exact ⟨a, l, rfl⟩
    have hl0 : r0.length = w := w5 r0 (by rw [hrs]; exact List.mem_cons_self)
    have f1 : ex (callF tab n) s__law_box_1 [.val (.tup [.str ([116, 97, 98, 108, 101] : List Nat), .tup (rowsT rows)]), .val (.str ([116, 97, 98, 108, 101] : List Nat)), .un, .val (.int 0), .un, .un, .un, .un, .un, .un, .val (.int ((rows.length : Int) - 1)), .un, .un] S = _ := (ex_for (ts := [.int w]) (S1 := S) (by
      rw [hrs, rowsT, List.map_cons]
      simp! [List.length_map, hl0]) (it_rng1 (by omega))).trans l1
    have f2 : ex (callF tab n) s__law_box_2 [.val (.tup [.str ([116, 97, 98, 108, 101] : List Nat), .tup (rowsT rows)]), .val (.str ([116, 97, 98, 108, 101] : List Nat)), .un, .val (.int (0 + ((List.range w).map fun k => colI rows k + 2).sum)), .un, .un, .un, .un, y8, .un, .val (.int ((rows.length : Int) - 1)), .un, .un] S = _ := (ex_for (ts := [.tup (rowsT rows)]) (by simp! []) rfl).trans l2
    have hc : tabCols (rows.map fun row => row.map fun p => p.bx) = (List.range w).map fun k => colI rows k := by
      unfold tabCols colI
      rw [hrs, List.map_cons, List.headD_cons, List.length_map, hl0, ← List.map_cons (f := fun row : List Tr => row.map fun p => p.bx)]
      refine List.map_congr_left fun k _ => ?_
      rw [List.map_map]
      rfl
    have hh : tabHigh (rows.map fun row => row.map fun p => p.bx) = (rows.length : Int) - 1 + (rows.map highI).sum := by
      unfold tabHigh
      rw [List.map_map, List.length_map]
      have : (rows.map ((fun row : List Bx => maxI (row.map (·.2.1)) + maxI (row.map (·.2.2)) + 1) ∘ fun row : List Tr => row.map fun p => p.bx)) = rows.map highI := by
        refine List.map_congr_left fun row _ => ?_
        simp only [Function.comp, List.map_map, highI]
        rfl
      rw [this]; omega
    rw [Tr.bx, tabBox, hc, hh, boxT, List.length_map, List.length_range]
    have sm := sum_map_add (fun k : Nat => colI rows k) 2 (List.range w)
    rw [List.length_range] at sm
    show (exs _ b__law_box [.val (Tr.table rows).toT, .un, .un, .un, .un, .un, .un, .un, .un, .un, .un, .un, .un] S).fin = _
    rw [show (Tr.table rows).toT = .tup [.str ([116, 97, 98, 108, 101] : List Nat), .tup (rowsT rows)] by rw [Tr.toT]]
    simp! [b__law_box, show (rowsT rows).length = rows.length from List.length_map .., f1, f2]
    rw [sm, show 0 + (((List.range w).map fun k => colI rows k).sum + 2 * (w : Int)) = ((List.range w).map fun k => colI rows k).sum + 2 * ((w : Int) - 1) + 2 by omega, show ∀ a b : Int, a - b - 1 = a - 1 - b by omega]
  | script a u d =>
    have hw : u.isSome = true ∨ d.isSome = true := W.n
    have ha := hb a (by simp [Tr.kids]) S
    have e1 : ∀ (t1 t2 : Option Tr), (∀ p ∈ t1, p ∈ (Tr.script a u d).kids) → (∀ p ∈ t2, p ∈ (Tr.script a u d).kids) → ∀ x1 x2 x3 x4 x5 x6 x7 x8 x9 x10 x11 x12, ev (callF tab n) x__law_box_1 [.val (.tup [.str ([115, 99, 114, 105, 112, 116] : List Nat), a.toT, optT Tr.toT t1, optT Tr.toT t2]), x1, x2, x3, x4, x5, x6, x7, x8, x9, x10, x11, x12] S = .ok (.lst [optT (fun p => boxT p.bx) t1, optT (fun p => boxT p.bx) t2]) S := by
      intro t1 t2 h1 h2 x1 x2 x3 x4 x5 x6 x7 x8 x9 x10 x11 x12
      refine ev_lcm (l := [t1, t2]) (optT Tr.toT) (optT fun p => boxT p.bx) (ts := [.tup [optT Tr.toT t1, optT Tr.toT t2]]) (by simp! []) rfl fun t ht => ⟨_, rfl, ?_⟩
      have : ∀ p ∈ t, p ∈ (Tr.script a u d).kids := by
        simp only [List.mem_cons, List.not_mem_nil, or_false] at ht
        rcases ht with rfl | rfl
        · exact h1
        · exact h2
      cases t with
      | none => simp! [optT]
      | some p =>
        have := hb p (this p rfl) S
        simp! [optT, this]
    have e2 : ∀ (t1 t2 : Option Tr) x0 x1 x2 x3 x6 x7 x8 x9 x10 x11 x12, ev (callF tab n) x__law_box_2 [x0, x1, x2, x3, .val (optT (fun p => boxT p.bx) t1), .val (optT (fun p => boxT p.bx) t2), x6, x7, x8, x9, x10, x11, x12] S = .ok (.lst ((t1.toList ++ t2.toList).map fun p => .int p.bx.1)) S := by
      intro t1 t2 x0 x1 x2 x3 x6 x7 x8 x9 x10 x11 x12
      have q : (t1.toList ++ t2.toList).map (fun p : Tr => T.int p.bx.1) = [t1, t2].filterMap fun t => t.map fun p => T.int p.bx.1 := by cases t1 <;> cases t2 <;> rfl
      rw [q]
      refine ev_lcf (l := [t1, t2]) (optT fun p => boxT p.bx) _ (ts := [.tup [optT (fun p => boxT p.bx) t1, optT (fun p => boxT p.bx) t2]]) (by simp! []) rfl fun t ht => ?_
      cases t with
      | none => exact ⟨_, .bl false, rfl, by simp! [optT], .inr ⟨rfl, rfl⟩⟩
      | some p => exact ⟨_, .bl true, rfl, by simp! [optT, boxT_non], .inl ⟨rfl, _, rfl, by simp! [optT, boxT]⟩⟩
    have mx := fun (t1 t2 : Option Tr) (h : t1.toList ++ t2.toList ≠ []) => max_lst (fun p : Tr => p.bx.1) h
    rw [bxT_int] at ha
    cases u with
    | none =>
      cases d with
      | none => simp at hw
      | some d =>
        have e1 := e1 none (some d) (by simp) (by simp [Tr.kids])
        have e2 := e2 none (some d)
        have mx := mx none (some d) (by simp)
        simp only [optT, Option.toList, List.nil_append, List.map_cons, List.map_nil, maxI, boxT] at e1 e2 mx hr1
        simp! [b__law_box, Tr.toT, ha, e1, e2, q__law_box_2, mx, hr0, hr1, Tr.bx, boxT]
    | some u =>
      cases d with
      | none =>
        have e1 := e1 (some u) none (by simp [Tr.kids]) (by simp)
        have e2 := e2 (some u) none
        have mx := mx (some u) none (by simp)
        simp only [optT, Option.toList, List.append_nil, List.map_cons, List.map_nil, maxI, boxT] at e1 e2 mx hr1
        simp! [b__law_box, Tr.toT, ha, e1, e2, q__law_box_2, mx, hr0, hr1, Tr.bx, boxT]
      | some d =>
        have e1 := e1 (some u) (some d) (by simp [Tr.kids]) (by simp [Tr.kids])
        have e2 := e2 (some u) (some d)
        have mx := mx (some u) (some d) (by simp)
        simp only [optT, Option.toList, List.cons_append, List.nil_append, List.map_cons, List.map_nil, maxI, boxT] at e1 e2 mx hr1
        simp! [b__law_box, Tr.toT, ha, e1, e2, q__law_box_2, mx, hr0, hr1, Tr.bx, boxT]
end K03
namespace K03
open PySem PySem.Spec L2 Ly
open PyProof.Rows hiding St
theorem cell_ev (ns : List Int) (k : Int) (h : 0 ≤ k) : ∃ v, Ev tab i__law_cell [.scr ns, .int k] (.int v) 1 := by
  by_cases hk : k < ns.length
  · obtain ⟨j, rfl⟩ : ∃ j : Nat, k = j := ⟨k.toNat, by omega⟩
    have hj : j < ns.length := by omega
    refine ⟨ns[j], Ev.mk t__law_cell rfl fun n hn S => ?_⟩
    show (exs _ b__law_cell [.val _, .val _] S).fin = _
    have hs : T.sub? (.scr ns) (.int (j : Nat)) = some (.int ns[j]) := by
      simp only [T.sub?, ixOf_lt hj, Option.bind_some, List.getElem?_eq_getElem hj, Option.map_some]
    simp! [b__law_cell, hk, hs]
  · refine ⟨0, Ev.mk t__law_cell rfl fun n hn S => ?_⟩
    show (exs _ b__law_cell [.val _, .val _] S).fin = _
    simp! [b__law_cell, hk]
theorem same_int (i : Int) : Ev tab i__law_same [.int i, .int i] (.bl true) 1 := Ev.mk t__law_same rfl fun n hn S => by
  show (exs _ b__law_same [.val _, .val _, .un, .un] S).fin = _
  simp! [b__law_same]
theorem same_box (b : Bx) : Ev tab i__law_same [boxT b, boxT b] (.bl true) 2 := Ev.mk t__law_same rfl fun n hn S => by
  show (exs _ b__law_same [.val _, .val _, .un, .un] S).fin = _
  have e : ∀ x y, ev (callF tab n) x__law_same_1 [.val (boxT b), .val (boxT b), x, y] S = .ok (.lst ([b.1, b.2.1, b.2.2].map fun _ => T.bl true)) S := fun x y => by
    refine ev_lcm (l := [b.1, b.2.1, b.2.2]) (fun i => .tup [.int i, .int i]) _ (ts := [boxT b, boxT b]) (by simp! []) rfl fun i _ => ⟨_, rfl, ?_⟩
    have h := same_int i n hn
    simp! [h]
  have al : biF .all [.lst ([b.1, b.2.1, b.2.2].map fun _ => T.bl true)] = some (.bl true) := rfl
  simp only [boxT] at e ⊢
  simp! [b__law_same, e, q__law_same_1]
  exact congrArg (fun o => (nxS (callF tab n) _ (nxS (callF tab n) _ ((Out.of o S).st _ fun t S => OutS.rt t S))).fin) al
theorem body_ok (ns : List Int) (n : Nat) (hn : 40 ≤ n) (S : Store) (k : Nat) (a2 a3 : Sl) : ∃ r, exs (callF tab n) l_law_1 [.val (.scr ns), .val (.int k), a2, a3] S = .nx (.val (.scr ns) :: r) S ∧ r.length = 3 := by
  obtain ⟨v, hv⟩ := cell_ev ns ((k : Int) % 9) (Int.emod_nonneg _ (by omega))
  have hv := hv n (by omega)
  obtain ⟨s, d1, d2, _, d3⟩ := draw_ok 5 (by omega) (v + 31 * (k : Int))
  have d3 := d3 n (by omega)
  rw [show ((5 : Nat) : Int) = 5 from rfl] at d3
  have b1 := box_ev s d1.wf n (by omega)
  have b2 := lbox_ev s d1.wf n (by omega)
  have b3 := same_box s.bx n (by omega)
  refine Cont.ex ?_
  simp! [l_law_1, mod_i, hv, d3, show ∀ S, _ from b1, show ∀ S, _ from b2, b3]
  exact ⟨rfl, _, rfl, rfl⟩
theorem law_at (ns : List Int) (S : Store) : callF tab 100 i_law [.scr ns] S = .ok (.bl true) S := by
  refine call_ok t_law rfl ?_
  show (exs _ b_law [.val _, .un, .un, .un] _).fin = _
  obtain ⟨ρ', e, r, rfl, hr⟩ := forL_keep (S := S) (f := fun x ρ S => optS ((Tg.nm 1).put x ρ) fun ρ' => exs (callF tab 99) l_law_1 ρ' S) (h := fun (k : Nat) => T.int k) (l := List.range 16) (fun ρ => ∃ r, ρ = .val (.scr ns) :: r ∧ r.length = 3) (ρ := [.val (.scr ns), .un, .un, .un]) ⟨_, rfl, rfl⟩ (fun k hk ρ hρ => by
    obtain ⟨r, rfl, hr⟩ := hρ
    match r, hr with
    | [a1, a2, a3], _ =>
      obtain ⟨r, e, hr⟩ := body_ok ns 99 (by omega) S k a2 a3
      exact ⟨_, e, r, rfl, hr⟩)
  have e : ex (callF tab 99) s_law_1 [.val (.scr ns), .un, .un, .un] S = _ := (ex_for (ts := [.int 16]) (by simp! []) (it_rng1 (by omega))).trans e
  have mk : ∀ (u : Tr), u.nd → (∀ p ∈ u.kids, p.Wf ∧ p.ht ≤ 5) → BoxAt 99 u := fun u h1 h2 => box_ev u ⟨_, h1, fun p hp => (h2 p hp).1⟩ 99 (by have := Tr.ht_of (s := u) fun p hp => (h2 p hp).2; omega)
  have w1 : ∀ x : List Nat, 1 ≤ x.length → x.length ≤ 3 → (Tr.word x).Wf ∧ (Tr.word x).ht ≤ 5 := fun x h1 h2 => ⟨⟨_, ⟨h1, by omega⟩, fun p hp => by simp [Tr.kids] at hp⟩, by simp [Tr.ht]⟩
  have wa := w1 [97] (by simp) (by simp)
  have wabc := w1 [97, 98, 99] (by simp) (by simp)
  have wo : (Tr.over (.word [97]) (.word [97])).Wf ∧ (Tr.over (.word [97]) (.word [97])).ht ≤ 5 := ⟨⟨_, trivial, fun p hp => by simp [Tr.kids] at hp; subst hp; exact wa.1⟩, by simp [Tr.ht]⟩
  have c1 := mk (.over (.word [97, 98, 99]) (.word [97])) trivial (by simp only [Tr.kids, List.mem_cons, List.not_mem_nil, or_false]; rintro p (rfl | rfl); exact wabc; exact wa) S
  have c2 := mk (.root (.word [97])) trivial (by simp only [Tr.kids, List.mem_cons, List.not_mem_nil, or_false]; rintro p rfl; exact wa) S
  have c3 := mk (.script (.word [97]) (some (.word [97])) (some (.word [97]))) (.inl rfl) (by simp only [Tr.kids, Option.toList, List.cons_append, List.nil_append, List.mem_cons, List.not_mem_nil, or_false, or_self]; rintro p rfl; exact wa) S
  have c4 := mk (.table [[.word [97], .word [97]], [.word [97], .word [97]]]) ⟨by simp, by simp, 2, by omega, by omega, by simp⟩ (by simp only [Tr.kids, List.flatten_cons, List.flatten_nil, List.append_nil, List.cons_append, List.nil_append, List.mem_cons, List.not_mem_nil, or_false, or_self]; rintro p rfl; exact wa) S
  have c5 := mk (.chain (.word [97]) [(43, .over (.word [97]) (.word [97]))]) (by simp [Tr.nd]) (by simp only [Tr.kids, List.map_cons, List.map_nil, List.mem_cons, List.not_mem_nil, or_false]; rintro p (rfl | rfl); exact wa; exact wo) S
  simp only [Tr.toT, Tr.bx, boxT, chainBox, tabBox, tabCols, tabHigh, List.map_cons, List.map_nil, List.length_cons, List.length_nil, List.sum_cons, List.sum_nil, maxI, List.headD_cons, List.range_succ, List.range_zero, List.nil_append, List.cons_append, List.getD_cons_zero, List.getD_cons_succ] at c1 c2 c3 c4 c5
  replace c1 := c1.trans (show _ = Out.ok (.tup [.int 5, .int 1, .int 1]) S from rfl)
  replace c2 := c2.trans (show _ = Out.ok (.tup [.int 2, .int 1, .int 0]) S from rfl)
  replace c3 := c3.trans (show _ = Out.ok (.tup [.int 2, .int 1, .int 1]) S from rfl)
  replace c4 := c4.trans (show _ = Out.ok (.tup [.int 6, .int 1, .int 1]) S from rfl)
  replace c5 := c5.trans (show _ = Out.ok (.tup [.int 7, .int 1, .int 1]) S from rfl)
  match r, hr with
  | [a1, a2, a3], _ =>
    simp! [b_law, e]
    simp! [b_law_2]
    simp! [b_law_3, c1, c2]
    simp! [b_law_4, c3]
    simp! [b_law_5, c4, c5]
theorem law_plain (ns : List Int) (h : ns.length ≤ 63) : ∃ S', callF tab 100 i_law [.scr ns] [] = .ok (.bl true) S' := ⟨_, law_at ns _⟩
end K03
namespace K03
open PySem PySem.Spec L2 Ly
open PyProof.Rows hiding St

abbrev R : PySem.W.OpenRow := PySem.W.OpenLaw.row PySem.Challenge.rw_sumlays_k03_boxes
def loose : List Str := ([(Str.ofString "__name__"), (Str.ofString "kind"), (Str.ofString "parts"), (Str.ofString "GAP"), (Str.ofString "BETWEEN"), (Str.ofString "rows_of"), (Str.ofString "box_or_none"), (Str.ofString "columns"), (Str.ofString "heights"), (Str.ofString "table_box"), (Str.ofString "box"), (Str.ofString "_law_cell"), (Str.ofString "_law_mix"), (Str.ofString "_law_same"), (Str.ofString "_law_atom"), (Str.ofString "_law_base"), (Str.ofString "_law_item"), (Str.ofString "_law_draw"), (Str.ofString "_law_parts"), (Str.ofString "_law_ways"), (Str.ofString "_law_rows"), (Str.ofString "_law_box")] : List Str)
def fa : List He.Fa := faOf tab glo exn
abbrev hk : PySem.W.Hook := He.hookD 4 fa ds
def ob (s : PySem.W.SharedT) : He.AlD := He.obsDG 4 fa ds (HandSHeadRun.getT s)
theorem ob_eq (s : PySem.W.SharedT) : ob s = hk.obs s.abs := He.obsDG_eq (HandSHeadRun.getT_eq s)
theorem run (w : World) : HandSHeadRun.RunEq R (PySem.W.view R.prog [24]) hk ob 4000 loose w := by
  intro os
  kernel_rfl

end K03
namespace K03
open PySem PySem.Spec L2 Ly
open PyProof.Rows hiding St
end K03
open PySem PySem.W PySem.Calls PyProof.Rows
theorem PySem.Challenge.cw_sumlays_k03_boxes_holds : PySem.Challenge.rw_sumlays_k03_boxes.Holds := by
  w_on; o_law
  refine HandSHeadRun.head_any (r := OpenLaw.row PySem.Challenge.rw_sumlays_k03_boxes) (q := view (OpenLaw.row PySem.Challenge.rw_sumlays_k03_boxes).prog [24]) (H := K03.hk) (ob := K03.ob) (M := 4000) (loose := K03.loose) (d := HandSHeadRun.topDef (OpenLaw.row PySem.Challenge.rw_sumlays_k03_boxes).prog 24) (kwd := []) K03.ob_eq
    (by kernel_rfl) (fun s => by kernel_rfl) K03.run (by kernel_rfl) (by kernel_rfl) (by kernel_rfl) (by rfl) (by first | assumption | decide +kernel) (by decide +kernel) ⟨rfl, rfl, rfl, rfl, rfl, by decide +kernel⟩ ?hw ?hc
  case hw => w_witness2
  case hc =>
    refine Ly.walk_ofW (l := PySem.Challenge.rw_sumlays_k03_boxes) (n := 63) (k := 100) (x := "_law_script") rfl (by decide) (by kernel_rfl) ⟨rfl, by decide, by decide⟩ ?F
    intro w mg fa h Y G hmg0
    obtain ⟨K, KX, c⟩ := Y
    have hmg : mg (K03.f_law).name = some (.ref fa) := by
      have e : (HandSHeadRun.topDef (OpenLaw.row PySem.Challenge.rw_sumlays_k03_boxes).prog 24).name = (K03.f_law).name := by kernel_rfl
      rw [← e]
      exact hmg0
    exact ⟨K, KX, Ly.law_def (tab := K03.tab) (n := 100) (li := 19) (fi := K03.f_law) (x := "_law_script") KX G c K03.oks K03.bds (by decide +kernel) rfl rfl hmg K03.law_plain⟩
