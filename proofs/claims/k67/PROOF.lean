import PyProof.Rows.All
import Wide.All
import OpenK.AllK
import Wide.FinOn
import HandS.ForMost
import HandS.ForExc
import HandS.EndTab
import HandS.IsInst
import HandS.TupAny
import HandS.Wide
import HandS.TupMul
import HandS.Style
import HandS.Conv
import KE.KTupSum
import HandS.SetFor
import KE.GoesEnum
import HandS.Zip
import KE.SortData
import KE.SortKeyHeap
import HandS.TryMany
import HandS.ExcIs
import HandS.ExcOwn
import HandS.WordsExc
import HandS.Nested
import HandS.ExcInit
import HandS.ExcField
import HandS.ClsMeth
import KE.KExcIs
import KE.KSuper
import KE.KExcSuper
import PySem.Challenge.RW_fairfields_k67_whole_least_payments
set_option Elab.async false
set_option linter.all false
set_option maxRecDepth 100000
/-! FxQ: the def with a lambda, and the lambda's name -/
namespace Fx
open PySem PySem.Spec
open PyProof.Rows L2
def lamDef : Str := "hidden_of"
def lamQ : Str := "hidden_of.<locals>.<lambda>"
/-- the table of the def with a lambda, if there is one -/
def TabI (K : PySem.W.Frag) (H : Hp) : Prop := ∀ c P, PySem.W.tabIn K lamDef = some (c, P) → LamX.TabS H P lamQ
theorem TabI.ext {K : PySem.W.Frag} {H H' : Hp} (h : TabI K H) (e : ∀ b o, H b = some o → H' b = some o) : TabI K H' := fun c P q => (h c P q).ext e
/-- neither a table nor a code object -/
def NoTab (o : HO) : Prop := (∀ ps, o ≠ .tbl ps) ∧ ∀ f, o ≠ .ext f
theorem TabI.upd {K : PySem.W.Frag} {H : Hp} {a : Addr} {o o0 : HO} (h : TabI K H) (ha : H a = some o0) (n : NoTab o0) : TabI K (upd H a o) := fun c P q => by
  obtain ⟨ps, h1, h2, h3⟩ := h c P q
  have hP : P ≠ a := fun z => n.1 ps (Option.some.inj (ha.symm.trans (by rw [← z]; exact h1)))
  refine ⟨ps, by rw [upd_ne hP]; exact h1, h2, fun pos cv hc => ?_⟩
  obtain ⟨d, e1, e2⟩ := h3 pos cv hc
  refine ⟨d, e1, ?_⟩
  rw [upd_ne fun z => ?_]
  · exact e2
  · rw [z, ha] at e2
    exact n.2 _ (Option.some.inj e2)
theorem tbls_upd {H : Hp} {a : Addr} {o o0 : HO} (ha : H a = some o0) (n : NoTab o0) : ∀ b ps, H b = some (.tbl ps) → ∃ ps', upd H a o b = some (.tbl ps') := fun b ps e => by
  refine ⟨ps, ?_⟩
  rw [upd_ne fun z => ?_]
  · exact e
  · rw [z, ha] at e
    exact n.1 ps (Option.some.inj e)
theorem noTab_lst {xs : List V} : NoTab (.lst xs) := ⟨fun _ z => (nomatch z), fun _ z => (nomatch z)⟩
theorem noTab_dK {xs : List (Key × V)} : NoTab (.dK xs) := ⟨fun _ z => (nomatch z), fun _ z => (nomatch z)⟩
theorem noTab_dT {xs : List (List Key × V)} : NoTab (.dT xs) := ⟨fun _ z => (nomatch z), fun _ z => (nomatch z)⟩
theorem TabI.keep {K : PySem.W.Frag} {H H' : Hp} (h : TabI K H) (e : ∀ b o, H b = some o → (∃ ps, o = .tbl ps) ∨ (∃ f, o = .ext f) → H' b = some o) : TabI K H' := fun c P q => by
  obtain ⟨ps, h1, h2, h3⟩ := h c P q
  refine ⟨ps, e _ _ h1 (.inl ⟨ps, rfl⟩), h2, fun pos cv hc => ?_⟩
  obtain ⟨d, e1, e2⟩ := h3 pos cv hc
  exact ⟨d, e1, e _ _ e2 (.inr ⟨_, rfl⟩)⟩
end Fx
/-! FxA: data, abstract states, judgements by functions -/
namespace Fx
open PySem PySem.Spec
open PyProof.Rows L2

abbrev Hs := PySem.W.Frag
/-! ### data in a heap -/
mutual
inductive Dd (K : PySem.W.Frag) (M : Hp) : V → PyData → Prop
  | non : Dd K M .non .none
  | bl (b : Bool) : Dd K M (.bl b) (.bool b)
  | int (i : Int) : Dd K M (.int i) (.int i)
  | str (x : Str) : Dd K M (.str x) (.str x)
  | lst {a : Addr} {xs : List V} {ds : List PyData} : M a = some (.lst xs) → DdA K M xs ds → Dd K M (.ref a) (.list ds)
  | tup {a : Addr} {xs : List V} {ds : List PyData} : SqT K M a xs → DdA K M xs ds → Dd K M (.ref a) (.tuple ds)
  | frz {a : Addr} {xs : List V} {ds : List PyData} : SqL K M a xs → DdA K M xs ds → Dd K M (.ref a) (.dict [(.none, .list ds)])
inductive DdA (K : PySem.W.Frag) (M : Hp) : List V → List PyData → Prop
  | nil : DdA K M [] []
  | cons {v : V} {vs : List V} {d : PyData} {ds : List PyData} : Dd K M v d → DdA K M vs ds → DdA K M (v :: vs) (d :: ds)
end

/-- all of M stands in M' -/
def Sub (M M' : Hp) : Prop := ∀ a o, M a = some o → M' a = some o
theorem Sub.refl (M : Hp) : Sub M M := fun _ _ h => h
theorem Sub.trans {A B C : Hp} (h : Sub A B) (g : Sub B C) : Sub A C := fun a o e => g a o (h a o e)
theorem Sub.rd {M M' : Hp} (s : Sub M M') {a : Addr} {u : HO} (h : Rd M a u) : Rd M' a u := by
  rcases h with h | ⟨o, h⟩
  · exact .inl (s _ _ h)
  · exact .inr ⟨o, s _ _ h⟩
theorem Sub.sqL {K : PySem.W.Frag} {M M' : Hp} (s : Sub M M') {a : Addr} {xs : List V} (h : SqL K M a xs) : SqL K M' a xs := by
  rcases h with h | h
  · exact .inl (s.rd h)
  · exact .inr h
theorem Sub.sqT {K : PySem.W.Frag} {M M' : Hp} (s : Sub M M') {a : Addr} {xs : List V} (h : SqT K M a xs) : SqT K M' a xs := by
  rcases h with h | h
  · exact .inl (s.rd h)
  · exact .inr h
mutual
theorem Dd.mono {K : PySem.W.Frag} {M M' : Hp} (s : Sub M M') : ∀ {v : V} {d : PyData}, Dd K M v d → Dd K M' v d
  | _, _, .non => .non
  | _, _, .bl b => .bl b
  | _, _, .int i => .int i
  | _, _, .str x => .str x
  | _, _, .lst h g => .lst (s _ _ h) (g.mono s)
  | _, _, .tup h g => .tup (s.sqT h) (g.mono s)
  | _, _, .frz h g => .frz (s.sqL h) (g.mono s)
theorem DdA.mono {K : PySem.W.Frag} {M M' : Hp} (s : Sub M M') : ∀ {vs : List V} {ds : List PyData}, DdA K M vs ds → DdA K M' vs ds
  | _, _, .nil => .nil
  | _, _, .cons h g => .cons (h.mono s) (g.mono s)
end
section
variable {K : PySem.W.Frag} {M M' : Hp}
theorem DdA.length {vs : List V} {ds : List PyData} : DdA K M vs ds → vs.length = ds.length
  | .nil => rfl
  | .cons _ g => by rw [List.length_cons, List.length_cons, g.length]
theorem DdA.get {vs : List V} {ds : List PyData} : DdA K M vs ds → ∀ {i : Nat} {d : PyData}, ds[i]? = some d → ∃ v, vs[i]? = some v ∧ Dd K M v d
  | .nil, _, _, e => by cases e
  | .cons h _, 0, _, e => ⟨_, rfl, by cases e; exact h⟩
  | .cons _ g, i + 1, _, e => g.get (i := i) (by simpa using e)
theorem DdA.getV {vs : List V} {ds : List PyData} : DdA K M vs ds → ∀ {i : Nat} {v : V}, vs[i]? = some v → ∃ d, ds[i]? = some d ∧ Dd K M v d
  | .nil, _, _, e => by cases e
  | .cons h _, 0, _, e => ⟨_, rfl, by cases e; exact h⟩
  | .cons _ g, i + 1, _, e => g.getV (i := i) (by simpa using e)
theorem DdA.append {vs ws : List V} {ds es : List PyData} : DdA K M vs ds → DdA K M ws es → DdA K M (vs ++ ws) (ds ++ es)
  | .nil, g => g
  | .cons h t, g => .cons h (t.append g)
theorem DdA.take {vs : List V} {ds : List PyData} : ∀ n, DdA K M vs ds → DdA K M (vs.take n) (ds.take n)
  | 0, _ => .nil
  | _ + 1, .nil => .nil
  | n + 1, .cons h t => .cons h (t.take n)
theorem DdA.drop {vs : List V} {ds : List PyData} : ∀ n, DdA K M vs ds → DdA K M (vs.drop n) (ds.drop n)
  | 0, h => h
  | _ + 1, .nil => .nil
  | n + 1, .cons _ t => t.drop n
theorem DdA.set {vs : List V} {ds : List PyData} {v : V} {d : PyData} (h : Dd K M v d) : ∀ n, DdA K M vs ds → DdA K M (vs.set n v) (ds.set n d)
  | _, .nil => .nil
  | 0, .cons _ t => .cons h t
  | n + 1, .cons g t => .cons g (t.set h n)
theorem DdA.erase {vs : List V} {ds : List PyData} : ∀ n, DdA K M vs ds → DdA K M (vs.eraseIdx n) (ds.eraseIdx n)
  | _, .nil => .nil
  | 0, .cons _ t => t
  | n + 1, .cons g t => .cons g (t.erase n)
theorem DdA.rep {vs : List V} {ds : List PyData} (h : DdA K M vs ds) : ∀ k : Nat, DdA K M (List.replicate k vs).flatten (List.replicate k ds).flatten
  | 0 => .nil
  | k + 1 => by
    simp only [List.replicate_succ, List.flatten_cons]
    exact h.append (h.rep k)
theorem DdA.one {v : V} {d : PyData} (h : Dd K M v d) : DdA K M [v] [d] := .cons h .nil
theorem DdA.nil_iff {vs : List V} {ds : List PyData} (h : DdA K M vs ds) : vs = [] ↔ ds = [] := by
  cases h with
  | nil => exact ⟨fun _ => rfl, fun _ => rfl⟩
  | cons _ _ => exact ⟨fun e => (nomatch e), fun e => (nomatch e)⟩
theorem DdA.reverse {vs : List V} {ds : List PyData} : DdA K M vs ds → DdA K M vs.reverse ds.reverse
  | .nil => .nil
  | .cons h t => by
    simp only [List.reverse_cons]
    exact t.reverse.append (.one h)
theorem DdA.ints {ns : List Int} : ∀ {vs : List V}, DdA K M vs (ns.map PyData.int) → vs = ns.map V.int := by
  induction ns with
  | nil => intro vs h; cases h; rfl
  | cons n r ih =>
    intro vs h
    cases h with
    | cons h t =>
      cases h
      rw [ih t]; rfl
theorem DdA.ofInts (ns : List Int) : DdA K M (ns.map V.int) (ns.map PyData.int) := by
  induction ns with
  | nil => exact .nil
  | cons n r ih => exact .cons (.int n) ih
theorem DdA.bools {ns : List Bool} : ∀ {vs : List V}, DdA K M vs (ns.map PyData.bool) → vs = ns.map V.bl := by
  induction ns with
  | nil => intro vs h; cases h; rfl
  | cons n r ih =>
    intro vs h
    cases h with
    | cons h t =>
      cases h
      rw [ih t]; rfl
end

/-! ### abstract states -/
/-- an owned object's content -/
inductive Ao where
  | lst (ds : List PyData)
  | dct (kvs : List (PyData × PyData))
  | mat (rows : List (List PyData))
/-- a slot: nothing known, data, an owned object, the caller's object, a locked object -/
inductive Sl where
  | no
  | d (x : PyData)
  | l (o : Ao)
  | x (o : Ao)
  | k (o : Ao)
/-- an expression's answer: data, what a slot holds, a new object -/
inductive Rv where
  | d (x : PyData)
  | own (i : Nat)
  | new (o : Ao)
inductive Exn where
  | mal
  | rf (r : Str)
abbrev Gm := List Sl
inductive Res (α : Type) where
  | ok (a : α) (G : Gm)
  | ex (e : Exn)
  | bad
def Res.bind {α β : Type} (r : Res α) (k : α → Gm → Res β) : Res β := match r with
  | .ok a G => k a G
  | .ex e => .ex e
  | .bad => .bad
@[simp] theorem Res.bind_ok {α β : Type} (a : α) (G : Gm) (k : α → Gm → Res β) : (Res.ok a G).bind k = k a G := rfl
@[simp] theorem Res.bind_ex {α β : Type} (e : Exn) (k : α → Gm → Res β) : (Res.ex e : Res α).bind k = .ex e := rfl
@[simp] theorem Res.bind_bad {α β : Type} (k : α → Gm → Res β) : (Res.bad : Res α).bind k = .bad := rfl

def kD : Key → PyData
  | .inl i => .int i
  | .inr x => .str x
section
variable (K : PySem.W.Frag)
def KvOk (M : Hp) (kv : List (Key × V)) (kvs : List (PyData × PyData)) : Prop := Paired (fun (p : Key × V) (q : PyData × PyData) => q.1 = kD p.1 ∧ Dd K M p.2 q.2) kv kvs
def KtOk (M : Hp) (kv : List (List Key × V)) (kvs : List (PyData × PyData)) : Prop := Paired (fun (p : List Key × V) (q : PyData × PyData) => q.1 = .tuple (p.1.map kD) ∧ Dd K M p.2 q.2) kv kvs
def RowsOk (H M : Hp) (ps : List Addr) (rows : List (List PyData)) : Prop := Paired (fun (p : Addr) (ds : List PyData) => ∃ xs, H p = some (.lst xs) ∧ DdA K M xs ds) ps rows
/-- the object at p has the content o, and owns the addresses F -/
def AoOk (H M : Hp) : Ao → Addr → List Addr → Prop
  | .lst ds, p, F => F = [p] ∧ ∃ xs, H p = some (.lst xs) ∧ DdA K M xs ds
  | .dct kvs, p, F => F = [p] ∧ ((∃ kv, H p = some (.dK kv) ∧ KvOk K M kv kvs) ∨ ∃ kv, H p = some (.dT kv) ∧ KtOk K M kv kvs)
  | .mat rows, p, F => ∃ ps, F = p :: ps ∧ (p :: ps).Nodup ∧ H p = some (.lst (ps.map V.ref)) ∧ RowsOk K H M ps rows
def SlOk (σ : L2.St) (H M : Hp) (F : List Addr) (i : Nat) : Sl → Prop
  | .no => F = []
  | .d x => F = [] ∧ ∃ v, σ[i]? = some (some v) ∧ Dd K M v x
  | .l o => ∃ p, σ[i]? = some (some (.ref p)) ∧ AoOk K H M o p F ∧ ∀ a ∈ F, M a = none
  | .x o => ∃ p, σ[i]? = some (some (.ref p)) ∧ AoOk K H M o p F ∧ ∀ a ∈ F, M a = none
  | .k o => ∃ p, σ[i]? = some (some (.ref p)) ∧ AoOk K H M o p F ∧ ∀ a ∈ F, M a = none
structure SI (σ : L2.St) (H M : Hp) (G : Gm) (ft : Nat → List Addr) : Prop where
  len : σ.length = G.length
  sub : Sub M H
  slot : ∀ i s, G[i]? = some s → SlOk K σ H M (ft i) i s
  tab : TabI K H ∧ ∀ a ps, M a ≠ some (.tbl ps)
  out : ∀ i, G.length ≤ i → ft i = []
  disj : ∀ i j a, a ∈ ft i → a ∈ ft j → i = j
end
/-- what an owned thing is not -/
def isTup (H : Hp) (a : Addr) : Prop := ∃ xs, H a = some (.tup xs)
/-- from an abstract state to a later one -/
structure Stp (σ : L2.St) (G : Gm) (H M : Hp) (ft : Nat → List Addr) (σ' : L2.St) (G' : Gm) (H' M' : Hp) (ft' : Nat → List Addr) : Prop where
  mono : Sub M M'
  new : ∀ a o, M' a = some o → M a = some o ∨ H a = none ∨ (∃ i, a ∈ ft i) ∨ isTup H a
  frame : ∀ a o, H a = some o → (∀ ps, o ≠ .tbl ps) → (∀ i, a ∉ ft i) → H' a = some o
  tbls : ∀ a ps, H a = some (.tbl ps) → ∃ ps', H' a = some (.tbl ps')
  tab : ∀ K, TabI K H → TabI K H'
  there : ∀ a o, H a = some o → ∃ o', H' a = some o'
  own : ∀ i a, a ∈ ft' i → (∃ j, a ∈ ft j) ∨ H a = none
  tups : ∀ a xs, H a = some (.tup xs) → H' a = some (.tup xs)
  len : G'.length = G.length
  kx : ∀ i o, G[i]? = some (.x o) → σ'[i]? = σ[i]? ∧ ft' i = ft i ∧ ∃ o', G'[i]? = some (.x o')
  kk : ∀ i o, G[i]? = some (.k o) → σ'[i]? = σ[i]? ∧ ft' i = ft i ∧ G'[i]? = some (.k o)
theorem Stp.refl {σ : L2.St} {G : Gm} {H M : Hp} {ft : Nat → List Addr} : Stp σ G H M ft σ G H M ft :=
  ⟨Sub.refl _, fun _ _ e => .inl e, fun _ _ e _ _ => e, fun _ ps e => ⟨ps, e⟩, fun _ h => h, fun _ o e => ⟨o, e⟩, fun i _ h => .inl ⟨i, h⟩, fun _ _ e => e, rfl, fun _ o e => ⟨rfl, rfl, o, e⟩, fun _ _ e => ⟨rfl, rfl, e⟩⟩
theorem Stp.nn {σ σ' : L2.St} {G G' : Gm} {H M H' M' : Hp} {ft ft' : Nat → List Addr} (p : Stp σ G H M ft σ' G' H' M' ft') {a : Addr} (h : H' a = none) : H a = none := by
  cases e : H a with
  | none => rfl
  | some o =>
    obtain ⟨o', e'⟩ := p.there a o e
    rw [h] at e'; cases e'
theorem Stp.trans {σ σ1 σ2 : L2.St} {G G1 G2 : Gm} {H M H1 M1 H2 M2 : Hp} {ft ft1 ft2 : Nat → List Addr} (p : Stp σ G H M ft σ1 G1 H1 M1 ft1) (q : Stp σ1 G1 H1 M1 ft1 σ2 G2 H2 M2 ft2) : Stp σ G H M ft σ2 G2 H2 M2 ft2 where
  mono := p.mono.trans q.mono
  new := fun a o e => by
    rcases q.new a o e with h | h | ⟨i, h⟩ | ⟨xs, h⟩
    · exact p.new a o h
    · exact .inr (.inl (p.nn h))
    · rcases p.own i a h with h | h
      · exact .inr (.inr (.inl h))
      · exact .inr (.inl h)
    · cases e0 : H a with
      | none => exact .inr (.inl rfl)
      | some o0 =>
        by_cases hf : ∃ i, a ∈ ft i
        · exact .inr (.inr (.inl hf))
        · by_cases ht : ∃ ps, o0 = .tbl ps
          · obtain ⟨ps, ht⟩ := ht
            subst ht
            obtain ⟨ps', h3⟩ := p.tbls a ps e0
            rw [h] at h3; cases h3
          · have := p.frame a o0 e0 (fun ps z => ht ⟨ps, z⟩) fun i hi => hf ⟨i, hi⟩
            rw [h] at this; cases this
            exact .inr (.inr (.inr ⟨xs, e0⟩))
  tbls := fun a ps e => by
    obtain ⟨ps', h1⟩ := p.tbls a ps e
    exact q.tbls a ps' h1
  tab := fun K h => q.tab K (p.tab K h)
  frame := fun a o e nt hn => by
    have h1 := p.frame a o e nt hn
    refine q.frame a o h1 nt fun i hi => ?_
    rcases p.own i a hi with ⟨j, h⟩ | h
    · exact hn j h
    · rw [e] at h; cases h
  there := fun a o e => by
    obtain ⟨o1, h1⟩ := p.there a o e
    exact q.there a o1 h1
  own := fun i a h => by
    rcases q.own i a h with ⟨j, h⟩ | h
    · exact p.own j a h
    · exact .inr (p.nn h)
  tups := fun a xs e => q.tups a xs (p.tups a xs e)
  len := q.len.trans p.len
  kx := fun i o e => by
    obtain ⟨h1, h2, o1, h3⟩ := p.kx i o e
    obtain ⟨g1, g2, o2, g3⟩ := q.kx i o1 h3
    exact ⟨g1.trans h1, g2.trans h2, o2, g3⟩
  kk := fun i o e => by
    obtain ⟨h1, h2, h3⟩ := p.kk i o e
    obtain ⟨g1, g2, g3⟩ := q.kk i o h3
    exact ⟨g1.trans h1, g2.trans h2, g3⟩
section
variable {K : PySem.W.Frag} {σ σ' : L2.St} {G G' : Gm} {H M H' M' : Hp} {ft ft' : Nat → List Addr}
theorem KvOk.mono {M M' : Hp} (s : Sub M M') : ∀ {kv : List (Key × V)} {kvs : List (PyData × PyData)}, KvOk K M kv kvs → KvOk K M' kv kvs
  | _, _, .nil => .nil
  | _, _, .cons h t => .cons ⟨h.1, h.2.mono s⟩ (KvOk.mono s t)
theorem KtOk.mono {M M' : Hp} (s : Sub M M') : ∀ {kv : List (List Key × V)} {kvs : List (PyData × PyData)}, KtOk K M kv kvs → KtOk K M' kv kvs
  | _, _, .nil => .nil
  | _, _, .cons h t => .cons ⟨h.1, h.2.mono s⟩ (KtOk.mono s t)
theorem RowsOk.keep {M M' : Hp} (s : Sub M M') : ∀ {ps : List Addr} {rows : List (List PyData)}, RowsOk K H M ps rows → (∀ a ∈ ps, ∀ o, H a = some o → (∀ ps, o ≠ .tbl ps) → H' a = some o) → RowsOk K H' M' ps rows
  | _, _, .nil, _ => .nil
  | _, _, .cons ⟨xs, h, g⟩ t, k => .cons ⟨xs, k _ List.mem_cons_self _ h (fun _ z => nomatch z), g.mono s⟩ (RowsOk.keep s t fun a ha => k a (List.mem_cons_of_mem _ ha))
theorem AoOk.keep {o : Ao} {p : Addr} {F : List Addr} (s : Sub M M') (h : AoOk K H M o p F) (k : ∀ a ∈ F, ∀ o, H a = some o → (∀ ps, o ≠ .tbl ps) → H' a = some o) : AoOk K H' M' o p F := by
  cases o with
  | lst ds =>
    obtain ⟨rfl, xs, e, g⟩ := h
    exact ⟨rfl, xs, k p (List.mem_singleton.mpr rfl) _ e (fun _ z => nomatch z), g.mono s⟩
  | dct kvs =>
    obtain ⟨rfl, h⟩ := h
    refine ⟨rfl, ?_⟩
    rcases h with ⟨kv, e, g⟩ | ⟨kv, e, g⟩
    · exact .inl ⟨kv, k p (List.mem_singleton.mpr rfl) _ e (fun _ z => nomatch z), KvOk.mono s g⟩
    · exact .inr ⟨kv, k p (List.mem_singleton.mpr rfl) _ e (fun _ z => nomatch z), KtOk.mono s g⟩
  | mat rows =>
    obtain ⟨ps, rfl, nd, e, g⟩ := h
    exact ⟨ps, rfl, nd, k p List.mem_cons_self _ e (fun _ z => nomatch z), RowsOk.keep s g fun a ha => k a (List.mem_cons_of_mem _ ha)⟩
theorem RowsOk.there : ∀ {ps : List Addr} {rows : List (List PyData)}, RowsOk K H M ps rows → ∀ a ∈ ps, ∃ o, H a = some o ∧ ∀ xs, o ≠ .tup xs
  | _, _, .cons ⟨xs, h, _⟩ t, a, ha => by
    obtain rfl | ha := List.mem_cons.mp ha
    · exact ⟨_, h, fun _ z => nomatch z⟩
    · exact RowsOk.there t a ha
theorem AoOk.there {o : Ao} {p : Addr} {F : List Addr} (h : AoOk K H M o p F) : ∀ a ∈ F, ∃ o, H a = some o ∧ ∀ xs, o ≠ .tup xs := by
  cases o with
  | lst ds =>
    obtain ⟨rfl, xs, e, g⟩ := h
    intro a ha
    cases List.mem_singleton.mp ha
    exact ⟨_, e, fun _ z => nomatch z⟩
  | dct kvs =>
    obtain ⟨rfl, h⟩ := h
    intro a ha
    cases List.mem_singleton.mp ha
    rcases h with ⟨kv, e, g⟩ | ⟨kv, e, g⟩
    · exact ⟨_, e, fun _ z => nomatch z⟩
    · exact ⟨_, e, fun _ z => nomatch z⟩
  | mat rows =>
    obtain ⟨ps, rfl, nd, e, g⟩ := h
    intro a ha
    obtain rfl | ha := List.mem_cons.mp ha
    · exact ⟨_, e, fun _ z => nomatch z⟩
    · exact g.there a ha
theorem RowsOk.ntb : ∀ {ps : List Addr} {rows : List (List PyData)}, RowsOk K H M ps rows → ∀ a ∈ ps, ∀ qs, H a ≠ some (.tbl qs)
  | _, _, .cons ⟨xs, h, _⟩ t, a, ha => by
    obtain rfl | ha := List.mem_cons.mp ha
    · intro qs z; rw [h] at z; cases z
    · exact RowsOk.ntb t a ha
theorem AoOk.ntb {o : Ao} {p : Addr} {F : List Addr} (h : AoOk K H M o p F) : ∀ a ∈ F, ∀ ps, H a ≠ some (.tbl ps) := by
  cases o with
  | lst ds =>
    obtain ⟨rfl, xs, e, g⟩ := h
    intro a ha ps z
    cases List.mem_singleton.mp ha
    rw [e] at z; cases z
  | dct kvs =>
    obtain ⟨rfl, h⟩ := h
    intro a ha ps z
    cases List.mem_singleton.mp ha
    rcases h with ⟨kv, e, g⟩ | ⟨kv, e, g⟩ <;> (rw [e] at z; cases z)
  | mat rows =>
    obtain ⟨ps, rfl, nd, e, g⟩ := h
    intro a ha ps' z
    obtain rfl | ha := List.mem_cons.mp ha
    · rw [e] at z; cases z
    · exact RowsOk.ntb g a ha ps' z
theorem AoOk.mem {o : Ao} {p : Addr} {F : List Addr} (h : AoOk K H M o p F) : p ∈ F := by
  cases o with
  | lst ds => obtain ⟨rfl, _⟩ := h; exact List.mem_singleton.mpr rfl
  | dct kvs => obtain ⟨rfl, _⟩ := h; exact List.mem_singleton.mpr rfl
  | mat rows => obtain ⟨ps, rfl, _⟩ := h; exact List.mem_cons_self
theorem SI.lt (S : SI K σ H M G ft) {i : Nat} {a : Addr} (h : a ∈ ft i) : i < G.length := by
  rcases Nat.lt_or_ge i G.length with h1 | h1
  · exact h1
  · rw [S.out i h1] at h; cases h
theorem SI.ntb (S : SI K σ H M G ft) {i : Nat} {a : Addr} (h : a ∈ ft i) : ∀ ps, H a ≠ some (.tbl ps) := by
  have hi := S.lt h
  have hs := S.slot i _ (List.getElem?_eq_getElem hi)
  cases e : G[i] with
  | no => rw [e] at hs; rw [show ft i = [] from hs] at h; cases h
  | d x => rw [e] at hs; rw [show ft i = [] from hs.1] at h; cases h
  | l o => rw [e] at hs; obtain ⟨p, _, g, _⟩ := hs; exact g.ntb a h
  | x o => rw [e] at hs; obtain ⟨p, _, g, _⟩ := hs; exact g.ntb a h
  | k o => rw [e] at hs; obtain ⟨p, _, g, _⟩ := hs; exact g.ntb a h
theorem nt_upd {M : Hp} (h : ∀ a ps, M a ≠ some (.tbl ps)) {p : Addr} {o : HO} (n : ∀ ps, o ≠ .tbl ps) : ∀ a ps, (upd M p o) a ≠ some (.tbl ps) := fun a ps z => by
  by_cases e : a = p
  · rw [e, upd_same] at z; exact n ps (Option.some.inj z)
  · rw [upd_ne e] at z; exact h a ps z
/-- an owned address: hidden, there, no tuple -/
theorem SI.owned (S : SI K σ H M G ft) {i : Nat} {a : Addr} (h : a ∈ ft i) : M a = none ∧ ∃ o, H a = some o ∧ ∀ xs, o ≠ .tup xs := by
  have hi := S.lt h
  have hs := S.slot i _ (List.getElem?_eq_getElem hi)
  cases e : G[i] with
  | no => rw [e] at hs; rw [show ft i = [] from hs] at h; cases h
  | d x => rw [e] at hs; rw [show ft i = [] from hs.1] at h; cases h
  | l o => rw [e] at hs; obtain ⟨p, _, g, m⟩ := hs; exact ⟨m a h, g.there a h⟩
  | x o => rw [e] at hs; obtain ⟨p, _, g, m⟩ := hs; exact ⟨m a h, g.there a h⟩
  | k o => rw [e] at hs; obtain ⟨p, _, g, m⟩ := hs; exact ⟨m a h, g.there a h⟩
end

/-! ### answers -/
section
variable (K : PySem.W.Frag)
/-- H₀: the heap ahead of the expression -/
def RvOk (σ : L2.St) (H₀ H M : Hp) (ft : Nat → List Addr) : Rv → V → Prop
  | .d x, v => Dd K M v x
  | .own i, v => σ[i]? = some (some v)
  | .new o, v => ∃ p F, v = .ref p ∧ AoOk K H M o p F ∧ ∀ a ∈ F, M a = none ∧ H₀ a = none ∧ ∀ i, a ∉ ft i
/-- .. with what it owns -/
def RvF (σ : L2.St) (H₀ H M : Hp) (ft : Nat → List Addr) (F : List Addr) : Rv → V → Prop
  | .d x, v => Dd K M v x ∧ F = []
  | .own i, v => σ[i]? = some (some v) ∧ F = []
  | .new o, v => ∃ p, v = .ref p ∧ AoOk K H M o p F ∧ ∀ a ∈ F, M a = none ∧ H₀ a = none ∧ ∀ i, a ∉ ft i
/-- several, one after another: new things apart; the index is the heap ahead of the first -/
inductive RvsOk (σ : L2.St) (H M : Hp) (ft : Nat → List Addr) : Hp → List Rv → List V → Prop
  | nil {H₀ : Hp} : RvsOk σ H M ft H₀ [] []
  | cons {H₀ : Hp} {r : Rv} {v : V} {rs : List Rv} {vs : List V} (H₁ : Hp) (F : List Addr) (h0 : ∀ a, H₁ a = none → H₀ a = none) (h : RvF K σ H₀ H M ft F r v) (hn : ∀ a ∈ F, H₁ a ≠ none) (t : RvsOk σ H M ft H₁ rs vs) : RvsOk σ H M ft H₀ (r :: rs) (v :: vs)
end
/-- exceptions: XR tells how an Exn lies -/
abbrev XRt := Exn → Value → Option Addr → Hp → Prop
def Frm (H : Hp) (ft : Nat → List Addr) (H' : Hp) : Prop := (∀ a o, H a = some o → (∀ ps, o ≠ .tbl ps) → (∀ i, a ∉ ft i) → H' a = some o) ∧ (∀ a o, H a = some o → ∃ o', H' a = some o') ∧ (∀ K, TabI K H → TabI K H') ∧ ∀ a ps, H a = some (.tbl ps) → ∃ ps', H' a = some (.tbl ps')
section
variable (K : PySem.W.Frag) (XR : XRt) (E : XK)
/-- what is wanted of an answer, from the state at hand -/
def WP {α β : Type} (RO : Hp → Hp → Hp → (Nat → List Addr) → α → β → Prop) (σ : L2.St) (G : Gm) (H M : Hp) (ft : Nat → List Addr) (res : Res α) (Q : β → Hp → Prop) : Prop := match res with
  | .ok r G' => ∀ v H' M' ft', SI K σ H' M' G' ft' → Stp σ G H M ft σ G' H' M' ft' → RO H H' M' ft' r v → Q v H'
  | .ex e => ∀ cls d H', XR e cls d H' → Frm H ft H' → E cls d H'
  | .bad => False
abbrev ROv (σ : L2.St) : Hp → Hp → Hp → (Nat → List Addr) → Rv → V → Prop := RvOk K σ
abbrev ROb : Hp → Hp → Hp → (Nat → List Addr) → Bool → Bool → Prop := fun _ _ _ _ a b => a = b
abbrev ROs (σ : L2.St) : Hp → Hp → Hp → (Nat → List Addr) → List Rv → List V → Prop := fun H₀ H M ft rs vs => RvsOk K σ H M ft H₀ rs vs
def tFE (f : Gm → Res Rv) : TE := fun σ H Q => ∃ M G ft, SI K σ H M G ft ∧ WP K XR E (ROv K σ) σ G H M ft (f G) Q
def tFT (f : Gm → Res Bool) : TT := fun σ H Q => ∃ M G ft, SI K σ H M G ft ∧ WP K XR E ROb σ G H M ft (f G) Q
def tFA (f : Gm → Res (List Rv)) : TA := fun σ H Q => ∃ M G ft, SI K σ H M G ft ∧ WP K XR E (ROs K σ) σ G H M ft (f G) Q
end
theorem Frm.of {σ σ' : L2.St} {G G' : Gm} {H M H' M' : Hp} {ft ft' : Nat → List Addr} (p : Stp σ G H M ft σ' G' H' M' ft') : Frm H ft H' := ⟨p.frame, p.there, p.tab, p.tbls⟩
theorem Frm.trans {σ σ' : L2.St} {G G' : Gm} {H M H1 M1 H2 : Hp} {ft ft1 : Nat → List Addr} (p : Stp σ G H M ft σ' G' H1 M1 ft1) (q : Frm H1 ft1 H2) : Frm H ft H2 := by
  refine ⟨fun a o e nt hn => ?_, fun a o e => ?_, fun K h => q.2.2.1 K (p.tab K h), fun a ps e => let ⟨ps', h1⟩ := p.tbls a ps e; q.2.2.2 a ps' h1⟩
  · refine q.1 a o (p.frame a o e nt hn) nt fun i hi => ?_
    rcases p.own i a hi with ⟨j, h⟩ | h
    · exact hn j h
    · rw [e] at h; cases h
  · obtain ⟨o1, e1⟩ := p.there a o e
    exact q.2.1 a o1 e1
section
variable {K : PySem.W.Frag} {σ : L2.St} {G G1 : Gm} {H M H1 M1 H2 M2 : Hp} {ft ft1 ft2 : Nat → List Addr}
theorem RvOk.base {r : Rv} {v : V} {H0 H0' : Hp} (h : RvOk K σ H0' H M ft r v) (h0 : ∀ a, H0' a = none → H0 a = none) : RvOk K σ H0 H M ft r v := by
  cases r with
  | d x => exact h
  | own i => exact h
  | new o =>
    obtain ⟨p, F, e, g, k⟩ := h
    exact ⟨p, F, e, g, fun a ha => ⟨(k a ha).1, h0 a (k a ha).2.1, (k a ha).2.2⟩⟩
/-- an answer stays behind what comes later -/
theorem RvOk.later {r : Rv} {v : V} {H0 : Hp} {G2 : Gm} (h : RvOk K σ H0 H1 M1 ft1 r v) (p : Stp σ G1 H1 M1 ft1 σ G2 H2 M2 ft2) : RvOk K σ H0 H2 M2 ft2 r v := by
  cases r with
  | d x => exact Dd.mono p.mono h
  | own i => exact h
  | new o =>
    obtain ⟨q, F, e, g, k⟩ := h
    refine ⟨q, F, e, g.keep p.mono fun a ha o e nt => p.frame a o e nt (k a ha).2.2, fun a ha => ⟨?_, (k a ha).2.1, fun i hi => ?_⟩⟩
    · obtain ⟨o, eo, hnt⟩ := g.there a ha
      cases e2 : M2 a with
      | none => rfl
      | some o2 =>
        rcases p.new a o2 e2 with z | z | ⟨i, z⟩ | ⟨xs, z⟩
        · rw [(k a ha).1] at z; cases z
        · rw [eo] at z; cases z
        · exact absurd z ((k a ha).2.2 i)
        · rw [eo] at z; cases z; exact absurd rfl (hnt xs)
    · rcases p.own i a hi with ⟨j, z⟩ | z
      · exact (k a ha).2.2 j z
      · obtain ⟨o, eo, _⟩ := g.there a ha
        rw [eo] at z; cases z
theorem RvOk.f {r : Rv} {v : V} {H0 : Hp} (h : RvOk K σ H0 H M ft r v) : ∃ F, RvF K σ H0 H M ft F r v := by
  cases r with
  | d x => exact ⟨[], h, rfl⟩
  | own i => exact ⟨[], h, rfl⟩
  | new o =>
    obtain ⟨p, F, e, g, k⟩ := h
    exact ⟨F, p, e, g, k⟩
theorem RvF.ok {r : Rv} {v : V} {H0 : Hp} {F : List Addr} (h : RvF K σ H0 H M ft F r v) : RvOk K σ H0 H M ft r v := by
  cases r with
  | d x => exact h.1
  | own i => exact h.1
  | new o =>
    obtain ⟨p, e, g, k⟩ := h
    exact ⟨p, F, e, g, k⟩
theorem RvF.there {r : Rv} {v : V} {H0 : Hp} {F : List Addr} (h : RvF K σ H0 H M ft F r v) : ∀ a ∈ F, ∃ o, H a = some o ∧ ∀ xs, o ≠ .tup xs := by
  cases r with
  | d x => obtain ⟨_, rfl⟩ := h; intro a ha; cases ha
  | own i => obtain ⟨_, rfl⟩ := h; intro a ha; cases ha
  | new o =>
    obtain ⟨p, e, g, k⟩ := h
    exact g.there
theorem RvF.base {r : Rv} {v : V} {H0 H0' : Hp} {F : List Addr} (h : RvF K σ H0' H M ft F r v) (h0 : ∀ a, H0' a = none → H0 a = none) : RvF K σ H0 H M ft F r v := by
  cases r with
  | d x => exact h
  | own i => exact h
  | new o =>
    obtain ⟨p, e, g, k⟩ := h
    exact ⟨p, e, g, fun a ha => ⟨(k a ha).1, h0 a (k a ha).2.1, (k a ha).2.2⟩⟩
theorem RvF.later {r : Rv} {v : V} {H0 : Hp} {G2 : Gm} {F : List Addr} (h : RvF K σ H0 H1 M1 ft1 F r v) (p : Stp σ G1 H1 M1 ft1 σ G2 H2 M2 ft2) : RvF K σ H0 H2 M2 ft2 F r v := by
  cases r with
  | d x => exact ⟨Dd.mono p.mono h.1, h.2⟩
  | own i => exact h
  | new o =>
    obtain ⟨q, e, g, k⟩ := h
    refine ⟨q, e, g.keep p.mono fun a ha o e nt => p.frame a o e nt (k a ha).2.2, fun a ha => ⟨?_, (k a ha).2.1, fun i hi => ?_⟩⟩
    · obtain ⟨o, eo, hnt⟩ := g.there a ha
      cases e2 : M2 a with
      | none => rfl
      | some o2 =>
        rcases p.new a o2 e2 with z | z | ⟨i, z⟩ | ⟨xs, z⟩
        · rw [(k a ha).1] at z; cases z
        · rw [eo] at z; cases z
        · exact absurd z ((k a ha).2.2 i)
        · rw [eo] at z; cases z; exact absurd rfl (hnt xs)
    · rcases p.own i a hi with ⟨j, z⟩ | z
      · exact (k a ha).2.2 j z
      · obtain ⟨o, eo, _⟩ := g.there a ha
        rw [eo] at z; cases z
theorem RvsOk.base : ∀ {rs : List Rv} {vs : List V} {H0 H0' : Hp}, RvsOk K σ H M ft H0' rs vs → (∀ a, H0' a = none → H0 a = none) → RvsOk K σ H M ft H0 rs vs
  | _, _, _, _, .nil, _ => .nil
  | _, _, _, _, .cons H₁ F h0 h hn t, k => .cons H₁ F (fun a z => k a (h0 a z)) (h.base k) hn t
variable {XR : XRt} {E : XK}
theorem WP.rebase {α β : Type} {RO : Hp → Hp → Hp → (Nat → List Addr) → α → β → Prop} {res : Res α} {Q : β → Hp → Prop} (hRO : ∀ H0 H0' H M ft r v, RO H0' H M ft r v → (∀ a, H0' a = none → H0 a = none) → RO H0 H M ft r v)
    (p : Stp σ G H M ft σ G1 H1 M1 ft1) (h : WP K XR E RO σ G H M ft res Q) : WP K XR E RO σ G1 H1 M1 ft1 res Q := by
  cases res with
  | ok r G' => exact fun v H' M' ft' S q R => h v H' M' ft' S (p.trans q) (hRO _ _ _ _ _ _ _ R fun a z => p.nn z)
  | ex e => exact fun cls d H' x f => h cls d H' x (Frm.trans p f)
  | bad => exact h
theorem WP.rebaseV {res : Res Rv} {Q : VK} (p : Stp σ G H M ft σ G1 H1 M1 ft1) (h : WP K XR E (ROv K σ) σ G H M ft res Q) : WP K XR E (ROv K σ) σ G1 H1 M1 ft1 res Q := WP.rebase (fun _ _ _ _ _ _ _ h k => RvOk.base h k) p h
theorem WP.rebaseB {res : Res Bool} {Q : Bool → Hp → Prop} (p : Stp σ G H M ft σ G1 H1 M1 ft1) (h : WP K XR E ROb σ G H M ft res Q) : WP K XR E ROb σ G1 H1 M1 ft1 res Q := WP.rebase (fun _ _ _ _ _ _ _ h k => h) p h
theorem WP.rebaseA {res : Res (List Rv)} {Q : List V → Hp → Prop} (p : Stp σ G H M ft σ G1 H1 M1 ft1) (h : WP K XR E (ROs K σ) σ G H M ft res Q) : WP K XR E (ROs K σ) σ G1 H1 M1 ft1 res Q := WP.rebase (fun _ _ _ _ _ _ _ h k => RvsOk.base h k) p h
/-- a part of an expression, then the rest; the wish is told from a state ahead (index 0) -/
theorem bindW {G0 : Gm} {H0 M0 : Hp} {ft0 : Nat → List Addr} {α β α' β' : Type} {RO : Hp → Hp → Hp → (Nat → List Addr) → α → β → Prop} {RO' : Hp → Hp → Hp → (Nat → List Addr) → α' → β' → Prop} {res : Res α} {k : α → Gm → Res α'} {Q : β' → Hp → Prop} {Q1 : β → Hp → Prop}
    (P : Stp σ G0 H0 M0 ft0 σ G H M ft) (h : WP K XR E RO' σ G0 H0 M0 ft0 (res.bind k) Q)
    (go : ∀ r G1 v H1 M1 ft1, res = .ok r G1 → SI K σ H1 M1 G1 ft1 → Stp σ G H M ft σ G1 H1 M1 ft1 → RO H H1 M1 ft1 r v → WP K XR E RO' σ G0 H0 M0 ft0 (k r G1) Q → Q1 v H1) : WP K XR E RO σ G H M ft res Q1 := by
  cases res with
  | ok r G1 => exact fun v H1 M1 ft1 S p R => go r G1 v H1 M1 ft1 rfl S p R h
  | ex e => exact fun cls d H' x f => h cls d H' x (Frm.trans P f)
  | bad => exact h
section
variable {G0 : Gm} {H0 M0 : Hp} {ft0 : Nat → List Addr}
theorem bindEE {f : Gm → Res Rv} {k : Rv → Gm → Res Rv} {Q : V → Hp → Prop} {Q1 : V → Hp → Prop} (S : SI K σ H M G ft) (P : Stp σ G0 H0 M0 ft0 σ G H M ft) (h : WP K XR E (ROv K σ) σ G0 H0 M0 ft0 ((f G).bind k) Q)
    (go : ∀ r G1 v H1 M1 ft1, f G = .ok r G1 → SI K σ H1 M1 G1 ft1 → Stp σ G H M ft σ G1 H1 M1 ft1 → RvOk K σ H H1 M1 ft1 r v → WP K XR E (ROv K σ) σ G0 H0 M0 ft0 (k r G1) Q → Q1 v H1) : tFE K XR E f σ H Q1 :=
  ⟨M, G, ft, S, bindW (RO := (ROv K σ)) (RO' := (ROv K σ)) P h go⟩
theorem bindET {f : Gm → Res Rv} {k : Rv → Gm → Res Bool} {Q : Bool → Hp → Prop} {Q1 : V → Hp → Prop} (S : SI K σ H M G ft) (P : Stp σ G0 H0 M0 ft0 σ G H M ft) (h : WP K XR E ROb σ G0 H0 M0 ft0 ((f G).bind k) Q)
    (go : ∀ r G1 v H1 M1 ft1, f G = .ok r G1 → SI K σ H1 M1 G1 ft1 → Stp σ G H M ft σ G1 H1 M1 ft1 → RvOk K σ H H1 M1 ft1 r v → WP K XR E ROb σ G0 H0 M0 ft0 (k r G1) Q → Q1 v H1) : tFE K XR E f σ H Q1 :=
  ⟨M, G, ft, S, bindW (RO := (ROv K σ)) (RO' := ROb) P h go⟩
theorem bindEA {f : Gm → Res Rv} {k : Rv → Gm → Res (List Rv)} {Q : List V → Hp → Prop} {Q1 : V → Hp → Prop} (S : SI K σ H M G ft) (P : Stp σ G0 H0 M0 ft0 σ G H M ft) (h : WP K XR E (ROs K σ) σ G0 H0 M0 ft0 ((f G).bind k) Q)
    (go : ∀ r G1 v H1 M1 ft1, f G = .ok r G1 → SI K σ H1 M1 G1 ft1 → Stp σ G H M ft σ G1 H1 M1 ft1 → RvOk K σ H H1 M1 ft1 r v → WP K XR E (ROs K σ) σ G0 H0 M0 ft0 (k r G1) Q → Q1 v H1) : tFE K XR E f σ H Q1 :=
  ⟨M, G, ft, S, bindW (RO := (ROv K σ)) (RO' := (ROs K σ)) P h go⟩
theorem bindTE {f : Gm → Res Bool} {k : Bool → Gm → Res Rv} {Q : V → Hp → Prop} {Q1 : Bool → Hp → Prop} (S : SI K σ H M G ft) (P : Stp σ G0 H0 M0 ft0 σ G H M ft) (h : WP K XR E (ROv K σ) σ G0 H0 M0 ft0 ((f G).bind k) Q)
    (go : ∀ r G1 H1 M1 ft1, f G = .ok r G1 → SI K σ H1 M1 G1 ft1 → Stp σ G H M ft σ G1 H1 M1 ft1 → WP K XR E (ROv K σ) σ G0 H0 M0 ft0 (k r G1) Q → Q1 r H1) : tFT K XR E f σ H Q1 :=
  ⟨M, G, ft, S, bindW (RO := ROb) (RO' := (ROv K σ)) P h fun r G1 v H1 M1 ft1 e S1 p R w => by cases R; exact go r G1 H1 M1 ft1 e S1 p w⟩
theorem bindTT {f : Gm → Res Bool} {k : Bool → Gm → Res Bool} {Q : Bool → Hp → Prop} {Q1 : Bool → Hp → Prop} (S : SI K σ H M G ft) (P : Stp σ G0 H0 M0 ft0 σ G H M ft) (h : WP K XR E ROb σ G0 H0 M0 ft0 ((f G).bind k) Q)
    (go : ∀ r G1 H1 M1 ft1, f G = .ok r G1 → SI K σ H1 M1 G1 ft1 → Stp σ G H M ft σ G1 H1 M1 ft1 → WP K XR E ROb σ G0 H0 M0 ft0 (k r G1) Q → Q1 r H1) : tFT K XR E f σ H Q1 :=
  ⟨M, G, ft, S, bindW (RO := ROb) (RO' := ROb) P h fun r G1 v H1 M1 ft1 e S1 p R w => by cases R; exact go r G1 H1 M1 ft1 e S1 p w⟩
theorem bindTA {f : Gm → Res Bool} {k : Bool → Gm → Res (List Rv)} {Q : List V → Hp → Prop} {Q1 : Bool → Hp → Prop} (S : SI K σ H M G ft) (P : Stp σ G0 H0 M0 ft0 σ G H M ft) (h : WP K XR E (ROs K σ) σ G0 H0 M0 ft0 ((f G).bind k) Q)
    (go : ∀ r G1 H1 M1 ft1, f G = .ok r G1 → SI K σ H1 M1 G1 ft1 → Stp σ G H M ft σ G1 H1 M1 ft1 → WP K XR E (ROs K σ) σ G0 H0 M0 ft0 (k r G1) Q → Q1 r H1) : tFT K XR E f σ H Q1 :=
  ⟨M, G, ft, S, bindW (RO := ROb) (RO' := (ROs K σ)) P h fun r G1 v H1 M1 ft1 e S1 p R w => by cases R; exact go r G1 H1 M1 ft1 e S1 p w⟩
theorem bindAE {f : Gm → Res (List Rv)} {k : (List Rv) → Gm → Res Rv} {Q : V → Hp → Prop} {Q1 : List V → Hp → Prop} (S : SI K σ H M G ft) (P : Stp σ G0 H0 M0 ft0 σ G H M ft) (h : WP K XR E (ROv K σ) σ G0 H0 M0 ft0 ((f G).bind k) Q)
    (go : ∀ r G1 v H1 M1 ft1, f G = .ok r G1 → SI K σ H1 M1 G1 ft1 → Stp σ G H M ft σ G1 H1 M1 ft1 → RvsOk K σ H1 M1 ft1 H r v → WP K XR E (ROv K σ) σ G0 H0 M0 ft0 (k r G1) Q → Q1 v H1) : tFA K XR E f σ H Q1 :=
  ⟨M, G, ft, S, bindW (RO := (ROs K σ)) (RO' := (ROv K σ)) P h go⟩
theorem bindAT {f : Gm → Res (List Rv)} {k : (List Rv) → Gm → Res Bool} {Q : Bool → Hp → Prop} {Q1 : List V → Hp → Prop} (S : SI K σ H M G ft) (P : Stp σ G0 H0 M0 ft0 σ G H M ft) (h : WP K XR E ROb σ G0 H0 M0 ft0 ((f G).bind k) Q)
    (go : ∀ r G1 v H1 M1 ft1, f G = .ok r G1 → SI K σ H1 M1 G1 ft1 → Stp σ G H M ft σ G1 H1 M1 ft1 → RvsOk K σ H1 M1 ft1 H r v → WP K XR E ROb σ G0 H0 M0 ft0 (k r G1) Q → Q1 v H1) : tFA K XR E f σ H Q1 :=
  ⟨M, G, ft, S, bindW (RO := (ROs K σ)) (RO' := ROb) P h go⟩
theorem bindAA {f : Gm → Res (List Rv)} {k : (List Rv) → Gm → Res (List Rv)} {Q : List V → Hp → Prop} {Q1 : List V → Hp → Prop} (S : SI K σ H M G ft) (P : Stp σ G0 H0 M0 ft0 σ G H M ft) (h : WP K XR E (ROs K σ) σ G0 H0 M0 ft0 ((f G).bind k) Q)
    (go : ∀ r G1 v H1 M1 ft1, f G = .ok r G1 → SI K σ H1 M1 G1 ft1 → Stp σ G H M ft σ G1 H1 M1 ft1 → RvsOk K σ H1 M1 ft1 H r v → WP K XR E (ROs K σ) σ G0 H0 M0 ft0 (k r G1) Q → Q1 v H1) : tFA K XR E f σ H Q1 :=
  ⟨M, G, ft, S, bindW (RO := (ROs K σ)) (RO' := (ROs K σ)) P h go⟩
end
end
theorem PE.le {X : Cx} {e : Expr} {t t' : TE} (h : PE X e t) (w : ∀ σ H Q, t' σ H Q → t σ H Q) : PE X e t' := ⟨fun pins s σ H Q I q => h.run pins s σ H Q I (w σ H Q q)⟩
theorem PT.le {X : Cx} {e : Expr} {t t' : TT} (h : PT X e t) (w : ∀ σ H Q, t' σ H Q → t σ H Q) : PT X e t' := ⟨fun pins s σ H Q I q => h.run pins s σ H Q I (w σ H Q q)⟩
theorem PW.le {X : Cx} {e : Expr} {t t' : TT} (h : PW X e t) (w : ∀ σ H Q, t' σ H Q → t σ H Q) : PW X e t' := ⟨fun wh pins s σ H Q I q => h.run wh pins s σ H Q I (w σ H Q q)⟩
theorem PA.le {X : Cx} {es : List Expr} {t t' : TA} (h : PA X es t) (w : ∀ σ H Q, t' σ H Q → t σ H Q) : PA X es t' := ⟨fun pos pins s σ H Q I q => h.run pos pins s σ H Q I (w σ H Q q)⟩
theorem PS.le {X : Cx} {st : Stmt} {t t' : TS} (h : PS X st t) (w : ∀ D σ H, t' D σ H → t D σ H) : PS X st t' := ⟨fun pins s σ H D I q => h.run pins s σ H D I (w D σ H q)⟩
theorem PSs.le {X : Cx} {st : List Stmt} {t t' : TS} (h : PSs X st t) (w : ∀ D σ H, t' D σ H → t D σ H) : PSs X st t' := ⟨fun pins s σ H D I q => h.run pins s σ H D I (w D σ H q)⟩
end Fx
/-! FxB: laying, showing, keeping; names, constants, operators -/
namespace Fx
open PySem PySem.Spec
open PyProof.Rows L2
section
variable {K : PySem.W.Frag} {XR : XRt} {E : XK} {σ σ0 : L2.St} {G G0 : Gm} {H M H0 M0 : Hp} {ft ft0 : Nat → List Addr}
theorem Sub.upd {M M' : Hp} (s : Sub M M') {p : Addr} {o : HO} (h : M p = none) : Sub M (upd M' p o) := fun a u e => by
  rw [upd_ne (ne_of_none e h)]
  exact s a u e
theorem Sub.upd2 {M M' : Hp} (s : Sub M M') {p : Addr} {o : HO} : Sub (L2.upd M p o) (L2.upd M' p o) := fun a u e => by
  by_cases h : a = p
  · subst h; rw [upd_same] at e ⊢; exact e
  · rw [upd_ne h] at e ⊢; exact s a u e
theorem Sub.nn {M M' : Hp} (s : Sub M M') {p : Addr} (h : M' p = none) : M p = none := by
  cases e : M p with
  | none => rfl
  | some o => rw [s p o e] at h; cases h
theorem SlOk.keep {H' M' : Hp} {F : List Addr} {i : Nat} {s : Sl} (sm : Sub M M') (h : SlOk K σ H M F i s) (k : ∀ a ∈ F, ∀ o, H a = some o → (∀ ps, o ≠ .tbl ps) → H' a = some o) (km : ∀ a ∈ F, M' a = none) : SlOk K σ H' M' F i s := by
  cases s with
  | no => exact h
  | d x => obtain ⟨h1, v, h2, h3⟩ := h; exact ⟨h1, v, h2, h3.mono sm⟩
  | l o => obtain ⟨p, h1, h2, h3⟩ := h; exact ⟨p, h1, h2.keep sm k, km⟩
  | x o => obtain ⟨p, h1, h2, h3⟩ := h; exact ⟨p, h1, h2.keep sm k, km⟩
  | k o => obtain ⟨p, h1, h2, h3⟩ := h; exact ⟨p, h1, h2.keep sm k, km⟩
/-- a new object, hidden -/
theorem SI.lay (S : SI K σ H M G ft) {p : Addr} (h : H p = none) (o : HO) : SI K σ (upd H p o) M G ft where
  len := S.len
  sub := S.sub.upd (S.sub.nn h)
  tab := ⟨S.tab.1.ext fun b u e => by rw [upd_ne (ne_of_none e h)]; exact e, S.tab.2⟩
  slot := fun i s e => (S.slot i s e).keep (Sub.refl _) (fun a ha u ea _ => by rw [upd_ne (ne_of_none ea h)]; exact ea) fun a ha => (S.owned ha).1
  out := S.out
  disj := S.disj
theorem Stp.lay (S : SI K σ H M G ft) {p : Addr} (h : H p = none) (o : HO) : Stp σ G H M ft σ G (upd H p o) M ft :=
  ⟨Sub.refl _, fun _ _ e => .inl e, fun a u e _ _ => by rw [upd_ne (ne_of_none e h)]; exact e, fun a ps e => ⟨ps, by rw [upd_ne (ne_of_none e h)]; exact e⟩, fun K t => t.ext fun b u e => by rw [upd_ne (ne_of_none e h)]; exact e, fun a u e => ⟨u, by rw [upd_ne (ne_of_none e h)]; exact e⟩, fun i _ z => .inl ⟨i, z⟩, fun a xs e => by rw [upd_ne (ne_of_none e h)]; exact e, rfl, fun _ o e => ⟨rfl, rfl, o, e⟩, fun _ _ e => ⟨rfl, rfl, e⟩⟩
theorem SI.fresh (S : SI K σ H M G ft) {p : Addr} (h : H p = none) : ∀ i, p ∉ ft i := fun i z => by
  obtain ⟨_, o, e, _⟩ := S.owned z
  rw [h] at e; cases e
/-- a hidden object is shown -/
theorem SI.show (S : SI K σ H M G ft) {p : Addr} {o : HO} (h : H p = some o) (hm : M p = none) (hn : ∀ i, p ∉ ft i) (nt : ∀ ps, o ≠ .tbl ps := by nofun) : SI K σ H (upd M p o) G ft where
  len := S.len
  sub := fun a u e => by
    by_cases z : a = p
    · subst z; rw [upd_same] at e; cases e; exact h
    · rw [upd_ne z] at e; exact S.sub a u e
  tab := ⟨S.tab.1, nt_upd S.tab.2 nt⟩
  slot := fun i s e => (S.slot i s e).keep ((Sub.refl _).upd hm) (fun a ha u ea _ => ea) fun a ha => by
    rw [upd_ne (show a ≠ p from fun z => hn i (by rw [← z]; exact ha))]
    exact (S.owned ha).1
  out := S.out
  disj := S.disj
theorem Stp.show (P : Stp σ0 G0 H0 M0 ft0 σ G H M ft) {p : Addr} {o : HO} (hm : M p = none) (h : H0 p = none ∨ (∃ i, p ∈ ft0 i) ∨ isTup H0 p) : Stp σ0 G0 H0 M0 ft0 σ G H (upd M p o) ft :=
  ⟨P.mono.upd (P.mono.nn hm), fun a u e => by
    by_cases z : a = p
    · subst z; exact .inr h
    · rw [upd_ne z] at e; exact P.new a u e, P.frame, P.tbls, P.tab, P.there, P.own, P.tups, P.len, P.kx, P.kk⟩
theorem Dd.newL {p : Addr} {xs : List V} {ds : List PyData} (hm : M p = none) (g : DdA K M xs ds) : Dd K (upd M p (.lst xs)) (.ref p) (.list ds) := .lst upd_same (g.mono ((Sub.refl _).upd hm))
theorem Dd.newT {p : Addr} {xs : List V} {ds : List PyData} (hm : M p = none) (g : DdA K M xs ds) : Dd K (upd M p (.tup xs)) (.ref p) (.tuple ds) := .tup (SqT.of upd_same) (g.mono ((Sub.refl _).upd hm))
theorem WP.done {r : Rv} {v : V} {Q : VK} (h : WP K XR E (ROv K σ) σ G0 H0 M0 ft0 (.ok r G) Q) (S : SI K σ H M G ft) (P : Stp σ G0 H0 M0 ft0 σ G H M ft) (R : RvOk K σ H0 H M ft r v) : Q v H := h v H M ft S P R
theorem WP.doneB {b : Bool} {Q : Bool → Hp → Prop} (h : WP K XR E ROb σ G0 H0 M0 ft0 (.ok b G) Q) (S : SI K σ H M G ft) (P : Stp σ G0 H0 M0 ft0 σ G H M ft) : Q b H := h b H M ft S P rfl
/-- a new tuple -/
theorem WP.tup {xs : List V} {ds : List PyData} {p : Addr} {Q : VK} (h : WP K XR E (ROv K σ) σ G0 H0 M0 ft0 (.ok (.d (.tuple ds)) G) Q) (S : SI K σ H M G ft) (P : Stp σ G0 H0 M0 ft0 σ G H M ft) (g : DdA K M xs ds) (hp : H p = none) : Q (.ref p) (upd H p (.tup xs)) := by
  have hm : M p = none := S.sub.nn hp
  exact h (.ref p) _ (upd M p (.tup xs)) ft ((S.lay hp (.tup xs)).show upd_same hm (S.fresh hp)) ((P.trans (Stp.lay S hp _)).show hm (.inl (P.nn hp))) (Dd.newT hm g)
/-- a new list -/
theorem WP.lst {xs : List V} {ds : List PyData} {p : Addr} {Q : VK} (h : WP K XR E (ROv K σ) σ G0 H0 M0 ft0 (.ok (.new (.lst ds)) G) Q) (S : SI K σ H M G ft) (P : Stp σ G0 H0 M0 ft0 σ G H M ft) (g : DdA K M xs ds) (hp : H p = none) : Q (.ref p) (upd H p (.lst xs)) := by
  have hm : M p = none := S.sub.nn hp
  refine h (.ref p) _ M ft (S.lay hp (.lst xs)) (P.trans (Stp.lay S hp _)) ⟨p, [p], rfl, ⟨rfl, xs, upd_same, g⟩, fun a ha => ?_⟩
  cases List.mem_singleton.mp ha
  exact ⟨hm, P.nn hp, S.fresh hp⟩
end

/-! ### reading an answer -/
def aoD : Ao → Option PyData
  | .lst ds => some (.list ds)
  | _ => none
def ownAt (G : Gm) (i : Nat) : Option Ao := match G[i]? with
  | some (.l o) => some o
  | some (.x o) => some o
  | some (.k o) => some o
  | _ => none
def rd (G : Gm) : Rv → Option PyData
  | .d x => some x
  | .own i => (ownAt G i).bind aoD
  | .new o => aoD o
section
variable {K : PySem.W.Frag} {XR : XRt} {E : XK} {σ σ0 : L2.St} {G G0 : Gm} {H M H0 M0 : Hp} {ft ft0 : Nat → List Addr}
theorem own_ok (S : SI K σ H M G ft) {i : Nat} {o : Ao} {v : V} (h : ownAt G i = some o) (r : σ[i]? = some (some v)) : ∃ p, v = .ref p ∧ AoOk K H M o p (ft i) ∧ ∀ a ∈ ft i, M a = none := by
  unfold ownAt at h
  have key : ∀ s, G[i]? = some s → (∃ p, σ[i]? = some (some (.ref p)) ∧ AoOk K H M o p (ft i) ∧ ∀ a ∈ ft i, M a = none) → ∃ p, v = .ref p ∧ AoOk K H M o p (ft i) ∧ ∀ a ∈ ft i, M a = none := fun s _ ⟨p, h1, h2⟩ => by
    rw [r] at h1; cases h1
    exact ⟨p, rfl, h2⟩
  split at h
  · rename_i o' e; cases h; exact key _ e (S.slot i _ e)
  · rename_i o' e; cases h; exact key _ e (S.slot i _ e)
  · rename_i o' e; cases h; exact key _ e (S.slot i _ e)
  · cases h
/-- a list that is read: where it stands, its items -/
theorem rd_list (S : SI K σ H M G ft) {r : Rv} {v : V} {ds : List PyData} (h : rd G r = some (.list ds)) (R : RvOk K σ H0 H M ft r v) : ∃ p xs, v = .ref p ∧ H p = some (.lst xs) ∧ DdA K M xs ds := by
  cases r with
  | d x =>
    cases h
    cases R with
    | lst e g => exact ⟨_, _, rfl, S.sub _ _ e, g⟩
  | own i =>
    have h' : (ownAt G i).bind aoD = some (.list ds) := h
    cases e : ownAt G i with
    | none => (rw [e] at h'; exact nomatch h')
    | some o =>
      rw [e] at h'
      obtain ⟨p, rfl, g, _⟩ := own_ok S e R
      cases o with
      | lst es =>
        cases (show some (PyData.list es) = some (PyData.list ds) from h')
        obtain ⟨_, xs, e2, g2⟩ := g
        exact ⟨p, xs, rfl, e2, g2⟩
      | dct _ => cases h'
      | mat _ => cases h'
  | new o =>
    obtain ⟨p, F, rfl, g, _⟩ := R
    cases o with
    | lst es =>
      cases (show some (PyData.list es) = some (PyData.list ds) from h)
      obtain ⟨_, xs, e2, g2⟩ := g
      exact ⟨p, xs, rfl, e2, g2⟩
    | dct _ => cases h
    | mat _ => cases h
theorem rd_data (S : SI K σ H M G ft) {r : Rv} {v : V} {d : PyData} (h : rd G r = some d) (hd : ∀ ds, d ≠ .list ds) (R : RvOk K σ H0 H M ft r v) : Dd K M v d := by
  cases r with
  | d x => cases h; exact R
  | own i =>
    have h' : (ownAt G i).bind aoD = some d := h
    cases e : ownAt G i with
    | none => (rw [e] at h'; exact nomatch h')
    | some o =>
      rw [e] at h'
      cases o with
      | lst es => cases (show some (PyData.list es) = some d from h'); exact absurd rfl (hd es)
      | dct _ => cases h'
      | mat _ => cases h'
  | new o =>
    cases o with
    | lst es => cases (show some (PyData.list es) = some d from h); exact absurd rfl (hd es)
    | dct _ => cases h
    | mat _ => cases h
theorem rd_tup (S : SI K σ H M G ft) {r : Rv} {v : V} {ds : List PyData} (h : rd G r = some (.tuple ds)) (R : RvOk K σ H0 H M ft r v) : ∃ p xs, v = .ref p ∧ SqT K M p xs ∧ DdA K M xs ds := by
  cases rd_data S h (fun _ z => nomatch z) R with
  | tup e g => exact ⟨_, _, rfl, e, g⟩
theorem rd_int (S : SI K σ H M G ft) {r : Rv} {v : V} {i : Int} (h : rd G r = some (.int i)) (R : RvOk K σ H0 H M ft r v) : v = .int i := by
  cases rd_data S h (fun _ z => nomatch z) R; rfl
theorem rd_bool (S : SI K σ H M G ft) {r : Rv} {v : V} {i : Bool} (h : rd G r = some (.bool i)) (R : RvOk K σ H0 H M ft r v) : v = .bl i := by
  cases rd_data S h (fun _ z => nomatch z) R; rfl
theorem rd_str (S : SI K σ H M G ft) {r : Rv} {v : V} {i : Str} (h : rd G r = some (.str i)) (R : RvOk K σ H0 H M ft r v) : v = .str i := by
  cases rd_data S h (fun _ z => nomatch z) R; rfl
/-- in the whole heap -/
theorem rd_all (S : SI K σ H M G ft) {r : Rv} {v : V} {d : PyData} (h : rd G r = some d) (R : RvOk K σ H0 H M ft r v) : Dd K H v d := by
  by_cases hl : ∃ ds, d = .list ds
  · obtain ⟨ds, rfl⟩ := hl
    obtain ⟨p, xs, rfl, e, g⟩ := rd_list S h R
    exact .lst e (g.mono S.sub)
  · exact (rd_data S h (fun ds z => hl ⟨ds, z⟩) R).mono S.sub
end
def flatD : PyData → Bool
  | .none => true
  | .bool _ => true
  | .int _ => true
  | .str _ => true
  | _ => false
theorem Dd.flat {K : PySem.W.Frag} {M M' : Hp} {v : V} {d : PyData} (h : Dd K M v d) (f : flatD d = true) : Dd K M' v d := by
  cases h with
  | non => exact .non
  | bl b => exact .bl b
  | int i => exact .int i
  | str x => exact .str x
  | lst _ _ => cases f
  | tup _ _ => cases f
  | frz _ _ => cases f

/-! ### what a name, what a constant gives -/
def fVar (i : Nat) : Gm → Res Rv := fun G => match G[i]? with
  | some (.d x) => .ok (.d x) G
  | some (.l _) => .ok (.own i) G
  | some (.x _) => .ok (.own i) G
  | some (.k _) => .ok (.own i) G
  | _ => .bad
def fC (x : PyData) : Gm → Res Rv := fun G => .ok (.d x) G
section
variable {X : Cx} {XR : XRt} {E : XK}
theorem fe_var {i : Nat} {x : Str} {pos : Pos} (h : PE X (.Name x pos) (tVar i)) : PE X (.Name x pos) (tFE X.K XR E (fVar i)) := PE.le h fun σ H Q ⟨M, G, ft, S, w⟩ => by
  unfold fVar at w
  split at w
  · rename_i x e
    obtain ⟨h1, v, h2, h3⟩ := S.slot i _ e
    exact ⟨v, h2, w.done S .refl h3⟩
  · rename_i o e
    obtain ⟨p, h1, _⟩ := S.slot i _ e
    exact ⟨_, h1, w.done S .refl h1⟩
  · rename_i o e
    obtain ⟨p, h1, _⟩ := S.slot i _ e
    exact ⟨_, h1, w.done S .refl h1⟩
  · rename_i o e
    obtain ⟨p, h1, _⟩ := S.slot i _ e
    exact ⟨_, h1, w.done S .refl h1⟩
  · exact w.elim
theorem fe_c {e : Expr} {v : V} {x : PyData} (h : PE X e (tC v)) (hd : ∀ M, Dd X.K M v x) : PE X e (tFE X.K XR E (fC x)) := PE.le h fun σ H Q ⟨M, G, ft, S, w⟩ => w.done S .refl (hd M)
theorem fe_int {i : Int} {j : Nat} {pos : Pos} : PE X (.Constant (.int i) j pos) (tFE X.K XR E (fC (.int i))) := fe_c pe_int fun _ => .int i
theorem fe_bl {b : Bool} {j : Nat} {pos : Pos} : PE X (.Constant (.bool b) j pos) (tFE X.K XR E (fC (.bool b))) := fe_c pe_bl fun _ => .bl b
theorem fe_non {j : Nat} {pos : Pos} : PE X (.Constant .none j pos) (tFE X.K XR E (fC .none)) := fe_c pe_non fun _ => .non
theorem fe_str {x : Str} {j : Nat} {pos : Pos} : PE X (.Constant (.str x) j pos) (tFE X.K XR E (fC (.str x))) := fe_c pe_str fun _ => .str x

/-! ### two-place operators -/
def fOp2 (k : Gm → Rv → Rv → Res Rv) (fa fb : Gm → Res Rv) : Gm → Res Rv := fun G => (fa G).bind fun a G1 => (fb G1).bind fun b G2 => k G2 a b
def Snd2 (K : PySem.W.Frag) (XR : XRt) (E : XK) (r : R2) (k : Gm → Rv → Rv → Res Rv) : Prop :=
  ∀ (σ : L2.St) (H M Ha Hb H0 M0 : Hp) (G G0 : Gm) (ft ft0 : Nat → List Addr) (a b : Rv) (x y : V) (Q : VK), SI K σ H M G ft → Stp σ G0 H0 M0 ft0 σ G H M ft → RvOk K σ Ha H M ft a x → RvOk K σ Hb H M ft b y → WP K XR E (ROv K σ) σ G0 H0 M0 ft0 (k G a b) Q → r x y H Q
theorem op2_le {r : R2} {k : Gm → Rv → Rv → Res Rv} {fa fb : Gm → Res Rv} (hs : Snd2 X.K XR E r k) : ∀ σ H Q, tFE X.K XR E (fOp2 k fa fb) σ H Q → tOp r (tFE X.K XR E fa) (tFE X.K XR E fb) σ H Q := fun σ H Q ⟨M, G, ft, S, w⟩ =>
  bindEE S .refl w fun a G1 x H1 M1 ft1 _ S1 P1 R1 w1 => bindEE S1 P1 w1 fun b G2 y H2 M2 ft2 _ S2 P2 R2 w2 => hs σ H2 M2 H H1 H M G2 G ft2 ft a b x y Q S2 (P1.trans P2) (R1.later P2) R2 w2
theorem fe_op {a b : Expr} {op : Operator} {pos : Pos} {r : R2} {k : Gm → Rv → Rv → Res Rv} {fa fb : Gm → Res Rv} (ho : OpR X (binaryOp op) r) (hs : Snd2 X.K XR E r k) (ha : PE X a (tFE X.K XR E fa)) (hb : PE X b (tFE X.K XR E fb)) :
    PE X (.BinOp a op b pos) (tFE X.K XR E (fOp2 k fa fb)) := PE.le (pe_op ho ha hb) (op2_le hs)
theorem fe_cmp {a b : Expr} {op : CmpOp} {pos : Pos} {r : R2} {k : Gm → Rv → Rv → Res Rv} {fa fb : Gm → Res Rv} (ho : OpR X (compareOp op) r) (hs : Snd2 X.K XR E r k) (ha : PE X a (tFE X.K XR E fa)) (hb : PE X b (tFE X.K XR E fb)) (hm : behindInMarks op b = false) :
    PE X (.Compare a [op] [b] pos) (tFE X.K XR E (fOp2 k fa fb)) := PE.le (pe_cmpR ho ha hb hm) (op2_le hs)
/-- a value as a test -/
def asB : Rv → Gm → Res Bool
  | .d (.bool b), G => .ok b G
  | _, _ => .bad
def fTest (f : Gm → Res Rv) : Gm → Res Bool := fun G => (f G).bind asB
theorem test_le {t : TE} {f : Gm → Res Rv} (h : ∀ σ H Q, tFE X.K XR E f σ H Q → t σ H Q) : ∀ σ H Q, tFT X.K XR E (fTest f) σ H Q → tTest t σ H Q := fun σ H Q ⟨M, G, ft, S, w⟩ =>
  h σ H _ (bindET S .refl w fun r G1 v H1 M1 ft1 _ S1 P1 R1 w1 => by
    unfold asB at w1
    split at w1
    · cases R1; exact ⟨_, rfl, w1.doneB S1 P1⟩
    · exact w1.elim)
theorem ft_cmp {a b : Expr} {op : CmpOp} {pos : Pos} {r : R2} {k : Gm → Rv → Rv → Res Rv} {fa fb : Gm → Res Rv} (ho : OpR X (compareOp op) r) (hs : Snd2 X.K XR E r k) (ha : PE X a (tFE X.K XR E fa)) (hb : PE X b (tFE X.K XR E fb)) (hm : behindInMarks op b = false) :
    PT X (.Compare a [op] [b] pos) (tFT X.K XR E (fTest (fOp2 k fa fb))) := PT.le (pt_cmpR ho ha hb hm) (test_le (op2_le hs))
theorem ft_val {e : Expr} {f : Gm → Res Rv} (h : PE X e (tFE X.K XR E f)) (he : ∀ whole, isTrue e X.env whole = (do let v ← whole; standAt e.pos; holding [v] (truthy v)) := by intro _; rfl) : PT X e (tFT X.K XR E (fTest f)) :=
  PT.le (pt_val h he) (test_le fun _ _ _ q => q)
/-- chains a < b < c -/
def fChain (k k' : Gm → Rv → Rv → Res Rv) (fa fb fc : Gm → Res Rv) : Gm → Res Rv := fun G => (fa G).bind fun a G1 => (fb G1).bind fun b G2 => (k G2 a b).bind fun t G3 => (asB t G3).bind fun t G4 => if t then (fc G4).bind fun c G5 => k' G5 b c else .ok (.d (.bool false)) G4
end
end Fx
/-! FxC: operators, comparisons, tests, displays, subscripts, slices -/
namespace Fx
open PySem PySem.Spec
open PyProof.Rows L2

/-! ### nested data -/
def flatS : PyData → Bool
  | .none => true
  | .bool _ => true
  | .int _ => true
  | .str x => PyData.strOk x
  | _ => false
def okD : Nat → PyData → Bool
  | 0, d => flatS d
  | n + 1, .list ds => ds.all (okD n)
  | n + 1, .tuple ds => ds.all (okD n)
  | _ + 1, d => flatS d
theorem canLayAll_of {ds : List PyData} (h : ∀ d ∈ ds, d.canLay0 = true) : PyData.canLayAll0 ds = true := by
  induction ds with
  | nil => simp [PyData.canLayAll0]
  | cons d r ih => simp [PyData.canLayAll0, h d List.mem_cons_self, ih fun e he => h e (List.mem_cons_of_mem _ he)]
theorem okD_shaped : ∀ (n : Nat) (d : PyData), okD n d = true → d.canLay0 = true ∧ d.depth ≤ n := by
  intro n
  induction n with
  | zero =>
    intro d h
    cases d with
    | list _ => cases h
    | tuple _ => cases h
    | dict _ => cases h
    | none => simp [PyData.canLay0, PyData.depth]
    | bool _ => simp [PyData.canLay0, PyData.depth]
    | int _ => simp [PyData.canLay0, PyData.depth]
    | str _ => simp only [PyData.canLay0, PyData.depth, Nat.zero_le, and_true]; exact h
  | succ n ih =>
    intro d h
    have many : ∀ ds : List PyData, ds.all (okD n) = true → (PyData.canLayAll0 ds = true) ∧ PyData.depthAll ds ≤ n := fun ds hd => by
      induction ds with
      | nil => simp [PyData.canLayAll0, PyData.depthAll]
      | cons d r ihr =>
        simp only [List.all_cons, Bool.and_eq_true] at hd
        obtain ⟨h1, h2⟩ := ih d hd.1
        obtain ⟨h3, h4⟩ := ihr hd.2
        simp only [PyData.canLayAll0, PyData.depthAll, h1, h3, Bool.and_self, true_and]
        omega
    cases d with
    | list ds =>
      obtain ⟨h1, h2⟩ := many ds h
      simp only [PyData.canLay0, PyData.depth, h1, true_and]; omega
    | tuple ds =>
      obtain ⟨h1, h2⟩ := many ds h
      simp only [PyData.canLay0, PyData.depth, h1, true_and]; omega
    | dict _ => cases h
    | none => simp [PyData.canLay0, PyData.depth]
    | bool _ => simp [PyData.canLay0, PyData.depth]
    | int _ => simp [PyData.canLay0, PyData.depth]
    | str _ => simp only [PyData.canLay0, PyData.depth, Nat.zero_le, and_true]; exact h

mutual
theorem Dd.dp {K : PySem.W.Frag} {M : Hp} : ∀ {v : V} {d : PyData}, Dd K M v d → d.canLay0 = true → Dp K M v d
  | _, _, .non, _ => .non
  | _, _, .bl b, _ => .bl b
  | _, _, .int i, _ => .int i
  | _, _, .str x, _ => .str x
  | _, _, .lst h g, c => .lst (SqL.of h) (g.dp (by simpa [PyData.canLay0] using c))
  | _, _, .tup h g, c => .tup h (g.dp (by simpa [PyData.canLay0] using c))
  | _, _, .frz h g, c => by simp [PyData.canLay0] at c
theorem DdA.dp {K : PySem.W.Frag} {M : Hp} : ∀ {vs : List V} {ds : List PyData}, DdA K M vs ds → PyData.canLayAll0 ds = true → DpAll K M vs ds
  | _, _, .nil, _ => .nil
  | _, _, .cons h g, c => by
    simp only [PyData.canLayAll0, Bool.and_eq_true] at c
    exact .cons (h.dp c.1) (g.dp c.2)
end
theorem okD_dp {K : PySem.W.Frag} {H : Hp} {v : V} {d : PyData} (h : Dd K H v d) {n : Nat} (hn : n ≤ 64) (o : okD n d = true) : Dp K H v d ∧ SeqAt.shaped d = true := by
  obtain ⟨h1, h2⟩ := okD_shaped n d o
  refine ⟨h.dp h1, ?_⟩
  unfold SeqAt.shaped
  rw [h1, decide_eq_true (Nat.le_trans h2 hn)]
  rfl

/-! ### flat answers -/
def kF2 (op : PyData → PyData → Option PyData) : Gm → Rv → Rv → Res Rv := fun G a b => match rd G a, rd G b with
  | some x, some y => match op x y with
    | some z => .ok (.d z) G
    | none => .bad
  | _, _ => .bad
section
variable {K : PySem.W.Frag} {XR : XRt} {E : XK}
theorem snd_F2 {r : R2} {op : PyData → PyData → Option PyData} (h : ∀ (H : Hp) (x y : V) (dx dy z : PyData) (Q : VK), Dd K H x dx → Dd K H y dy → op dx dy = some z → (∀ v, (∀ M, Dd K M v z) → Q v H) → r x y H Q) : Snd2 K XR E r (kF2 op) := by
  intro σ H M Ha Hb H0 M0 G G0 ft ft0 a b x y Q S P Ra Rb w
  unfold kF2 at w
  split at w
  · rename_i dx dy ea eb
    split at w
    · rename_i z ez
      exact h H x y dx dy z Q (rd_all S ea Ra) (rd_all S eb Rb) ez fun v hv => w.done S P (hv M)
    · exact w.elim
  · exact w.elim
def opI (f : Int → Int → Option PyData) : PyData → PyData → Option PyData
  | .int i, .int j => f i j
  | _, _ => none
theorem snd_I {C : Int → Int → Prop} {g : Int → Int → V} {f : Int → Int → Option PyData} (hf : ∀ i j z, f i j = some z → C i j ∧ ∀ M, Dd K M (g i j) z) : Snd2 K XR E (rI C g) (kF2 (opI f)) := snd_F2 fun H x y dx dy z Q hx hy e q => by
  cases hx with
  | int i =>
    cases hy with
    | int j =>
      obtain ⟨c, d⟩ := hf i j z e
      exact ⟨i, j, rfl, rfl, c, q _ d⟩
    | _ => cases e
  | _ => cases e
theorem snd_I0 {g : Int → Int → V} {f : Int → Int → PyData} (hf : ∀ i j M, Dd K M (g i j) (f i j)) : Snd2 K XR E (rI0 g) (kF2 (opI fun i j => some (f i j))) := snd_F2 fun H x y dx dy z Q hx hy e q => by
  cases hx with
  | int i =>
    cases hy with
    | int j =>
      cases e
      exact ⟨i, j, rfl, rfl, q _ (hf i j)⟩
    | _ => cases e
  | _ => cases e
def kSub : Gm → Rv → Rv → Res Rv := kF2 (opI fun i j => some (.int (i - j)))
theorem snd_sub : Snd2 K XR E (rI0 fun i j => .int (i - j)) kSub := snd_I0 fun i j M => .int _
def kLt : Gm → Rv → Rv → Res Rv := kF2 (opI fun i j => some (.bool (decide (i < j))))
def kLe : Gm → Rv → Rv → Res Rv := kF2 (opI fun i j => some (.bool (decide (i ≤ j))))
def kGt : Gm → Rv → Rv → Res Rv := kF2 (opI fun i j => some (.bool (decide (j < i))))
def kGe : Gm → Rv → Rv → Res Rv := kF2 (opI fun i j => some (.bool (decide (j ≤ i))))
theorem snd_lt : Snd2 K XR E (rI0 fun i j => .bl (decide (i < j))) kLt := snd_I0 fun i j M => .bl _
theorem snd_le : Snd2 K XR E (rI0 fun i j => .bl (decide (i ≤ j))) kLe := snd_I0 fun i j M => .bl _
theorem snd_gt : Snd2 K XR E (rI0 fun i j => .bl (decide (j < i))) kGt := snd_I0 fun i j M => .bl _
theorem snd_ge : Snd2 K XR E (rI0 fun i j => .bl (decide (j ≤ i))) kGe := snd_I0 fun i j M => .bl _
/-- // and % : any divisor but 0 below 2^30 in size; a positive one below 2^9000 -/
def rDivA : R2 := fun x y H Q => rI CDivN (fun i j => .int (i.fdiv j)) x y H Q ∨ rI CDivW (fun i j => .int (i / j)) x y H Q
theorem op_divA {X : Cx} : OpR X (binaryOp .FloorDiv) rDivA := op_fdivN.or op_fdivW
def divOk (j : Int) : Bool := decide (j ≠ 0) && (decide (j.natAbs < 1073741824) || (decide (0 < j) && decide (j.natAbs.log2 < 9000)))
def kDiv : Gm → Rv → Rv → Res Rv := kF2 (opI fun i j => if divOk j then some (.int (i.fdiv j)) else none)
def kMod : Gm → Rv → Rv → Res Rv := kF2 (opI fun i j => if j ≠ 0 then some (.int (i.fmod j)) else none)
theorem snd_div : Snd2 K XR E rDivA kDiv := snd_F2 fun H x y dx dy z Q hx hy e q => by
  cases hx with
  | int i =>
    cases hy with
    | int j =>
      have e' : (if divOk j then some (PyData.int (i.fdiv j)) else none) = some z := e
      split at e'
      · rename_i c
        cases e'
        unfold divOk at c
        simp only [Bool.and_eq_true, Bool.or_eq_true, decide_eq_true_eq] at c
        rcases c.2 with c2 | ⟨c2, c3⟩
        · exact .inl ⟨i, j, rfl, rfl, ⟨c.1, c2⟩, q _ fun M => .int _⟩
        · refine .inr ⟨i, j, rfl, rfl, ⟨c2, c3⟩, ?_⟩
          show Q (.int (i / j)) H
          rw [← Int.fdiv_eq_ediv_of_nonneg _ (Int.le_of_lt c2)]
          exact q _ fun M => .int _
      · cases e'
    | _ => cases e
  | _ => cases e
theorem snd_mod : Snd2 K XR E (rI (fun _ j => j ≠ 0) fun i j => .int (i.fmod j)) kMod := snd_I fun i j z e => by
  split at e
  · rename_i c; cases e; exact ⟨c, fun M => .int _⟩
  · cases e
/-! ### == and != -/
def opEq (x y : PyData) : Option PyData := if okD 60 x && okD 60 y then some (.bool (PyData.eqv x y)) else none
def opNe (x y : PyData) : Option PyData := if okD 60 x && okD 60 y then some (.bool (!PyData.eqv x y)) else none
def kEq : Gm → Rv → Rv → Res Rv := kF2 opEq
def kNe : Gm → Rv → Rv → Res Rv := kF2 opNe
theorem snd_eq : Snd2 K XR E (rEqD K) kEq := snd_F2 fun H x y dx dy z Q hx hy e q => by
  unfold opEq at e
  split at e
  · rename_i c
    cases e
    simp only [Bool.and_eq_true] at c
    obtain ⟨h1, h2⟩ := okD_dp hx (by decide) c.1
    obtain ⟨h3, h4⟩ := okD_dp hy (by decide) c.2
    exact ⟨dx, dy, h1, h3, h2, h4, q _ fun M => .bl _⟩
  · cases e
theorem snd_ne : Snd2 K XR E (rNeD K) kNe := snd_F2 fun H x y dx dy z Q hx hy e q => by
  unfold opNe at e
  split at e
  · rename_i c
    cases e
    simp only [Bool.and_eq_true] at c
    obtain ⟨h1, h2⟩ := okD_dp hx (by decide) c.1
    obtain ⟨h3, h4⟩ := okD_dp hy (by decide) c.2
    exact ⟨dx, dy, h1, h3, h2, h4, q _ fun M => .bl _⟩
  · cases e
/-! ### is None, is of bools -/
def isNoneD : PyData → Bool
  | .none => true
  | _ => false
theorem isNoneD_ok {H : Hp} {v : V} {d : PyData} (h : Dd K H v d) : decide (v = .non) = isNoneD d := by
  cases h <;> rfl
def opIsN : PyData → PyData → Option PyData
  | x, .none => some (.bool (isNoneD x))
  | _, _ => none
def opNotN : PyData → PyData → Option PyData
  | x, .none => some (.bool (!isNoneD x))
  | _, _ => none
def kIsN : Gm → Rv → Rv → Res Rv := kF2 opIsN
def kNotN : Gm → Rv → Rv → Res Rv := kF2 opNotN
theorem snd_isN : Snd2 K XR E (fun x y H Q => y = .non ∧ Q (.bl (decide (x = .non))) H) kIsN := snd_F2 fun H x y dx dy z Q hx hy e q => by
  cases hy with
  | non => cases e; refine ⟨rfl, ?_⟩; rw [isNoneD_ok hx]; exact q _ fun M => .bl _
  | _ => cases e
theorem snd_notN : Snd2 K XR E (fun x y H Q => y = .non ∧ Q (.bl (!decide (x = .non))) H) kNotN := snd_F2 fun H x y dx dy z Q hx hy e q => by
  cases hy with
  | non => cases e; refine ⟨rfl, ?_⟩; rw [isNoneD_ok hx]; exact q _ fun M => .bl _
  | _ => cases e
def opB (f : Bool → Bool → Bool) : PyData → PyData → Option PyData
  | .bool a, .bool b => some (.bool (f a b))
  | _, _ => none
def kIsB : Gm → Rv → Rv → Res Rv := kF2 (opB fun a b => decide (a = b))
def kNotB : Gm → Rv → Rv → Res Rv := kF2 (opB fun a b => !decide (a = b))
theorem snd_isB : Snd2 K XR E rIsB kIsB := snd_F2 fun H x y dx dy z Q hx hy e q => by
  cases hx with
  | bl a =>
    cases hy with
    | bl b => cases e; exact ⟨a, b, rfl, rfl, q _ fun M => .bl _⟩
    | _ => cases e
  | _ => cases e
theorem snd_notB : Snd2 K XR E rNotB kNotB := snd_F2 fun H x y dx dy z Q hx hy e q => by
  cases hx with
  | bl a =>
    cases hy with
    | bl b => cases e; exact ⟨a, b, rfl, rfl, q _ fun M => .bl _⟩
    | _ => cases e
  | _ => cases e
/-! ### in, not in, of flat things -/
theorem eqV_ok {H H' : Hp} {x y : V} {dx dy : PyData} (hx : Dd K H x dx) (hy : Dd K H' y dy) (fx : flatD dx = true) (fy : flatD dy = true) : eqV x y = PyData.eqv dx dy := by
  cases hx <;> first | (cases fx; done) | (cases hy <;> first | (cases fy; done) | simp [eqV, PyData.eqv])
theorem flatV_ok {H : Hp} {x : V} {dx : PyData} (hx : Dd K H x dx) (fx : flatD dx = true) : flatV x = true := by
  cases hx <;> first | (cases fx; done) | rfl
theorem flatA_ok {H : Hp} : ∀ {xs : List V} {ds : List PyData}, DdA K H xs ds → ds.all flatD = true → xs.all flatV = true
  | _, _, .nil, _ => rfl
  | _, _, .cons h t, f => by
    simp only [List.all_cons, Bool.and_eq_true] at f ⊢
    exact ⟨flatV_ok h f.1, flatA_ok t f.2⟩
def inD (x : PyData) (ds : List PyData) : Bool := ds.any fun y => PyData.eqv y x
theorem inV_ok {H : Hp} {x : V} {dx : PyData} (hx : Dd K H x dx) (fx : flatD dx = true) : ∀ {xs : List V} {ds : List PyData}, DdA K H xs ds → ds.all flatD = true → inV x xs = inD dx ds
  | _, _, .nil, _ => rfl
  | _, _, .cons h t, f => by
    simp only [List.all_cons, Bool.and_eq_true] at f
    have ih := inV_ok hx fx t f.2
    unfold inV inD at ih ⊢
    rw [List.any_cons, List.any_cons, ih, eqV_ok h hx f.1 fx]
def opInL (neg : Bool) (x : PyData) (ds : List PyData) : Option PyData := if flatD x && ds.all flatD then some (.bool (if neg then !inD x ds else inD x ds)) else none
def opIn (neg : Bool) : PyData → PyData → Option PyData
  | x, .list ds => opInL neg x ds
  | x, .tuple ds => opInL neg x ds
  | _, _ => none
def kIn : Gm → Rv → Rv → Res Rv := kF2 (opIn false)
def kNin : Gm → Rv → Rv → Res Rv := kF2 (opIn true)
theorem opInL_ok {neg : Bool} {H : Hp} {x : V} {dx z : PyData} {xs : List V} {ds : List PyData} {Q : VK} (hx : Dd K H x dx) (g : DdA K H xs ds) (e : opInL neg dx ds = some z) (q : ∀ v, (∀ M, Dd K M v z) → Q v H) :
    flatV x = true ∧ xs.all flatV = true ∧ Q (.bl (if neg then !inV x xs else inV x xs)) H := by
  unfold opInL at e
  split at e
  · rename_i c
    simp only [Bool.and_eq_true] at c
    cases e
    refine ⟨flatV_ok hx c.1, flatA_ok g c.2, ?_⟩
    rw [inV_ok hx c.1 g c.2]
    exact q _ fun M => .bl _
  · cases e
theorem snd_In {neg : Bool} : Snd2 K XR E (rIn K neg) (kF2 (opIn neg)) := snd_F2 fun H x y dx dy z Q hx hy e q => by
  cases hy with
  | lst h g => exact ⟨_, _, rfl, .inl (SqL.of h), opInL_ok hx g e q⟩
  | tup h g => exact ⟨_, _, rfl, .inr h, opInL_ok hx g e q⟩
  | _ => cases e
theorem snd_in : Snd2 K XR E (rIn K false) kIn := snd_In
theorem snd_nin : Snd2 K XR E (rIn K true) kNin := snd_In
/-! ### + of ints, lists, tuples -/
def rAddA (K : PySem.W.Frag) : R2 := fun x y H Q => rI0 (fun i j => .int (i + j)) x y H Q ∨ (rCat x y H Q ∨ rCatA K x y H Q)
theorem op_addA {X : Cx} : OpR X (binaryOp .Add) (rAddA X.K) := op_add.or (op_cat.or op_catA)
def lim (n : Nat) : Bool := decide (n ≤ 16777216)
theorem lim_ok {n : Nat} (h : lim n = true) : n ≤ sizeLine := by rw [sizeLine_eq]; exact of_decide_eq_true h
def kAdd : Gm → Rv → Rv → Res Rv := fun G a b => match rd G a, rd G b with
  | some (.int i), some (.int j) => .ok (.d (.int (i + j))) G
  | some (.list xs), some (.list ys) => if lim (xs.length + ys.length) then .ok (.new (.lst (xs ++ ys))) G else .bad
  | some (.tuple xs), some (.tuple ys) => if lim (xs.length + ys.length) then .ok (.d (.tuple (xs ++ ys))) G else .bad
  | _, _ => .bad
theorem snd_add : Snd2 K XR E (rAddA K) kAdd := by
  intro σ H M Ha Hb H0 M0 G G0 ft ft0 a b x y Q S P Ra Rb w
  unfold kAdd at w
  split at w
  · rename_i i j ea eb
    cases rd_int S ea Ra
    cases rd_int S eb Rb
    exact .inl ⟨i, j, rfl, rfl, w.done S P (.int _)⟩
  · rename_i xs ys ea eb
    split at w
    · rename_i c
      obtain ⟨p, us, rfl, e1, g1⟩ := rd_list S ea Ra
      obtain ⟨q, vs, rfl, e2, g2⟩ := rd_list S eb Rb
      exact .inr (.inl ⟨p, q, us, vs, rfl, rfl, e1, e2, by rw [g1.length, g2.length]; exact lim_ok c, fun l hl => w.lst S P (g1.append g2) hl⟩)
    · exact w.elim
  · rename_i xs ys ea eb
    split at w
    · rename_i c
      obtain ⟨p, us, rfl, e1, g1⟩ := rd_tup S ea Ra
      obtain ⟨q, vs, rfl, e2, g2⟩ := rd_tup S eb Rb
      refine .inr (.inr ⟨p, q, us, vs, rfl, rfl, S.sub.sqT e1, S.sub.sqT e2, by rw [g1.length, g2.length]; exact lim_ok c, fun z => ?_, fun _ z => ?_, fun _ _ l hl => w.tup S P (g1.append g2) hl⟩)
      · subst z
        cases g1.nil_iff.mp rfl
        exact w.done S P (.tup e2 g2)
      · subst z
        cases g2.nil_iff.mp rfl
        rw [List.append_nil] at w
        exact w.done S P (.tup e1 g1)
    · exact w.elim
  · exact w.elim
end
end Fx
/-! FxD: arguments, displays, and | or | not, subscripts, slices, built-ins -/
namespace Fx
open PySem PySem.Spec
open PyProof.Rows L2
def fNil : Gm → Res (List Rv) := fun G => .ok [] G
def fCons (f : Gm → Res Rv) (fs : Gm → Res (List Rv)) : Gm → Res (List Rv) := fun G => (f G).bind fun r G1 => (fs G1).bind fun rs G2 => .ok (r :: rs) G2
section
variable {X : Cx} {XR : XRt} {E : XK}
theorem fa_nil : PA X [] (tFA X.K XR E fNil) := PA.le pa_nil fun σ H Q ⟨M, G, ft, S, w⟩ => w [] H M ft S .refl .nil
theorem fa_cons {e : Expr} {es : List Expr} {f : Gm → Res Rv} {fs : Gm → Res (List Rv)} (he : PE X e (tFE X.K XR E f)) (hr : PA X es (tFA X.K XR E fs)) (hs : starEach (e :: es) X.env = (false, eval e X.env) :: starEach es X.env := by rfl) :
    PA X (e :: es) (tFA X.K XR E (fCons f fs)) := PA.le (pa_cons he hr hs) fun σ H Q ⟨M, G, ft, S, w⟩ =>
  bindEA S .refl w fun r G1 v H1 M1 ft1 _ S1 P1 R1 w1 => bindAA S1 P1 w1 fun rs G2 vs H2 M2 ft2 _ S2 P2 R2 w2 => by
    obtain ⟨F, R⟩ := R1.f
    exact w2 (v :: vs) H2 M2 ft2 S2 (P1.trans P2) (.cons H1 F (fun a z => P1.nn z) (R.later P2) (fun a ha z => by
      obtain ⟨o, e, _⟩ := R.there a ha
      rw [z] at e; cases e) R2)
end
section
variable {K : PySem.W.Frag} {XR : XRt} {E : XK} {σ σ0 : L2.St} {G G0 : Gm} {H M H0 M0 : Hp} {ft ft0 : Nat → List Addr}
theorem RvsOk.one {r : Rv} {vs : List V} (h : RvsOk K σ H M ft H0 [r] vs) : ∃ v, vs = [v] ∧ RvOk K σ H0 H M ft r v := by
  cases h with
  | cons H1 F h0 h hn t => cases t; exact ⟨_, rfl, h.ok⟩
theorem RvsOk.two {r r' : Rv} {vs : List V} (h : RvsOk K σ H M ft H0 [r, r'] vs) : ∃ v v', vs = [v, v'] ∧ RvOk K σ H0 H M ft r v ∧ RvOk K σ H0 H M ft r' v' := by
  cases h with
  | cons H1 F h0 h hn t =>
    obtain ⟨v, rfl, R⟩ := t.one
    exact ⟨_, _, rfl, h.ok, R.base h0⟩
theorem RvsOk.len {rs : List Rv} {vs : List V} {H0 : Hp} (h : RvsOk K σ H M ft H0 rs vs) : vs.length = rs.length := by
  induction h with
  | nil => rfl
  | cons H1 F h0 h hn t ih => rw [List.length_cons, List.length_cons, ih]
end
/-! ### keeping an answer as data -/
def retain (G : Gm) : Rv → Option (PyData × Gm)
  | .d x => some (x, G)
  | .new (.lst ds) => some (.list ds, G)
  | .own i => match G[i]? with
    | some (.l (.lst ds)) => some (.list ds, G.set i (.d (.list ds)))
    | _ => none
  | _ => none
def retainAll : Gm → List Rv → Option (List PyData × Gm)
  | G, [] => some ([], G)
  | G, r :: rs => match retain G r with
    | some (d, G1) => match retainAll G1 rs with
      | some (ds, G2) => some (d :: ds, G2)
      | none => none
    | none => none
def ftDrop (ft : Nat → List Addr) (i : Nat) : Nat → List Addr := fun j => if j = i then [] else ft j
theorem ftDrop_sub {ft : Nat → List Addr} {i j : Nat} {a : Addr} (h : a ∈ ftDrop ft i j) : a ∈ ft j := by
  unfold ftDrop at h
  split at h
  · cases h
  · exact h
section
variable {K : PySem.W.Frag} {XR : XRt} {E : XK} {σ σ0 : L2.St} {G G0 : Gm} {H M H0 M0 : Hp} {ft ft0 : Nat → List Addr}
/-- a slot's list is shown: it is data from now on -/
theorem SI.freeze (S : SI K σ H M G ft) {i : Nat} {ds : List PyData} (h : G[i]? = some (.l (.lst ds))) : ∃ p xs, σ[i]? = some (some (.ref p)) ∧ H p = some (.lst xs) ∧ M p = none ∧ p ∈ ft i ∧ DdA K M xs ds ∧ SI K σ H (upd M p (.lst xs)) (G.set i (.d (.list ds))) (ftDrop ft i) := by
  obtain ⟨p, h1, ⟨hF, xs, h2, h3⟩, h4⟩ := S.slot i _ h
  have hp : p ∈ ft i := by rw [hF]; exact List.mem_singleton.mpr rfl
  have hm := h4 p hp
  refine ⟨p, xs, h1, h2, hm, hp, h3, ?_, ?_, fun j s e => ?_, ⟨S.tab.1, nt_upd S.tab.2 (fun _ z => nomatch z)⟩, fun j hj => ?_, fun j k a ha hb => S.disj j k a (ftDrop_sub ha) (ftDrop_sub hb)⟩
  · rw [List.length_set]; exact S.len
  · intro a u e
    by_cases z : a = p
    · subst z; rw [upd_same] at e; cases e; exact h2
    · rw [upd_ne z] at e; exact S.sub a u e
  · by_cases z : j = i
    · subst z
      rw [List.getElem?_set_self (by exact (List.getElem?_eq_some_iff.mp h).1)] at e
      cases e
      refine ⟨by unfold ftDrop; rw [if_pos rfl], .ref p, h1, Dd.newL hm h3⟩
    · rw [List.getElem?_set_ne (Ne.symm z)] at e
      have q := S.slot j s e
      have ej : ftDrop ft i j = ft j := by unfold ftDrop; rw [if_neg z]
      rw [ej]
      exact q.keep ((Sub.refl _).upd hm) (fun a ha u ea _ => ea) fun a ha => by
        rw [upd_ne (show a ≠ p from fun y => z (S.disj j i a ha (by rw [y]; exact hp)))]
        exact (S.owned ha).1
  · rw [List.length_set] at hj
    unfold ftDrop
    split
    · rfl
    · exact S.out j hj
theorem Stp.freeze (P : Stp σ0 G0 H0 M0 ft0 σ G H M ft) {i : Nat} {ds : List PyData} (h : G[i]? = some (.l (.lst ds))) {p : Addr} {xs : List V} (hp : p ∈ ft i) (hm : M p = none) : Stp σ0 G0 H0 M0 ft0 σ (G.set i (.d (.list ds))) H (upd M p (.lst xs)) (ftDrop ft i) := by
  have key : ∀ j s, G0[j]? = some s → (∃ o, s = .x o ∨ s = .k o) → (∃ o, G[j]? = some (.x o) ∨ G[j]? = some (.k o)) → j ≠ i := fun j s _ _ ⟨o, z⟩ y => by
    subst y
    rcases z with z | z <;> (rw [h] at z; cases z)
  refine ⟨P.mono.upd (P.mono.nn hm), fun a u e => ?_, P.frame, P.tbls, P.tab, P.there, fun j a ha => P.own j a (ftDrop_sub ha), P.tups, by rw [List.length_set]; exact P.len, fun j o e => ?_, fun j o e => ?_⟩
  · by_cases z : a = p
    · subst z
      rcases P.own i a hp with y | y
      · exact .inr (.inr (.inl y))
      · exact .inr (.inl y)
    · rw [upd_ne z] at e; exact P.new a u e
  · obtain ⟨h1, h2, o', h3⟩ := P.kx j o e
    have ne := key j _ e ⟨o, .inl rfl⟩ ⟨o', .inl h3⟩
    refine ⟨h1, ?_, o', by rw [List.getElem?_set_ne (Ne.symm ne)]; exact h3⟩
    unfold ftDrop
    rw [if_neg ne]; exact h2
  · obtain ⟨h1, h2, h3⟩ := P.kk j o e
    have ne := key j _ e ⟨o, .inr rfl⟩ ⟨o, .inr h3⟩
    refine ⟨h1, ?_, by rw [List.getElem?_set_ne (Ne.symm ne)]; exact h3⟩
    unfold ftDrop
    rw [if_neg ne]; exact h2
/-- what an answer leaves when it is kept -/
theorem retain_ok (S : SI K σ H M G ft) (P : Stp σ0 G0 H0 M0 ft0 σ G H M ft) {r : Rv} {v : V} {d : PyData} {G' : Gm} {Hb : Hp} {F : List Addr} (hb : ∀ a, Hb a = none → H0 a = none) (h : retain G r = some (d, G')) (R : RvF K σ Hb H M ft F r v) :
    ∃ M' ft', SI K σ H M' G' ft' ∧ Stp σ0 G0 H0 M0 ft0 σ G' H M' ft' ∧ Sub M M' ∧ Dd K M' v d ∧ (∀ i a, a ∈ ft' i → a ∈ ft i) ∧ ∀ a, M a = none → M' a ≠ none → a ∈ F ∨ ∃ i, a ∈ ft i := by
  cases r with
  | d x => cases h; exact ⟨M, ft, S, P, Sub.refl _, R.1, fun _ _ z => z, fun a z y => absurd z y⟩
  | own i =>
    have h' : (match G[i]? with | some (.l (.lst ds)) => some (PyData.list ds, G.set i (.d (.list ds))) | _ => none) = some (d, G') := h
    split at h'
    · rename_i ds e
      cases h'
      obtain ⟨p, xs, h1, h2, hm, hp, h3, S'⟩ := S.freeze e
      have hv : σ[i]? = some (some v) := R.1
      rw [h1] at hv; cases hv
      refine ⟨_, _, S', P.freeze e hp hm, (Sub.refl _).upd hm, Dd.newL hm h3, fun j a ha => ftDrop_sub ha, fun a z y => .inr ⟨i, ?_⟩⟩
      by_cases q : a = p
      · rw [q]; exact hp
      · rw [upd_ne q] at y; exact absurd z y
    · cases h'
  | new o =>
    cases o with
    | lst ds =>
      cases h
      obtain ⟨p, rfl, ⟨hF, xs, h1, h2⟩, h3⟩ := R
      have hp : p ∈ F := by rw [hF]; exact List.mem_singleton.mpr rfl
      obtain ⟨hm, h0, hn⟩ := h3 p hp
      refine ⟨_, ft, S.show h1 hm hn, P.show hm (.inl (hb p h0)), (Sub.refl _).upd hm, Dd.newL hm h2, fun _ _ z => z, fun a z y => .inl ?_⟩
      by_cases q : a = p
      · rw [q]; exact hp
      · rw [upd_ne q] at y; exact absurd z y
    | dct _ => cases h
    | mat _ => cases h
/-- the others, behind -/
theorem RvF.shown {r : Rv} {v : V} {Hb : Hp} {F : List Addr} {M' : Hp} {ft' : Nat → List Addr} (h : RvF K σ Hb H M ft F r v) (s : Sub M M') (hf : ∀ i a, a ∈ ft' i → a ∈ ft i) (hn : ∀ a ∈ F, M a = none → M' a = none) : RvF K σ Hb H M' ft' F r v := by
  cases r with
  | d x => exact ⟨h.1.mono s, h.2⟩
  | own i => exact h
  | new o =>
    obtain ⟨p, e, g, k⟩ := h
    exact ⟨p, e, g.keep s fun a _ o z _ => z, fun a ha => ⟨hn a ha (k a ha).1, (k a ha).2.1, fun i z => (k a ha).2.2 i (hf i a z)⟩⟩
theorem RvF.out {r : Rv} {v : V} {Hb : Hp} {F : List Addr} (h : RvF K σ Hb H M ft F r v) : ∀ a ∈ F, Hb a = none ∧ ∀ i, a ∉ ft i := by
  cases r with
  | d x => obtain ⟨_, rfl⟩ := h; intro a ha; cases ha
  | own i => obtain ⟨_, rfl⟩ := h; intro a ha; cases ha
  | new o => obtain ⟨p, e, g, k⟩ := h; exact fun a ha => (k a ha).2
theorem RvsOk.shown {M' : Hp} {ft' : Nat → List Addr} {Hc : Hp} {F : List Addr} (s : Sub M M') (hf : ∀ i a, a ∈ ft' i → a ∈ ft i) (hn : ∀ a, M a = none → M' a ≠ none → a ∈ F ∨ ∃ i, a ∈ ft i) (hF : ∀ a ∈ F, Hc a ≠ none) :
    ∀ {rs : List Rv} {vs : List V} {Hb : Hp}, (∀ a, Hb a = none → Hc a = none) → RvsOk K σ H M ft Hb rs vs → RvsOk K σ H M' ft' Hb rs vs
  | _, _, _, _, .nil => .nil
  | _, _, _, hb, .cons H1 F1 h0 h hn1 t => .cons H1 F1 h0 (h.shown s hf fun a ha z => by
      cases y : M' a with
      | none => rfl
      | some o =>
        obtain ⟨q1, q2⟩ := h.out a ha
        rcases hn a z (by rw [y]; exact Option.some_ne_none _) with w | ⟨i, w⟩
        · exact absurd (hb a q1) (hF a w)
        · exact absurd w (q2 i)) hn1 (RvsOk.shown s hf hn hF (fun a z => hb a (h0 a z)) t)
theorem retainAll_ok : ∀ (rs : List Rv) {vs : List V} {ds : List PyData} {G G' : Gm} {M : Hp} {ft : Nat → List Addr} {Hb : Hp}, SI K σ H M G ft → Stp σ0 G0 H0 M0 ft0 σ G H M ft → (∀ a, Hb a = none → H0 a = none) → retainAll G rs = some (ds, G') → RvsOk K σ H M ft Hb rs vs →
    ∃ M' ft', SI K σ H M' G' ft' ∧ Stp σ0 G0 H0 M0 ft0 σ G' H M' ft' ∧ Sub M M' ∧ DdA K M' vs ds
  | [], _, _, _, _, M, ft, _, S, P, _, h, .nil => by cases h; exact ⟨M, ft, S, P, Sub.refl _, .nil⟩
  | r :: rs, _, _, G, _, M, ft, Hb, S, P, hb, h, .cons H1 F h0 R hn t => by
    unfold retainAll at h
    split at h
    · rename_i d G1 e1
      split at h
      · rename_i ds G2 e2
        cases h
        obtain ⟨M1, ft1, S1, P1, s1, D1, hf1, hn1⟩ := retain_ok S P hb e1 R
        obtain ⟨M2, ft2, S2, P2, s2, D2⟩ := retainAll_ok rs S1 P1 (fun a z => hb a (h0 a z)) e2 (RvsOk.shown (Hc := H1) s1 hf1 hn1 hn (fun a z => z) t)
        exact ⟨M2, ft2, S2, P2, s1.trans s2, .cons (D1.mono s2) D2⟩
      · cases h
    · cases h
end
/-! ### displays -/
def kTup (G : Gm) (rs : List Rv) : Res Rv := match retainAll G rs with
  | some (ds, G') => if lim ds.length then .ok (.d (.tuple ds)) G' else .bad
  | none => .bad
def kLst (G : Gm) (rs : List Rv) : Res Rv := match retainAll G rs with
  | some (ds, G') => if lim ds.length then .ok (.new (.lst ds)) G' else .bad
  | none => .bad
def fTup (fs : Gm → Res (List Rv)) : Gm → Res Rv := fun G => (fs G).bind fun rs G1 => kTup G1 rs
def fLst (fs : Gm → Res (List Rv)) : Gm → Res Rv := fun G => (fs G).bind fun rs G1 => kLst G1 rs
/-- what is made of several answers -/
def SndL (K : PySem.W.Frag) (XR : XRt) (E : XK) (r : List V → Hp → VK → Prop) (k : Gm → List Rv → Res Rv) : Prop :=
  ∀ (σ : L2.St) (H M H0 M0 : Hp) (G G0 : Gm) (ft ft0 : Nat → List Addr) (rs : List Rv) (vs : List V) (Q : VK), SI K σ H M G ft → Stp σ G0 H0 M0 ft0 σ G H M ft → RvsOk K σ H M ft H0 rs vs → WP K XR E (ROv K σ) σ G0 H0 M0 ft0 (k G rs) Q → r vs H Q
section
variable {K : PySem.W.Frag} {XR : XRt} {E : XK}
theorem args_le {r : List V → Hp → VK → Prop} {k : Gm → List Rv → Res Rv} {fs : Gm → Res (List Rv)} (hs : SndL K XR E r k) : ∀ σ H Q, tFE K XR E (fun G => (fs G).bind fun rs G1 => k G1 rs) σ H Q → tFA K XR E fs σ H fun vs H1 => r vs H1 Q := fun σ H Q ⟨M, G, ft, S, w⟩ =>
  bindAE S .refl w fun rs G1 vs H1 M1 ft1 _ S1 P1 R1 w1 => hs σ H1 M1 H M G1 G ft1 ft rs vs Q S1 P1 R1 w1
theorem snd_tup : SndL K XR E (fun vs H Q => vs.length ≤ sizeLine ∧ ∀ p, H p = none → Q (.ref p) (upd H p (.tup vs))) kTup := by
  intro σ H M H0 M0 G G0 ft ft0 rs vs Q S P R w
  unfold kTup at w
  split at w
  · rename_i ds G' e
    split at w
    · rename_i c
      obtain ⟨M2, ft2, S2, P2, s2, D2⟩ := retainAll_ok rs S P (fun a z => z) e R
      exact ⟨by rw [D2.length]; exact lim_ok c, fun p hp => w.tup S2 P2 D2 hp⟩
    · exact w.elim
  · exact w.elim
theorem snd_lst : SndL K XR E (fun vs H Q => vs.length ≤ sizeLine ∧ ∀ p, H p = none → Q (.ref p) (upd H p (.lst vs))) kLst := by
  intro σ H M H0 M0 G G0 ft ft0 rs vs Q S P R w
  unfold kLst at w
  split at w
  · rename_i ds G' e
    split at w
    · rename_i c
      obtain ⟨M2, ft2, S2, P2, s2, D2⟩ := retainAll_ok rs S P (fun a z => z) e R
      exact ⟨by rw [D2.length]; exact lim_ok c, fun p hp => w.lst S2 P2 D2 hp⟩
    · exact w.elim
  · exact w.elim
end
section
variable {X : Cx} {XR : XRt} {E : XK} {es : List Expr} {fs : Gm → Res (List Rv)} {n : Nat} {pos : Pos}
theorem fe_tup (h : PA X es (tFA X.K XR E fs)) : PE X (.Tuple es n pos) (tFE X.K XR E (fTup fs)) := PE.le (pe_tup h) (args_le snd_tup)
theorem fe_lst (h : PA X es (tFA X.K XR E fs)) : PE X (.List es pos) (tFE X.K XR E (fLst fs)) := PE.le (pe_lst h) (args_le snd_lst)
end

/-! ### and, or, not, if -/
def fAnd (fa fb : Gm → Res Rv) : Gm → Res Rv := fun G => (fa G).bind fun a G1 => (asB a G1).bind fun t G2 => if t then fb G2 else .ok (.d (.bool false)) G2
def fOr (fa fb : Gm → Res Rv) : Gm → Res Rv := fun G => (fa G).bind fun a G1 => (asB a G1).bind fun t G2 => if t then .ok (.d (.bool true)) G2 else fb G2
def fNot (fa : Gm → Res Rv) : Gm → Res Rv := fun G => (fa G).bind fun a G1 => (asB a G1).bind fun t G2 => .ok (.d (.bool (!t))) G2
def tAnd' (fa fb : Gm → Res Bool) : Gm → Res Bool := fun G => (fa G).bind fun t G2 => if t then fb G2 else .ok false G2
def tOr' (fa fb : Gm → Res Bool) : Gm → Res Bool := fun G => (fa G).bind fun t G2 => if t then .ok true G2 else fb G2
def tNot' (fa : Gm → Res Bool) : Gm → Res Bool := fun G => (fa G).bind fun t G2 => .ok (!t) G2
def fIf (t : Gm → Res Bool) (fa fb : Gm → Res Rv) : Gm → Res Rv := fun G => (t G).bind fun t G2 => if t then fa G2 else fb G2
section
variable {X : Cx} {XR : XRt} {E : XK} {a b c : Expr} {rest : List Expr} {fa fb : Gm → Res Rv} {ta tb : Gm → Res Bool} {pos : Pos}
/-- the rest of an expression, at the state at hand -/
theorem restE {K : PySem.W.Frag} {σ : L2.St} {G G0 : Gm} {H M H0 M0 : Hp} {ft ft0 : Nat → List Addr} {f : Gm → Res Rv} {Q : VK} (S : SI K σ H M G ft) (P : Stp σ G0 H0 M0 ft0 σ G H M ft) (w : WP K XR E (ROv K σ) σ G0 H0 M0 ft0 (f G) Q) : tFE K XR E f σ H Q := ⟨M, G, ft, S, WP.rebaseV P w⟩
theorem restT {K : PySem.W.Frag} {σ : L2.St} {G G0 : Gm} {H M H0 M0 : Hp} {ft ft0 : Nat → List Addr} {f : Gm → Res Bool} {Q : Bool → Hp → Prop} (S : SI K σ H M G ft) (P : Stp σ G0 H0 M0 ft0 σ G H M ft) (w : WP K XR E ROb σ G0 H0 M0 ft0 (f G) Q) : tFT K XR E f σ H Q := ⟨M, G, ft, S, WP.rebaseB P w⟩
theorem asB_ok {r : Rv} {G G' : Gm} {t : Bool} (h : asB r G = .ok t G') : r = .d (.bool t) ∧ G' = G := by
  unfold asB at h
  split at h
  · cases h; exact ⟨rfl, rfl⟩
  · cases h
theorem asB_cases (r : Rv) (G : Gm) : (∃ t, r = .d (.bool t) ∧ asB r G = .ok t G) ∨ asB r G = .bad := by
  unfold asB
  split
  · exact .inl ⟨_, rfl, rfl⟩
  · exact .inr rfl
/-- a bool among the answers -/
theorem bindB {K : PySem.W.Frag} {σ : L2.St} {G G0 : Gm} {H M H0 M0 : Hp} {ft ft0 : Nat → List Addr} {r : Rv} {v : V} {Hb : Hp} {k : Bool → Gm → Res Rv} {Q : VK} (R : RvOk K σ Hb H M ft r v) (w : WP K XR E (ROv K σ) σ G0 H0 M0 ft0 ((asB r G).bind k) Q) :
    ∃ t, v = .bl t ∧ WP K XR E (ROv K σ) σ G0 H0 M0 ft0 (k t G) Q := by
  rcases asB_cases r G with ⟨t, rfl, e⟩ | e
  · rw [e] at w; cases R; exact ⟨t, rfl, w⟩
  · rw [e] at w; exact w.elim
theorem fe_one {op : BoolOp} (h : PE X a (tFE X.K XR E fa)) : PE X (.BoolOp op [a] pos) (tFE X.K XR E fa) := pe_one h
theorem fe_and (ha : PE X a (tFE X.K XR E fa)) (hb : PE X (.BoolOp .And (b :: rest) pos) (tFE X.K XR E fb)) : PE X (.BoolOp .And (a :: b :: rest) pos) (tFE X.K XR E (fAnd fa fb)) := PE.le (pe_and ha hb) fun σ H Q ⟨M, G, ft, S, w⟩ =>
  bindEE S .refl w fun r G1 v H1 M1 ft1 _ S1 P1 R1 w1 => by
    obtain ⟨t, rfl, w2⟩ := bindB R1 w1
    refine ⟨t, rfl, ?_⟩
    cases t with
    | true => exact restE S1 P1 w2
    | false => exact WP.done w2 S1 P1 (.bl false)
theorem fe_or (ha : PE X a (tFE X.K XR E fa)) (hb : PE X (.BoolOp .Or (b :: rest) pos) (tFE X.K XR E fb)) : PE X (.BoolOp .Or (a :: b :: rest) pos) (tFE X.K XR E (fOr fa fb)) := PE.le (pe_or ha hb) fun σ H Q ⟨M, G, ft, S, w⟩ =>
  bindEE S .refl w fun r G1 v H1 M1 ft1 _ S1 P1 R1 w1 => by
    obtain ⟨t, rfl, w2⟩ := bindB R1 w1
    refine ⟨t, rfl, ?_⟩
    cases t with
    | false => exact restE S1 P1 w2
    | true => exact WP.done w2 S1 P1 (.bl true)
theorem fe_not (ha : PE X a (tFE X.K XR E fa)) : PE X (.UnaryOp .Not a pos) (tFE X.K XR E (fNot fa)) := PE.le (pe_not ha) fun σ H Q ⟨M, G, ft, S, w⟩ =>
  bindEE S .refl w fun r G1 v H1 M1 ft1 _ S1 P1 R1 w1 => by
    obtain ⟨t, rfl, w2⟩ := bindB R1 w1
    exact ⟨t, rfl, WP.done w2 S1 P1 (.bl _)⟩
theorem fw_and1 (ha : PT X a (tFT X.K XR E ta)) : PW X (.BoolOp .And [a] pos) (tFT X.K XR E ta) := pw_and1 ha
theorem fw_or1 (ha : PT X a (tFT X.K XR E ta)) : PW X (.BoolOp .Or [a] pos) (tFT X.K XR E ta) := pw_or1 ha
theorem fw_and (ha : PT X a (tFT X.K XR E ta)) (hb : PW X (.BoolOp .And (b :: rest) pos) (tFT X.K XR E tb)) : PW X (.BoolOp .And (a :: b :: rest) pos) (tFT X.K XR E (tAnd' ta tb)) := PW.le (pw_and ha hb) fun σ H Q ⟨M, G, ft, S, w⟩ =>
  bindTT S .refl w fun t G1 H1 M1 ft1 _ S1 P1 w1 => by
    cases t with
    | true => exact restT S1 P1 w1
    | false => exact WP.doneB w1 S1 P1
theorem fw_or (ha : PT X a (tFT X.K XR E ta)) (hb : PW X (.BoolOp .Or (b :: rest) pos) (tFT X.K XR E tb)) : PW X (.BoolOp .Or (a :: b :: rest) pos) (tFT X.K XR E (tOr' ta tb)) := PW.le (pw_or ha hb) fun σ H Q ⟨M, G, ft, S, w⟩ =>
  bindTT S .refl w fun t G1 H1 M1 ft1 _ S1 P1 w1 => by
    cases t with
    | false => exact restT S1 P1 w1
    | true => exact WP.doneB w1 S1 P1
theorem ft_not (ha : PT X a (tFT X.K XR E ta)) : PT X (.UnaryOp .Not a pos) (tFT X.K XR E (tNot' ta)) := PT.le (pt_not ha) fun σ H Q ⟨M, G, ft, S, w⟩ =>
  bindTT S .refl w fun t G1 H1 M1 ft1 _ S1 P1 w1 => WP.doneB w1 S1 P1
theorem fe_if {t : Gm → Res Bool} (hc : PT X c (tFT X.K XR E t)) (ha : PE X a (tFE X.K XR E fa)) (hb : PE X b (tFE X.K XR E fb)) : PE X (.IfExp c a b pos) (tFE X.K XR E (fIf t fa fb)) := PE.le (pe_ifExp hc ha hb) fun σ H Q ⟨M, G, ft, S, w⟩ =>
  bindTE S .refl w fun t G1 H1 M1 ft1 _ S1 P1 w1 => by
    cases t with
    | true => exact restE S1 P1 w1
    | false => exact restE S1 P1 w1
/-! chains -/
def fChn (k k' : Gm → Rv → Rv → Res Rv) (fa fb fc : Gm → Res Rv) : Gm → Res Rv := fun G => (fa G).bind fun a G1 => (fb G1).bind fun b G2 => (k G2 a b).bind fun t G3 => (asB t G3).bind fun t G4 => if t then (fc G4).bind fun c G5 => k' G5 b c else .ok (.d (.bool false)) G4
/-- an operator whose answer is a bool, by its ints -/
theorem chain_le {r r' : R2} {k k' : Gm → Rv → Rv → Res Rv} {fc : Gm → Res Rv} (hs : Snd2 X.K XR E r k) (hs' : Snd2 X.K XR E r' k') : ∀ σ H Q, tFE X.K XR E (fChn k k' fa fb fc) σ H Q → tChain r r' (tFE X.K XR E fa) (tFE X.K XR E fb) (tFE X.K XR E fc) σ H Q := fun σ H Q ⟨M, G, ft, S, w⟩ =>
  bindEE S .refl w fun a G1 x H1 M1 ft1 _ S1 P1 R1 w1 => bindEE S1 P1 w1 fun b G2 y H2 M2 ft2 _ S2 P2 R2 w2 => by
    refine hs σ H2 M2 H H1 H2 M2 G2 G2 ft2 ft2 a b x y _ S2 .refl (R1.later P2) R2 ?_
    refine bindW (RO := ROv X.K σ) (RO' := ROv X.K σ) (P1.trans P2) w2 fun t G3 z H3 M3 ft3 _ S3 P3 R3 w3 => ?_
    obtain ⟨t, rfl, w4⟩ := bindB R3 w3
    refine ⟨t, rfl, ?_⟩
    cases t with
    | true =>
      rw [if_pos rfl] at w4 ⊢
      exact bindEE S3 ((P1.trans P2).trans P3) w4 fun c G5 u H5 M5 ft5 _ S5 P5 R5 w5 => hs' σ H5 M5 H1 H3 H M G5 G ft5 ft b c y u Q S5 (((P1.trans P2).trans P3).trans P5) ((R2.later P3).later P5) R5 w5
    | false =>
      exact WP.done w4 S3 ((P1.trans P2).trans P3) (.bl false)
theorem fe_chain {op op' : CmpOp} {r r' : R2} {k k' : Gm → Rv → Rv → Res Rv} {fc : Gm → Res Rv} (ho : OpR X (compareOp op) r) (hs : Snd2 X.K XR E r k) (ho' : OpR X (compareOp op') r') (hs' : Snd2 X.K XR E r' k') (ha : PE X a (tFE X.K XR E fa)) (hb : PE X b (tFE X.K XR E fb)) (hc : PE X c (tFE X.K XR E fc))
    (hm : lastMarks [op, op'] [b, c] = false := by with_unfolding_all rfl) : PE X (.Compare a [op, op'] [b, c] pos) (tFE X.K XR E (fChn k k' fa fb fc)) := PE.le (pe_chain ho ho' ha hb hc hm) (chain_le hs hs')
theorem ft_chain {op op' : CmpOp} {r r' : R2} {k k' : Gm → Rv → Rv → Res Rv} {fc : Gm → Res Rv} (ho : OpR X (compareOp op) r) (hs : Snd2 X.K XR E r k) (ho' : OpR X (compareOp op') r') (hs' : Snd2 X.K XR E r' k') (ha : PE X a (tFE X.K XR E fa)) (hb : PE X b (tFE X.K XR E fb)) (hc : PE X c (tFE X.K XR E fc))
    (hm : lastMarks [op, op'] [b, c] = false := by with_unfolding_all rfl) : PT X (.Compare a [op, op'] [b, c] pos) (tFT X.K XR E (fTest (fChn k k' fa fb fc))) := PT.le (pt_chain ho ho' ha hb hc hm) (test_le (chain_le hs hs'))
/-! - of one -/
def kNeg (G : Gm) (a : Rv) : Res Rv := match rd G a with
  | some (.int i) => .ok (.d (.int (-i))) G
  | _ => .bad
def fUn (k : Gm → Rv → Res Rv) (fa : Gm → Res Rv) : Gm → Res Rv := fun G => (fa G).bind fun a G1 => k G1 a
theorem fe_neg (ha : PE X a (tFE X.K XR E fa)) : PE X (.UnaryOp .USub a pos) (tFE X.K XR E (fUn kNeg fa)) := PE.le (pe_un un_neg ha) fun σ H Q ⟨M, G, ft, S, w⟩ =>
  bindEE S .refl w fun r G1 v H1 M1 ft1 _ S1 P1 R1 w1 => by
    unfold kNeg at w1
    split at w1
    · rename_i i e
      cases rd_int S1 e R1
      exact ⟨i, rfl, WP.done w1 S1 P1 (.int _)⟩
    · exact w1.elim
end
end Fx
/-! FxE: subscripts, slices, built-in functions -/
namespace Fx
open PySem PySem.Spec
open PyProof.Rows L2
section
variable {K : PySem.W.Frag} {M : Hp}
theorem DdA.atI {vs : List V} {ds : List PyData} (g : DdA K M vs ds) {i : Int} {d : PyData} (h : L2.atI ds i = some d) : ∃ v, L2.atI vs i = some v ∧ Dd K M v d := by
  unfold L2.atI at h ⊢
  rw [g.length]
  cases e : ixN ds.length i with
  | none => (rw [e] at h; exact nomatch h)
  | some j =>
    rw [e] at h
    exact g.get (i := j) h
def cutA {α : Type} (xs : List α) (lo hi : Option Int) : List α := (xs.drop (HT.sIx xs.length 0 lo)).take (HT.sIx xs.length xs.length hi - HT.sIx xs.length 0 lo)
theorem DdA.cut {vs : List V} {ds : List PyData} (g : DdA K M vs ds) (lo hi : Option Int) : DdA K M (cutV vs lo hi) (cutA ds lo hi) := by
  unfold cutV cutA
  rw [g.length]
  exact (g.drop _).take _
end
/-! ### x[i] -/
def kIdx : Gm → Rv → Rv → Res Rv := fun G a b => match rd G b with
  | some (.int i) => match rd G a with
    | some (.list ds) => match atI ds i with
      | some d => .ok (.d d) G
      | none => .bad
    | some (.tuple ds) => match atI ds i with
      | some d => .ok (.d d) G
      | none => .bad
    | _ => .bad
  | _ => .bad
section
variable {K : PySem.W.Frag} {XR : XRt} {E : XK}
theorem snd_idx : Snd2 K XR E (rIx K) kIdx := by
  intro σ H M Ha Hb H0 M0 G G0 ft ft0 a b x y Q S P Ra Rb w
  unfold kIdx at w
  split at w
  · rename_i i eb
    cases rd_int S eb Rb
    split at w
    · rename_i ds ea
      obtain ⟨p, xs, rfl, e, g⟩ := rd_list S ea Ra
      split at w
      · rename_i d ed
        obtain ⟨v, h1, h2⟩ := g.atI ed
        exact .inl ⟨p, xs, i, v, rfl, rfl, SqL.of e, h1, w.done S P h2⟩
      · exact w.elim
    · rename_i ds ea
      obtain ⟨p, xs, rfl, e, g⟩ := rd_tup S ea Ra
      split at w
      · rename_i d ed
        obtain ⟨v, h1, h2⟩ := g.atI ed
        exact .inr (.inl ⟨p, xs, i, v, rfl, rfl, S.sub.sqT e, h1, w.done S P h2⟩)
      · exact w.elim
    · exact w.elim
  · exact w.elim
end
/-! ### slices -/
def fNoPart : Gm → Res (Option Int) := fun G => .ok none G
def kPart (G : Gm) (r : Rv) : Res (Option Int) := match rd G r with
  | some (.int i) => .ok (some i) G
  | _ => .bad
def fPart (f : Gm → Res Rv) : Gm → Res (Option Int) := fun G => (f G).bind fun r G1 => kPart G1 r
abbrev ROp : Hp → Hp → Hp → (Nat → List Addr) → Option Int → Option Int → Prop := fun _ _ _ _ a b => a = b
def tFO (K : PySem.W.Frag) (XR : XRt) (E : XK) (f : Gm → Res (Option Int)) : TO := fun σ H Q => ∃ M G ft, SI K σ H M G ft ∧ WP K XR E ROp σ G H M ft (f G) Q
theorem PO.le {X : Cx} {e : Option Expr} {t t' : TO} (h : PO X e t) (w : ∀ σ H Q, t' σ H Q → t σ H Q) : PO X e t' := ⟨fun pins s σ H Q I q => h.run pins s σ H Q I (w σ H Q q)⟩
def kSl (G : Gm) (a : Rv) (lo hi : Option Int) : Res Rv := match rd G a with
  | some (.list ds) => .ok (.new (.lst (cutA ds lo hi))) G
  | some (.tuple ds) => .ok (.d (.tuple (cutA ds lo hi))) G
  | _ => .bad
def fSlice (fa : Gm → Res Rv) (fl fh : Gm → Res (Option Int)) : Gm → Res Rv := fun G => (fa G).bind fun a G1 => (fl G1).bind fun l G2 => (fh G2).bind fun h G3 => kSl G3 a l h
section
variable {X : Cx} {XR : XRt} {E : XK} {a : Expr} {fa : Gm → Res Rv} {pos p2 : Pos}
theorem fo_none : PO X none (tFO X.K XR E fNoPart) := PO.le po_none fun σ H Q ⟨M, G, ft, S, w⟩ => w none H M ft S .refl rfl
theorem fo_some (h : PE X a (tFE X.K XR E fa)) : PO X (some a) (tFO X.K XR E (fPart fa)) := PO.le (po_some h) fun σ H Q ⟨M, G, ft, S, w⟩ =>
  ⟨M, G, ft, S, bindW (RO := ROv X.K σ) (RO' := ROp) .refl w fun r G1 v H1 M1 ft1 _ S1 P1 R1 w1 => by
    unfold kPart at w1
    split at w1
    · rename_i i e
      cases rd_int S1 e R1
      exact ⟨i, rfl, w1 (some i) H1 M1 ft1 S1 P1 rfl⟩
    · exact w1.elim⟩
theorem sl_anyA : SlR X (fun x lo hi H Q => rSlL X.K x lo hi H Q ∨ rSlA X.K x lo hi H Q) := sl_list.or sl_tupA
theorem fe_slice {lo hi : Option Expr} {fl fh : Gm → Res (Option Int)} (he : PE X a (tFE X.K XR E fa)) (hl : PO X lo (tFO X.K XR E fl)) (hh : PO X hi (tFO X.K XR E fh)) : PE X (.Subscript a (.Slice lo hi none p2) pos) (tFE X.K XR E (fSlice fa fl fh)) :=
  PE.le (pe_slice sl_anyA he hl hh) fun σ H Q ⟨M, G, ft, S, w⟩ => bindEE S .refl w fun r G1 v H1 M1 ft1 _ S1 P1 R1 w1 => by
    refine ⟨M1, G1, ft1, S1, bindW (RO := ROp) (RO' := ROv X.K σ) P1 w1 fun l G2 l' H2 M2 ft2 _ S2 P2 R2 w2 => ?_⟩
    cases R2
    refine ⟨M2, G2, ft2, S2, bindW (RO := ROp) (RO' := ROv X.K σ) (P1.trans P2) w2 fun h G3 h' H3 M3 ft3 _ S3 P3 R3 w3 => ?_⟩
    cases R3
    have R := (R1.later P2).later P3
    unfold kSl at w3
    split at w3
    · rename_i ds e
      obtain ⟨p, xs, rfl, e2, g⟩ := rd_list S3 e R
      exact .inl ⟨p, xs, rfl, SqL.of e2, fun q hq => w3.lst S3 ((P1.trans P2).trans P3) (g.cut l h) hq⟩
    · rename_i ds e
      obtain ⟨p, xs, rfl, e2, g⟩ := rd_tup S3 e R
      refine .inr ⟨p, xs, rfl, S3.sub.sqT e2, fun z => ?_, fun _ q hq => w3.tup S3 ((P1.trans P2).trans P3) (g.cut l h) hq⟩
      have ec : cutV xs l h = xs := by
        unfold cutV
        rw [z.1, z.2, List.drop_zero, Nat.sub_zero, List.take_length]
      have gg := g.cut l h
      rw [ec] at gg
      exact WP.done w3 S3 ((P1.trans P2).trans P3) (.tup e2 gg)
    · exact w3.elim
theorem fe_idx {b : Expr} {fb : Gm → Res Rv} (ha : PE X a (tFE X.K XR E fa)) (hb : PE X b (tFE X.K XR E fb)) (hs : PlainIx b := by exact fun _ _ => rfl) : PE X (.Subscript a b pos) (tFE X.K XR E (fOp2 kIdx fa fb)) := PE.le (pe_ix ix_seq ha hb hs) (op2_le snd_idx)
end
/-! ### built-in functions -/
def fCallK (k : Gm → List Rv → Res Rv) (fs : Gm → Res (List Rv)) : Gm → Res Rv := fun G => (fs G).bind fun rs G1 => k G1 rs
section
variable {X : Cx} {XR : XRt} {E : XK} {e : Expr} {es : List Expr} {fs : Gm → Res (List Rv)} {pos p : Pos} {x : Str} {id T : String} {r : List V → Hp → VK → Prop} {k : Gm → List Rv → Res Rv}
theorem fe_callB (hc : CallR X (.builtin id) r) (hs : SndL X.K XR E r k) (hg : Gl X x) (hm : X.mg x = none) (hv : bootBuiltins x = some (.builtin id)) (ha : PA X (e :: es) (tFA X.K XR E fs)) (hn : x ≠ "__name__" := by decide) (hdb : (x == ("__debug__" : Str)) = false := by decide)
    (he : starEach (e :: es) X.env = (false, eval e X.env) :: starEach es X.env := by rfl) (hpl : (backTo pos (starEach es X.env)).any (·.1) = false := by rfl) : PE X (.Call (.Name x p) (e :: es) [] pos) (tFE X.K XR E (fCallK k fs)) :=
  PE.le (pe_callB hc hg hm hv ha hn hdb he hpl) (args_le hs)
theorem fe_callTy (hc : CallR X (.type T) r) (hs : SndL X.K XR E r k) (hg : Gl X x) (hm : X.mg x = none) (hv : bootBuiltins x = some (.type T)) (ha : PA X (e :: es) (tFA X.K XR E fs)) (hn : x ≠ "__name__" := by decide) (hdb : (x == ("__debug__" : Str)) = false := by decide)
    (he : starEach (e :: es) X.env = (false, eval e X.env) :: starEach es X.env := by rfl) (hpl : (backTo pos (starEach es X.env)).any (·.1) = false := by rfl) : PE X (.Call (.Name x p) (e :: es) [] pos) (tFE X.K XR E (fCallK k fs)) :=
  PE.le (pe_callTy hc hg hm hv ha hn hdb he hpl) (args_le hs)
end
/-- of one argument -/
def k1 (k : Gm → PyData → Res Rv) : Gm → List Rv → Res Rv
  | G, [a] => match rd G a with
    | some d => k G d
    | none => .bad
  | _, _ => .bad
section
variable {K : PySem.W.Frag} {XR : XRt} {E : XK}
theorem snd_k1 {r : List V → Hp → VK → Prop} {k : Gm → PyData → Res Rv}
    (h : ∀ (σ : L2.St) (H M H0 M0 : Hp) (G G0 : Gm) (ft ft0 : Nat → List Addr) (a : Rv) (v : V) (d : PyData) (Q : VK), SI K σ H M G ft → Stp σ G0 H0 M0 ft0 σ G H M ft → RvOk K σ H0 H M ft a v → rd G a = some d → WP K XR E (ROv K σ) σ G0 H0 M0 ft0 (k G d) Q → r [v] H Q) : SndL K XR E r (k1 k) := by
  intro σ H M H0 M0 G G0 ft ft0 rs vs Q S P R w
  unfold k1 at w
  split at w
  · rename_i a
    obtain ⟨v, rfl, R1⟩ := R.one
    split at w
    · rename_i d e
      exact h σ H M H0 M0 _ G0 ft ft0 _ v d Q S P R1 e w
    · exact w.elim
  · exact w.elim
def kLen : Gm → List Rv → Res Rv := k1 fun G d => match d with
  | .list ds => .ok (.d (.int ds.length)) G
  | .tuple ds => .ok (.d (.int ds.length)) G
  | .str s => if lim s.length then .ok (.d (.int s.length)) G else .bad
  | _ => .bad
def rLenA (K : PySem.W.Frag) : List V → Hp → VK → Prop := fun xs H Q => (∃ p ys, xs = [.ref p] ∧ (SqL K H p ys ∨ SqT K H p ys) ∧ Q (.int ys.length) H) ∨ ∃ z, xs = [.str z] ∧ z.length ≤ sizeLine ∧ Q (.int z.length) H
theorem call_lenA {X : Cx} : CallR X (.builtin "len") (rLenA X.K) := call_len_seq.or call_len_str
theorem snd_len : SndL K XR E (rLenA K) kLen := snd_k1 fun σ H M H0 M0 G G0 ft ft0 a v d Q S P R e w => by
  split at w
  · obtain ⟨p, xs, rfl, e2, g⟩ := rd_list S e R
    rw [← g.length] at w
    exact .inl ⟨p, xs, rfl, .inl (SqL.of e2), WP.done w S P (.int _)⟩
  · obtain ⟨p, xs, rfl, e2, g⟩ := rd_tup S e R
    rw [← g.length] at w
    exact .inl ⟨p, xs, rfl, .inr (S.sub.sqT e2), WP.done w S P (.int _)⟩
  · cases rd_str S e R
    split at w
    · rename_i c
      exact .inr ⟨_, rfl, lim_ok c, WP.done w S P (.int _)⟩
    · exact w.elim
  · exact w.elim
/-- ints, bools of a list -/
def intsOf : List PyData → Option (List Int)
  | [] => some []
  | .int i :: r => (intsOf r).map (i :: ·)
  | _ => none
def boolsOf : List PyData → Option (List Bool)
  | [] => some []
  | .bool i :: r => (boolsOf r).map (i :: ·)
  | _ => none
theorem intsOf_eq : ∀ {ds : List PyData} {ns : List Int}, intsOf ds = some ns → ds = ns.map PyData.int
  | [], ns, h => by cases h; rfl
  | .int i :: r, ns, h => by
    unfold intsOf at h
    cases e : intsOf r with
    | none => (rw [e] at h; exact nomatch h)
    | some ms => rw [e] at h; cases h; rw [intsOf_eq e]; rfl
  | .none :: _, _, h => by cases h
  | .bool _ :: _, _, h => by cases h
  | .str _ :: _, _, h => by cases h
  | .list _ :: _, _, h => by cases h
  | .tuple _ :: _, _, h => by cases h
  | .dict _ :: _, _, h => by cases h
theorem boolsOf_eq : ∀ {ds : List PyData} {ns : List Bool}, boolsOf ds = some ns → ds = ns.map PyData.bool
  | [], ns, h => by cases h; rfl
  | .bool i :: r, ns, h => by
    unfold boolsOf at h
    cases e : boolsOf r with
    | none => (rw [e] at h; exact nomatch h)
    | some ms => rw [e] at h; cases h; rw [boolsOf_eq e]; rfl
  | .none :: _, _, h => by cases h
  | .int _ :: _, _, h => by cases h
  | .str _ :: _, _, h => by cases h
  | .list _ :: _, _, h => by cases h
  | .tuple _ :: _, _, h => by cases h
  | .dict _ :: _, _, h => by cases h
@[simp] theorem intsOf_map (ns : List Int) : intsOf (ns.map PyData.int) = some ns := by
  induction ns with
  | nil => rfl
  | cons n r ih => rw [List.map_cons, intsOf, ih]; rfl
@[simp] theorem boolsOf_map (ns : List Bool) : boolsOf (ns.map PyData.bool) = some ns := by
  induction ns with
  | nil => rfl
  | cons n r ih => rw [List.map_cons, boolsOf, ih]; rfl
def kInts (f : List Int → Option PyData) : Gm → List Rv → Res Rv := k1 fun G d => match d with
  | .list ds => match intsOf ds with
    | some ns => match f ns with
      | some z => .ok (.d z) G
      | none => .bad
    | none => .bad
  | .tuple ds => match intsOf ds with
    | some ns => match f ns with
      | some z => .ok (.d z) G
      | none => .bad
    | none => .bad
  | _ => .bad
theorem snd_ints {r : List V → Hp → VK → Prop} {f : List Int → Option PyData} (h : ∀ (a : Addr) (ns : List Int) (z : PyData) (H : Hp) (Q : VK), (SqL K H a (ns.map V.int) ∨ SqT K H a (ns.map V.int)) → f ns = some z → (∀ v, (∀ M, Dd K M v z) → Q v H) → r [.ref a] H Q) : SndL K XR E r (kInts f) := snd_k1 fun σ H M H0 M0 G G0 ft ft0 a v d Q S P R e w => by
  split at w
  · obtain ⟨p, xs, rfl, e2, g⟩ := rd_list S e R
    split at w
    · rename_i ns en
      rw [intsOf_eq en] at g
      split at w
      · rename_i z ez
        exact h p ns z H Q (.inl (by rw [← g.ints]; exact SqL.of e2)) ez fun v hv => WP.done w S P (hv M)
      · exact w.elim
    · exact w.elim
  · obtain ⟨p, xs, rfl, e2, g⟩ := rd_tup S e R
    split at w
    · rename_i ns en
      rw [intsOf_eq en] at g
      split at w
      · rename_i z ez
        exact h p ns z H Q (.inr (by rw [← g.ints]; exact S.sub.sqT e2)) ez fun v hv => WP.done w S P (hv M)
      · exact w.elim
    · exact w.elim
  · exact w.elim
/-- sum, max, min of a list or of a tuple of ints -/
def rSumA (K : PySem.W.Frag) : List V → Hp → VK → Prop := fun vs H Q => ∃ (a : Addr) (ns : List Int), vs = [V.ref a] ∧ (SqL K H a (ns.map V.int) ∨ SqT K H a (ns.map V.int)) ∧ Q (.int ns.sum) H
def rMaxA (K : PySem.W.Frag) : List V → Hp → VK → Prop := fun vs H Q => ∃ (a : Addr) (ns : List Int), vs = [V.ref a] ∧ (SqL K H a (ns.map V.int) ∨ SqT K H a (ns.map V.int)) ∧ 0 < ns.length ∧ ∀ m, m ∈ ns → (∀ y, y ∈ ns → y ≤ m) → Q (.int m) H
def rMinA (K : PySem.W.Frag) : List V → Hp → VK → Prop := fun ws Hh Qp => ∃ (ad : Addr) (ks : List Int), ws = [V.ref ad] ∧ (SqL K Hh ad (ks.map V.int) ∨ SqT K Hh ad (ks.map V.int)) ∧ 0 < ks.length ∧ ∀ m, m ∈ ks → (∀ yv, yv ∈ ks → m ≤ yv) → Qp (.int m) Hh
theorem tupInts {X : Cx} {pp : List (Addr × Obj)} {τ : L2.St} {Hh : Hp} {sh : Shared} {ad : Addr} {ks : List Int} (J : Inv X pp τ Hh sh) (h : SqT X.K Hh ad (ks.map V.int)) : ∃ zs : Array (Int × Tok), sh.heap.IsTuple ad (intItems zs) ∧ (zs.toList.map Prod.fst) = ks := by
  obtain ⟨ts, rl, p, _⟩ := J.tuple h
  have iv := rl.ints
  obtain ⟨zs, eq0⟩ := iv.allInts.items
  have en : numsOf (intItems zs).toList = ks := by rw [← eq0]; exact iv.numsOf
  rw [nums_intItems] at en
  have pT : sh.heap.IsTuple ad ts.toArray := p
  rw [eq0] at pT
  exact ⟨zs, pT, en⟩
theorem cr_sumA {X : Cx} (cm : X.calm = true) : CallR X (.builtin "sum") (rSumA X.K) := by
  intro pp sh τ Hh ws uv Qp J rr h
  obtain ⟨ad, ks, rfl, sq | sq, qe⟩ := h
  · exact cr_sum cm pp sh τ Hh _ uv Qp J rr ⟨ad, ks, rfl, sq, qe⟩
  · obtain ⟨zs, p, eq0⟩ := tupInts J sq
    rw [Vals.ref1 rr]
    refine PySem.W.ktm_sumG (J.ok.hd cm) p fun hE tkk t' kp => ⟨.int _, Hh, J.kept kp, ⟨_, rfl⟩, ?_⟩
    rw [preSum_eq, List.take_of_length_le (by simp), eq0]
    exact qe
theorem walk_tupI {pg : Program} {wd : World} {ar : Around} {ex : Value → Shared → Prop} {sh : Shared} {at0 : Addr} {zs : Array (Int × Tok)} {Qp : Value → Shared → Prop} (hl : sh.heap.IsTuple at0 (intItems zs))
    (h : ∀ s₂ : Shared, s₂ = { sh with heap := sh.heap.push { cls := .type "tuple_iterator", data := .fields #[.ref at0, .int 0 0] } } → (s₂.heap.IsTupleIter sh.heap.objs.size at0 0 ∧ s₂.heap.IsTuple at0 (intItems zs)) → (∀ bd ∈ [sh.heap.objs.size, at0], bd < s₂.heap.objs.size) → at0 ≠ sh.heap.objs.size → Qp (.ref sh.heap.objs.size) s₂) :
    wpAny (model pg wd) ar (pyIter (.ref at0)) Qp ex sh := by
  have below : at0 < sh.heap.objs.size := by
    obtain ⟨_, eq0, _⟩ := id hl
    exact Heap.lt_size eq0
  have grown : (sh.heap.push { cls := .type "tuple_iterator", data := .fields #[.ref at0, .int 0 0] }).objs.size = sh.heap.objs.size + 1 := Heap.size_push ..
  refine wpAny_pyIter_tuple hl (h _ rfl ⟨⟨_, Heap.get?_push_size _ rfl, rfl, rfl⟩, hl.at fun o eq0 => Heap.get?_push_of_some _ eq0⟩ (fun bd mb => ?_) (Nat.ne_of_lt below))
  show bd < (sh.heap.push _).objs.size
  rw [grown]
  rcases (show bd = sh.heap.objs.size ∨ bd = at0 by simpa using mb) with z | z
  · rw [z]; exact Nat.lt_succ_self _
  · rw [z]; exact Nat.lt_succ_of_lt below
theorem kept_old {hE : Heap} {sh : Shared} {o' : Obj} (kp : ∀ bd o, bd ∉ [sh.heap.objs.size] → (sh.heap.push o').get? bd = some o → hE.get? bd = some o) : ∀ bd o, sh.heap.get? bd = some o → hE.get? bd = some o := fun bd o eq0 =>
  kp bd o (fun hm => absurd (Heap.lt_size eq0) (by rw [List.mem_singleton.mp hm]; exact Nat.lt_irrefl _)) (Heap.get?_push_of_some _ eq0)
theorem cr_maxA {X : Cx} (cm : X.calm = true) : CallR X (.builtin "max") (rMaxA X.K) := by
  intro pp sh τ Hh ws uv Qp J rr h
  obtain ⟨ad, ks, rfl, sq | sq, pos, qe⟩ := h
  · exact cr_max cm pp sh τ Hh _ uv Qp J rr ⟨ad, ks, rfl, sq, pos, qe⟩
  · obtain ⟨zs, p, rfl⟩ := tupInts J sq
    rw [Vals.ref1 rr]
    have zn : 0 < zs.size := by simpa using pos
    refine call_max_walk (walk_tupI p fun s₂ eq0 stt fpp nI => ?_)
    subst eq0
    refine ⟨_, _, _, _, _, _, _, rfl, Walks.tuple (A := X.A.in1) (J.ok.hd cm) _ ad nI (intItems zs), stt, fpp, by simpa [intItems] using zn, CmpOf.ints_gt (numAt zs) (fun _ _ => intItems_at), fun vv hE tkk hP0 kp => ?_⟩
    obtain ⟨tk0, rfl⟩ := intItems_at (show (intItems zs)[argBest (fun i jx => decide (numAt zs i > numAt zs jx)) (zs.size - 1)]? = some vv by simpa [intItems] using hP0)
    obtain ⟨b1, b2⟩ := argBest_gt (numAt zs) (zs.size - 1)
    refine ⟨.int _, Hh, J.kept (kept_old kp), ⟨_, rfl⟩, qe _ ?_ fun yv my => ?_⟩
    · rw [numAt_eq]
      refine PySem.getD_mem ?_
      rw [List.length_map, Array.length_toList]; omega
    · obtain ⟨jx, lj, rfl⟩ := mem_getD my
      rw [List.length_map, Array.length_toList] at lj
      rw [← numAt_eq]; exact b2 jx (by omega)
theorem cr_minA {X : Cx} (cm : X.calm = true) : CallR X (.builtin "min") (rMinA X.K) := by
  intro pp sh τ Hh ws uv Qp J rr h
  obtain ⟨ad, ks, rfl, sq | sq, pos, qe⟩ := h
  · exact cr_min cm pp sh τ Hh _ uv Qp J rr ⟨ad, ks, rfl, sq, pos, qe⟩
  · obtain ⟨zs, p, rfl⟩ := tupInts J sq
    rw [Vals.ref1 rr]
    have zn : 0 < zs.size := by simpa using pos
    refine call_min_walk (walk_tupI p fun s₂ eq0 stt fpp nI => ?_)
    subst eq0
    refine ⟨_, _, _, _, _, _, _, rfl, Walks.tuple (A := X.A.in1) (J.ok.hd cm) _ ad nI (intItems zs), stt, fpp, by simpa [intItems] using zn, CmpOf.ints_lt (numAt zs) (fun _ _ => intItems_at), fun vv hE tkk hP0 kp => ?_⟩
    obtain ⟨tk0, rfl⟩ := intItems_at (show (intItems zs)[argBest (fun i jx => decide (numAt zs i < numAt zs jx)) (zs.size - 1)]? = some vv by simpa [intItems] using hP0)
    obtain ⟨b1, b2⟩ := argBest_lt (numAt zs) (zs.size - 1)
    refine ⟨.int _, Hh, J.kept (kept_old kp), ⟨_, rfl⟩, qe _ ?_ fun yv my => ?_⟩
    · rw [numAt_eq]
      refine PySem.getD_mem ?_
      rw [List.length_map, Array.length_toList]; omega
    · obtain ⟨jx, lj, rfl⟩ := mem_getD my
      rw [List.length_map, Array.length_toList] at lj
      rw [← numAt_eq]; exact b2 jx (by omega)
def kSum : Gm → List Rv → Res Rv := kInts fun ks => some (.int ks.sum)
theorem snd_sum : SndL K XR E (rSumA K) kSum := snd_ints fun a ns z H Q h e q => by cases e; exact ⟨a, ns, rfl, h, q _ fun M => .int _⟩
def mxI : List Int → Int
  | [] => 0
  | [x] => x
  | x :: y :: r => let m := mxI (y :: r); if x < m then m else x
def mnI : List Int → Int
  | [] => 0
  | [x] => x
  | x :: y :: r => let m := mnI (y :: r); if m < x then m else x
theorem mxI_mem : ∀ {ns : List Int}, ns ≠ [] → mxI ns ∈ ns ∧ ∀ y ∈ ns, y ≤ mxI ns
  | [], h => absurd rfl h
  | [x], _ => ⟨List.mem_singleton.mpr rfl, fun y hy => by cases List.mem_singleton.mp hy; exact Int.le_refl _⟩
  | x :: y :: r, _ => by
    obtain ⟨h1, h2⟩ := mxI_mem (ns := y :: r) (by simp)
    have e : mxI (x :: y :: r) = if x < mxI (y :: r) then mxI (y :: r) else x := rfl
    rw [e]
    split
    · rename_i c
      refine ⟨List.mem_cons_of_mem _ h1, fun z hz => ?_⟩
      obtain rfl | hz := List.mem_cons.mp hz
      · exact Int.le_of_lt c
      · exact h2 z hz
    · rename_i c
      refine ⟨List.mem_cons_self, fun z hz => ?_⟩
      obtain rfl | hz := List.mem_cons.mp hz
      · exact Int.le_refl _
      · exact Int.le_trans (h2 z hz) (Int.not_lt.mp c)
theorem mnI_mem : ∀ {ns : List Int}, ns ≠ [] → mnI ns ∈ ns ∧ ∀ y ∈ ns, mnI ns ≤ y
  | [], h => absurd rfl h
  | [x], _ => ⟨List.mem_singleton.mpr rfl, fun y hy => by cases List.mem_singleton.mp hy; exact Int.le_refl _⟩
  | x :: y :: r, _ => by
    obtain ⟨h1, h2⟩ := mnI_mem (ns := y :: r) (by simp)
    have e : mnI (x :: y :: r) = if mnI (y :: r) < x then mnI (y :: r) else x := rfl
    rw [e]
    split
    · rename_i c
      refine ⟨List.mem_cons_of_mem _ h1, fun z hz => ?_⟩
      obtain rfl | hz := List.mem_cons.mp hz
      · exact Int.le_of_lt c
      · exact h2 z hz
    · rename_i c
      refine ⟨List.mem_cons_self, fun z hz => ?_⟩
      obtain rfl | hz := List.mem_cons.mp hz
      · exact Int.le_refl _
      · exact Int.le_trans (Int.not_lt.mp c) (h2 z hz)
def kMax : Gm → List Rv → Res Rv := kInts fun ns => if ns.isEmpty then none else some (.int (mxI ns))
def kMin : Gm → List Rv → Res Rv := kInts fun ns => if ns.isEmpty then none else some (.int (mnI ns))
theorem snd_max : SndL K XR E (rMaxA K) kMax := snd_ints fun a ns z H Q h e q => by
  split at e
  · cases e
  · rename_i c
    cases e
    have hne : ns ≠ [] := fun z => c (by rw [z]; rfl)
    obtain ⟨m1, m2⟩ := mxI_mem hne
    refine ⟨a, ns, rfl, h, List.length_pos_iff.mpr hne, fun m hm hle => ?_⟩
    rw [show m = mxI ns from Int.le_antisymm (m2 m hm) (hle _ m1)]
    exact q _ fun M => .int _
theorem snd_min : SndL K XR E (rMinA K) kMin := snd_ints fun a ns z H Q h e q => by
  split at e
  · cases e
  · rename_i c
    cases e
    have hne : ns ≠ [] := fun z => c (by rw [z]; rfl)
    obtain ⟨m1, m2⟩ := mnI_mem hne
    refine ⟨a, ns, rfl, h, List.length_pos_iff.mpr hne, fun m hm hle => ?_⟩
    rw [show m = mnI ns from Int.le_antisymm (hle _ m1) (m2 m hm)]
    exact q _ fun M => .int _
def kBools (f : List Bool → PyData) : Gm → List Rv → Res Rv := k1 fun G d => match d with
  | .list ds => match boolsOf ds with
    | some ns => .ok (.d (f ns)) G
    | none => .bad
  | _ => .bad
def kAll : Gm → List Rv → Res Rv := kBools fun bs => .bool (bs.all id)
def kAny : Gm → List Rv → Res Rv := kBools fun bs => .bool (bs.any id)
theorem snd_all : SndL K XR E (rAll K) kAll := snd_k1 fun σ H M H0 M0 G G0 ft ft0 a v d Q S P R e w => by
  split at w
  · obtain ⟨p, xs, rfl, e2, g⟩ := rd_list S e R
    split at w
    · rename_i ns en
      rw [boolsOf_eq en] at g
      exact ⟨p, ns, rfl, by rw [← g.bools]; exact SqL.of e2, WP.done w S P (.bl _)⟩
    · exact w.elim
  · exact w.elim
theorem snd_any : SndL K XR E (rAny K) kAny := snd_k1 fun σ H M H0 M0 G G0 ft ft0 a v d Q S P R e w => by
  split at w
  · obtain ⟨p, xs, rfl, e2, g⟩ := rd_list S e R
    split at w
    · rename_i ns en
      rw [boolsOf_eq en] at g
      exact ⟨p, ns, rfl, by rw [← g.bools]; exact SqL.of e2, WP.done w S P (.bl _)⟩
    · exact w.elim
  · exact w.elim
def kAbs : Gm → List Rv → Res Rv := k1 fun G d => match d with
  | .int i => .ok (.d (.int (if i < 0 then -i else i))) G
  | _ => .bad
theorem snd_abs : SndL K XR E (fun xs H Q => ∃ i, xs = [.int i] ∧ Q (.int (if i < 0 then -i else i)) H) kAbs := snd_k1 fun σ H M H0 M0 G G0 ft ft0 a v d Q S P R e w => by
  split at w
  · cases rd_int S e R
    exact ⟨_, rfl, WP.done w S P (.int _)⟩
  · exact w.elim
def kInt : Gm → List Rv → Res Rv := k1 fun G d => match d with
  | .int i => .ok (.d (.int i)) G
  | .bool b => .ok (.d (.int (if b then 1 else 0))) G
  | _ => .bad
theorem snd_int : SndL K XR E (fun xs H Q => (∃ i, xs = [.int i] ∧ Q (.int i) H) ∨ ∃ k, xs = [.bl k] ∧ Q (.int (if k then 1 else 0)) H) kInt := snd_k1 fun σ H M H0 M0 G G0 ft ft0 a v d Q S P R e w => by
  split at w
  · cases rd_int S e R
    exact .inl ⟨_, rfl, WP.done w S P (.int _)⟩
  · cases rd_bool S e R
    exact .inr ⟨_, rfl, WP.done w S P (.int _)⟩
  · exact w.elim
def kList : Gm → List Rv → Res Rv := k1 fun G d => match d with
  | .list ds => .ok (.new (.lst ds)) G
  | .tuple ds => .ok (.new (.lst ds)) G
  | _ => .bad
def kTuple : Gm → List Rv → Res Rv := k1 fun G d => match d with
  | .list ds => .ok (.d (.tuple ds)) G
  | .tuple ds => .ok (.d (.tuple ds)) G
  | _ => .bad
theorem snd_list : SndL K XR E (fun xs H Q => ∃ p ys, xs = [.ref p] ∧ (SqL K H p ys ∨ SqT K H p ys) ∧ ∀ l, H l = none → Q (.ref l) (upd H l (.lst ys))) kList := snd_k1 fun σ H M H0 M0 G G0 ft ft0 a v d Q S P R e w => by
  split at w
  · obtain ⟨p, xs, rfl, e2, g⟩ := rd_list S e R
    exact ⟨p, xs, rfl, .inl (SqL.of e2), fun l hl => w.lst S P g hl⟩
  · obtain ⟨p, xs, rfl, e2, g⟩ := rd_tup S e R
    exact ⟨p, xs, rfl, .inr (S.sub.sqT e2), fun l hl => w.lst S P g hl⟩
  · exact w.elim
theorem snd_tuple : SndL K XR E (fun xs H Q => ∃ p ys, xs = [.ref p] ∧ ((SqL K H p ys ∧ ∀ l, H l = none → Q (.ref l) (upd H l (.tup ys))) ∨ (SqT K H p ys ∧ Q (.ref p) H))) kTuple := snd_k1 fun σ H M H0 M0 G G0 ft ft0 a v d Q S P R e w => by
  split at w
  · obtain ⟨p, xs, rfl, e2, g⟩ := rd_list S e R
    exact ⟨p, xs, rfl, .inl ⟨SqL.of e2, fun l hl => w.tup S P g hl⟩⟩
  · obtain ⟨p, xs, rfl, e2, g⟩ := rd_tup S e R
    exact ⟨p, xs, rfl, .inr ⟨S.sub.sqT e2, WP.done w S P (.tup e2 g)⟩⟩
  · exact w.elim
end
/-! ### isinstance -/
def tyD : PyData → String
  | .none => "NoneType"
  | .bool _ => "bool"
  | .int _ => "int"
  | .str _ => "str"
  | .list _ => "list"
  | .tuple _ => "tuple"
  | .dict _ => "list"
def isiD (T : String) : PyData → Bool
  | .none => false
  | .bool _ => T == "bool" || T == "int"
  | .int _ => T == "int"
  | .str _ => T == "str"
  | .list _ => T == "list"
  | .tuple _ => T == "tuple"
  | .dict _ => T == "list"
/-- the types that are asked for here -/
def isiOk (T : String) : Prop := ∀ a ∈ ["NoneType", "bool", "int", "str", "list", "tuple"], kitB a T = some (if a = "bool" then T == "bool" || T == "int" else if a = "NoneType" then false else T == a)
theorem isi_int : isiOk "int" := by unfold isiOk; decide +kernel
theorem isi_bool : isiOk "bool" := by unfold isiOk; decide +kernel
theorem isi_str : isiOk "str" := by unfold isiOk; decide +kernel
theorem isi_tuple : isiOk "tuple" := by unfold isiOk; decide +kernel
theorem isi_list : isiOk "list" := by unfold isiOk; decide +kernel
theorem isi_of {T : String} (h : isiOk T) (d : PyData) : kitB (tyD d) T = some (isiD T d) := by
  cases d with
  | none => exact h "NoneType" (by simp)
  | bool _ => exact h "bool" (by simp)
  | int _ => exact h "int" (by simp)
  | str _ => exact h "str" (by simp)
  | list _ => exact h "list" (by simp)
  | tuple _ => exact h "tuple" (by simp)
  | dict _ => exact h "list" (by simp)
theorem tyX_sqL {K : PySem.W.Frag} {H : Hp} {a : Addr} {xs : List V} (h : SqL K H a xs) : TyX K H (.ref a) (.type "list") := by
  rcases h with (h | ⟨o, h⟩) | ⟨o, its, n, h, hc, _⟩
  · exact .base (.lst h)
  · exact .base (.frz h)
  · exact .kList h hc
theorem tyX_sqT {K : PySem.W.Frag} {H : Hp} {a : Addr} {xs : List V} (h : SqT K H a xs) : TyX K H (.ref a) (.type "tuple") := by
  rcases h with (h | ⟨o, h⟩) | ⟨o, its, n, h, hc, _⟩
  · exact .base (.tup h)
  · exact .fTuple h
  · exact .kTuple h hc
theorem tyX_of {K : PySem.W.Frag} {H : Hp} {v : V} {d : PyData} (h : Dd K H v d) : TyX K H v (.type (tyD d)) := by
  cases h with
  | non => exact .base .non
  | bl b => exact .base (.bl b)
  | int i => exact .base (.int i)
  | str x => exact .base (.str x)
  | lst e _ => exact .base (.lst e)
  | tup e _ => exact tyX_sqT e
  | frz e _ => exact tyX_sqL e
def kIsi (T : String) (G : Gm) (a : Rv) : Res Rv := match rd G a with
  | some d => .ok (.d (.bool (isiD T d))) G
  | none => .bad
section
variable {X : Cx} {XR : XRt} {E : XK} {e : Expr} {fa : Gm → Res Rv} {pos p q : Pos} {T : String} {y : Str}
theorem fe_isi (ho : isiOk T) (hg : Gl X "isinstance") (hm : X.mg "isinstance" = none) (hgT : Gl X y) (hmT : X.mg y = none) (hvT : bootBuiltins y = some (.type T)) (he : PE X e (tFE X.K XR E fa)) (hn : y ≠ "__name__" := by decide) (hdb : (y == ("__debug__" : Str)) = false := by decide)
    (hs : starEach [e, .Name y q] X.env = [(false, eval e X.env), (false, eval (.Name y q) X.env)] := by rfl) (hs2 : starEach [.Name y q] X.env = [(false, eval (.Name y q) X.env)] := by rfl) :
    PE X (.Call (.Name "isinstance" p) [e, .Name y q] [] pos) (tFE X.K XR E (fUn (kIsi T) fa)) :=
  PE.le (pe_callB call_isi hg hm (by decide +kernel) (pa_cons he (pa_cons (pe_bltn (v := V.ty T) hgT hmT hvT rfl hn hdb) pa_nil (by rw [hs2]; rfl)) (by rw [hs, hs2])) (by decide) (by decide) (by rw [hs, hs2]) (by rw [hs2]; rfl)) fun σ H Q ⟨M, G, ft, S, w⟩ =>
    bindEE S .refl w fun r G1 v H1 M1 ft1 _ S1 P1 R1 w1 => by
      unfold kIsi at w1
      split at w1
      · rename_i d ed
        exact ⟨v, .ty T, _, _, _, rfl, .ty T, tyX_of (rd_all S1 ed R1), kit_ty (isi_of ho d), WP.done w1 S1 P1 (.bl _)⟩
      · exact w1.elim
end
/-! ### list(range(..)), tuple(range(..)) -/
def rgD (a b : Int) : List PyData := (List.range (b - a).toNat).map fun i => PyData.int (a + (i : Nat))
theorem rgD_ok {K : PySem.W.Frag} {M : Hp} (a b : Int) : DdA K M (rgV a b) (rgD a b) := by
  unfold rgV rgD
  induction (List.range (b - a).toNat) with
  | nil => exact .nil
  | cons x r ih => exact .cons (.int _) ih
def rgOk (a b : Int) : Bool := decide (-100000 ≤ a) && decide (a ≤ 100000) && decide (-100000 ≤ b) && decide (b ≤ 100000)
theorem rgOk_ok {a b : Int} (h : rgOk a b = true) : RgOk a b := by
  unfold rgOk at h
  simp only [Bool.and_eq_true, decide_eq_true_eq] at h
  exact ⟨by omega, by omega, by omega, by omega, by omega⟩
def kRgL (a b : Int) (G : Gm) : Res Rv := if rgOk a b then .ok (.new (.lst (rgD a b))) G else .bad
def kRgT (a b : Int) (G : Gm) : Res Rv := if rgOk a b then .ok (.d (.tuple (rgD a b))) G else .bad
def fRg1 (k : Int → Int → Gm → Res Rv) (fa : Gm → Res Rv) : Gm → Res Rv := fun G => (fa G).bind fun a G1 => match rd G1 a with
  | some (.int n) => k 0 n G1
  | _ => .bad
def fRg2 (k : Int → Int → Gm → Res Rv) (fa fb : Gm → Res Rv) : Gm → Res Rv := fun G => (fa G).bind fun a G1 => (fb G1).bind fun b G2 => match rd G2 a, rd G2 b with
  | some (.int i), some (.int j) => k i j G2
  | _, _ => .bad
section
variable {X : Cx} {XR : XRt} {E : XK} {e : Expr} {fa fb : Gm → Res Rv} {pos p : Pos} {t : L2.St → Hp → (Int → Int → Hp → Prop) → Prop}
theorem rg1_le {k : Int → Int → Gm → Res Rv} {Q' : VK → Int → Int → Hp → Prop} (h : ∀ (σ : L2.St) (H M H0 M0 : Hp) (G G0 : Gm) (ft ft0 : Nat → List Addr) (a b : Int) (Q : VK), SI X.K σ H M G ft → Stp σ G0 H0 M0 ft0 σ G H M ft → WP X.K XR E (ROv X.K σ) σ G0 H0 M0 ft0 (k a b G) Q → Q' Q a b H) :
    ∀ σ H Q, tFE X.K XR E (fRg1 k fa) σ H Q → tRg1 (tFE X.K XR E fa) σ H (Q' Q) := fun σ H Q ⟨M, G, ft, S, w⟩ =>
  bindEE S .refl w fun r G1 v H1 M1 ft1 _ S1 P1 R1 w1 => by
    split at w1
    · rename_i n e
      cases rd_int S1 e R1
      exact ⟨n, rfl, h σ H1 M1 H M G1 G ft1 ft 0 n Q S1 P1 w1⟩
    · exact w1.elim
theorem rg2_le {k : Int → Int → Gm → Res Rv} {Q' : VK → Int → Int → Hp → Prop} (h : ∀ (σ : L2.St) (H M H0 M0 : Hp) (G G0 : Gm) (ft ft0 : Nat → List Addr) (a b : Int) (Q : VK), SI X.K σ H M G ft → Stp σ G0 H0 M0 ft0 σ G H M ft → WP X.K XR E (ROv X.K σ) σ G0 H0 M0 ft0 (k a b G) Q → Q' Q a b H) :
    ∀ σ H Q, tFE X.K XR E (fRg2 k fa fb) σ H Q → tRg2 (tFE X.K XR E fa) (tFE X.K XR E fb) σ H (Q' Q) := fun σ H Q ⟨M, G, ft, S, w⟩ =>
  bindEE S .refl w fun r G1 v H1 M1 ft1 _ S1 P1 R1 w1 => bindEE S1 P1 w1 fun r2 G2 v2 H2 M2 ft2 _ S2 P2 R2 w2 => by
    split at w2
    · rename_i i j e1 e2
      cases rd_int S2 e1 (R1.later P2)
      cases rd_int S2 e2 R2
      exact ⟨i, j, rfl, rfl, h σ H2 M2 H M G2 G ft2 ft i j Q S2 (P1.trans P2) w2⟩
    · exact w2.elim
theorem kRgL_ok (σ : L2.St) (H M H0 M0 : Hp) (G G0 : Gm) (ft ft0 : Nat → List Addr) (a b : Int) (Q : VK) (S : SI X.K σ H M G ft) (P : Stp σ G0 H0 M0 ft0 σ G H M ft) (w : WP X.K XR E (ROv X.K σ) σ G0 H0 M0 ft0 (kRgL a b G) Q) : RgOk a b ∧ ∀ q, H q = none → Q (.ref q) (upd H q (.lst (rgV a b))) := by
  unfold kRgL at w
  split at w
  · rename_i c
    exact ⟨rgOk_ok c, fun q hq => w.lst S P (rgD_ok a b) hq⟩
  · exact w.elim
theorem kRgT_ok (σ : L2.St) (H M H0 M0 : Hp) (G G0 : Gm) (ft ft0 : Nat → List Addr) (a b : Int) (Q : VK) (S : SI X.K σ H M G ft) (P : Stp σ G0 H0 M0 ft0 σ G H M ft) (w : WP X.K XR E (ROv X.K σ) σ G0 H0 M0 ft0 (kRgT a b G) Q) : RgOk a b ∧ ∀ q, H q = none → Q (.ref q) (upd H q (.tup (rgV a b))) := by
  unfold kRgT at w
  split at w
  · rename_i c
    exact ⟨rgOk_ok c, fun q hq => w.tup S P (rgD_ok a b) hq⟩
  · exact w.elim
theorem fe_listRg1 (hc : X.calm = true) (hg : Gl X "list") (hm : X.mg "list" = none) (he : PRg X e (tRg1 (tFE X.K XR E fa))) (na : starEach [e] X.env = (false, eval e X.env) :: starEach [] X.env := by rfl) : PE X (.Call (.Name "list" p) [e] [] pos) (tFE X.K XR E (fRg1 kRgL fa)) := PE.le (pe_listRg hc hg hm he na) (rg1_le kRgL_ok)
theorem fe_tupRg1 (hc : X.calm = true) (hg : Gl X "tuple") (hm : X.mg "tuple" = none) (he : PRg X e (tRg1 (tFE X.K XR E fa))) (na : starEach [e] X.env = (false, eval e X.env) :: starEach [] X.env := by rfl) : PE X (.Call (.Name "tuple" p) [e] [] pos) (tFE X.K XR E (fRg1 kRgT fa)) := PE.le (pe_tupRg hc hg hm he na) (rg1_le kRgT_ok)
theorem fe_listRg2 (hc : X.calm = true) (hg : Gl X "list") (hm : X.mg "list" = none) (he : PRg X e (tRg2 (tFE X.K XR E fa) (tFE X.K XR E fb))) (na : starEach [e] X.env = (false, eval e X.env) :: starEach [] X.env := by rfl) : PE X (.Call (.Name "list" p) [e] [] pos) (tFE X.K XR E (fRg2 kRgL fa fb)) := PE.le (pe_listRg hc hg hm he na) (rg2_le kRgL_ok)
theorem fe_tupRg2 (hc : X.calm = true) (hg : Gl X "tuple") (hm : X.mg "tuple" = none) (he : PRg X e (tRg2 (tFE X.K XR E fa) (tFE X.K XR E fb))) (na : starEach [e] X.env = (false, eval e X.env) :: starEach [] X.env := by rfl) : PE X (.Call (.Name "tuple" p) [e] [] pos) (tFE X.K XR E (fRg2 kRgT fa fb)) := PE.le (pe_tupRg hc hg hm he na) (rg2_le kRgT_ok)
end
end Fx
/-! FxF: calls, statements, defs -/
namespace Fx
open PySem PySem.Spec
open PyProof.Rows L2
/-! ### calls of defs that change nothing -/
def argOf (G : Gm) : Rv → Option (PyData × Bool)
  | .d x => some (x, false)
  | .new (.lst ds) => some (.list ds, false)
  | .own i => match ownAt G i with
    | some (.lst ds) => some (.list ds, true)
    | _ => none
  | _ => none
def argsOf (G : Gm) : List Rv → Option (List PyData × Bool)
  | [] => some ([], false)
  | r :: rs => match argOf G r with
    | some (d, b) => match argsOf G rs with
      | some (ds, c) => some (d :: ds, b || c)
      | none => none
    | none => none
def kCall (F : Gm → Res Rv) (G : Gm) (rs : List Rv) : Res Rv := match argsOf G rs with
  | some (ds, b) => match F (ds.map Sl.d) with
    | .ok (.d x) _ => if b && !flatD x then .bad else .ok (.d x) G
    | .ok (.new o) _ => if b then .bad else .ok (.new o) G
    | .ok (.own _) _ => .bad
    | .ex e => .ex e
    | .bad => .bad
  | none => .bad
/-- a def's promise, by a function on the arguments' slots -/
def spF (K : PySem.W.Frag) (XR : XRt) (F : Gm → Res Rv) : Sp := fun vs H Q E => tFE K XR E F (vs.map some) H Q
def noF : Nat → List Addr := fun _ => []
section
variable {K : PySem.W.Frag} {XR : XRt} {E : XK} {σ σ0 : L2.St} {G G0 : Gm} {H M H0 M0 : Hp} {ft ft0 : Nat → List Addr}
/-- the new ones among the answers are shown; M' holds the borrowed lists too -/
theorem args_ok : ∀ (rs : List Rv) {vs : List V} {ds : List PyData} {b : Bool} {M : Hp} {Hb : Hp}, SI K σ H M G ft → Stp σ0 G0 H0 M0 ft0 σ G H M ft → (∀ a, Hb a = none → H0 a = none) → argsOf G rs = some (ds, b) → RvsOk K σ H M ft Hb rs vs →
    ∃ M1, SI K σ H M1 G ft ∧ Stp σ0 G0 H0 M0 ft0 σ G H M1 ft ∧ Sub M M1 ∧ ∃ M', Sub M1 M' ∧ Sub M' H ∧ DdA K M' vs ds ∧ (∀ a, M' a ≠ none → M1 a ≠ none ∨ ∃ i, a ∈ ft i) ∧ (b = false → M' = M1)
  | [], _, _, _, M, _, S, P, _, h, .nil => by cases h; exact ⟨M, S, P, Sub.refl _, M, Sub.refl _, S.sub, .nil, fun a z => .inl z, fun _ => rfl⟩
  | r :: rs, _, _, _, M, Hb, S, P, hb, h, .cons H1 F h0 R hn t => by
    unfold argsOf at h
    split at h
    · rename_i d b e1
      split at h
      · rename_i ds c e2
        cases h
        cases r with
        | d x =>
          cases e1
          obtain ⟨M1, S1, P1, s1, M', t1, t2, D, k1, k2⟩ := args_ok rs S P (fun a z => hb a (h0 a z)) e2 t
          exact ⟨M1, S1, P1, s1, M', t1, t2, .cons ((R.1.mono s1).mono t1) D, k1, fun z => k2 (by simpa using z)⟩
        | own i =>
          have h' : (match ownAt G i with | some (.lst ds) => some (PyData.list ds, true) | _ => none) = some (d, b) := e1
          split at h'
          · rename_i es eo
            cases h'
            obtain ⟨M1, S1, P1, s1, M', t1, t2, D, k1, k2⟩ := args_ok rs S P (fun a z => hb a (h0 a z)) e2 t
            obtain ⟨p, rfl, ⟨hF, xs, g1, g2⟩, g3⟩ := own_ok S1 eo R.1
            have hp : p ∈ ft i := by rw [hF]; exact List.mem_singleton.mpr rfl
            refine ⟨M1, S1, P1, s1, upd M' p (.lst xs), fun a o q => ?_, fun a o q => ?_, .cons (.lst upd_same (g2.mono fun a o q => ?_)) (D.mono fun a o q => ?_), fun a z => ?_, fun z => by simp at z⟩
            · rw [upd_ne (show a ≠ p from fun y => by subst y; rw [g3 a hp] at q; cases q)]; exact t1 a o q
            · by_cases y : a = p
              · subst y; rw [upd_same] at q; cases q; exact g1
              · rw [upd_ne y] at q; exact t2 a o q
            · rw [upd_ne (show a ≠ p from fun y => by subst y; rw [g3 a hp] at q; cases q)]; exact t1 a o q
            · by_cases y : a = p
              · subst y
                have := t2 a o q
                rw [g1] at this; cases this
                exact upd_same
              · rw [upd_ne y]; exact q
            · by_cases y : a = p
              · exact .inr ⟨i, by rw [y]; exact hp⟩
              · rw [upd_ne y] at z; exact k1 a z
          · cases h'
        | new o =>
          cases o with
          | lst es =>
            cases e1
            obtain ⟨p, rfl, ⟨hF, xs, g1, g2⟩, g3⟩ := R
            have hp : p ∈ F := by rw [hF]; exact List.mem_singleton.mpr rfl
            obtain ⟨hm, hh, hnn⟩ := g3 p hp
            have S' := S.show g1 hm hnn
            have P' := P.show (o := .lst xs) hm (.inl (hb p hh))
            have t' : RvsOk K σ H (upd M p (.lst xs)) ft H1 rs _ := RvsOk.shown (Hc := H1) (F := F) ((Sub.refl _).upd hm) (fun _ _ z => z) (fun a z y => .inl (by
              by_cases q : a = p
              · rw [q]; exact hp
              · rw [upd_ne q] at y; exact absurd z y)) hn (fun a z => z) t
            obtain ⟨M1, S1, P1, s1, M', t1, t2, D, k1, k2⟩ := args_ok rs S' P' (fun a z => hb a (h0 a z)) e2 t'
            exact ⟨M1, S1, P1, ((Sub.refl _).upd hm).trans s1, M', t1, t2, .cons ((Dd.newL hm g2).mono (s1.trans t1)) D, k1, fun z => k2 (by simpa using z)⟩
          | dct _ => cases e1
          | mat _ => cases e1
      · cases h
    · cases h
theorem nt_args {M1 M' : Hp} (S1 : SI K σ H M1 G ft) (t1 : Sub M1 M') (t2 : Sub M' H) (k1 : ∀ a, M' a ≠ none → M1 a ≠ none ∨ ∃ i, a ∈ ft i) : ∀ a ps, M' a ≠ some (.tbl ps) := fun a ps z => by
  rcases k1 a (by rw [z]; exact Option.some_ne_none _) with y | ⟨i, y⟩
  · cases e : M1 a with
    | none => exact y e
    | some o =>
      have := t1 a o e
      rw [z] at this; cases this
      exact S1.tab.2 a ps e
  · exact S1.ntb y ps (t2 a _ z)
theorem si_args {M' : Hp} {vs : List V} {ds : List PyData} (tb : TabI K H ∧ ∀ a ps, M' a ≠ some (.tbl ps)) (s : Sub M' H) (D : DdA K M' vs ds) : SI K (vs.map some) H M' (ds.map Sl.d) noF where
  len := by rw [List.length_map, List.length_map, D.length]
  sub := s
  slot := fun i s e => by
    rw [List.getElem?_map] at e
    cases ei : ds[i]? with
    | none => rw [ei] at e; cases e
    | some d =>
      rw [ei] at e; cases e
      obtain ⟨v, h1, h2⟩ := D.get ei
      exact ⟨rfl, v, by rw [List.getElem?_map, h1]; rfl, h2⟩
  tab := tb
  out := fun _ _ => rfl
  disj := fun i j a h => by cases h
/-- behind a call that owns nothing -/
theorem SI.called (S : SI K σ H M G ft) {M' H' M'' : Hp} {σ1 σ2 : L2.St} {G1 G2 : Gm} {ft2 : Nat → List Addr} (tb : TabI K H' ∧ ∀ a ps, M'' a ≠ some (.tbl ps)) (s2 : Sub M'' H') (hk : ∀ a o, H a = some o → (∀ ps, o ≠ .tbl ps) → H' a = some o) (hm : Sub M M'') (hn : ∀ i a, a ∈ ft i → M'' a = none) : SI K σ H' M'' G ft where
  len := S.len
  sub := s2
  tab := tb
  slot := fun i s e => (S.slot i s e).keep hm (fun a ha o q => hk a o q) (hn i)
  out := S.out
  disj := S.disj
theorem snd_call {F : Gm → Res Rv} : SndL K XR E (fun vs H Q => spF K XR F vs H Q E) (kCall F) := by
  intro σ H M H0 M0 G G0 ft ft0 rs vs Q S P R w
  unfold kCall at w
  split at w
  · rename_i ds b ea
    obtain ⟨M1, S1, P1, s1, M', t1, t2, D, k1, k2⟩ := args_ok rs S P (fun a z => z) ea R
    refine ⟨M', ds.map Sl.d, noF, si_args ⟨S1.tab.1, nt_args S1 t1 t2 k1⟩ t2 D, ?_⟩
    have hnn : ∀ (a : Addr) (i : Nat), a ∉ noF i := fun a i z => by cases z
    split at w
    · rename_i x A' ef
      rw [ef]
      intro v H' M'' ft'' S'' Q'' R''
      have hk : ∀ a o, H a = some o → (∀ ps, o ≠ .tbl ps) → H' a = some o := fun a o q nt => Q''.frame a o q nt (hnn a)
      split at w
      · exact w.elim
      · rename_i c
        by_cases hb : b = false
        · have e' := k2 hb
          subst e'
          have hn : ∀ i a, a ∈ ft i → M'' a = none := fun i a ha => by
            obtain ⟨q1, o, q2, q3⟩ := S1.owned ha
            cases q4 : M'' a with
            | none => rfl
            | some o2 =>
              rcases Q''.new a o2 q4 with z | z | ⟨j, z⟩ | ⟨xs, z⟩
              · rw [q1] at z; cases z
              · rw [q2] at z; cases z
              · cases z
              · rw [q2] at z; cases z; exact absurd rfl (q3 xs)
          have SF : SI K σ H' M'' G ft := S1.called (M' := M') (σ1 := σ) (σ2 := σ) (G1 := G) (G2 := G) (ft2 := ft) S''.tab S''.sub hk Q''.mono hn
          refine w v H' M'' ft SF (P1.trans ⟨Q''.mono, fun a o z => ?_, fun a o z nt _ => hk a o z nt, Q''.tbls, Q''.tab, Q''.there, fun i a z => .inl ⟨i, z⟩, fun a xs z => hk a _ z (fun _ y => nomatch y), rfl, fun i o z => ⟨rfl, rfl, o, z⟩, fun i o z => ⟨rfl, rfl, z⟩⟩) R''
          rcases Q''.new a o z with y | y | ⟨j, y⟩ | y
          · exact .inl y
          · exact .inr (.inl y)
          · cases y
          · exact .inr (.inr (.inr y))
        · have hbt : b = true := by cases b with | true => rfl | false => exact absurd rfl hb
          subst hbt
          have hf : flatD x = true := by
            cases hx : flatD x with
            | true => rfl
            | false => rw [hx] at c; exact absurd rfl c
          have SF : SI K σ H' M1 G ft := S1.called (M' := M') (σ1 := σ) (σ2 := σ) (G1 := G) (G2 := G) (ft2 := ft) ⟨S''.tab.1, S1.tab.2⟩ ((t1.trans Q''.mono).trans S''.sub) hk (Sub.refl _) fun i a ha => (S1.owned ha).1
          exact w v H' M1 ft SF (P1.trans ⟨Sub.refl _, fun a o z => .inl z, fun a o z nt _ => hk a o z nt, Q''.tbls, Q''.tab, Q''.there, fun i a z => .inl ⟨i, z⟩, fun a xs z => hk a _ z (fun _ y => nomatch y), rfl, fun i o z => ⟨rfl, rfl, o, z⟩, fun i o z => ⟨rfl, rfl, z⟩⟩) (Dd.flat R'' hf)
    · rename_i o A' ef
      rw [ef]
      intro v H' M'' ft'' S'' Q'' R''
      have hk : ∀ a o, H a = some o → (∀ ps, o ≠ .tbl ps) → H' a = some o := fun a o q nt => Q''.frame a o q nt (hnn a)
      split at w
      · exact w.elim
      · rename_i c
        have hb : b = false := by cases b with | true => exact absurd rfl c | false => rfl
        have e' := k2 hb
        subst e'
        have hn : ∀ i a, a ∈ ft i → M'' a = none := fun i a ha => by
          obtain ⟨q1, o, q2, q3⟩ := S1.owned ha
          cases q4 : M'' a with
          | none => rfl
          | some o2 =>
            rcases Q''.new a o2 q4 with z | z | ⟨j, z⟩ | ⟨xs, z⟩
            · rw [q1] at z; cases z
            · rw [q2] at z; cases z
            · cases z
            · rw [q2] at z; cases z; exact absurd rfl (q3 xs)
        have SF : SI K σ H' M'' G ft := S1.called (M' := M') (σ1 := σ) (σ2 := σ) (G1 := G) (G2 := G) (ft2 := ft) S''.tab S''.sub hk Q''.mono hn
        obtain ⟨p, Fp, ev, g1, g2⟩ := R''
        refine w v H' M'' ft SF (P1.trans ⟨Q''.mono, fun a o z => ?_, fun a o z nt _ => hk a o z nt, Q''.tbls, Q''.tab, Q''.there, fun i a z => .inl ⟨i, z⟩, fun a xs z => hk a _ z (fun _ y => nomatch y), rfl, fun i o z => ⟨rfl, rfl, o, z⟩, fun i o z => ⟨rfl, rfl, z⟩⟩) ⟨p, Fp, ev, g1, fun a ha => ⟨(g2 a ha).1, P1.nn (g2 a ha).2.1, fun i z => ?_⟩⟩
        · rcases Q''.new a o z with y | y | ⟨j, y⟩ | y
          · exact .inl y
          · exact .inr (.inl y)
          · cases y
          · exact .inr (.inr (.inr y))
        · obtain ⟨_, o, q2, _⟩ := S1.owned z
          rw [(g2 a ha).2.1] at q2; cases q2
    · exact w.elim
    · rename_i e ef
      rw [ef]
      intro cls d H' x fr
      exact w cls d H' x (Frm.trans P1 ⟨fun a o q nt _ => fr.1 a o q nt (hnn a), fr.2⟩)
    · exact w.elim
  · exact w.elim
end
section
variable {X : Cx} {XR : XRt} {E : XK} {e : Expr} {es : List Expr} {fs : Gm → Res (List Rv)} {pos p : Pos} {x : Str} {k : Nat} {f : Addr} {fd : FuncData} {ps : List Str} {F : Gm → Res Rv}
/-- f(e, ..) -/
theorem fe_call {CX : CXT} (Fk : FnOk X.prog X.w X.K X.mg X.base CX k f fd ps (spF X.K XR F)) (hr : Room k X.A) (hg : Gl X x) (hm : X.mg x = some (.ref f)) (hk : PySem.W.keepIn X.K (.ref f) = true) (hb : Binds X.K fd ps []) (hx : Passes CX X E) (ha : PA X (e :: es) (tFA X.K XR E fs))
    (hdb : (x == ("__debug__" : Str)) = false := by decide)
    (he : starEach (e :: es) X.env = (false, eval e X.env) :: starEach es X.env := by rfl) (hpl : (backTo pos (starEach es X.env)).any (·.1) = false := by rfl) :
    PE X (.Call (.Name x p) (e :: es) [] pos) (tFE X.K XR E (fCallK (kCall F) fs)) :=
  PE.le (pe_call Fk hr hg hm hk hb .nil hx ha hdb he hpl) fun σ H Q ⟨M, G, ft, S, w⟩ =>
    bindAE S .refl w fun rs G1 vs H1 M1 ft1 e1 S1 P1 R1 w1 => by
      rw [List.append_nil]
      exact snd_call σ H1 M1 H M G1 G ft1 ft rs vs Q S1 P1 R1 w1
end
end Fx
/-! FxG: statements, defs -/
namespace Fx
open PySem PySem.Spec
open PyProof.Rows L2
/-! ### what may be changed -/
def mutAt (G : Gm) (i : Nat) : Option Ao := match G[i]? with
  | some (.l o) => some o
  | some (.x o) => some o
  | _ => none
def setOwn (G : Gm) (i : Nat) (o : Ao) : Gm := match G[i]? with
  | some (.x _) => G.set i (.x o)
  | _ => G.set i (.l o)
/-- a slot that may be stored to -/
def freeAt (G : Gm) (i : Nat) : Bool := match G[i]? with
  | some (.d _) => true
  | some (.l _) => true
  | some .no => true
  | _ => false
def ftPut (ft : Nat → List Addr) (i : Nat) (F : List Addr) : Nat → List Addr := fun j => if j = i then F else ft j
theorem ftPut_self {ft : Nat → List Addr} {i : Nat} {F : List Addr} : ftPut ft i F i = F := if_pos rfl
theorem ftPut_ne {ft : Nat → List Addr} {i j : Nat} {F : List Addr} (h : j ≠ i) : ftPut ft i F j = ft j := if_neg h
section
variable {K : PySem.W.Frag} {XR : XRt} {E : XK} {σ σ0 : L2.St} {G G0 : Gm} {H M H0 M0 : Hp} {ft ft0 : Nat → List Addr}
theorem mut_own {i : Nat} {o : Ao} (h : mutAt G i = some o) : ownAt G i = some o ∧ i < G.length := by
  unfold mutAt at h
  unfold ownAt
  split at h
  · rename_i o' e; cases h; rw [e]; exact ⟨rfl, (List.getElem?_eq_some_iff.mp e).1⟩
  · rename_i o' e; cases h; rw [e]; exact ⟨rfl, (List.getElem?_eq_some_iff.mp e).1⟩
  · cases h
theorem setOwn_len {i : Nat} {o : Ao} : (setOwn G i o).length = G.length := by
  unfold setOwn
  split <;> rw [List.length_set]
theorem setOwn_ne {i j : Nat} {o : Ao} (h : j ≠ i) : (setOwn G i o)[j]? = G[j]? := by
  unfold setOwn
  split <;> rw [List.getElem?_set_ne (Ne.symm h)]
theorem setOwn_self {i : Nat} {o o' : Ao} (h : mutAt G i = some o) : (G[i]? = some (.x o) ∧ (setOwn G i o')[i]? = some (.x o')) ∨ (G[i]? = some (.l o) ∧ (setOwn G i o')[i]? = some (.l o')) := by
  have hi := (mut_own h).2
  unfold mutAt at h
  unfold setOwn
  split at h
  · rename_i o' e
    cases h
    refine .inr ⟨e, ?_⟩
    split
    · rename_i e2; rw [e] at e2; cases e2
    · rw [List.getElem?_set_self hi]
  · rename_i o' e
    cases h
    refine .inl ⟨e, ?_⟩
    split
    · rw [List.getElem?_set_self hi]
    · rename_i e2; exact absurd e (e2 _)
  · cases h
/-- an owned object gets another content -/
theorem SI.put (S : SI K σ H M G ft) {i : Nat} {o o' : Ao} {p : Addr} {H' M' : Hp} (h : mutAt G i = some o) (hp : σ[i]? = some (some (.ref p))) (a' : AoOk K H' M' o' p (ft i)) (tb : TabI K H' ∧ ∀ a ps, M' a ≠ some (.tbl ps)) (sub : Sub M' H') (mono : Sub M M') (hk : ∀ j a, j ≠ i → a ∈ ft j → ∀ u, H a = some u → (∀ ps, u ≠ .tbl ps) → H' a = some u)
    (hm : ∀ j a, a ∈ ft j → M' a = none) : SI K σ H' M' (setOwn G i o') ft where
  len := by rw [setOwn_len]; exact S.len
  sub := sub
  tab := tb
  slot := fun j s e => by
    by_cases z : j = i
    · subst z
      rcases setOwn_self (o' := o') h with ⟨_, q⟩ | ⟨_, q⟩
      · rw [q] at e; cases e; exact ⟨p, hp, a', hm j⟩
      · rw [q] at e; cases e; exact ⟨p, hp, a', hm j⟩
    · rw [setOwn_ne z] at e
      exact (S.slot j s e).keep mono (fun a ha u q => hk j a z ha u q) (hm j)
  out := fun j hj => S.out j (by rw [setOwn_len] at hj; exact hj)
  disj := S.disj
theorem Stp.put {i : Nat} {o o' : Ao} {H' M' : Hp} (h : mutAt G i = some o) (mono : Sub M M') (new : ∀ a u, M' a = some u → M a = some u ∨ H a = none ∨ (∃ j, a ∈ ft j) ∨ isTup H a) (frame : ∀ a u, H a = some u → (∀ ps, u ≠ .tbl ps) → (∀ j, a ∉ ft j) → H' a = some u) (tbls : ∀ a ps, H a = some (.tbl ps) → ∃ ps', H' a = some (.tbl ps')) (tab : ∀ K, TabI K H → TabI K H')
    (there : ∀ a u, H a = some u → ∃ u', H' a = some u') (tups : ∀ a xs, H a = some (.tup xs) → H' a = some (.tup xs)) : Stp σ G H M ft σ (setOwn G i o') H' M' ft :=
  ⟨mono, new, frame, tbls, tab, there, fun j a z => .inl ⟨j, z⟩, tups, setOwn_len, fun j u e => by
    by_cases z : j = i
    · subst z
      rcases setOwn_self (o' := o') h with ⟨_, q⟩ | ⟨q0, q⟩
      · exact ⟨rfl, rfl, _, q⟩
      · rw [q0] at e; cases e
    · exact ⟨rfl, rfl, u, by rw [setOwn_ne z]; exact e⟩, fun j u e => by
    by_cases z : j = i
    · subst z
      rcases setOwn_self (o' := o') h with ⟨q0, q⟩ | ⟨q0, q⟩
      · rw [q0] at e; cases e
      · rw [q0] at e; cases e
    · exact ⟨rfl, rfl, by rw [setOwn_ne z]; exact e⟩⟩
/-- an owned list is written -/
theorem SI.putL (S : SI K σ H M G ft) {i : Nat} {ds ds' : List PyData} (h : mutAt G i = some (.lst ds)) {p : Addr} {xs' : List V} (hp : σ[i]? = some (some (.ref p))) (g : DdA K M xs' ds') :
    SI K σ (upd H p (.lst xs')) M (setOwn G i (.lst ds')) ft ∧ Stp σ G H M ft σ (setOwn G i (.lst ds')) (upd H p (.lst xs')) M ft := by
  obtain ⟨q, e, ⟨hF, xs, h1, h2⟩, h3⟩ := own_ok S (mut_own h).1 hp
  cases e
  have hpi : p ∈ ft i := by rw [hF]; exact List.mem_singleton.mpr rfl
  have nt : ∀ a u, H a = some u → (∀ ps, u ≠ .tbl ps) → (∀ j, a ∉ ft j) → (upd H p (.lst xs')) a = some u := fun a u e _ hn => by rw [upd_ne (show a ≠ p from fun z => hn i (by rw [z]; exact hpi))]; exact e
  refine ⟨S.put h hp ⟨hF, xs', upd_same, g⟩ ⟨S.tab.1.upd h1 noTab_lst, S.tab.2⟩ (fun a u e => ?_) (Sub.refl _) (fun j a hj ha u e _ => ?_) (fun j a ha => (S.owned ha).1), Stp.put h (Sub.refl _) (fun a u e => .inl e) nt (tbls_upd h1 noTab_lst) (fun K t => t.upd h1 noTab_lst) (fun a u e => ?_) fun a ys e => ?_⟩
  · rw [upd_ne (show a ≠ p from fun z => by subst z; rw [h3 a hpi] at e; cases e)]; exact S.sub a u e
  · rw [upd_ne (show a ≠ p from fun z => hj (S.disj j i a ha (by rw [z]; exact hpi)))]; exact e
  · by_cases z : a = p
    · subst z; exact ⟨_, upd_same⟩
    · exact ⟨u, by rw [upd_ne z]; exact e⟩
  · rw [upd_ne (show a ≠ p from fun z => by subst z; rw [h1] at e; cases e)]; exact e
/-! ### storing -/
theorem SI.setG (S : SI K σ H M G ft) {i : Nat} {s : Sl} {v : V} {F : List Addr} (hi : i < G.length) (hs : SlOk K (σ.set i (some v)) H M F i s) (hF : ∀ a ∈ F, ∀ j, j ≠ i → a ∉ ft j) : SI K (σ.set i (some v)) H M (G.set i s) (ftPut ft i F) where
  len := by rw [List.length_set, List.length_set]; exact S.len
  sub := S.sub
  tab := S.tab
  slot := fun j t e => by
    by_cases z : j = i
    · subst z
      rw [List.getElem?_set_self hi] at e; cases e
      rw [ftPut_self]; exact hs
    · rw [List.getElem?_set_ne (Ne.symm z)] at e
      rw [ftPut_ne z]
      have q := S.slot j t e
      have es : (σ.set i (some v))[j]? = σ[j]? := List.getElem?_set_ne (Ne.symm z)
      cases t with
      | no => exact q
      | d x => obtain ⟨q1, u, q2, q3⟩ := q; exact ⟨q1, u, es.trans q2, q3⟩
      | l o => obtain ⟨p, q2, q3⟩ := q; exact ⟨p, es.trans q2, q3⟩
      | x o => obtain ⟨p, q2, q3⟩ := q; exact ⟨p, es.trans q2, q3⟩
      | k o => obtain ⟨p, q2, q3⟩ := q; exact ⟨p, es.trans q2, q3⟩
  out := fun j hj => by
    rw [List.length_set] at hj
    rw [ftPut_ne (by omega)]; exact S.out j hj
  disj := fun j k a ha hb => by
    by_cases z : j = i
    · by_cases y : k = i
      · rw [z, y]
      · rw [z, ftPut_self] at ha
        rw [ftPut_ne y] at hb
        exact absurd hb (hF a ha k y)
    · rw [ftPut_ne z] at ha
      by_cases y : k = i
      · rw [y, ftPut_self] at hb
        exact absurd ha (hF a hb j z)
      · rw [ftPut_ne y] at hb
        exact S.disj j k a ha hb
theorem free_not {i : Nat} (h : freeAt G i = true) : i < G.length ∧ (∀ o, G[i]? ≠ some (.x o)) ∧ ∀ o, G[i]? ≠ some (.k o) := by
  unfold freeAt at h
  split at h
  · rename_i e; exact ⟨(List.getElem?_eq_some_iff.mp e).1, fun o z => (by rw [e] at z; cases z), fun o z => (by rw [e] at z; cases z)⟩
  · rename_i e; exact ⟨(List.getElem?_eq_some_iff.mp e).1, fun o z => (by rw [e] at z; cases z), fun o z => (by rw [e] at z; cases z)⟩
  · rename_i e; exact ⟨(List.getElem?_eq_some_iff.mp e).1, fun o z => (by rw [e] at z; cases z), fun o z => (by rw [e] at z; cases z)⟩
  · cases h
theorem Stp.setG (P : Stp σ0 G0 H0 M0 ft0 σ G H M ft) {i : Nat} {s : Sl} {v : V} {F : List Addr} (hi : freeAt G i = true) (hF : ∀ a ∈ F, (∃ j, a ∈ ft0 j) ∨ H0 a = none) : Stp σ0 G0 H0 M0 ft0 (σ.set i (some v)) (G.set i s) H M (ftPut ft i F) := by
  obtain ⟨h1, h2, h3⟩ := free_not hi
  refine ⟨P.mono, P.new, P.frame, P.tbls, P.tab, P.there, fun j a ha => ?_, P.tups, by rw [List.length_set]; exact P.len, fun j o e => ?_, fun j o e => ?_⟩
  · by_cases z : j = i
    · rw [z, ftPut_self] at ha; exact hF a ha
    · rw [ftPut_ne z] at ha; exact P.own j a ha
  · obtain ⟨q1, q2, o', q3⟩ := P.kx j o e
    have ne : j ≠ i := fun z => h2 o' (by rw [← z]; exact q3)
    exact ⟨by rw [List.getElem?_set_ne (Ne.symm ne)]; exact q1, by rw [ftPut_ne ne]; exact q2, o', by rw [List.getElem?_set_ne (Ne.symm ne)]; exact q3⟩
  · obtain ⟨q1, q2, q3⟩ := P.kk j o e
    have ne : j ≠ i := fun z => h3 o (by rw [← z]; exact q3)
    exact ⟨by rw [List.getElem?_set_ne (Ne.symm ne)]; exact q1, by rw [ftPut_ne ne]; exact q2, by rw [List.getElem?_set_ne (Ne.symm ne)]; exact q3⟩
end
/-- a slot gives its object away -/
def dropSl (G : Gm) (j : Nat) : Gm := G.set j .no
def setSl (G : Gm) (i : Nat) (r : Rv) : Option Gm := if freeAt G i then match r with
    | .d x => some (G.set i (.d x))
    | .new o => some (G.set i (.l o))
    | .own j => match G[j]? with
      | some (.l o) => if j = i then some G else some ((G.set j .no).set i (.l o))
      | _ => none
  else none
section
variable {K : PySem.W.Frag} {XR : XRt} {E : XK} {σ σ0 : L2.St} {G G0 : Gm} {H M H0 M0 : Hp} {ft ft0 : Nat → List Addr}
/-- forgetting a slot -/
theorem SI.drop (S : SI K σ H M G ft) (j : Nat) : SI K σ H M (G.set j .no) (ftDrop ft j) where
  len := by rw [List.length_set]; exact S.len
  sub := S.sub
  tab := S.tab
  slot := fun k t e => by
    by_cases z : k = j
    · subst z
      by_cases y : k < G.length
      · rw [List.getElem?_set_self y] at e; cases e
        show ftDrop ft k k = []
        unfold ftDrop; rw [if_pos rfl]
      · rw [List.getElem?_eq_none (by rw [List.length_set]; omega)] at e; cases e
    · rw [List.getElem?_set_ne (Ne.symm z)] at e
      have ej : ftDrop ft j k = ft k := by unfold ftDrop; rw [if_neg z]
      rw [ej]; exact S.slot k t e
  out := fun k hk => by
    rw [List.length_set] at hk
    unfold ftDrop
    split
    · rfl
    · exact S.out k hk
  disj := fun a b x ha hb => S.disj a b x (ftDrop_sub ha) (ftDrop_sub hb)
theorem Stp.drop (P : Stp σ0 G0 H0 M0 ft0 σ G H M ft) {j : Nat} (h : freeAt G j = true) : Stp σ0 G0 H0 M0 ft0 σ (G.set j .no) H M (ftDrop ft j) := by
  obtain ⟨h1, h2, h3⟩ := free_not h
  refine ⟨P.mono, P.new, P.frame, P.tbls, P.tab, P.there, fun k a ha => P.own k a (ftDrop_sub ha), P.tups, by rw [List.length_set]; exact P.len, fun k o e => ?_, fun k o e => ?_⟩
  · obtain ⟨q1, q2, o', q3⟩ := P.kx k o e
    have ne : k ≠ j := fun z => h2 o' (by rw [← z]; exact q3)
    exact ⟨q1, by unfold ftDrop; rw [if_neg ne]; exact q2, o', by rw [List.getElem?_set_ne (Ne.symm ne)]; exact q3⟩
  · obtain ⟨q1, q2, q3⟩ := P.kk k o e
    have ne : k ≠ j := fun z => h3 o (by rw [← z]; exact q3)
    exact ⟨q1, by unfold ftDrop; rw [if_neg ne]; exact q2, by rw [List.getElem?_set_ne (Ne.symm ne)]; exact q3⟩
/-- a store of an answer -/
theorem setSl_ok (S : SI K σ H M G ft) (P : Stp σ0 G0 H0 M0 ft0 σ G H M ft) {i : Nat} {r : Rv} {v : V} {G' : Gm} {Hb : Hp} (hb : ∀ a, Hb a = none → H0 a = none) (h : setSl G i r = some G') (R : RvOk K σ Hb H M ft r v) :
    ∃ ft', SI K (σ.set i (some v)) H M G' ft' ∧ Stp σ0 G0 H0 M0 ft0 (σ.set i (some v)) G' H M ft' ∧ ∀ j a, a ∈ ft' j → (∃ k, a ∈ ft k) ∨ ∃ o p F, r = .new o ∧ v = .ref p ∧ AoOk K H M o p F ∧ a ∈ F := by
  unfold setSl at h
  split at h
  · rename_i hf
    obtain ⟨hi, hx, hk⟩ := free_not hf
    have hiσ : i < σ.length := by rw [S.len]; exact hi
    cases r with
    | d x =>
      cases h
      refine ⟨_, S.setG (F := []) hi ⟨rfl, v, List.getElem?_set_self hiσ, R⟩ (fun a z => by cases z), P.setG hf (fun a z => by cases z), fun j a ha => ?_⟩
      by_cases z : j = i
      · rw [z, ftPut_self] at ha; cases ha
      · rw [ftPut_ne z] at ha; exact .inl ⟨j, ha⟩
    | new o =>
      cases h
      obtain ⟨p, F, rfl, g, k⟩ := R
      refine ⟨_, S.setG (F := F) hi ⟨p, List.getElem?_set_self hiσ, g, fun a ha => (k a ha).1⟩ (fun a ha j _ => (k a ha).2.2 j), P.setG hf (fun a ha => .inr (hb a (k a ha).2.1)), fun j a ha => ?_⟩
      by_cases z : j = i
      · rw [z, ftPut_self] at ha; exact .inr ⟨o, p, F, rfl, rfl, g, ha⟩
      · rw [ftPut_ne z] at ha; exact .inl ⟨j, ha⟩
    | own j =>
      have h' : (match G[j]? with | some (.l o) => if j = i then some G else some ((G.set j .no).set i (.l o)) | _ => none) = some G' := h
      split at h'
      · rename_i o e
        obtain ⟨p, hp, g, hm⟩ := S.slot j _ e
        have hv : σ[j]? = some (some v) := R
        rw [hp] at hv; cases hv
        split at h'
        · rename_i z
          cases h'
          subst z
          have es : σ.set j (some (.ref p)) = σ := by
            apply List.ext_getElem?
            intro k
            by_cases y : j = k
            · subst y; rw [List.getElem?_set_self hiσ]; exact hp.symm
            · rw [List.getElem?_set_ne y]
          rw [es]
          exact ⟨ft, S, P, fun k a ha => .inl ⟨k, ha⟩⟩
        · rename_i z
          cases h'
          have S1 := S.drop j
          have fj : freeAt G j = true := by unfold freeAt; rw [e]
          have P1 := P.drop fj
          have fi : freeAt (G.set j .no) i = true := by
            unfold freeAt at hf ⊢
            rw [List.getElem?_set_ne z]
            exact hf
          have hi' : i < (G.set j .no).length := by rw [List.length_set]; exact hi
          refine ⟨_, S1.setG (F := ft j) (s := .l o) hi' ⟨p, List.getElem?_set_self hiσ, g, hm⟩ (fun a ha k hk2 hb2 => ?_), P1.setG fi (fun a ha => P.own j a ha), fun k a ha => ?_⟩
          · by_cases y : k = j
            · subst y; unfold ftDrop at hb2; rw [if_pos rfl] at hb2; cases hb2
            · exact y (S.disj k j a (ftDrop_sub hb2) ha)
          · by_cases y : k = i
            · rw [y, ftPut_self] at ha; exact .inl ⟨j, ha⟩
            · rw [ftPut_ne y] at ha; exact .inl ⟨k, ftDrop_sub ha⟩
      · cases h'
  · cases h
end
/-! ### statements -/
inductive Out where
  | nx
  | rt (r : Rv)
  | bk
  | ct
section
variable (K : PySem.W.Frag) (XR : XRt) (E : XK)
def OutQ (D : Ends) (H₀ : Hp) (σ' : L2.St) (H' M' : Hp) (ft' : Nat → List Addr) : Out → Prop
  | .nx => D.nx σ' H'
  | .bk => D.bk σ' H'
  | .ct => D.ct σ' H'
  | .rt r => ∀ v, RvOk K σ' H₀ H' M' ft' r v → D.rt v H'
def WS (σ : L2.St) (G : Gm) (H M : Hp) (ft : Nat → List Addr) (res : Res Out) (D : Ends) : Prop := match res with
  | .ok o G' => ∀ σ' H' M' ft', SI K σ' H' M' G' ft' → Stp σ G H M ft σ' G' H' M' ft' → OutQ K D H σ' H' M' ft' o
  | .ex e => ∀ cls d H', XR e cls d H' → Frm H ft H' → E cls d H'
  | .bad => False
def tFS (f : Gm → Res Out) : TS := fun D σ H => ∃ M G ft, SI K σ H M G ft ∧ WS K XR E σ G H M ft (f G) D
end
section
variable {K : PySem.W.Frag} {XR : XRt} {E : XK} {σ σ0 : L2.St} {G G0 : Gm} {H M H0 M0 : Hp} {ft ft0 : Nat → List Addr}
theorem OutQ.base {D : Ends} {H₀ H₁ : Hp} {σ' : L2.St} {H' M' : Hp} {ft' : Nat → List Addr} {o : Out} (h : OutQ K D H₀ σ' H' M' ft' o) (k : ∀ a, H₁ a = none → H₀ a = none) : OutQ K D H₁ σ' H' M' ft' o := by
  cases o with
  | nx => exact h
  | bk => exact h
  | ct => exact h
  | rt r => exact fun v R => h v (R.base k)
theorem WS.rebase {res : Res Out} {D : Ends} (P : Stp σ0 G0 H0 M0 ft0 σ G H M ft) (h : WS K XR E σ0 G0 H0 M0 ft0 res D) : WS K XR E σ G H M ft res D := by
  cases res with
  | ok o G' => exact fun σ' H' M' ft' S Q => (h σ' H' M' ft' S (P.trans Q)).base fun a z => P.nn z
  | ex e => exact fun cls d H' x f => h cls d H' x (Frm.trans P f)
  | bad => exact h
theorem restS {f : Gm → Res Out} {D : Ends} (S : SI K σ H M G ft) (P : Stp σ0 G0 H0 M0 ft0 σ G H M ft) (w : WS K XR E σ0 G0 H0 M0 ft0 (f G) D) : tFS K XR E f D σ H := ⟨M, G, ft, S, w.rebase P⟩
theorem WS.next {D : Ends} (w : WS K XR E σ0 G0 H0 M0 ft0 (.ok .nx G) D) (S : SI K σ H M G ft) (P : Stp σ0 G0 H0 M0 ft0 σ G H M ft) : D.nx σ H := w σ H M ft S P
/-- an expression in a statement -/
theorem bindES {f : Gm → Res Rv} {k : Rv → Gm → Res Out} {D : Ends} {Q1 : VK} (S : SI K σ H M G ft) (P : Stp σ0 G0 H0 M0 ft0 σ G H M ft) (h : WS K XR E σ0 G0 H0 M0 ft0 ((f G).bind k) D)
    (go : ∀ r G1 v H1 M1 ft1, f G = .ok r G1 → SI K σ H1 M1 G1 ft1 → Stp σ G H M ft σ G1 H1 M1 ft1 → RvOk K σ H H1 M1 ft1 r v → WS K XR E σ0 G0 H0 M0 ft0 (k r G1) D → Q1 v H1) : tFE K XR E f σ H Q1 := by
  refine ⟨M, G, ft, S, ?_⟩
  cases e : f G with
  | ok r G1 => rw [e] at h; exact fun v H1 M1 ft1 S1 p R => go r G1 v H1 M1 ft1 e S1 p R h
  | ex x => rw [e] at h; exact fun cls d H' y fr => h cls d H' y (Frm.trans P fr)
  | bad => rw [e] at h; exact h
theorem bindTS {f : Gm → Res Bool} {k : Bool → Gm → Res Out} {D : Ends} {Q1 : Bool → Hp → Prop} (S : SI K σ H M G ft) (P : Stp σ0 G0 H0 M0 ft0 σ G H M ft) (h : WS K XR E σ0 G0 H0 M0 ft0 ((f G).bind k) D)
    (go : ∀ r G1 H1 M1 ft1, f G = .ok r G1 → SI K σ H1 M1 G1 ft1 → Stp σ G H M ft σ G1 H1 M1 ft1 → WS K XR E σ0 G0 H0 M0 ft0 (k r G1) D → Q1 r H1) : tFT K XR E f σ H Q1 := by
  refine ⟨M, G, ft, S, ?_⟩
  cases e : f G with
  | ok r G1 => rw [e] at h; exact fun v H1 M1 ft1 S1 p R => by cases R; exact go r G1 H1 M1 ft1 e S1 p h
  | ex x => rw [e] at h; exact fun cls d H' y fr => h cls d H' y (Frm.trans P fr)
  | bad => rw [e] at h; exact h
theorem bindAS {f : Gm → Res (List Rv)} {k : List Rv → Gm → Res Out} {D : Ends} {Q1 : List V → Hp → Prop} (S : SI K σ H M G ft) (P : Stp σ0 G0 H0 M0 ft0 σ G H M ft) (h : WS K XR E σ0 G0 H0 M0 ft0 ((f G).bind k) D)
    (go : ∀ r G1 v H1 M1 ft1, f G = .ok r G1 → SI K σ H1 M1 G1 ft1 → Stp σ G H M ft σ G1 H1 M1 ft1 → RvsOk K σ H1 M1 ft1 H r v → WS K XR E σ0 G0 H0 M0 ft0 (k r G1) D → Q1 v H1) : tFA K XR E f σ H Q1 := by
  refine ⟨M, G, ft, S, ?_⟩
  cases e : f G with
  | ok r G1 => rw [e] at h; exact fun v H1 M1 ft1 S1 p R => go r G1 v H1 M1 ft1 e S1 p R h
  | ex x => rw [e] at h; exact fun cls d H' y fr => h cls d H' y (Frm.trans P fr)
  | bad => rw [e] at h; exact h
end
def sNx : Gm → Res Out := fun G => .ok .nx G
def sSeq (f g : Gm → Res Out) : Gm → Res Out := fun G => match f G with
  | .ok .nx G1 => g G1
  | .ok (.rt r) G1 => .ok (.rt r) G1
  | .ok .bk G1 => .ok .bk G1
  | .ok .ct G1 => .ok .ct G1
  | .ex e => .ex e
  | .bad => .bad
def sExpr (f : Gm → Res Rv) : Gm → Res Out := fun G => (f G).bind fun _ G1 => .ok .nx G1
def sRet (f : Gm → Res Rv) : Gm → Res Out := fun G => (f G).bind fun r G1 => .ok (.rt r) G1
def sBk : Gm → Res Out := fun G => .ok .bk G
def sCt : Gm → Res Out := fun G => .ok .ct G
def sIf (t : Gm → Res Bool) (f g : Gm → Res Out) : Gm → Res Out := fun G => (t G).bind fun t G1 => if t then f G1 else g G1
def stor (G : Gm) (i : Nat) (r : Rv) : Res Out := match setSl G i r with
  | some G' => .ok .nx G'
  | none => .bad
def sSet (i : Nat) (f : Gm → Res Rv) : Gm → Res Out := fun G => (f G).bind fun r G1 => stor G1 i r
def intAt (G : Gm) (i : Nat) : Option Int := match G[i]? with
  | some (.d (.int a)) => some a
  | _ => none
def sAug (k : Int → Int → Int) (i : Nat) (f : Gm → Res Rv) : Gm → Res Out := fun G => match intAt G i with
  | some a => (f G).bind fun r G1 => match rd G1 r with
    | some (.int b) => stor G1 i (.d (.int (k a b)))
    | _ => .bad
  | none => .bad
def sRaise (e : Exn) : Gm → Res Out := fun _ => .ex e
section
variable {X : Cx} {XR : XRt} {E : XK} {st : Stmt} {rest a b : List Stmt} {e c : Expr} {f g : Gm → Res Out} {fe : Gm → Res Rv} {t : Gm → Res Bool} {pos : Pos}
theorem fs_nil : PSs X [] (tFS X.K XR E sNx) := PSs.le pss_nil fun D σ H ⟨M, G, ft, S, w⟩ => w.next S .refl
theorem seq_le : ∀ D σ H, tFS X.K XR E (sSeq f g) D σ H → tSeq (tFS X.K XR E f) (tFS X.K XR E g) D σ H := fun D σ H ⟨M, G, ft, S, w⟩ => by
  refine ⟨M, G, ft, S, ?_⟩
  unfold sSeq at w
  cases e : f G with
  | ok o G1 =>
    rw [e] at w
    cases o with
    | nx => exact fun σ' H' M' ft' S' P' => restS S' P' w
    | rt r => exact w
    | bk => exact w
    | ct => exact w
  | ex x => rw [e] at w; exact w
  | bad => rw [e] at w; exact w
theorem fs_cons (h1 : PS X st (tFS X.K XR E f)) (h2 : PSs X rest (tFS X.K XR E g)) : PSs X (st :: rest) (tFS X.K XR E (sSeq f g)) := PSs.le (pss_cons h1 h2) seq_le
theorem fs_one (h1 : PS X st (tFS X.K XR E f)) : PSs X [st] (tFS X.K XR E f) := pss_one h1
theorem fs_pass : PS X (.Pass pos) (tFS X.K XR E sNx) := PS.le ps_pass fun D σ H ⟨M, G, ft, S, w⟩ => w.next S .refl
theorem fs_break : PS X (.Break pos) (tFS X.K XR E sBk) := PS.le ps_break fun D σ H ⟨M, G, ft, S, w⟩ => w σ H M ft S .refl
theorem fs_continue : PS X (.Continue pos) (tFS X.K XR E sCt) := PS.le ps_continue fun D σ H ⟨M, G, ft, S, w⟩ => w σ H M ft S .refl
theorem fs_expr (he : PE X e (tFE X.K XR E fe)) (hs : swapsWith e none pos.line X.env = pure false := by rfl) : PS X (.Expr e pos) (tFS X.K XR E (sExpr fe)) := PS.le (ps_expr he hs) fun D σ H ⟨M, G, ft, S, w⟩ =>
  bindES S .refl w fun r G1 v H1 M1 ft1 _ S1 P1 R1 w1 => w1.next S1 P1
theorem fs_ret (he : PE X e (tFE X.K XR E fe)) : PS X (.Return (some e) pos) (tFS X.K XR E (sRet fe)) := PS.le (ps_ret he) fun D σ H ⟨M, G, ft, S, w⟩ =>
  bindES S .refl w fun r G1 v H1 M1 ft1 _ S1 P1 R1 w1 => w1 σ H1 M1 ft1 S1 P1 v R1
theorem fs_if (hc : PT X c (tFT X.K XR E t)) (ha : PSs X a (tFS X.K XR E f)) (hb : PSs X b (tFS X.K XR E g)) : PS X (.If c a b pos) (tFS X.K XR E (sIf t f g)) := PS.le (ps_if hc ha hb) fun D σ H ⟨M, G, ft, S, w⟩ =>
  bindTS S .refl w fun t G1 H1 M1 ft1 _ S1 P1 w1 => by
    cases t with
    | true => exact restS S1 P1 w1
    | false => exact restS S1 P1 w1
theorem stor_ok {K : PySem.W.Frag} {σ σ0 : L2.St} {G G0 : Gm} {H M H0 M0 Hb : Hp} {ft ft0 : Nat → List Addr} {i : Nat} {r : Rv} {v : V} {D : Ends} (S : SI K σ H M G ft) (P : Stp σ0 G0 H0 M0 ft0 σ G H M ft) (hb : ∀ a, Hb a = none → H0 a = none) (R : RvOk K σ Hb H M ft r v) (w : WS K XR E σ0 G0 H0 M0 ft0 (stor G i r) D) : D.nx (σ.set i (some v)) H := by
  unfold stor at w
  split at w
  · rename_i G' e
    obtain ⟨ft', S', P', _⟩ := setSl_ok S P hb e R
    exact w.next S' P'
  · exact w.elim
theorem fs_set {i : Nat} {x : Str} {pos' : Pos} (hN : X.N.Nodup) (hi : X.N[i]? = some x) (hx : Loc X.env.scope x) (he : PE X e (tFE X.K XR E fe)) (hs : swapsWith e (some (.Name x pos')) pos.line X.env = pure false := by rfl) (hf : X.fn x = true ∨ X.env.scope.names.lookup x = some .local := by first | exact .inl rfl | exact .inr rfl | assumption) :
    PS X (.Assign [.Name x pos'] e pos) (tFS X.K XR E (sSet i fe)) := PS.le (ps_set hN hi hx he hs hf) fun D σ H ⟨M, G, ft, S, w⟩ =>
  bindES S .refl w fun r G1 v H1 M1 ft1 _ S1 P1 R1 w1 => stor_ok S1 P1 (fun a z => z) R1 w1
theorem intAt_ok {K : PySem.W.Frag} {σ : L2.St} {G : Gm} {H M : Hp} {ft : Nat → List Addr} {i : Nat} {a : Int} (S : SI K σ H M G ft) (h : intAt G i = some a) : σ[i]? = some (some (.int a)) := by
  unfold intAt at h
  split at h
  · rename_i b e
    cases h
    obtain ⟨_, v, h1, h2⟩ := S.slot i _ e
    cases h2
    exact h1
  · cases h
theorem fs_aug {i : Nat} {x : Str} {op : Operator} {k : Int → Int → Int} {pos' : Pos} (hN : X.N.Nodup) (hi : X.N[i]? = some x) (hx : Loc X.env.scope x) (he : PE X e (tFE X.K XR E fe)) (ho : PIp X op (ipI k)) (hf : X.fn x = true ∨ X.env.scope.names.lookup x = some .local := by first | exact .inl rfl | exact .inr rfl | assumption) :
    PS X (.AugAssign (.Name x pos') op e pos) (tFS X.K XR E (sAug k i fe)) := PS.le (ps_aug hN hi hx he ho hf) fun D σ H ⟨M, G, ft, S, w⟩ => by
  unfold sAug at w
  split at w
  · rename_i a ea
    refine ⟨.int a, intAt_ok S ea, bindES S .refl w fun r G1 v H1 M1 ft1 _ S1 P1 R1 w1 => ?_⟩
    split at w1
    · rename_i b eb
      cases rd_int S1 eb R1
      exact ⟨a, b, rfl, rfl, stor_ok (Hb := H) (r := .d (.int (k a b))) (v := .int (k a b)) S1 P1 (fun a z => z) (Dd.int _) w1⟩
    · exact w1.elim
  · exact w.elim
theorem fs_raise {C : Addr} {ex : Exn} {t : L2.St → Hp → XK → Prop} (h : PS X st (fun _ σ H => t σ H fun cls d H' => E cls d H')) (ht : ∀ σ H Q, Q (.ref C) none H → t σ H Q) (hx : ∀ H, XR ex (.ref C) none H) : PS X st (tFS X.K XR E (sRaise ex)) := PS.le h fun D σ H ⟨M, G, ft, S, w⟩ =>
  ht σ H _ (w (.ref C) none H (hx H) ⟨fun a o z _ _ => z, fun a o z => ⟨o, z⟩, fun _ t => t, fun a ps z => ⟨ps, z⟩⟩)
end
end Fx
/-! FxH: defs as a whole; calls that change the first argument -/
namespace Fx
open PySem PySem.Spec
open PyProof.Rows L2
def argSl : Sl → Bool
  | .d _ => true
  | .x _ => true
  | _ => false
def outArg (a : Sl) (g : Sl) : Sl := match a with
  | .x _ => g
  | a => a
def outArgs (As G : Gm) : Gm := List.zipWith outArg As G
def fixR (G : Gm) : Rv → Option Rv
  | .d x => some (.d x)
  | .new o => some (.new o)
  | .own i => match G[i]? with
    | some (.l o) => some (.new o)
    | _ => none
def endDef (As : Gm) : Res Out → Res Rv
  | .ok .nx G => .ok (.d .none) (outArgs As G)
  | .ok (.rt r) G => match fixR G r with
    | some r' => .ok r' (outArgs As G)
    | none => .bad
  | .ex e => .ex e
  | _ => .bad
/-- a def: n parameters, m other names -/
def runDef (n m : Nat) (f : Gm → Res Out) : Gm → Res Rv := fun As => if decide (As.length = n) && As.all argSl then endDef As (f (As ++ List.replicate m .no)) else .bad
section
variable {K : PySem.W.Frag} {XR : XRt} {E : XK}
theorem zip_at {As G : Gm} {i : Nat} {a g : Sl} (h1 : As[i]? = some a) (h2 : G[i]? = some g) : (outArgs As G)[i]? = some (outArg a g) := by
  unfold outArgs
  rw [List.getElem?_zipWith, h1, h2]
theorem si_start {vs : List V} {H M : Hp} {As : Gm} {ft : Nat → List Addr} (S : SI K (vs.map some) H M As ft) (m : Nat) : SI K (vs.map some ++ List.replicate m none) H M (As ++ List.replicate m .no) ft where
  len := by rw [List.length_append, List.length_append, S.len, List.length_replicate, List.length_replicate]
  sub := S.sub
  tab := S.tab
  slot := fun i s e => by
    by_cases h : i < As.length
    · rw [List.getElem?_append_left h] at e
      have hv : i < (vs.map some : L2.St).length := by rw [S.len]; exact h
      have q := S.slot i s e
      have es : (vs.map some ++ List.replicate m none : L2.St)[i]? = (vs.map some : L2.St)[i]? := List.getElem?_append_left hv
      cases s with
      | no => exact q
      | d x => obtain ⟨q1, u, q2, q3⟩ := q; exact ⟨q1, u, es.trans q2, q3⟩
      | l o => obtain ⟨p, q2, q3⟩ := q; exact ⟨p, es.trans q2, q3⟩
      | x o => obtain ⟨p, q2, q3⟩ := q; exact ⟨p, es.trans q2, q3⟩
      | k o => obtain ⟨p, q2, q3⟩ := q; exact ⟨p, es.trans q2, q3⟩
    · rw [List.getElem?_append_right (by omega), List.getElem?_replicate] at e
      split at e
      · cases e; exact S.out i (by omega)
      · cases e
  out := fun i hi => S.out i (by rw [List.length_append] at hi; omega)
  disj := S.disj
theorem stp_start {vs : List V} {H M H' M' : Hp} {As G' : Gm} {ft ft' : Nat → List Addr} {m : Nat} {σ' : L2.St} (h : As.length = vs.length) (P : Stp (vs.map some ++ List.replicate m none) (As ++ List.replicate m .no) H M ft σ' G' H' M' ft') :
    ∀ i o, As[i]? = some (.x o) → σ'[i]? = (vs.map some : L2.St)[i]? ∧ ft' i = ft i ∧ ∃ o', G'[i]? = some (.x o') := fun i o e => by
  have hi := (List.getElem?_eq_some_iff.mp e).1
  obtain ⟨q1, q2, q3⟩ := P.kx i o (by rw [List.getElem?_append_left hi]; exact e)
  exact ⟨q1.trans (List.getElem?_append_left (by rw [List.length_map]; omega)), q2, q3⟩
/-- behind a def's body: what its caller sees -/
theorem def_end {vs : List V} {H M : Hp} {As : Gm} {ft : Nat → List Addr} {m : Nat} {f : Gm → Res Out} {Q : VK} (S : SI K (vs.map some) H M As ft) (hA : As.all argSl = true) (w : WP K XR E (ROv K (vs.map some)) (vs.map some) As H M ft (endDef As (f (As ++ List.replicate m .no))) Q) :
    tFS K XR E f { nx := fun _ H' => Q .non H', rt := Q } (vs.map some ++ List.replicate m none) H := by
  have hl : As.length = vs.length := by have := S.len; rw [List.length_map] at this; exact this.symm
  refine ⟨M, As ++ List.replicate m .no, ft, si_start S m, ?_⟩
  have fin : ∀ (r' : Rv) (G' : Gm) (σ' : L2.St) (H' M' : Hp) (ft' : Nat → List Addr) (v : V), SI K σ' H' M' G' ft' → Stp (vs.map some ++ List.replicate m none) (As ++ List.replicate m .no) H M ft σ' G' H' M' ft' → WP K XR E (ROv K (vs.map some)) (vs.map some) As H M ft (.ok r' (outArgs As G')) Q →
      (∀ ftA, (∀ i a, a ∈ ftA i → (∃ o, As[i]? = some (.x o)) ∧ a ∈ ft' i) → RvOk K (vs.map some) H H' M' ftA r' v) → Q v H' := by
    intro r' G' σ' H' M' ft' v S' P' w R
    have hx := stp_start (m := m) hl P'
    have lenG : G'.length = As.length + m := by rw [P'.len, List.length_append, List.length_replicate]
    obtain ⟨isX, hisX⟩ : ∃ isX : Sl → Bool, ∀ s, isX s = true ↔ ∃ o, s = .x o := ⟨fun s => match s with | .x _ => true | _ => false, fun s => by cases s <;> simp⟩
    have slA : ∀ (i : Nat) (s : Sl), As[i]? = some s → (∃ x, s = Sl.d x) ∨ ∃ o, s = Sl.x o := fun i s e => by
      have := List.all_eq_true.mp hA s (List.mem_of_getElem? e)
      cases s with
      | d x => exact .inl ⟨x, rfl⟩
      | x o => exact .inr ⟨o, rfl⟩
      | no => cases this
      | l o => cases this
      | k o => cases this
    obtain ⟨ftA, hftA⟩ : ∃ ftA : Nat → List Addr, ∀ i, ftA i = if (As[i]?.map isX) = some true then ft' i else [] := ⟨_, fun _ => rfl⟩
    have memA : ∀ i a, a ∈ ftA i → (∃ o, As[i]? = some (.x o)) ∧ a ∈ ft' i := fun i a ha => by
      rw [hftA] at ha
      split at ha
      · rename_i c
        cases e : As[i]? with
        | none => rw [e] at c; cases c
        | some s =>
          rw [e] at c
          obtain ⟨o, rfl⟩ := (hisX s).mp (Option.some.inj c)
          exact ⟨⟨o, rfl⟩, ha⟩
      · cases ha
    refine w v H' M' ftA ?_ ?_ (R ftA memA)
    · refine ⟨?_, S'.sub, fun i s e => ?_, S'.tab, fun i hi => ?_, fun i j a ha hb => S'.disj i j a (memA i a ha).2 (memA j a hb).2⟩
      · unfold outArgs
        rw [List.length_map, List.length_zipWith, lenG]; omega
      · have hi : i < As.length := by
          have := (List.getElem?_eq_some_iff.mp e).1
          unfold outArgs at this
          rw [List.length_zipWith] at this; omega
        have e1 := List.getElem?_eq_getElem hi
        have hg : i < G'.length := by omega
        have e2 := List.getElem?_eq_getElem hg
        rw [zip_at e1 e2] at e
        rcases slA i _ e1 with ⟨x, q⟩ | ⟨o, q⟩
        · rw [q] at e e1
          cases e
          obtain ⟨q1, u, q2, q3⟩ := S.slot i _ e1
          refine ⟨?_, u, q2, q3.mono P'.mono⟩
          rw [hftA, e1]
          exact if_neg (fun z => by
            have := (hisX (.d x)).mp (Option.some.inj z)
            obtain ⟨_, y⟩ := this; cases y)
        · rw [q] at e e1
          obtain ⟨q1, q2, o', q3⟩ := hx i o e1
          rw [e2] at q3
          have q3' : G'[i] = .x o' := Option.some.inj q3
          rw [q3'] at e
          cases e
          rw [q3'] at e2
          obtain ⟨p, r1, r2, r3⟩ := S'.slot i _ e2
          have ef : ftA i = ft' i := by
            rw [hftA, e1]
            exact if_pos (by show some (isX (.x o)) = some true; rw [(hisX _).mpr ⟨o, rfl⟩])
          rw [ef]
          exact ⟨p, q1 ▸ r1, r2, r3⟩
      · unfold outArgs at hi
        rw [List.length_zipWith, lenG] at hi
        rw [hftA, List.getElem?_eq_none (by omega)]
        rfl
    · refine ⟨P'.mono, P'.new, P'.frame, P'.tbls, P'.tab, P'.there, fun i a ha => P'.own i a (memA i a ha).2, P'.tups, ?_, fun i o e => ?_, fun i o e => ?_⟩
      · unfold outArgs
        rw [List.length_zipWith, lenG]; omega
      · obtain ⟨q1, q2, o', q3⟩ := hx i o e
        refine ⟨rfl, ?_, o', zip_at e q3⟩
        rw [hftA, e, if_pos (by show some (isX (.x o)) = some true; rw [(hisX _).mpr ⟨o, rfl⟩])]
        exact q2
      · rcases slA i _ e with ⟨x, q⟩ | ⟨o', q⟩
        · cases q
        · cases q
  cases ef : f (As ++ List.replicate m .no) with
  | ok o G' =>
    rw [ef] at w
    cases o with
    | nx => exact fun σ' H' M' ft' S' P' => fin _ G' σ' H' M' ft' .non S' P' w fun ftA hA2 => Dd.non
    | rt r =>
      intro σ' H' M' ft' S' P' v R
      have w' : WP K XR E (ROv K (vs.map some)) (vs.map some) As H M ft (match fixR G' r with | some r' => .ok r' (outArgs As G') | none => .bad) Q := w
      split at w'
      · rename_i r' er
        refine fin r' G' σ' H' M' ft' v S' P' w' fun ftA hA2 => ?_
        cases r with
        | d x => cases er; exact R
        | new o =>
          cases er
          obtain ⟨p, F, q1, q2, q3⟩ := R
          exact ⟨p, F, q1, q2, fun a ha => ⟨(q3 a ha).1, (q3 a ha).2.1, fun i z => (q3 a ha).2.2 i (hA2 i a z).2⟩⟩
        | own i =>
          have er' : (match G'[i]? with | some (.l o) => some (Rv.new o) | _ => none) = some r' := er
          split at er'
          · rename_i o eo
            cases er'
            obtain ⟨p, q1, q2, q3⟩ := S'.slot i _ eo
            have hv : σ'[i]? = some (some v) := R
            rw [q1] at hv; cases hv
            have nox : ∀ j a, a ∈ ft' i → (∃ o, As[j]? = some (.x o)) → a ∈ ft' j → False := fun j a h1 ⟨o2, h2⟩ h3 => by
              have z := S'.disj i j a h1 h3
              subst z
              obtain ⟨_, _, o3, q⟩ := stp_start (m := m) hl P' i o2 h2
              rw [eo] at q; cases q
            refine ⟨p, ft' i, rfl, q2, fun a ha => ⟨q3 a ha, ?_, fun j z => nox j a ha (hA2 j a z).1 (hA2 j a z).2⟩⟩
            rcases P'.own i a ha with ⟨j, z⟩ | z
            · have hj := S.lt z
              have e1 := List.getElem?_eq_getElem hj
              have hs := S.slot j _ e1
              have := List.all_eq_true.mp hA _ (List.mem_of_getElem? e1)
              cases es : As[j] with
              | d x => rw [es] at hs; rw [hs.1] at z; cases z
              | x o2 =>
                rw [es] at e1
                obtain ⟨_, q4, _⟩ := stp_start (m := m) hl P' j o2 e1
                exact (nox j a ha ⟨o2, e1⟩ (by rw [q4]; exact z)).elim
              | no => rw [es] at this; cases this
              | l o2 => rw [es] at this; cases this
              | k o2 => rw [es] at this; cases this
            · exact z
          · cases er'
      · exact w'.elim
    | bk => exact w.elim
    | ct => exact w.elim
  | ex e => rw [ef] at w; exact w
  | bad => rw [ef] at w; exact w.elim
end
section
variable {P : Program} {w : World} {K : PySem.W.Frag} {mg : Str → Option Value} {base : Heap} {XR : XRt}
/-- a def keeps the promise of its function -/
theorem fn_mkX {x qual : Str} {st : Stmt} {f : Addr} {fd : FuncData} {N ps : List Str} {k n m : Nat} {fb : Gm → Res Out} (F : Fun K x qual st f fd) (S : FnScope N ps (defScope st)) (hn : ps.length = n) (hm : N.length = n + m)
    (hbody : ∀ (cdv : Value) (A : Around) (outer : List Env) (s : Shared) (H : Hp) (E : XK), Room k (A.deeper (envOfC qual (defScope st) s.heap.objs.size f cdv)) →
      PSs (cxOf (L2.CX P w) P w K mg base N qual (defScope st) f cdv A outer s H E) (defBody st) (tFS K XR E fb)) : FnOk P w K mg base (L2.CX P w) (k + 1) f fd ps (spF K XR (runDef n m fb)) := by
  have lenOf : ∀ vs H Q E, spF K XR (runDef n m fb) vs H Q E → vs.length = n ∧ ∃ M As ft, SI K (vs.map some) H M As ft ∧ As.all argSl = true ∧ WP K XR E (ROv K (vs.map some)) (vs.map some) As H M ft (endDef As (fb (As ++ List.replicate m .no))) Q := fun vs H Q E ⟨M, As, ft, S, h⟩ => by
    unfold runDef at h
    split at h
    · rename_i c
      simp only [Bool.and_eq_true, decide_eq_true_eq] at c
      have := S.len
      rw [List.length_map] at this
      exact ⟨this.trans c.1, M, As, ft, S, c.2, h⟩
    · exact h.elim
  refine F.okX S (fun vs H Q E h => by rw [hn]; exact (lenOf vs H Q E h).1) (fun cdv A outer s H vs Q E hr h => ?_)
  obtain ⟨hl, M, As, ft, S2, hA, h2⟩ := lenOf vs H Q E h
  refine ⟨_, hbody cdv A outer s H E hr, ?_⟩
  have es : L2.start N vs = vs.map some ++ List.replicate m none := by
    unfold L2.start
    rw [hm, hl, Nat.add_sub_cancel_left]
  rw [es]
  exact def_end S2 hA h2
end
/-! ### calls that change their first argument -/
def kCallM (F : Gm → Res Rv) (G : Gm) : List Rv → Res Rv
  | .own i :: rest => match mutAt G i, argsOf G rest with
    | some o, some (ds, false) => match F (.x o :: ds.map Sl.d) with
      | .ok (.d x) (.x o' :: _) => .ok (.d x) (setOwn G i o')
      | _ => .bad
    | _, _ => .bad
  | _ => .bad
section
variable {K : PySem.W.Frag} {XR : XRt} {E : XK}
theorem snd_callM {F : Gm → Res Rv} : SndL K XR E (fun vs H Q => spF K XR F vs H Q E) (kCallM F) := by
  intro σ H M H0 M0 G G0 ft ft0 rs vs Q S P R w
  unfold kCallM at w
  split at w
  · rename_i i rest
    split at w
    · rename_i o ds eo ea
      cases R with
      | @cons _ _ v _ vs H1 F0 h0 R1 hn t =>
      obtain ⟨ho, hi⟩ := mut_own eo
      obtain ⟨M1, S1, P1, s1, M', t1, t2, D, k1, k2⟩ := args_ok rest S P (fun a z => h0 a z) ea t
      have e' := k2 rfl
      subst e'
      have hσ : σ[i]? = some (some v) := R1.1
      obtain ⟨p, rfl, g1, g2⟩ := own_ok S1 ho hσ
      have SD := si_args ⟨S1.tab.1, nt_args S1 t1 t2 k1⟩ t2 D
      refine ⟨M', .x o :: ds.map Sl.d, fun j => if j = 0 then ft i else [], ?_, ?_⟩
      · refine ⟨?_, t2, fun j s e => ?_, ⟨S1.tab.1, nt_args S1 t1 t2 k1⟩, fun j hj => ?_, fun j k a ha hb => ?_⟩
        · rw [List.length_map, List.length_cons, List.length_cons, List.length_map, D.length]
        · cases j with
          | zero => cases e; exact ⟨p, rfl, g1, g2⟩
          | succ j => exact SD.slot j s (by simpa using e)
        · cases j with
          | zero => simp at hj
          | succ j => rfl
        · by_cases z : j = 0
          · by_cases y : k = 0
            · rw [z, y]
            · rw [if_neg y] at hb; cases hb
          · rw [if_neg z] at ha; cases ha
      · split at w
        · rename_i x o' r' ef
          rw [ef]
          intro v' H' M'' ft'' S'' Q'' R''
          obtain ⟨q1, q2, _⟩ := Q''.kx 0 o rfl
          obtain ⟨p', r1, r2, r3⟩ := S''.slot 0 (.x o') rfl
          have ep : p' = p := by
            have : (some (some (V.ref p)) : Option (Option V)) = some (some (V.ref p')) := r1
            cases this; rfl
          subst ep
          have q2' : ft'' 0 = ft i := q2
          rw [q2'] at r2 r3
          have noj : ∀ a, (∀ j, a ∉ (fun j => if j = 0 then ft i else []) j) ↔ a ∉ ft i := fun a => ⟨fun z => z 0, fun z j => by
            show a ∉ (if j = 0 then ft i else [])
            split
            · exact z
            · exact List.not_mem_nil⟩
          have hk : ∀ a u, H a = some u → (∀ ps, u ≠ .tbl ps) → a ∉ ft i → H' a = some u := fun a u e nt z => Q''.frame a u e nt ((noj a).mpr z)
          have newM : ∀ a u, M'' a = some u → M' a = some u ∨ H a = none ∨ a ∈ ft i ∨ isTup H a := fun a u e => by
            rcases Q''.new a u e with z | z | ⟨j, z⟩ | z
            · exact .inl z
            · exact .inr (.inl z)
            · by_cases y : j = 0
              · subst y; exact .inr (.inr (.inl z))
              · have z' : a ∈ (if j = 0 then ft i else []) := z
                rw [if_neg y] at z'; cases z'
            · exact .inr (.inr (.inr z))
          have hm : ∀ j a, a ∈ ft j → M'' a = none := fun j a ha => by
            by_cases y : a ∈ ft i
            · exact r3 a y
            · obtain ⟨q3, o2, q4, q5⟩ := S1.owned ha
              cases q6 : M'' a with
              | none => rfl
              | some u =>
                rcases newM a u q6 with z | z | z | ⟨xs, z⟩
                · rw [q3] at z; cases z
                · rw [q4] at z; cases z
                · exact absurd z y
                · rw [q4] at z; cases z; exact absurd rfl (q5 xs)
          have SF : SI K σ H' M'' (setOwn G i o') ft := S1.put eo hσ r2 S''.tab S''.sub Q''.mono (fun j a hj ha u e nt => hk a u e nt fun z => hj (S1.disj j i a ha z)) hm
          refine w v' H' M'' ft SF (P1.trans (Stp.put eo Q''.mono (fun a u e => ?_) (fun a u e nt z => hk a u e nt (z i)) Q''.tbls Q''.tab Q''.there Q''.tups)) R''
          rcases newM a u e with z | z | z | z
          · exact .inl z
          · exact .inr (.inl z)
          · exact .inr (.inr (.inl ⟨i, z⟩))
          · exact .inr (.inr (.inr z))
        · exact w.elim
    · exact w.elim
  · exact w.elim
end
section
variable {X : Cx} {XR : XRt} {E : XK} {e : Expr} {es : List Expr} {fs : Gm → Res (List Rv)} {pos p : Pos} {x : Str} {k : Nat} {f : Addr} {fd : FuncData} {ps : List Str} {F : Gm → Res Rv}
theorem fe_callM {CX : CXT} (Fk : FnOk X.prog X.w X.K X.mg X.base CX k f fd ps (spF X.K XR F)) (hr : Room k X.A) (hg : Gl X x) (hm : X.mg x = some (.ref f)) (hk : PySem.W.keepIn X.K (.ref f) = true) (hb : Binds X.K fd ps []) (hx : Passes CX X E) (ha : PA X (e :: es) (tFA X.K XR E fs))
    (hdb : (x == ("__debug__" : Str)) = false := by decide)
    (he : starEach (e :: es) X.env = (false, eval e X.env) :: starEach es X.env := by rfl) (hpl : (backTo pos (starEach es X.env)).any (·.1) = false := by rfl) :
    PE X (.Call (.Name x p) (e :: es) [] pos) (tFE X.K XR E (fCallK (kCallM F) fs)) :=
  PE.le (pe_call Fk hr hg hm hk hb .nil hx ha hdb he hpl) fun σ H Q ⟨M, G, ft, S, w⟩ =>
    bindAE S .refl w fun rs G1 vs H1 M1 ft1 e1 S1 P1 R1 w1 => by
      rw [List.append_nil]
      exact snd_callM σ H1 M1 H M G1 G ft1 ft rs vs Q S1 P1 R1 w1
end
end Fx
/-! FxI: what is walked, targets, for, while -/
namespace Fx
open PySem PySem.Spec
open PyProof.Rows L2
/-! ### locks -/
def lockS : Sl → Sl
  | .l o => .k o
  | .x o => .k o
  | s => s
def unlk (s0 s : Sl) : Sl := match s0, s with
  | .l _, .k o => .l o
  | .x _, .k o => .x o
  | _, s => s
def lockAll (G : Gm) (lk : List Nat) : Gm := G.mapIdx fun i s => if lk.contains i then lockS s else s
def unlockAll (G0 G : Gm) : Gm := List.zipWith unlk G0 G
/-- the same object in another frame of mind -/
theorem SlOk.alike {K : PySem.W.Frag} {σ : L2.St} {H M : Hp} {F : List Addr} {i : Nat} {s : Sl} (h : SlOk K σ H M F i s) : SlOk K σ H M F i (lockS s) ∧ ∀ s0, SlOk K σ H M F i (unlk s0 s) := by
  cases s with
  | no => exact ⟨h, fun s0 => by cases s0 <;> exact h⟩
  | d x => exact ⟨h, fun s0 => by cases s0 <;> exact h⟩
  | l o => exact ⟨h, fun s0 => by cases s0 <;> exact h⟩
  | x o => exact ⟨h, fun s0 => by cases s0 <;> exact h⟩
  | k o => exact ⟨h, fun s0 => by cases s0 <;> exact h⟩
section
variable {K : PySem.W.Frag} {XR : XRt} {E : XK} {σ σ0 σ' : L2.St} {G G0 G2 : Gm} {H M H0 M0 H2 M2 : Hp} {ft ft0 ft2 : Nat → List Addr}
theorem lock_at {lk : List Nat} {i : Nat} : (lockAll G lk)[i]? = (G[i]?).map fun s => if lk.contains i then lockS s else s := by
  unfold lockAll
  rw [List.getElem?_mapIdx]
theorem SI.lock (S : SI K σ H M G ft) (lk : List Nat) : SI K σ H M (lockAll G lk) ft where
  len := by unfold lockAll; rw [List.length_mapIdx]; exact S.len
  sub := S.sub
  tab := S.tab
  slot := fun i s e => by
    rw [lock_at] at e
    cases eg : G[i]? with
    | none => rw [eg] at e; cases e
    | some t =>
      rw [eg] at e
      have q := S.slot i t eg
      have e' : (if lk.contains i then lockS t else t) = s := Option.some.inj e
      rw [← e']
      split
      · exact q.alike.1
      · exact q
  out := fun i hi => S.out i (by unfold lockAll at hi; rw [List.length_mapIdx] at hi; exact hi)
  disj := S.disj
theorem unlock_ok {lk : List Nat} (S : SI K σ' H2 M2 G2 ft2) (P : Stp σ (lockAll G lk) H M ft σ' G2 H2 M2 ft2) : SI K σ' H2 M2 (unlockAll G G2) ft2 ∧ Stp σ G H M ft σ' (unlockAll G G2) H2 M2 ft2 := by
  have hl : G2.length = G.length := by rw [P.len]; unfold lockAll; rw [List.length_mapIdx]
  have at2 : ∀ i s t, G[i]? = some s → G2[i]? = some t → (unlockAll G G2)[i]? = some (unlk s t) := fun i s t h1 h2 => by
    unfold unlockAll
    rw [List.getElem?_zipWith, h1, h2]
  have lenU : (unlockAll G G2).length = G.length := by unfold unlockAll; rw [List.length_zipWith, hl, Nat.min_self]
  refine ⟨⟨by rw [lenU, ← hl]; exact S.len, S.sub, fun i s e => ?_, S.tab, fun i hi => S.out i (by rw [lenU] at hi; omega), S.disj⟩, P.mono, P.new, P.frame, P.tbls, P.tab, P.there, P.own, P.tups, lenU, fun i o e => ?_, fun i o e => ?_⟩
  · have hi : i < G.length := by have := (List.getElem?_eq_some_iff.mp e).1; omega
    have e1 := List.getElem?_eq_getElem hi
    have e2 := List.getElem?_eq_getElem (show i < G2.length by omega)
    rw [at2 i _ _ e1 e2] at e
    have e' := Option.some.inj e
    rw [← e']
    exact (S.slot i _ e2).alike.2 _
  · by_cases c : lk.contains i = true
    · have el : (lockAll G lk)[i]? = some (.k o) := by rw [lock_at, e]; show some (if lk.contains i then lockS (.x o) else .x o) = _; rw [if_pos c]; rfl
      obtain ⟨q1, q2, q3⟩ := P.kk i o el
      exact ⟨q1, q2, o, at2 i _ _ e q3⟩
    · have el : (lockAll G lk)[i]? = some (.x o) := by rw [lock_at, e]; show some (if lk.contains i then lockS (.x o) else .x o) = _; rw [if_neg c]
      obtain ⟨q1, q2, o', q3⟩ := P.kx i o el
      exact ⟨q1, q2, o', at2 i _ _ e q3⟩
  · have el : (lockAll G lk)[i]? = some (.k o) := by
      rw [lock_at, e]
      show some (if lk.contains i then lockS (.k o) else .k o) = _
      split <;> rfl
    obtain ⟨q1, q2, q3⟩ := P.kk i o el
    exact ⟨q1, q2, at2 i _ _ e q3⟩
end
/-! ### what is walked -/
section
variable (K : PySem.W.Frag) (XR : XRt) (E : XK)
/-- from this state on, whatever comes, J yields the items ds -/
def ItOk (σ : L2.St) (G : Gm) (H M : Hp) (ft : Nat → List Addr) (J : It) (ds : List PyData) : Prop :=
  ∀ σ' G' H' M' ft', SI K σ' H' M' G' ft' → Stp σ G H M ft σ' G' H' M' ft' → ∀ i : Nat, (∀ d, ds[i]? = some d → J.go i H' ∧ ∀ x H3, J.yld i H' x H3 → ∃ M3, SI K σ' H3 M3 G' ft' ∧ Stp σ' G' H' M' ft' σ' G' H3 M3 ft' ∧ Dd K M3 x d) ∧ (ds[i]? = none → J.stop i H')
abbrev Itv := List PyData × List Nat
def tFI (f : Gm → Res Itv) : TI := fun σ H R => ∃ M G ft, SI K σ H M G ft ∧ match f G with
  | .ok p G1 => ∀ J H' M' ft', SI K σ H' M' G1 ft' → Stp σ G H M ft σ G1 H' M' ft' → ItOk K σ (lockAll G1 p.2) H' M' ft' J p.1 → R J H'
  | .ex e => ∀ cls d H', XR e cls d H' → Frm H ft H' → E cls d H'
  | .bad => False
end
theorem PI.le {X : Cx} {tg iter : Expr} {t t' : TI} (h : PI X tg iter t) (w : ∀ σ H R, t' σ H R → t σ H R) : PI X tg iter t' := ⟨fun pins s σ H R I q => h.run pins s σ H R I (w σ H R q)⟩
/-- items and locks of an answer that is walked -/
def kItems (G : Gm) (r : Rv) : Res Itv := match r with
  | .d (.list ds) => .ok (ds, []) G
  | .d (.tuple ds) => .ok (ds, []) G
  | .d (.dict [(.none, .list ds)]) => .ok (ds, []) G
  | .new (.lst ds) => .ok (ds, []) G
  | .own i => match ownAt G i with
    | some (.lst ds) => .ok (ds, [i]) G
    | _ => .bad
  | _ => .bad
def iSeq (f : Gm → Res Rv) : Gm → Res Itv := fun G => (f G).bind fun r G1 => kItems G1 r
def wSeq (K : PySem.W.Frag) (tl : TE) : TI := fun σ H R => tl σ H fun x H1 => ∃ a, x = .ref a ∧ (((∃ xs, SqL K H1 a xs) ∧ R (Itl K a) H1) ∨ ((∃ xs, SqT K H1 a xs) ∧ R (Itt K a) H1))
section
variable {X : Cx} {tg : Expr}
theorem pi_seq {l : Expr} {tl : TE} (hl : PE X l tl) : PI X tg l (wSeq X.K tl) := by
  refine ⟨fun pp sh τ Hh Rr Iv goal => ?_⟩
  refine thn (hl.run pp sh τ Hh _ Iv goal) fun vw sh1 ⟨xv, Hn, In1, rn1, qn1⟩ => ?_
  obtain ⟨ad, eq0, qn⟩ := qn1
  subst eq0
  cases rn1
  have fresh : ∀ bd, bd ∈ [sh1.heap.objs.size] → FpOk X pp Hn bd := fun bd mb => by
    have eq0 : bd = sh1.heap.objs.size := by simpa using mb
    subst eq0
    exact In1.fpOk (Nat.le_refl _) (In1.hok.fresh (Nat.le_refl _))
  rcases qn with ⟨⟨vs, sq⟩, qn⟩ | ⟨⟨vs, sq⟩, qn⟩
  · obtain ⟨ts, rl, pL, szv⟩ := In1.list sq
    refine wpAny_pyIter_list pL.isList ?_
    exact ⟨sh1.heap.objs.size, [sh1.heap.objs.size], _, _, Hn, rfl, In1.kept (t' := sh1.toks) fun bd ob eq0 => Heap.get?_push_of_some _ eq0, turn_list ad _, ⟨_, Heap.get?_push_size _ rfl, rfl, rfl⟩, fresh, qn⟩
  · obtain ⟨ts, rl, pL, szv⟩ := In1.tuple sq
    refine wpAny_pyIter_tuple (show sh1.heap.IsTuple ad ts.toArray from pL) ?_
    exact ⟨sh1.heap.objs.size, [sh1.heap.objs.size], _, _, Hn, rfl, In1.kept (t' := sh1.toks) fun bd ob eq0 => Heap.get?_push_of_some _ eq0, turn_tuple ad _, ⟨_, Heap.get?_push_size _ rfl, rfl, rfl⟩, fresh, qn⟩
end
section
variable {K : PySem.W.Frag} {σ : L2.St} {G : Gm} {H M : Hp} {ft : Nat → List Addr}
/-- a list whose place and items stay -/
theorem it_list {a : Addr} {ds : List PyData} (h : ∀ σ' G' H' M' ft', SI K σ' H' M' G' ft' → Stp σ G H M ft σ' G' H' M' ft' → ∃ xs, SqL K H' a xs ∧ DdA K M' xs ds) : ItOk K σ G H M ft (Itl K a) ds := by
  intro σ' G' H' M' ft' S' P' i
  obtain ⟨xs, h1, h2⟩ := h σ' G' H' M' ft' S' P'
  refine ⟨fun d e => ?_, fun e => ⟨xs, h1, by rw [h2.length]; exact List.getElem?_eq_none_iff.mp e⟩⟩
  obtain ⟨v, e1, e2⟩ := h2.get e
  refine ⟨⟨xs, v, h1, e1⟩, fun x H3 ⟨q1, q2⟩ => ?_⟩
  subst q1
  have : some x = some v := (q2 xs h1).symm.trans e1
  cases this
  exact ⟨M', S', .refl, e2⟩
theorem it_tup {a : Addr} {ds : List PyData} (h : ∀ σ' G' H' M' ft', SI K σ' H' M' G' ft' → Stp σ G H M ft σ' G' H' M' ft' → ∃ xs, SqT K H' a xs ∧ DdA K M' xs ds) : ItOk K σ G H M ft (Itt K a) ds := by
  intro σ' G' H' M' ft' S' P' i
  obtain ⟨xs, h1, h2⟩ := h σ' G' H' M' ft' S' P'
  refine ⟨fun d e => ?_, fun e => ⟨xs, h1, by rw [h2.length]; exact List.getElem?_eq_none_iff.mp e⟩⟩
  obtain ⟨v, e1, e2⟩ := h2.get e
  refine ⟨⟨xs, v, h1, e1⟩, fun x H3 ⟨q1, q2⟩ => ?_⟩
  subst q1
  have : some x = some v := (q2 xs h1).symm.trans e1
  cases this
  exact ⟨M', S', .refl, e2⟩
/-- where the items of an answer stand, and that they stay -/
inductive SeqAt (K : PySem.W.Frag) (σ : L2.St) (G : Gm) (H M : Hp) (ft : Nat → List Addr) (v : V) (ds : List PyData) : Prop
  | l (a : Addr) (e : v = .ref a) (h : ∀ σ' G' H' M' ft', SI K σ' H' M' G' ft' → Stp σ G H M ft σ' G' H' M' ft' → ∃ xs, SqL K H' a xs ∧ DdA K M' xs ds)
  | t (a : Addr) (e : v = .ref a) (h : ∀ σ' G' H' M' ft', SI K σ' H' M' G' ft' → Stp σ G H M ft σ' G' H' M' ft' → ∃ xs, SqT K H' a xs ∧ DdA K M' xs ds)
theorem items_ok (S : SI K σ H M G ft) {r : Rv} {v : V} {p : Itv} {G1 : Gm} {Hb : Hp} (h : kItems G r = .ok p G1) (R : RvOk K σ Hb H M ft r v) : G1 = G ∧ SeqAt K σ (lockAll G p.2) H M ft v p.1 := by
  unfold kItems at h
  split at h
  · cases h
    cases R with
    | lst e g => exact ⟨rfl, .l _ rfl fun σ' G' H' M' ft' S' P' => ⟨_, SqL.of (S'.sub _ _ (P'.mono _ _ e)), g.mono P'.mono⟩⟩
  · cases h
    cases R with
    | tup e g => exact ⟨rfl, .t _ rfl fun σ' G' H' M' ft' S' P' => ⟨_, S'.sub.sqT (P'.mono.sqT e), g.mono P'.mono⟩⟩
  · cases h
    cases R with
    | frz e g => exact ⟨rfl, .l _ rfl fun σ' G' H' M' ft' S' P' => ⟨_, S'.sub.sqL (P'.mono.sqL e), g.mono P'.mono⟩⟩
  · cases h
    obtain ⟨q, F, e, ⟨hF, xs, g1, g2⟩, k⟩ := R
    refine ⟨rfl, .l q e fun σ' G' H' M' ft' S' P' => ⟨xs, SqL.of (P'.frame q _ g1 (fun _ z => nomatch z) ?_), g2.mono P'.mono⟩⟩
    exact (k q (by rw [hF]; exact List.mem_singleton.mpr rfl)).2.2
  · rename_i i
    split at h
    · rename_i ds eo
      cases h
      obtain ⟨q, e, _, _⟩ := own_ok S eo R
      subst e
      refine ⟨rfl, .l q rfl fun σ' G' H' M' ft' S' P' => ?_⟩
      have el : (lockAll G [i])[i]? = some (.k (.lst ds)) := by
        rw [lock_at]
        unfold ownAt at eo
        split at eo
        · rename_i o' e'; cases eo; rw [e']; simp [lockS]
        · rename_i o' e'; cases eo; rw [e']; simp [lockS]
        · rename_i o' e'; cases eo; rw [e']; simp [lockS]
        · cases eo
      obtain ⟨q1, q2, q3⟩ := P'.kk i _ el
      obtain ⟨p, r1, ⟨_, xs, g1, g2⟩, _⟩ := S'.slot i _ q3
      have : (some (some (V.ref p)) : Option (Option V)) = some (some (V.ref q)) := r1.symm.trans (q1.trans R)
      cases this
      exact ⟨xs, SqL.of g1, g2⟩
    · cases h
  · cases h
end
section
variable {X : Cx} {XR : XRt} {E : XK} {tg l : Expr} {f : Gm → Res Rv}
theorem fi_seq (hl : PE X l (tFE X.K XR E f)) : PI X tg l (tFI X.K XR E (iSeq f)) := PI.le (pi_seq hl) fun σ H R ⟨M, G, ft, S, w⟩ => by
  refine ⟨M, G, ft, S, ?_⟩
  unfold iSeq at w
  cases e : f G with
  | ok r G1 =>
    rw [e] at w
    intro v H1 M1 ft1 S1 P1 R1
    rw [Res.bind_ok] at w
    cases ek : kItems G1 r with
    | ok p G2 =>
      rw [ek] at w
      obtain ⟨eG, h⟩ := items_ok S1 ek R1
      subst eG
      cases h with
      | l a ea h =>
        obtain ⟨xs, h1, h2⟩ := h σ _ H1 M1 ft1 (S1.lock p.2) .refl
        exact ⟨a, ea, .inl ⟨⟨xs, h1⟩, w _ H1 M1 ft1 S1 P1 (it_list h)⟩⟩
      | t a ea h =>
        obtain ⟨xs, h1, h2⟩ := h σ _ H1 M1 ft1 (S1.lock p.2) .refl
        exact ⟨a, ea, .inr ⟨⟨xs, h1⟩, w _ H1 M1 ft1 S1 P1 (it_tup h)⟩⟩
    | ex x => unfold kItems at ek; split at ek <;> first | (cases ek; done) | (split at ek <;> cases ek)
    | bad => rw [ek] at w; exact w.elim
  | ex x => rw [e] at w; exact w
  | bad => rw [e] at w; exact w
/-- range(n), range(a, b) -/
def iRg1 (f : Gm → Res Rv) : Gm → Res Itv := fun G => (f G).bind fun r G1 => match rd G1 r with
  | some (.int n) => if rgOk 0 n then .ok (rgD 0 n, []) G1 else .bad
  | _ => .bad
def iRg2 (fa fb : Gm → Res Rv) : Gm → Res Itv := fun G => (fa G).bind fun a G1 => (fb G1).bind fun b G2 => match rd G2 a, rd G2 b with
  | some (.int i), some (.int j) => if rgOk i j then .ok (rgD i j, []) G2 else .bad
  | _, _ => .bad
theorem it_range {K : PySem.W.Frag} {σ : L2.St} {G : Gm} {H M : Hp} {ft : Nat → List Addr} (a b : Int) : ItOk K σ G H M ft (Itr a (b - a).toNat) (rgD a b) := by
  intro σ' G' H' M' ft' S' P' i
  unfold rgD
  rw [List.getElem?_map]
  refine ⟨fun d e => ?_, fun e => ?_⟩
  · by_cases h : i < (b - a).toNat
    · rw [List.getElem?_range h] at e
      cases e
      exact ⟨h, fun x H3 ⟨q1, q2⟩ => by subst q1 q2; exact ⟨M', S', .refl, .int _⟩⟩
    · rw [List.getElem?_eq_none (by simpa using h)] at e; cases e
  · by_cases h : i < (b - a).toNat
    · rw [List.getElem?_range h] at e; cases e
    · exact Nat.le_of_not_lt h
theorem fi_rg1 {e : Expr} {p pos : Pos} (hg : Gl X "range") (hm : X.mg "range" = none) (he : PE X e (tFE X.K XR E f)) (hs : starEach [e] X.env = [(false, eval e X.env)] := by rfl) : PI X tg (.Call (.Name "range" p) [e] [] pos) (tFI X.K XR E (iRg1 f)) :=
  PI.le (pi_range1 hg hm (pa_cons he pa_nil (by rw [hs]; rfl)) hs) fun σ H R ⟨M, G, ft, S, w⟩ => by
    refine ⟨M, G, ft, S, ?_⟩
    unfold iRg1 at w
    cases e : f G with
    | ok r G1 =>
      rw [e] at w
      intro v H1 M1 ft1 S1 P1 R1
      rw [Res.bind_ok] at w
      cases er : rd G1 r with
      | none => rw [er] at w; exact w.elim
      | some d =>
        rw [er] at w
        cases d with
        | int n =>
          by_cases c : rgOk 0 n = true
          · have w' : ∀ J H' M' ft', SI X.K σ H' M' G1 ft' → Stp σ G H M ft σ G1 H' M' ft' → ItOk X.K σ (lockAll G1 []) H' M' ft' J (rgD 0 n) → R J H' := by
              have w2 := w
              simp only [c, if_true] at w2
              exact w2
            cases rd_int S1 er R1
            obtain ⟨b1, b2, b3, b4, _⟩ := rgOk_ok c
            refine ⟨n, rfl, b3, b4, ?_⟩
            have := w' (Itr 0 (n - 0).toNat) H1 M1 ft1 S1 P1 (it_range 0 n)
            rw [Int.sub_zero] at this
            exact this
          · simp only [c] at w; exact w.elim
        | none => exact w.elim
        | bool _ => exact w.elim
        | str _ => exact w.elim
        | list _ => exact w.elim
        | tuple _ => exact w.elim
        | dict _ => exact w.elim
    | ex x => rw [e] at w; exact w
    | bad => rw [e] at w; exact w
theorem fi_rg2 {a b : Expr} {fa fb : Gm → Res Rv} {p pos : Pos} (hg : Gl X "range") (hm : X.mg "range" = none) (ha : PE X a (tFE X.K XR E fa)) (hb : PE X b (tFE X.K XR E fb)) (hs : starEach [a, b] X.env = [(false, eval a X.env), (false, eval b X.env)] := by rfl) (hs2 : starEach [b] X.env = [(false, eval b X.env)] := by rfl) :
    PI X tg (.Call (.Name "range" p) [a, b] [] pos) (tFI X.K XR E (iRg2 fa fb)) :=
  PI.le (pi_range2 hg hm (pa_cons ha (pa_cons hb pa_nil (by rw [hs2]; rfl)) (by rw [hs, hs2])) hs hs2) fun σ H R ⟨M, G, ft, S, w⟩ => by
    refine ⟨M, G, ft, S, ?_⟩
    unfold iRg2 at w
    cases e : fa G with
    | ok r G1 =>
      rw [e] at w
      intro v H1 M1 ft1 S1 P1 R1
      rw [Res.bind_ok] at w
      refine ⟨M1, G1, ft1, S1, ?_⟩
      cases e2 : fb G1 with
      | ok r2 G2 =>
        rw [e2] at w
        intro v2 H2 M2 ft2 S2 P2 R2
        rw [Res.bind_ok] at w
        have key : ∃ i j, rd G2 r = some (.int i) ∧ rd G2 r2 = some (.int j) ∧ rgOk i j = true ∧ ∀ J H' M' ft', SI X.K σ H' M' G2 ft' → Stp σ G H M ft σ G2 H' M' ft' → ItOk X.K σ (lockAll G2 []) H' M' ft' J (rgD i j) → R J H' := by
          split at w
          · rename_i p G3 ep
            split at ep
            · rename_i i j e1 e2
              split at ep
              · rename_i c
                cases ep
                exact ⟨i, j, e1, e2, c, w⟩
              · cases ep
            · cases ep
          · rename_i x ep
            split at ep
            · split at ep <;> cases ep
            · cases ep
          · exact w.elim
        obtain ⟨i, j, e1, e2, c, w'⟩ := key
        cases rd_int S2 e1 (R1.later P2)
        cases rd_int S2 e2 R2
        obtain ⟨b1, b2, b3, b4, _⟩ := rgOk_ok c
        exact ⟨i, j, rfl, ⟨b1, b2, b3, b4⟩, w' _ H2 M2 ft2 S2 (P1.trans P2) (it_range i j)⟩
      | ex x => rw [e2] at w; exact fun cls d H' y fr => w cls d H' y (Frm.trans P1 fr)
      | bad => rw [e2] at w; exact w
    | ex x => rw [e] at w; exact w
    | bad => rw [e] at w; exact w
end
end Fx
/-! FxJ: targets, for, while -/
namespace Fx
open PySem PySem.Spec
open PyProof.Rows L2
/-! ### targets -/
section
variable (K : PySem.W.Frag)
/-- tv: the slots that the target may store -/
def tFG (tv : List Nat) (f : PyData → Gm → Option Gm) : TG := fun v σ H Q => ∃ M G ft d, SI K σ H M G ft ∧ Dd K M v d ∧ match f d G with
  | some G' => ∀ σ' H' M' ft', SI K σ' H' M' G' ft' → Stp σ G H M ft σ' G' H' M' ft' → (∀ i, i ∉ tv → σ'[i]? = σ[i]?) → σ'.length = σ.length → Q σ' H'
  | none => False
def tFGs (tv : List Nat) (f : List PyData → Gm → Option Gm) : TGs := fun vs σ H Q => ∃ M G ft ds, SI K σ H M G ft ∧ DdA K M vs ds ∧ match f ds G with
  | some G' => ∀ σ' H' M' ft', SI K σ' H' M' G' ft' → Stp σ G H M ft σ' G' H' M' ft' → (∀ i, i ∉ tv → σ'[i]? = σ[i]?) → σ'.length = σ.length → Q σ' H'
  | none => False
end
theorem PG.le {X : Cx} {tg : Expr} {t t' : TG} (h : PG X tg t) (w : ∀ v σ H Q, t' v σ H Q → t v σ H Q) : PG X tg t' := ⟨fun pins s σ H v u Q I r q => h.run pins s σ H v u Q I r (w v σ H Q q)⟩
theorem PGs.le {X : Cx} {tg : List Expr} {t t' : TGs} (h : PGs X tg t) (w : ∀ v σ H Q, t' v σ H Q → t v σ H Q) : PGs X tg t' := ⟨fun pins s σ H v u Q I r q => h.run pins s σ H v u Q I r (w v σ H Q q)⟩
def gN (i : Nat) : PyData → Gm → Option Gm := fun d G => setSl G i (.d d)
def gsNil : List PyData → Gm → Option Gm
  | [], G => some G
  | _ :: _, _ => none
def gsCons (f : PyData → Gm → Option Gm) (g : List PyData → Gm → Option Gm) : List PyData → Gm → Option Gm
  | d :: ds, G => (f d G).bind (g ds)
  | [], _ => none
def gT (n : Nat) (g : List PyData → Gm → Option Gm) : PyData → Gm → Option Gm
  | .tuple ds, G => if decide (ds.length = n) then g ds G else none
  | _, _ => none
section
variable {X : Cx} {pos : Pos}
theorem fg_name {i : Nat} {x : Str} (h : PG X (.Name x pos) (gName i)) : PG X (.Name x pos) (tFG X.K [i] (gN i)) := PG.le h fun v σ H Q ⟨M, G, ft, d, S, hd, w⟩ => by
  unfold gN at w
  split at w
  · rename_i G' e
    obtain ⟨ft', S', P', _⟩ := setSl_ok (r := .d d) (Hb := H) S .refl (fun a z => z) e hd
    exact w _ H M ft' S' P' (fun j hj => List.getElem?_set_ne (fun z => hj (by rw [z]; exact List.mem_singleton.mpr rfl))) (by rw [List.length_set])
  · exact w.elim
theorem fgs_nil : PGs X [] (tFGs X.K [] gsNil) := PGs.le pgs_nil fun vs σ H Q ⟨M, G, ft, ds, S, hd, w⟩ => by
  cases hd with
  | nil => exact ⟨rfl, w σ H M ft S .refl (fun _ _ => rfl) rfl⟩
  | cons h t => exact w.elim
theorem fgs_cons {e : Expr} {es : List Expr} {tv tw : List Nat} {f : PyData → Gm → Option Gm} {g : List PyData → Gm → Option Gm} (h1 : PG X e (tFG X.K tv f)) (h2 : PGs X es (tFGs X.K tw g))
    (hs : (assignEach (e :: es) X.env).map (·.2) = assign e X.env :: (assignEach es X.env).map (·.2) := by rfl) : PGs X (e :: es) (tFGs X.K (tv ++ tw) (gsCons f g)) := PGs.le (pgs_cons h1 h2 hs) fun vs σ H Q ⟨M, G, ft, ds, S, hd, w⟩ => by
  cases hd with
  | nil => exact w.elim
  | @cons v vs d ds h t =>
    refine ⟨v, vs, rfl, M, G, ft, d, S, h, ?_⟩
    have w' : (match (f d G).bind (g ds) with | some G' => ∀ σ' H' M' ft', SI X.K σ' H' M' G' ft' → Stp σ G H M ft σ' G' H' M' ft' → (∀ i, i ∉ tv ++ tw → σ'[i]? = σ[i]?) → σ'.length = σ.length → Q σ' H' | none => False) := w
    cases e1 : f d G with
    | none => rw [e1] at w'; exact w'.elim
    | some G1 =>
      rw [e1] at w'
      intro σ1 H1 M1 ft1 S1 P1 k1 l1
      refine ⟨M1, G1, ft1, ds, S1, t.mono P1.mono, ?_⟩
      have w2 : (match g ds G1 with | some G' => ∀ σ' H' M' ft', SI X.K σ' H' M' G' ft' → Stp σ G H M ft σ' G' H' M' ft' → (∀ i, i ∉ tv ++ tw → σ'[i]? = σ[i]?) → σ'.length = σ.length → Q σ' H' | none => False) := w'
      cases e2 : g ds G1 with
      | none => rw [e2] at w2; exact w2.elim
      | some G2 =>
        rw [e2] at w2
        exact fun σ2 H2 M2 ft2 S2 P2 k2 l2 => w2 σ2 H2 M2 ft2 S2 (P1.trans P2) (fun i hi => (k2 i fun z => hi (List.mem_append_right _ z)).trans (k1 i fun z => hi (List.mem_append_left _ z))) (l2.trans l1)
theorem fg_tup {es : List Expr} {k n : Nat} {tv : List Nat} {g : List PyData → Gm → Option Gm} (hc : X.calm = true) (h : PGs X es (tFGs X.K tv g)) (hn : (assignEach es X.env).length = n := by rfl) (hst : (assignEach es X.env).findIdx? (·.1) = none := by rfl) : PG X (.Tuple es k pos) (tFG X.K tv (gT n g)) :=
  PG.le (pg_tup (n := n) hc h hn hst) fun v σ H Q ⟨M, G, ft, d, S, hd, w⟩ => by
    unfold gT at w
    split at w
    · rename_i G' e
      split at e
      · rename_i ds
        split at e
        · rename_i c
          cases hd with
          | tup e1 g1 => exact ⟨_, _, rfl, S.sub.sqT e1, by rw [g1.length]; exact of_decide_eq_true c, M, G, ft, _, S, g1, by rw [e]; exact w⟩
        · cases e
      · cases e
    · exact w.elim
end
/-! ### for -/
def loopF (tg : PyData → Gm → Option Gm) (body : Gm → Res Out) : List PyData → Gm → Res Out
  | [], G => .ok .nx G
  | d :: ds, G => match tg d G with
    | none => .bad
    | some G1 => match body G1 with
      | .ok .nx G2 => loopF tg body ds G2
      | .ok .ct G2 => loopF tg body ds G2
      | .ok .bk G2 => .ok .nx G2
      | .ok (.rt r) G2 => .ok (.rt r) G2
      | .ex e => .ex e
      | .bad => .bad
def unlR (G0 : Gm) : Res Out → Res Out
  | .ok o G => .ok o (unlockAll G0 G)
  | .ex e => .ex e
  | .bad => .bad
def sFor (it : Gm → Res Itv) (tg : PyData → Gm → Option Gm) (body : Gm → Res Out) : Gm → Res Out := fun G => (it G).bind fun p G1 => unlR G1 (loopF tg body p.1 (lockAll G1 p.2))
/-- what is wanted of a locked run -/
def WSu (K : PySem.W.Frag) (XR : XRt) (E : XK) (σ0 : L2.St) (G0 : Gm) (H0 M0 : Hp) (ft0 : Nat → List Addr) (GU : Gm) (res : Res Out) (D : Ends) : Prop := WS K XR E σ0 G0 H0 M0 ft0 (unlR GU res) D
section
variable {X : Cx} {XR : XRt} {E : XK} {tg iter : Expr} {body : List Stmt} {it : Gm → Res Itv} {tv : List Nat} {g : PyData → Gm → Option Gm} {fb : Gm → Res Out} {pos : Pos}
theorem fs_for (hp : PassesOwn (model X.prog X.w) X.A X.env X.xe) (hc : X.calm = true) (hi : PI X tg iter (tFI X.K XR E it)) (hg : PG X tg (tFG X.K tv g)) (hb : PSs X body (tFS X.K XR E fb)) (hs : ∀ x, foldedSetIterable iter X.env x = pure x := by intro _; rfl) :
    PS X (.For tg iter body [] pos) (tFS X.K XR E (sFor it g fb)) := PS.le (ps_for hp hc hi hg hb hs) fun D σ H ⟨M, G, ft, S, w⟩ => by
  refine ⟨M, G, ft, S, ?_⟩
  unfold sFor at w
  cases ei : it G with
  | ex x => rw [ei] at w; exact w
  | bad => rw [ei] at w; exact w
  | ok p G1 =>
    rw [ei] at w
    intro J H1 M1 ft1 S1 P1 IO
    rw [Res.bind_ok] at w
    -- the state that is walked from
    refine ⟨fun i m σ' H' => m = p.1.length - i ∧ i ≤ p.1.length ∧ ∃ G' M' ft', SI X.K σ' H' M' G' ft' ∧ Stp σ (lockAll G1 p.2) H1 M1 ft1 σ' G' H' M' ft' ∧ WS X.K XR E σ G H M ft (unlR G1 (loopF g fb (p.1.drop i) G')) D,
      ⟨p.1.length, by simp, Nat.zero_le _, lockAll G1 p.2, M1, ft1, S1.lock _, .refl, by rw [List.drop_zero]; exact w⟩, ?_⟩
    rintro i m σ' H' ⟨rfl, hi, G', M', ft', S', P', w'⟩
    obtain ⟨hgo, hst⟩ := IO σ' G' H' M' ft' S' P' i
    cases ed : p.1[i]? with
    | none =>
      have hz : p.1.drop i = [] := List.drop_eq_nil_of_le (List.getElem?_eq_none_iff.mp ed)
      rw [hz] at w'
      refine .inl ⟨hst ed, ?_⟩
      obtain ⟨SU, PU⟩ := unlock_ok S' P'
      exact w' σ' H' M' ft' SU (P1.trans PU)
    | some d =>
      obtain ⟨h1, h2⟩ := hgo d ed
      have hlt : i < p.1.length := (List.getElem?_eq_some_iff.mp ed).1
      have hz : p.1.drop i = d :: p.1.drop (i + 1) := by
        rw [List.drop_eq_getElem_cons (h := hlt)]
        have : p.1[i] = d := (List.getElem?_eq_some_iff.mp ed).2
        rw [this]
      rw [hz] at w'
      refine .inr ⟨h1, fun σ2 H2 => ∃ G2 M2 ft2, SI X.K σ2 H2 M2 G2 ft2 ∧ Stp σ (lockAll G1 p.2) H1 M1 ft1 σ2 G2 H2 M2 ft2 ∧ WS X.K XR E σ G H M ft (unlR G1 (loopF g fb (p.1.drop (i + 1)) G2)) D, fun σ2 H2 ⟨G2, M2, ft2, S2, P2, w2⟩ => ⟨p.1.length - (i + 1), by omega, rfl, hlt, G2, M2, ft2, S2, P2, w2⟩, fun x H3 hy => ?_⟩
      obtain ⟨M3, S3, P3, D3⟩ := h2 x H3 hy
      have P03 := P'.trans P3
      refine ⟨M3, G', ft', d, S3, D3, ?_⟩
      unfold loopF at w'
      cases eg : g d G' with
      | none => rw [eg] at w'; exact w'.elim
      | some G4 =>
        rw [eg] at w'
        dsimp only at w'
        intro σ4 H4 M4 ft4 S4 P4 _ _
        have P04 := P03.trans P4
        refine ⟨M4, G4, ft4, S4, ?_⟩
        cases eb : fb G4 with
        | ok o G5 =>
          rw [eb] at w'
          intro σ5 H5 M5 ft5 S5 P5
          have P05 := P04.trans P5
          obtain ⟨SU, PU⟩ := unlock_ok S5 P05
          cases o with
          | nx => exact ⟨G5, M5, ft5, S5, P05, w'⟩
          | ct => exact ⟨G5, M5, ft5, S5, P05, w'⟩
          | bk => exact w' σ5 H5 M5 ft5 SU (P1.trans PU)
          | rt r => exact fun v R => w' σ5 H5 M5 ft5 SU (P1.trans PU) v (R.base fun a z => (P1.trans (unlock_ok S4 P04).2).nn z)
        | ex x =>
          rw [eb] at w'
          intro cls d' H5 hx fr
          exact w' cls d' H5 hx (Frm.trans P1 (Frm.trans P04 fr))
        | bad => rw [eb] at w'; exact w'.elim
end
/-! ### while -/
def whileF (t : Gm → Res Bool) (body : Gm → Res Out) : Nat → Gm → Res Out
  | 0, _ => .bad
  | n + 1, G => (t G).bind fun c G1 => if c then match body G1 with
      | .ok .nx G2 => whileF t body n G2
      | .ok .ct G2 => whileF t body n G2
      | .ok .bk G2 => .ok .nx G2
      | .ok (.rt r) G2 => .ok (.rt r) G2
      | .ex e => .ex e
      | .bad => .bad
    else .ok .nx G1
def sWhile (fuel : Nat) (t : Gm → Res Bool) (body : Gm → Res Out) : Gm → Res Out := fun G => whileF t body fuel G
section
variable {X : Cx} {XR : XRt} {E : XK} {c : Expr} {body : List Stmt} {t : Gm → Res Bool} {fb : Gm → Res Out} {pos : Pos}
theorem fs_while (fuel : Nat) (hp : PassesOwn (model X.prog X.w) X.A X.env X.xe) (hc : PT X c (tFT X.K XR E t)) (hb : PSs X body (tFS X.K XR E fb)) : PS X (.While c body [] pos) (tFS X.K XR E (sWhile fuel t fb)) := PS.le (ps_while hp hc hb) fun D σ H ⟨M, G, ft, S, w⟩ => by
  refine ⟨fun m σ' H' => ∃ G' M' ft', SI X.K σ' H' M' G' ft' ∧ Stp σ G H M ft σ' G' H' M' ft' ∧ WS X.K XR E σ G H M ft (whileF t fb m G') D, ⟨fuel, G, M, ft, S, .refl, w⟩, ?_⟩
  rintro m σ' H' ⟨G', M', ft', S', P', w'⟩
  cases m with
  | zero => exact w'.elim
  | succ m =>
    unfold whileF at w'
    refine bindTS S' P' w' fun c G1 H1 M1 ft1 _ S1 P1 w1 => ?_
    cases c with
    | false => exact w1 σ' H1 M1 ft1 S1 (P'.trans P1)
    | true =>
      refine ⟨fun σ2 H2 => ∃ G2 M2 ft2, SI X.K σ2 H2 M2 G2 ft2 ∧ Stp σ G H M ft σ2 G2 H2 M2 ft2 ∧ WS X.K XR E σ G H M ft (whileF t fb m G2) D, fun σ2 H2 h => ⟨m, Nat.lt_succ_self m, h⟩, ?_⟩
      refine ⟨M1, G1, ft1, S1, ?_⟩
      rw [if_pos rfl] at w1
      have P01 := P'.trans P1
      cases eb : fb G1 with
      | ok o G5 =>
        rw [eb] at w1
        intro σ5 H5 M5 ft5 S5 P5
        have P05 := P01.trans P5
        cases o with
        | nx => exact ⟨G5, M5, ft5, S5, P05, w1⟩
        | ct => exact ⟨G5, M5, ft5, S5, P05, w1⟩
        | bk => exact w1 σ5 H5 M5 ft5 S5 P05
        | rt r => exact fun v R => w1 σ5 H5 M5 ft5 S5 P05 v (R.base fun a z => P01.nn z)
      | ex x =>
        rw [eb] at w1
        intro cls d' H5 hx fr
        exact w1 cls d' H5 hx (Frm.trans P01 fr)
      | bad => rw [eb] at w1; exact w1.elim
end
end Fx
/-! FxK: list comprehensions -/
namespace Fx
open PySem PySem.Spec
open PyProof.Rows L2
def wipeG (G : Gm) (vs : List Nat) : Gm := G.mapIdx fun i s => if vs.contains i then .no else s
def unwipe (G0 G : Gm) (vs : List Nat) : Gm := G.mapIdx fun i s => if vs.contains i then G0.getD i .no else s
def plainAt (G : Gm) (vs : List Nat) : Bool := vs.all fun j => match G[j]? with
  | some .no => true
  | some (.d _) => true
  | _ => false
def ftW (ft : Nat → List Addr) (vs : List Nat) : Nat → List Addr := fun i => if vs.contains i then [] else ft i
theorem ftW_sub {ft : Nat → List Addr} {vs : List Nat} {i : Nat} {a : Addr} (h : a ∈ ftW ft vs i) : a ∈ ft i := by
  unfold ftW at h
  split at h
  · cases h
  · exact h
theorem wipe_at (σ : L2.St) : ∀ (vs : List Nat) (i : Nat), i ∉ vs → (wipe σ vs)[i]? = σ[i]?
  | [], _, _ => rfl
  | v :: vs, i, h => by
    unfold wipe
    rw [List.getElem?_set_ne (fun z => h (by rw [z]; exact List.mem_cons_self))]
    exact wipe_at σ vs i fun z => h (List.mem_cons_of_mem _ z)
theorem wipe_in (σ : L2.St) : ∀ (vs : List Nat) (i : Nat), i ∈ vs → i < σ.length → (wipe σ vs)[i]? = some none
  | v :: vs, i, h, hi => by
    unfold wipe
    by_cases z : v = i
    · subst z; exact List.getElem?_set_self (by rw [wipe_length]; exact hi)
    · rw [List.getElem?_set_ne z]
      rcases List.mem_cons.mp h with y | y
      · exact absurd y.symm z
      · exact wipe_in σ vs i y hi
theorem wipe_eq {σ σ' : L2.St} {vs : List Nat} (h : ∀ i, i ∉ vs → σ'[i]? = σ[i]?) (hl : σ'.length = σ.length) : wipe σ' vs = wipe σ vs := by
  apply List.ext_getElem?
  intro i
  by_cases hi : i ∈ vs
  · by_cases hlt : i < σ.length
    · rw [wipe_in σ' vs i hi (by omega), wipe_in σ vs i hi hlt]
    · rw [List.getElem?_eq_none (by rw [wipe_length]; omega), List.getElem?_eq_none (by rw [wipe_length]; omega)]
  · rw [wipe_at σ' vs i hi, wipe_at σ vs i hi, h i hi]
theorem cont_iff {vs : List Nat} {i : Nat} : vs.contains i = true ↔ i ∈ vs := by simp
section
variable {K : PySem.W.Frag} {XR : XRt} {E : XK} {σ σ0 σ' : L2.St} {G G0 G2 : Gm} {H M H0 M0 H2 M2 : Hp} {ft ft0 ft2 : Nat → List Addr} {vs : List Nat}
theorem wipeG_at {i : Nat} : (wipeG G vs)[i]? = (G[i]?).map fun s => if vs.contains i then .no else s := by
  unfold wipeG
  rw [List.getElem?_mapIdx]
theorem wipeG_out {i : Nat} (h : i ∉ vs) : (wipeG G vs)[i]? = G[i]? := by
  rw [wipeG_at]
  cases G[i]? with
  | none => rfl
  | some s => show some (if vs.contains i then Sl.no else s) = _; rw [if_neg (fun z => h (cont_iff.mp z))]
theorem SlOk.other {F : List Addr} {i : Nat} {s : Sl} (h : SlOk K σ H M F i s) (e : σ'[i]? = σ[i]?) : SlOk K σ' H M F i s := by
  cases s with
  | no => exact h
  | d x => obtain ⟨q1, u, q2, q3⟩ := h; exact ⟨q1, u, e.trans q2, q3⟩
  | l o => obtain ⟨p, q2, q3⟩ := h; exact ⟨p, e.trans q2, q3⟩
  | x o => obtain ⟨p, q2, q3⟩ := h; exact ⟨p, e.trans q2, q3⟩
  | k o => obtain ⟨p, q2, q3⟩ := h; exact ⟨p, e.trans q2, q3⟩
theorem SI.wipe (S : SI K σ H M G ft) (h : ∀ i, i ∉ vs → σ'[i]? = σ[i]?) (hl : σ'.length = σ.length) : SI K σ' H M (wipeG G vs) (ftW ft vs) where
  len := by unfold wipeG; rw [List.length_mapIdx, hl]; exact S.len
  sub := S.sub
  tab := S.tab
  slot := fun i s e => by
    rw [wipeG_at] at e
    cases eg : G[i]? with
    | none => rw [eg] at e; cases e
    | some t =>
      rw [eg] at e
      have e' : (if vs.contains i then Sl.no else t) = s := Option.some.inj e
      unfold ftW
      by_cases c : vs.contains i = true
      · rw [if_pos c] at e' ⊢; rw [← e']; exact rfl
      · rw [if_neg c] at e' ⊢; rw [← e']
        exact (S.slot i t eg).other (h i fun z => c (cont_iff.mpr z))
  out := fun i hi => by
    unfold wipeG at hi
    rw [List.length_mapIdx] at hi
    unfold ftW
    split
    · rfl
    · exact S.out i hi
  disj := fun i j a ha hb => S.disj i j a (ftW_sub ha) (ftW_sub hb)
theorem Stp.wipe (P : Stp σ0 G0 H0 M0 ft0 σ G H M ft) (h0 : plainAt G0 vs = true) (h : ∀ i, i ∉ vs → σ'[i]? = σ[i]?) : Stp σ0 G0 H0 M0 ft0 σ' (wipeG G vs) H M (ftW ft vs) := by
  have out : ∀ i s, G0[i]? = some s → (∃ o, s = .x o ∨ s = .k o) → i ∉ vs := fun i s e ⟨o, hs⟩ hi => by
    have := List.all_eq_true.mp h0 i hi
    rw [e] at this
    rcases hs with hs | hs <;> (rw [hs] at this; cases this)
  have ef : ∀ i, i ∉ vs → ftW ft vs i = ft i := fun i hi => by unfold ftW; exact if_neg fun z => hi (cont_iff.mp z)
  refine ⟨P.mono, P.new, P.frame, P.tbls, P.tab, P.there, fun i a ha => P.own i a (ftW_sub ha), P.tups, by unfold wipeG; rw [List.length_mapIdx]; exact P.len, fun i o e => ?_, fun i o e => ?_⟩
  · have hi := out i _ e ⟨o, .inl rfl⟩
    obtain ⟨q1, q2, o', q3⟩ := P.kx i o e
    exact ⟨(h i hi).trans q1, (ef i hi).trans q2, o', (wipeG_out hi).trans q3⟩
  · have hi := out i _ e ⟨o, .inr rfl⟩
    obtain ⟨q1, q2, q3⟩ := P.kk i o e
    exact ⟨(h i hi).trans q1, (ef i hi).trans q2, (wipeG_out hi).trans q3⟩
/-- the def's own slots again -/
theorem unwipe_ok (S : SI K (L2.wipe σ vs) H2 M2 G2 ft2) (S0 : SI K σ H M G ft) (P : Stp σ G H M ft (L2.wipe σ vs) G2 H2 M2 ft2) (h0 : plainAt G vs = true) (hw : ∀ i, i ∈ vs → i < G2.length → G2[i]? = some .no) :
    SI K σ H2 M2 (unwipe G G2 vs) ft2 ∧ Stp σ G H M ft σ (unwipe G G2 vs) H2 M2 ft2 := by
  have at2 : ∀ i, (unwipe G G2 vs)[i]? = (G2[i]?).map fun s => if vs.contains i then G.getD i .no else s := fun i => by unfold unwipe; rw [List.getElem?_mapIdx]
  have lenU : (unwipe G G2 vs).length = G2.length := by unfold unwipe; rw [List.length_mapIdx]
  have outv : ∀ i, i ∉ vs → (unwipe G G2 vs)[i]? = G2[i]? := fun i hi => by
    rw [at2]
    cases G2[i]? with
    | none => rfl
    | some s => show some (if vs.contains i then G.getD i .no else s) = _; rw [if_neg (fun z => hi (cont_iff.mp z))]
  have out : ∀ i s, G[i]? = some s → (∃ o, s = .x o ∨ s = .k o) → i ∉ vs := fun i s e ⟨o, hs⟩ hi => by
    have := List.all_eq_true.mp h0 i hi
    rw [e] at this
    rcases hs with hs | hs <;> (rw [hs] at this; cases this)
  refine ⟨⟨by rw [lenU, ← S.len, wipe_length], S.sub, fun i s e => ?_, S.tab, fun i hi => S.out i (by rw [lenU] at hi; exact hi), S.disj⟩, P.mono, P.new, P.frame, P.tbls, P.tab, P.there, P.own, P.tups, by rw [lenU]; exact P.len, fun i o e => ?_, fun i o e => ?_⟩
  · by_cases hi : i ∈ vs
    · have hlt : i < G2.length := by have := (List.getElem?_eq_some_iff.mp e).1; omega
      have hg : i < G.length := by have := P.len; omega
      rw [at2, List.getElem?_eq_getElem hlt] at e
      have e' : (if vs.contains i then G.getD i .no else G2[i]) = s := Option.some.inj e
      rw [if_pos (cont_iff.mpr hi)] at e'
      have eg := List.getElem?_eq_getElem hg
      have eD : G.getD i .no = G[i] := by rw [List.getD_eq_getElem?_getD, eg]; rfl
      rw [eD] at e'
      have hf : ft2 i = [] := S.slot i .no (hw i hi hlt)
      have hp := List.all_eq_true.mp h0 i hi
      rw [eg] at hp
      have q := S0.slot i _ eg
      rw [← e', hf]
      cases es : G[i] with
      | no => exact rfl
      | d x => rw [es] at q; obtain ⟨_, v, q1, q2⟩ := q; exact ⟨rfl, v, q1, q2.mono P.mono⟩
      | l o => rw [es] at hp; cases hp
      | x o => rw [es] at hp; cases hp
      | k o => rw [es] at hp; cases hp
    · rw [outv i hi] at e
      exact (S.slot i s e).other (wipe_at σ vs i hi).symm
  · have hi := out i _ e ⟨o, .inl rfl⟩
    obtain ⟨q1, q2, o', q3⟩ := P.kx i o e
    exact ⟨rfl, q2, o', (outv i hi).trans q3⟩
  · have hi := out i _ e ⟨o, .inr rfl⟩
    obtain ⟨q1, q2, q3⟩ := P.kk i o e
    exact ⟨rfl, q2, (outv i hi).trans q3⟩
/-! a list that grows beside the state -/
structure Aside (K : PySem.W.Frag) (H M : Hp) (ft : Nat → List Addr) (D : Addr) (acc : List PyData) : Prop where
  at_ : ∃ xs, H D = some (.lst xs) ∧ DdA K M xs acc
  hid : M D = none
  out : ∀ i, D ∉ ft i
theorem Aside.later {D : Addr} {acc : List PyData} {H2 M2 : Hp} {ft2 : Nat → List Addr} (h : Aside K H M ft D acc) (P : Stp σ G H M ft σ' G2 H2 M2 ft2) : Aside K H2 M2 ft2 D acc := by
  obtain ⟨⟨xs, h1, h2⟩, h3, h4⟩ := h
  refine ⟨⟨xs, P.frame D _ h1 (fun _ z => nomatch z) h4, h2.mono P.mono⟩, ?_, fun i z => ?_⟩
  · cases e : M2 D with
    | none => rfl
    | some o =>
      rcases P.new D o e with z | z | ⟨i, z⟩ | ⟨ys, z⟩
      · rw [h3] at z; cases z
      · rw [h1] at z; cases z
      · exact absurd z (h4 i)
      · rw [h1] at z; cases z
  · rcases P.own i D z with ⟨j, y⟩ | y
    · exact h4 j y
    · rw [h1] at y; cases y
theorem SI.poke (S : SI K σ H M G ft) {D : Addr} {u : HO} {ws : List V} (hd : H D = some (.lst ws)) (h3 : M D = none) (h4 : ∀ i, D ∉ ft i) : SI K σ (upd H D u) M G ft where
  len := S.len
  tab := ⟨S.tab.1.upd hd noTab_lst, S.tab.2⟩
  sub := fun a o e => by rw [upd_ne (show a ≠ D from fun z => by subst z; rw [h3] at e; cases e)]; exact S.sub a o e
  slot := fun i s e => (S.slot i s e).keep (Sub.refl _) (fun a ha o q _ => by rw [upd_ne (show a ≠ D from fun z => h4 i (by rw [← z]; exact ha))]; exact q) fun a ha => (S.owned ha).1
  out := S.out
  disj := S.disj
theorem Stp.poke (P : Stp σ0 G0 H0 M0 ft0 σ G H M ft) {D : Addr} {u : HO} {ws : List V} (hd : H D = some (.lst ws)) (h : H0 D = none) : Stp σ0 G0 H0 M0 ft0 σ G (upd H D u) M ft :=
  ⟨P.mono, P.new, fun a o e nt hn => by rw [upd_ne (ne_of_none e h)]; exact P.frame a o e nt hn, fun a ps e => let ⟨ps', q⟩ := P.tbls a ps e; tbls_upd hd noTab_lst a ps' q, fun K t => (P.tab K t).upd hd noTab_lst, fun a o e => by
    by_cases z : a = D
    · subst z; exact ⟨u, upd_same⟩
    · obtain ⟨o', q⟩ := P.there a o e
      exact ⟨o', by rw [upd_ne z]; exact q⟩, P.own, fun a xs e => by rw [upd_ne (ne_of_none e h)]; exact P.tups a xs e, P.len, P.kx, P.kk⟩
end
/-! ### [elt for target in iter if test] -/
def tYesF : Gm → Res Bool := fun G => .ok true G
def compF (vs : List Nat) (tg : PyData → Gm → Option Gm) (tst : Gm → Res Bool) (elt : Gm → Res Rv) : List PyData → List PyData → Gm → Res (List PyData)
  | [], acc, G => .ok acc G
  | d :: ds, acc, G => match tg d G with
    | none => .bad
    | some G1 => match tst G1 with
      | .ok true G2 => match elt G2 with
        | .ok r G3 => match retain G3 r with
          | some (x, G4) => if lim (acc.length + 1) then compF vs tg tst elt ds (acc ++ [x]) (wipeG G4 vs) else .bad
          | none => .bad
        | _ => .bad
      | .ok false G2 => compF vs tg tst elt ds acc (wipeG G2 vs)
      | _ => .bad
def fComp (it : Gm → Res Itv) (vs : List Nat) (tg : PyData → Gm → Option Gm) (tst : Gm → Res Bool) (elt : Gm → Res Rv) : Gm → Res Rv := fun G => (it G).bind fun p G1 =>
  if plainAt G1 vs then match compF vs tg tst elt p.1 [] (wipeG (lockAll G1 p.2) vs) with
    | .ok acc G2 => .ok (.new (.lst acc)) (unlockAll G1 (unwipe (lockAll G1 p.2) G2 vs))
    | _ => .bad
  else .bad
theorem plain_lock {G : Gm} {lk vs : List Nat} (h : plainAt G vs = true) : plainAt (lockAll G lk) vs = true := by
  unfold plainAt at h ⊢
  rw [List.all_eq_true] at h ⊢
  intro j hj
  have q := h j hj
  rw [lock_at]
  cases e : G[j]? with
  | none => rw [e] at q; exact q
  | some s =>
    rw [e] at q
    cases s with
    | no => by_cases c : lk.contains j = true <;> simp [c, lockS]
    | d x => by_cases c : lk.contains j = true <;> simp [c, lockS]
    | l o => cases q
    | x o => cases q
    | k o => cases q
theorem lim_succ {n : Nat} (h : lim (n + 1) = true) : n < sizeLine := by
  have := lim_ok h
  omega
section
variable {K : PySem.W.Frag} {XR : XRt} {E : XK} {it : Gm → Res Itv} {vs tv : List Nat} {tg : PyData → Gm → Option Gm} {tst : Gm → Res Bool} {elt : Gm → Res Rv}
theorem comp_le (htv : ∀ i, i ∈ tv → i ∈ vs) : ∀ σ H Q, tFE K XR E (fComp it vs tg tst elt) σ H Q → tLc (tFI K XR E it) (tFG K tv tg) (tFT K XR E0 tst) (tFE K XR E0 elt) vs σ H Q := fun σ H Q ⟨M, G, ft, S, w⟩ => by
  refine ⟨M, G, ft, S, ?_⟩
  unfold fComp at w
  cases ei : it G with
  | ex x => rw [ei] at w; exact w
  | bad => rw [ei] at w; exact w
  | ok p G1 =>
    rw [ei] at w
    intro J H1 M1 ft1 S1 P1 IO D hD
    rw [Res.bind_ok] at w
    split at w
    · rename_i hpl
      have hpl' := plain_lock (lk := p.2) hpl
      have SL := S1.lock p.2
      -- wiped
      have SW := SL.wipe (vs := vs) (σ' := L2.wipe σ vs) (fun i hi => wipe_at σ vs i hi) (wipe_length σ vs)
      have PW : Stp σ (lockAll G1 p.2) H1 M1 ft1 (L2.wipe σ vs) (wipeG (lockAll G1 p.2) vs) H1 M1 (ftW ft1 vs) := Stp.wipe .refl hpl' fun i hi => wipe_at σ vs i hi
      have hMD : M1 D = none := S1.sub.nn hD
      refine ⟨fun i m H' => m = p.1.length - i ∧ i ≤ p.1.length ∧ ∃ G' M' ft' acc, SI K (L2.wipe σ vs) H' M' G' ft' ∧ Stp σ (lockAll G1 p.2) H1 M1 ft1 (L2.wipe σ vs) G' H' M' ft' ∧ Aside K H' M' ft' D acc ∧ (∀ i, i ∈ vs → i < G'.length → G'[i]? = some .no) ∧
          WP K XR E (ROv K σ) σ G H M ft (match compF vs tg tst elt (p.1.drop i) acc G' with | .ok acc G2 => .ok (.new (.lst acc)) (unlockAll G1 (unwipe (lockAll G1 p.2) G2 vs)) | _ => .bad) Q, ⟨p.1.length, by simp, Nat.zero_le _, wipeG (lockAll G1 p.2) vs, M1, ftW ft1 vs, [], SW.lay hD _, PW.trans (Stp.lay SW hD _), ⟨⟨[], upd_same, .nil⟩, hMD, SW.fresh hD⟩, fun i hi hlt => ?_, by rw [List.drop_zero]; exact w⟩, ?_⟩
      · rw [wipeG_at]
        unfold wipeG at hlt
        rw [List.length_mapIdx] at hlt
        rw [List.getElem?_eq_getElem hlt]
        show some (if vs.contains i then Sl.no else _) = _
        rw [if_pos (cont_iff.mpr hi)]
      · rintro i m H' ⟨rfl, hi, G', M', ft', acc, S', P', A', hw', w'⟩
        obtain ⟨hgo, hst⟩ := IO _ G' H' M' ft' S' P' i
        cases ed : p.1[i]? with
        | none =>
          have hz : p.1.drop i = [] := List.drop_eq_nil_of_le (List.getElem?_eq_none_iff.mp ed)
          rw [hz] at w'
          refine .inl ⟨hst ed, ?_⟩
          obtain ⟨SU, PU⟩ := unwipe_ok S' SL P' hpl' hw'
          obtain ⟨SV, PV⟩ := unlock_ok SU PU
          obtain ⟨xs, a1, a2⟩ := A'.at_
          refine w' (.ref D) H' M' ft' SV (P1.trans PV) ⟨D, [D], rfl, ⟨rfl, xs, a1, a2⟩, fun a ha => ?_⟩
          cases List.mem_singleton.mp ha
          exact ⟨A'.hid, P1.nn hD, A'.out⟩
        | some d =>
          obtain ⟨h1, h2⟩ := hgo d ed
          have hlt : i < p.1.length := (List.getElem?_eq_some_iff.mp ed).1
          have hz : p.1.drop i = d :: p.1.drop (i + 1) := by
            rw [List.drop_eq_getElem_cons (h := hlt)]
            have : p.1[i] = d := (List.getElem?_eq_some_iff.mp ed).2
            rw [this]
          rw [hz] at w'
          refine .inr ⟨h1, fun H' => ∃ G' M' ft' acc, SI K (L2.wipe σ vs) H' M' G' ft' ∧ Stp σ (lockAll G1 p.2) H1 M1 ft1 (L2.wipe σ vs) G' H' M' ft' ∧ Aside K H' M' ft' D acc ∧ (∀ i, i ∈ vs → i < G'.length → G'[i]? = some .no) ∧
            WP K XR E (ROv K σ) σ G H M ft (match compF vs tg tst elt (p.1.drop (i + 1)) acc G' with | .ok acc G2 => .ok (.new (.lst acc)) (unlockAll G1 (unwipe (lockAll G1 p.2) G2 vs)) | _ => .bad) Q, fun H' h => ⟨p.1.length - (i + 1), by omega, rfl, hlt, h⟩, fun x H3 hy => ?_⟩
          obtain ⟨M3, S3, P3, D3⟩ := h2 x H3 hy
          have P03 := P'.trans P3
          refine ⟨M3, G', ft', d, S3, D3, ?_⟩
          unfold compF at w'
          cases eg : tg d G' with
          | none => rw [eg] at w'; exact w'.elim
          | some G4 =>
            rw [eg] at w'
            dsimp only at w'
            intro σ4 H4 M4 ft4 S4 P4 k4 l4
            have P04 := P03.trans P4
            have A4 := (A'.later P3).later P4
            have ks : ∀ i, i ∉ vs → σ4[i]? = (L2.wipe σ vs)[i]? := fun i hi => k4 i fun z => hi (htv i z)
            have ew : L2.wipe σ4 vs = L2.wipe σ vs := by
              rw [wipe_eq ks l4]
              exact wipe_eq (fun i hi => wipe_at σ vs i hi) (wipe_length σ vs)
            have ks' : ∀ i, i ∉ vs → (L2.wipe σ vs)[i]? = σ4[i]? := fun i hi => (ks i hi).symm
            have wn : ∀ {G5 : Gm}, ∀ i, i ∈ vs → i < (wipeG G5 vs).length → (wipeG G5 vs)[i]? = some .no := fun {G5} i hi hlt => by
              rw [wipeG_at]
              unfold wipeG at hlt
              rw [List.length_mapIdx] at hlt
              rw [List.getElem?_eq_getElem hlt]
              show some (if vs.contains i then Sl.no else _) = _
              rw [if_pos (cont_iff.mpr hi)]
            refine ⟨ew, M4, G4, ft4, S4, ?_⟩
            cases et : tst G4 with
            | ex e => rw [et] at w'; exact w'.elim
            | bad => rw [et] at w'; exact w'.elim
            | ok b G5 =>
              rw [et] at w'
              intro b' H5 M5 ft5 S5 P5 eb
              cases eb
              have P05 := P04.trans P5
              have A5 := A4.later P5
              cases b with
              | false =>
                dsimp only at w'
                have S6 := S5.wipe (vs := vs) ks' (by rw [wipe_length]; rw [l4, wipe_length])
                have P6 := P05.wipe hpl' ks'
                exact ⟨wipeG G5 vs, M5, ftW ft5 vs, acc, S6, P6, ⟨A5.at_, A5.hid, fun i z => A5.out i (ftW_sub z)⟩, wn, w'⟩
              | true =>
                dsimp only at w'
                rw [if_pos rfl]
                refine ⟨M5, G5, ft5, S5, ?_⟩
                cases ee : elt G5 with
                | ex e => rw [ee] at w'; exact w'.elim
                | bad => rw [ee] at w'; exact w'.elim
                | ok r G6 =>
                  rw [ee] at w'
                  dsimp only at w'
                  intro y H6 M6 ft6 S6 P6 R6
                  have P06 := P05.trans P6
                  have A6 := A5.later P6
                  cases er : retain G6 r with
                  | none => rw [er] at w'; exact w'.elim
                  | some xg =>
                    obtain ⟨x', G7⟩ := xg
                    rw [er] at w'
                    dsimp only at w'
                    obtain ⟨F, RF⟩ := R6.f
                    obtain ⟨M7, ft7, S7, P7, s7, D7, hf7, hn7⟩ := retain_ok (σ0 := σ4) (G0 := G5) (H0 := H5) (M0 := M5) (ft0 := ft5) S6 P6 (fun a z => z) er RF
                    obtain ⟨xs, a1, a2⟩ := A6.at_
                    by_cases hlim : lim (acc.length + 1) = true
                    · rw [if_pos hlim] at w'
                      refine ⟨xs, a1, by rw [a2.length]; exact lim_succ hlim, ?_⟩
                      have hid7 : M7 D = none := by
                        cases e7 : M7 D with
                        | none => rfl
                        | some o =>
                          rcases hn7 D A6.hid (by rw [e7]; exact Option.some_ne_none _) with z | ⟨j, z⟩
                          · obtain ⟨q1, _⟩ := RF.out D z
                            obtain ⟨xs5, q2, _⟩ := A5.at_
                            rw [q1] at q2; cases q2
                          · exact absurd z (A6.out j)
                      have out7 : ∀ i, D ∉ ft7 i := fun i z => A6.out i (hf7 i D z)
                      have S8 := (S7.wipe (vs := vs) ks' (by rw [wipe_length]; rw [l4, wipe_length])).poke (u := .lst (xs ++ [y])) a1 hid7 (fun i z => out7 i (ftW_sub z))
                      have P8 := ((P05.trans P7).wipe (vs := vs) (σ' := L2.wipe σ vs) hpl' ks').poke (D := D) (u := .lst (xs ++ [y])) a1 hD
                      exact ⟨wipeG G7 vs, M7, ftW ft7 vs, acc ++ [x'], S8, P8, ⟨⟨_, upd_same, (a2.mono s7).append (.one D7)⟩, hid7, fun i z => out7 i (ftW_sub z)⟩, wn, w'⟩
                    · rw [if_neg hlim] at w'; exact w'.elim
    · exact w.elim
end
end Fx
/-! FxL: list comprehensions, two clauses (the second over a range); their terms -/
namespace Fx
open PySem PySem.Spec
open PyProof.Rows L2
/-- an iterator that hangs on no heap -/
def ItU (K : PySem.W.Frag) (J : It) (ds : List PyData) : Prop :=
  ∀ σ' G' H' M' ft', SI K σ' H' M' G' ft' → ∀ i : Nat, (∀ d, ds[i]? = some d → J.go i H' ∧ ∀ x H3, J.yld i H' x H3 → ∃ M3, SI K σ' H3 M3 G' ft' ∧ Stp σ' G' H' M' ft' σ' G' H3 M3 ft' ∧ Dd K M3 x d) ∧ (ds[i]? = none → J.stop i H')
def tFU (K : PySem.W.Frag) (XR : XRt) (E : XK) (f : Gm → Res Itv) : TI := fun σ H R => ∃ M G ft, SI K σ H M G ft ∧ match f G with
  | .ok p G1 => ∀ J H' M' ft', SI K σ H' M' G1 ft' → Stp σ G H M ft σ G1 H' M' ft' → ItU K J p.1 → R J H'
  | .ex e => ∀ cls d H', XR e cls d H' → Frm H ft H' → E cls d H'
  | .bad => False
theorem itU_range {K : PySem.W.Frag} (a b : Int) : ItU K (Itr a (b - a).toNat) (rgD a b) := fun σ' G' H' M' ft' S' i => it_range (σ := σ') (G := G') (H := H') (M := M') (ft := ft') a b σ' G' H' M' ft' S' .refl i
section
variable {X : Cx} {XR : XRt} {E : XK} {tg : Expr} {f : Gm → Res Rv}
theorem fu_rg1 {e : Expr} {p pos : Pos} (hg : Gl X "range") (hm : X.mg "range" = none) (he : PE X e (tFE X.K XR E f)) (hs : starEach [e] X.env = [(false, eval e X.env)] := by rfl) : PI X tg (.Call (.Name "range" p) [e] [] pos) (tFU X.K XR E (iRg1 f)) :=
  PI.le (pi_range1 hg hm (pa_cons he pa_nil (by rw [hs]; rfl)) hs) fun σ H R ⟨M, G, ft, S, w⟩ => by
    refine ⟨M, G, ft, S, ?_⟩
    unfold iRg1 at w
    cases e : f G with
    | ok r G1 =>
      rw [e] at w
      intro v H1 M1 ft1 S1 P1 R1
      rw [Res.bind_ok] at w
      have key : ∃ n, rd G1 r = some (.int n) ∧ rgOk 0 n = true ∧ ∀ J H' M' ft', SI X.K σ H' M' G1 ft' → Stp σ G H M ft σ G1 H' M' ft' → ItU X.K J (rgD 0 n) → R J H' := by
        split at w
        · rename_i p G3 ep
          split at ep
          · rename_i n e1
            split at ep
            · rename_i c
              cases ep
              exact ⟨n, e1, c, w⟩
            · cases ep
          · cases ep
        · rename_i x ep
          split at ep
          · split at ep <;> cases ep
          · cases ep
        · exact w.elim
      obtain ⟨n, er, c, w'⟩ := key
      cases rd_int S1 er R1
      obtain ⟨b1, b2, b3, b4, _⟩ := rgOk_ok c
      refine ⟨n, rfl, b3, b4, ?_⟩
      have := w' (Itr 0 (n - 0).toNat) H1 M1 ft1 S1 P1 (itU_range 0 n)
      rw [Int.sub_zero] at this
      exact this
    | ex x => rw [e] at w; exact w
    | bad => rw [e] at w; exact w
theorem fu_rg2 {a b : Expr} {fa fb : Gm → Res Rv} {p pos : Pos} (hg : Gl X "range") (hm : X.mg "range" = none) (ha : PE X a (tFE X.K XR E fa)) (hb : PE X b (tFE X.K XR E fb)) (hs : starEach [a, b] X.env = [(false, eval a X.env), (false, eval b X.env)] := by rfl) (hs2 : starEach [b] X.env = [(false, eval b X.env)] := by rfl) :
    PI X tg (.Call (.Name "range" p) [a, b] [] pos) (tFU X.K XR E (iRg2 fa fb)) :=
  PI.le (pi_range2 hg hm (pa_cons ha (pa_cons hb pa_nil (by rw [hs2]; rfl)) (by rw [hs, hs2])) hs hs2) fun σ H R ⟨M, G, ft, S, w⟩ => by
    refine ⟨M, G, ft, S, ?_⟩
    unfold iRg2 at w
    cases e : fa G with
    | ok r G1 =>
      rw [e] at w
      intro v H1 M1 ft1 S1 P1 R1
      rw [Res.bind_ok] at w
      refine ⟨M1, G1, ft1, S1, ?_⟩
      cases e2 : fb G1 with
      | ok r2 G2 =>
        rw [e2] at w
        intro v2 H2 M2 ft2 S2 P2 R2
        rw [Res.bind_ok] at w
        have key : ∃ i j, rd G2 r = some (.int i) ∧ rd G2 r2 = some (.int j) ∧ rgOk i j = true ∧ ∀ J H' M' ft', SI X.K σ H' M' G2 ft' → Stp σ G H M ft σ G2 H' M' ft' → ItU X.K J (rgD i j) → R J H' := by
          split at w
          · rename_i p G3 ep
            split at ep
            · rename_i i j e1 e2
              split at ep
              · rename_i c
                cases ep
                exact ⟨i, j, e1, e2, c, w⟩
              · cases ep
            · cases ep
          · rename_i x ep
            split at ep
            · split at ep <;> cases ep
            · cases ep
          · exact w.elim
        obtain ⟨i, j, e1, e2, c, w'⟩ := key
        cases rd_int S2 e1 (R1.later P2)
        cases rd_int S2 e2 R2
        obtain ⟨b1, b2, b3, b4, _⟩ := rgOk_ok c
        exact ⟨i, j, rfl, ⟨b1, b2, b3, b4⟩, w' _ H2 M2 ft2 S2 (P1.trans P2) (itU_range i j)⟩
      | ex x => rw [e2] at w; exact fun cls d H' y fr => w cls d H' y (Frm.trans P1 fr)
      | bad => rw [e2] at w; exact w
    | ex x => rw [e] at w; exact w
    | bad => rw [e] at w; exact w
end
section
variable {K : PySem.W.Frag} {XR : XRt} {E : XK} {vs tv : List Nat} {tg : PyData → Gm → Option Gm} {tst : Gm → Res Bool} {elt : Gm → Res Rv}
theorem wiped_no {G5 : Gm} : ∀ i, i ∈ vs → i < (wipeG G5 vs).length → (wipeG G5 vs)[i]? = some .no := fun i hi hlt => by
  rw [wipeG_at]
  unfold wipeG at hlt
  rw [List.length_mapIdx] at hlt
  rw [List.getElem?_eq_getElem hlt]
  show some (if vs.contains i then Sl.no else _) = _
  rw [if_pos (cont_iff.mpr hi)]
/-- the inner loop of a comprehension, its list D aside; the base knows no D -/
theorem comp_loop {σb σ : L2.St} {Gb G : Gm} {Hb Mb H M : Hp} {ftb ft : Nat → List Addr} {D : Addr} {acc acc' ds : List PyData} {G2 : Gm} {J : It} {Fin : Hp → Prop} (htv : ∀ i, i ∈ tv → i ∈ vs) (hpl : plainAt Gb vs = true)
    (S : SI K σ H M G ft) (P : Stp σb Gb Hb Mb ftb σ G H M ft) (hD : Hb D = none) (A : Aside K H M ft D acc) (IO : ItU K J ds) (hr : compF vs tg tst elt ds acc (wipeG G vs) = .ok acc' G2)
    (fin : ∀ H' M' ft', SI K (L2.wipe σ vs) H' M' G2 ft' → Stp σb Gb Hb Mb ftb (L2.wipe σ vs) G2 H' M' ft' → Aside K H' M' ft' D acc' → Fin H') :
    ∃ W : Nat → Nat → Hp → Prop, (∃ m, W 0 m H) ∧ ∀ i m H, W i m H → (J.stop i H ∧ Fin H) ∨ (J.go i H ∧ ∃ Nx : Hp → Prop, (∀ H', Nx H' → ∃ m', m' < m ∧ W (i + 1) m' H') ∧ ∀ x H', J.yld i H x H' → tFG K tv tg x (L2.wipe σ vs) H' fun σ2 H2 => L2.wipe σ2 vs = L2.wipe σ vs ∧ tFT K XR E0 tst σ2 H2 fun b H3 =>
      if b = true then tFE K XR E0 elt σ2 H3 fun y H4 => ∃ acc, H4 D = some (.lst acc) ∧ acc.length < sizeLine ∧ Nx (upd H4 D (.lst (acc ++ [y]))) else Nx H3) := by
  have SW := S.wipe (vs := vs) (σ' := L2.wipe σ vs) (fun i hi => wipe_at σ vs i hi) (wipe_length σ vs)
  have PW := P.wipe (σ' := L2.wipe σ vs) hpl fun i hi => wipe_at σ vs i hi
  refine ⟨fun i m H' => m = ds.length - i ∧ i ≤ ds.length ∧ ∃ G' M' ft' acc, SI K (L2.wipe σ vs) H' M' G' ft' ∧ Stp σb Gb Hb Mb ftb (L2.wipe σ vs) G' H' M' ft' ∧ Aside K H' M' ft' D acc ∧ compF vs tg tst elt (ds.drop i) acc G' = .ok acc' G2,
    ⟨ds.length, by simp, Nat.zero_le _, wipeG G vs, M, ftW ft vs, acc, SW, PW, ⟨A.at_, A.hid, fun i z => A.out i (ftW_sub z)⟩, by rw [List.drop_zero]; exact hr⟩, ?_⟩
  rintro i m H' ⟨rfl, hi, G', M', ft', acc, S', P', A', w'⟩
  obtain ⟨hgo, hst⟩ := IO _ G' H' M' ft' S' i
  cases ed : ds[i]? with
  | none =>
    have hz : ds.drop i = [] := List.drop_eq_nil_of_le (List.getElem?_eq_none_iff.mp ed)
    rw [hz] at w'
    have w2 : (Res.ok acc G' : Res (List PyData)) = .ok acc' G2 := w'
    cases w2
    exact .inl ⟨hst ed, fin H' M' ft' S' P' A'⟩
  | some d =>
    obtain ⟨h1, h2⟩ := hgo d ed
    have hlt : i < ds.length := (List.getElem?_eq_some_iff.mp ed).1
    have hz : ds.drop i = d :: ds.drop (i + 1) := by
      rw [List.drop_eq_getElem_cons (h := hlt)]
      have : ds[i] = d := (List.getElem?_eq_some_iff.mp ed).2
      rw [this]
    rw [hz] at w'
    refine .inr ⟨h1, fun H' => ∃ G' M' ft' acc, SI K (L2.wipe σ vs) H' M' G' ft' ∧ Stp σb Gb Hb Mb ftb (L2.wipe σ vs) G' H' M' ft' ∧ Aside K H' M' ft' D acc ∧ compF vs tg tst elt (ds.drop (i + 1)) acc G' = .ok acc' G2, fun H' h => ⟨ds.length - (i + 1), by omega, rfl, hlt, h⟩, fun x H3 hy => ?_⟩
    obtain ⟨M3, S3, P3, D3⟩ := h2 x H3 hy
    have P03 := P'.trans P3
    refine ⟨M3, G', ft', d, S3, D3, ?_⟩
    unfold compF at w'
    cases eg : tg d G' with
    | none => rw [eg] at w'; cases w'
    | some G4 =>
      rw [eg] at w'
      dsimp only at w'
      intro σ4 H4 M4 ft4 S4 P4 k4 l4
      have P04 := P03.trans P4
      have A4 := (A'.later P3).later P4
      have ks : ∀ i, i ∉ vs → σ4[i]? = (L2.wipe σ vs)[i]? := fun i hi => k4 i fun z => hi (htv i z)
      have ew : L2.wipe σ4 vs = L2.wipe σ vs := by
        rw [wipe_eq ks l4]
        exact wipe_eq (fun i hi => wipe_at σ vs i hi) (wipe_length σ vs)
      have ks' : ∀ i, i ∉ vs → (L2.wipe σ vs)[i]? = σ4[i]? := fun i hi => (ks i hi).symm
      refine ⟨ew, M4, G4, ft4, S4, ?_⟩
      cases et : tst G4 with
      | ex e => rw [et] at w'; cases w'
      | bad => rw [et] at w'; cases w'
      | ok b G5 =>
        rw [et] at w'
        intro b' H5 M5 ft5 S5 P5 eb
        cases eb
        have P05 := P04.trans P5
        have A5 := A4.later P5
        cases b with
        | false =>
          dsimp only at w'
          have S6 := S5.wipe (vs := vs) ks' (by rw [wipe_length]; rw [l4, wipe_length])
          have P6 := P05.wipe hpl ks'
          exact ⟨wipeG G5 vs, M5, ftW ft5 vs, acc, S6, P6, ⟨A5.at_, A5.hid, fun i z => A5.out i (ftW_sub z)⟩, w'⟩
        | true =>
          dsimp only at w'
          rw [if_pos rfl]
          refine ⟨M5, G5, ft5, S5, ?_⟩
          cases ee : elt G5 with
          | ex e => rw [ee] at w'; cases w'
          | bad => rw [ee] at w'; cases w'
          | ok r G6 =>
            rw [ee] at w'
            dsimp only at w'
            intro y H6 M6 ft6 S6 P6 R6
            have P06 := P05.trans P6
            have A6 := A5.later P6
            cases er : retain G6 r with
            | none => rw [er] at w'; cases w'
            | some xg =>
              obtain ⟨x', G7⟩ := xg
              rw [er] at w'
              dsimp only at w'
              obtain ⟨F, RF⟩ := R6.f
              obtain ⟨M7, ft7, S7, P7, s7, D7, hf7, hn7⟩ := retain_ok (σ0 := σ4) (G0 := G5) (H0 := H5) (M0 := M5) (ft0 := ft5) S6 P6 (fun a z => z) er RF
              obtain ⟨xs, a1, a2⟩ := A6.at_
              by_cases hlim : lim (acc.length + 1) = true
              · rw [if_pos hlim] at w'
                refine ⟨xs, a1, by rw [a2.length]; exact lim_succ hlim, ?_⟩
                have hid7 : M7 D = none := by
                  cases e7 : M7 D with
                  | none => rfl
                  | some o =>
                    rcases hn7 D A6.hid (by rw [e7]; exact Option.some_ne_none _) with z | ⟨j, z⟩
                    · obtain ⟨q1, _⟩ := RF.out D z
                      obtain ⟨xs5, q2, _⟩ := A5.at_
                      rw [q1] at q2; cases q2
                    · exact absurd z (A6.out j)
                have out7 : ∀ i, D ∉ ft7 i := fun i z => A6.out i (hf7 i D z)
                have S8 := (S7.wipe (vs := vs) ks' (by rw [wipe_length]; rw [l4, wipe_length])).poke (u := .lst (xs ++ [y])) a1 hid7 (fun i z => out7 i (ftW_sub z))
                have P8 := ((P05.trans P7).wipe (vs := vs) (σ' := L2.wipe σ vs) hpl ks').poke (D := D) (u := .lst (xs ++ [y])) a1 hD
                exact ⟨wipeG G7 vs, M7, ftW ft7 vs, acc ++ [x'], S8, P8, ⟨⟨_, upd_same, (a2.mono s7).append (.one D7)⟩, hid7, fun i z => out7 i (ftW_sub z)⟩, w'⟩
              · rw [if_neg hlim] at w'; cases w'
end
def comp2F (vs vs1 : List Nat) (tg : PyData → Gm → Option Gm) (tst : Gm → Res Bool) (it1 : Gm → Res Itv) (tg1 : PyData → Gm → Option Gm) (tst1 : Gm → Res Bool) (elt : Gm → Res Rv) : List PyData → List PyData → Gm → Res (List PyData)
  | [], acc, G => .ok acc G
  | d :: ds, acc, G => match tg d G with
    | none => .bad
    | some G1 => match tst G1 with
      | .ok true G2 => match it1 G2 with
        | .ok p G3 => match compF vs1 tg1 tst1 elt p.1 acc (wipeG G3 vs1) with
          | .ok acc' G4 => comp2F vs vs1 tg tst it1 tg1 tst1 elt ds acc' (wipeG G4 vs)
          | _ => .bad
        | _ => .bad
      | .ok false G2 => comp2F vs vs1 tg tst it1 tg1 tst1 elt ds acc (wipeG G2 vs)
      | _ => .bad
def fComp2 (it : Gm → Res Itv) (vs vs1 : List Nat) (tg : PyData → Gm → Option Gm) (tst : Gm → Res Bool) (it1 : Gm → Res Itv) (tg1 : PyData → Gm → Option Gm) (tst1 : Gm → Res Bool) (elt : Gm → Res Rv) : Gm → Res Rv := fun G => (it G).bind fun p G1 =>
  if plainAt G1 vs then match comp2F vs vs1 tg tst it1 tg1 tst1 elt p.1 [] (wipeG (lockAll G1 p.2) vs) with
    | .ok acc G2 => .ok (.new (.lst acc)) (unlockAll G1 (unwipe (lockAll G1 p.2) G2 vs))
    | _ => .bad
  else .bad
theorem plain_sub {G : Gm} {vs vs1 : List Nat} (h : plainAt G vs = true) (hs : ∀ i, i ∈ vs1 → i ∈ vs) : plainAt G vs1 = true := by
  unfold plainAt at h ⊢
  rw [List.all_eq_true] at h ⊢
  exact fun j hj => h j (hs j hj)
section
variable {K : PySem.W.Frag} {XR : XRt} {E : XK} {it it1 : Gm → Res Itv} {vs tv vs1 tv1 : List Nat} {tg tg1 : PyData → Gm → Option Gm} {tst tst1 : Gm → Res Bool} {elt : Gm → Res Rv}
theorem comp2_le (htv : ∀ i, i ∈ tv → i ∈ vs) (htv1 : ∀ i, i ∈ tv1 → i ∈ vs1) (hvs : ∀ i, i ∈ vs1 → i ∈ vs) : ∀ σ H Q, tFE K XR E (fComp2 it vs vs1 tg tst it1 tg1 tst1 elt) σ H Q → tLc2 (tFI K XR E it) (tFG K tv tg) (tFT K XR E0 tst) (tFU K XR E0 it1) (tFG K tv1 tg1) (tFT K XR E0 tst1) (tFE K XR E0 elt) vs vs1 σ H Q := fun σ H Q ⟨M, G, ft, S, w⟩ => by
  refine ⟨M, G, ft, S, ?_⟩
  unfold fComp2 at w
  cases ei : it G with
  | ex x => rw [ei] at w; exact w
  | bad => rw [ei] at w; exact w
  | ok p G1 =>
    rw [ei] at w
    intro J H1 M1 ft1 S1 P1 IO D hD
    rw [Res.bind_ok] at w
    split at w
    · rename_i hpl
      have hpl' := plain_lock (lk := p.2) hpl
      have SL := S1.lock p.2
      have SW := SL.wipe (vs := vs) (σ' := L2.wipe σ vs) (fun i hi => wipe_at σ vs i hi) (wipe_length σ vs)
      have PW : Stp σ (lockAll G1 p.2) H1 M1 ft1 (L2.wipe σ vs) (wipeG (lockAll G1 p.2) vs) H1 M1 (ftW ft1 vs) := Stp.wipe .refl hpl' fun i hi => wipe_at σ vs i hi
      have hMD : M1 D = none := S1.sub.nn hD
      refine ⟨fun i m H' => m = p.1.length - i ∧ i ≤ p.1.length ∧ ∃ G' M' ft' acc, SI K (L2.wipe σ vs) H' M' G' ft' ∧ Stp σ (lockAll G1 p.2) H1 M1 ft1 (L2.wipe σ vs) G' H' M' ft' ∧ Aside K H' M' ft' D acc ∧ (∀ i, i ∈ vs → i < G'.length → G'[i]? = some .no) ∧
          WP K XR E (ROv K σ) σ G H M ft (match comp2F vs vs1 tg tst it1 tg1 tst1 elt (p.1.drop i) acc G' with | .ok acc G2 => .ok (.new (.lst acc)) (unlockAll G1 (unwipe (lockAll G1 p.2) G2 vs)) | _ => .bad) Q, ⟨p.1.length, by simp, Nat.zero_le _, wipeG (lockAll G1 p.2) vs, M1, ftW ft1 vs, [], SW.lay hD _, PW.trans (Stp.lay SW hD _), ⟨⟨[], upd_same, .nil⟩, hMD, SW.fresh hD⟩, wiped_no, by rw [List.drop_zero]; exact w⟩, ?_⟩
      rintro i m H' ⟨rfl, hi, G', M', ft', acc, S', P', A', hw', w'⟩
      obtain ⟨hgo, hst⟩ := IO _ G' H' M' ft' S' P' i
      cases ed : p.1[i]? with
      | none =>
        have hz : p.1.drop i = [] := List.drop_eq_nil_of_le (List.getElem?_eq_none_iff.mp ed)
        rw [hz] at w'
        refine .inl ⟨hst ed, ?_⟩
        obtain ⟨SU, PU⟩ := unwipe_ok S' SL P' hpl' hw'
        obtain ⟨SV, PV⟩ := unlock_ok SU PU
        obtain ⟨xs, a1, a2⟩ := A'.at_
        refine w' (.ref D) H' M' ft' SV (P1.trans PV) ⟨D, [D], rfl, ⟨rfl, xs, a1, a2⟩, fun a ha => ?_⟩
        cases List.mem_singleton.mp ha
        exact ⟨A'.hid, P1.nn hD, A'.out⟩
      | some d =>
        obtain ⟨h1, h2⟩ := hgo d ed
        have hlt : i < p.1.length := (List.getElem?_eq_some_iff.mp ed).1
        have hz : p.1.drop i = d :: p.1.drop (i + 1) := by
          rw [List.drop_eq_getElem_cons (h := hlt)]
          have : p.1[i] = d := (List.getElem?_eq_some_iff.mp ed).2
          rw [this]
        rw [hz] at w'
        refine .inr ⟨h1, fun H' => ∃ G' M' ft' acc, SI K (L2.wipe σ vs) H' M' G' ft' ∧ Stp σ (lockAll G1 p.2) H1 M1 ft1 (L2.wipe σ vs) G' H' M' ft' ∧ Aside K H' M' ft' D acc ∧ (∀ i, i ∈ vs → i < G'.length → G'[i]? = some .no) ∧
          WP K XR E (ROv K σ) σ G H M ft (match comp2F vs vs1 tg tst it1 tg1 tst1 elt (p.1.drop (i + 1)) acc G' with | .ok acc G2 => .ok (.new (.lst acc)) (unlockAll G1 (unwipe (lockAll G1 p.2) G2 vs)) | _ => .bad) Q, fun H' h => ⟨p.1.length - (i + 1), by omega, rfl, hlt, h⟩, fun x H3 hy => ?_⟩
        obtain ⟨M3, S3, P3, D3⟩ := h2 x H3 hy
        have P03 := P'.trans P3
        refine ⟨M3, G', ft', d, S3, D3, ?_⟩
        unfold comp2F at w'
        cases eg : tg d G' with
        | none => rw [eg] at w'; exact w'.elim
        | some G4 =>
          rw [eg] at w'
          dsimp only at w'
          intro σ4 H4 M4 ft4 S4 P4 k4 l4
          have P04 := P03.trans P4
          have A4 := (A'.later P3).later P4
          have ks : ∀ i, i ∉ vs → σ4[i]? = (L2.wipe σ vs)[i]? := fun i hi => k4 i fun z => hi (htv i z)
          have ew : L2.wipe σ4 vs = L2.wipe σ vs := by
            rw [wipe_eq ks l4]
            exact wipe_eq (fun i hi => wipe_at σ vs i hi) (wipe_length σ vs)
          have ks' : ∀ i, i ∉ vs → (L2.wipe σ vs)[i]? = σ4[i]? := fun i hi => (ks i hi).symm
          refine ⟨ew, M4, G4, ft4, S4, ?_⟩
          cases et : tst G4 with
          | ex e => rw [et] at w'; exact w'.elim
          | bad => rw [et] at w'; exact w'.elim
          | ok b G5 =>
            rw [et] at w'
            intro b' H5 M5 ft5 S5 P5 eb
            cases eb
            have P05 := P04.trans P5
            have A5 := A4.later P5
            cases b with
            | false =>
              dsimp only at w'
              have S6 := S5.wipe (vs := vs) ks' (by rw [wipe_length]; rw [l4, wipe_length])
              have P6 := P05.wipe hpl' ks'
              exact ⟨wipeG G5 vs, M5, ftW ft5 vs, acc, S6, P6, ⟨A5.at_, A5.hid, fun i z => A5.out i (ftW_sub z)⟩, wiped_no, w'⟩
            | true =>
              dsimp only at w'
              rw [if_pos rfl]
              refine ⟨M5, G5, ft5, S5, ?_⟩
              cases e1 : it1 G5 with
              | ex e => rw [e1] at w'; exact w'.elim
              | bad => rw [e1] at w'; exact w'.elim
              | ok p1 G6 =>
                rw [e1] at w'
                dsimp only at w'
                intro J1 H6 M6 ft6 S6 P6 IO1
                have P06 := P05.trans P6
                have A6 := A5.later P6
                cases ec : compF vs1 tg1 tst1 elt p1.1 acc (wipeG G6 vs1) with
                | ex e => rw [ec] at w'; exact w'.elim
                | bad => rw [ec] at w'; exact w'.elim
                | ok acc' G7 =>
                  rw [ec] at w'
                  dsimp only at w'
                  refine comp_loop (σb := σ) (Gb := lockAll G1 p.2) (Hb := H1) (Mb := M1) (ftb := ft1) htv1 (plain_sub hpl' hvs) S6 P06 hD A6 IO1 ec fun H7 M7 ft7 S7 P7 A7 => ?_
                  have kw : ∀ i, i ∉ vs → (L2.wipe σ vs)[i]? = (L2.wipe σ4 vs1)[i]? := fun i hi => by rw [wipe_at σ4 vs1 i fun z => hi (hvs i z)]; exact ks' i hi
                  have S8 := S7.wipe (vs := vs) kw (by rw [wipe_length, wipe_length, l4, wipe_length])
                  have P8 := P7.wipe (vs := vs) (σ' := L2.wipe σ vs) hpl' kw
                  exact ⟨wipeG G7 vs, M7, ftW ft7 vs, acc', S8, P8, ⟨A7.at_, A7.hid, fun i z => A7.out i (ftW_sub z)⟩, wiped_no, w'⟩
    · exact w.elim
end
/-! ### as terms -/
theorem PTs.le {X : Cx} {ifs : List Expr} {t t' : TT} (h : PTs X ifs t) (w : ∀ σ H Q, t' σ H Q → t σ H Q) : PTs X ifs t' := ⟨fun pins s σ H Q I q => h.run pins s σ H Q I (w σ H Q q)⟩
section
variable {X : Cx} {XR : XRt} {E : XK}
theorem fts_nil : PTs X [] (tFT X.K XR E tYesF) := PTs.le pts_nil fun σ H Q ⟨M, G, ft, S, w⟩ => w true H M ft S .refl rfl
theorem fts_one {c : Expr} {t : Gm → Res Bool} (h : PT X c (tFT X.K XR E t)) : PTs X [c] (tFT X.K XR E t) := pts_one h
variable {elt tgt iter tgt1 iter1 : Expr} {ifs ifs1 : List Expr} {scope : Scope} {own : List (Str × Nat)} {pos spos : Pos} {it it1 : Gm → Res Itv} {tv tv1 vs1 : List Nat} {tg tg1 : PyData → Gm → Option Gm} {tst tst1 : Gm → Res Bool} {fe : Gm → Res Rv}
theorem fe_lc (hc : X.calm = true) (hN : X.N.Nodup) (hi : PI X tgt iter (tFI X.K XR E it)) (ok : BlkOk X.N X.env.scope scope own) (htv : ∀ i, i ∈ tv → i ∈ own.map (·.2))
    (hg : ∀ (s : Shared) (H : Hp) (C : Addr) (cl : List (Str × Addr)) (fp : List Addr), PG (X.blk s H scope (compEnvC scope cl C X.env) fp) tgt (tFG X.K tv tg)) (ht : ∀ (s : Shared) (H : Hp) (C : Addr) (cl : List (Str × Addr)) (fp : List Addr), PTs (X.blk s H scope (compEnvC scope cl C X.env) fp) ifs (tFT X.K XR E0 tst))
    (he : ∀ (s : Shared) (H : Hp) (C : Addr) (cl : List (Str × Addr)) (fp : List Addr), PE (X.blk s H scope (compEnvC scope cl C X.env) fp) elt (tFE X.K XR E0 fe)) (hs : ∀ x, foldedSetIterable iter X.env x = pure x := by intro _; rfl) :
    PE X (.ListComp elt [⟨tgt, iter, ifs, 0⟩] scope pos) (tFE X.K XR E (fComp it (own.map (·.2)) tg tst fe)) := PE.le (pe_lc hc hN hi ok hg ht he hs) (comp_le htv)
theorem fs_setLc {i : Nat} {y : Str} {py : Pos} (hc : X.calm = true) (hN : X.N.Nodup) (hy : X.N[i]? = some y) (hyl : X.env.scope.names.lookup y = some .local) (hsw : swapsWith (.ListComp elt [⟨tgt, iter, ifs, 0⟩] scope pos) (some (.Name y py)) spos.line X.env = pure true)
    (hi : PI X tgt iter (tFI X.K XR E it)) (ok : BlkOk X.N X.env.scope scope own) (htv : ∀ i, i ∈ tv → i ∈ own.map (·.2))
    (hg : ∀ (s : Shared) (H : Hp) (C : Addr) (cl : List (Str × Addr)) (fp : List Addr), PG (X.blk s H scope (compEnvC scope cl C X.env) fp) tgt (tFG X.K tv tg)) (ht : ∀ (s : Shared) (H : Hp) (C : Addr) (cl : List (Str × Addr)) (fp : List Addr), PTs (X.blk s H scope (compEnvC scope cl C X.env) fp) ifs (tFT X.K XR E0 tst))
    (he : ∀ (s : Shared) (H : Hp) (C : Addr) (cl : List (Str × Addr)) (fp : List Addr), PE (X.blk s H scope (compEnvC scope cl C X.env) fp) elt (tFE X.K XR E0 fe)) (hs : ∀ x, foldedSetIterable iter X.env x = pure x := by intro _; rfl) :
    PS X (.Assign [.Name y py] (.ListComp elt [⟨tgt, iter, ifs, 0⟩] scope pos) spos) (tFS X.K XR E (sSet i (fComp it (own.map (·.2)) tg tst fe))) :=
  PS.le (ps_setLc hc hN hy hyl hsw hi ok hg ht he hs) fun D σ H ⟨M, G, ft, S, w⟩ => comp_le htv σ H _ (bindES S .refl w fun r G1 v H1 M1 ft1 _ S1 P1 R1 w1 => stor_ok S1 P1 (fun a z => z) R1 w1)
theorem fe_lc2 (hc : X.calm = true) (hN : X.N.Nodup) (hi : PI X tgt iter (tFI X.K XR E it)) (ok : BlkOk X.N X.env.scope scope own) (htv : ∀ i, i ∈ tv → i ∈ own.map (·.2)) (htv1 : ∀ i, i ∈ tv1 → i ∈ vs1) (hv : ∀ i ∈ vs1, i ∈ own.map (·.2))
    (hg : ∀ (s : Shared) (H : Hp) (C : Addr) (cl : List (Str × Addr)) (fp : List Addr), PG (X.blk s H scope (compEnvC scope cl C X.env) fp) tgt (tFG X.K tv tg)) (ht : ∀ (s : Shared) (H : Hp) (C : Addr) (cl : List (Str × Addr)) (fp : List Addr), PTs (X.blk s H scope (compEnvC scope cl C X.env) fp) ifs (tFT X.K XR E0 tst))
    (hi1 : ∀ (s : Shared) (H : Hp) (C : Addr) (cl : List (Str × Addr)) (fp : List Addr), PI (X.blk s H scope (compEnvC scope cl C X.env) fp) tgt1 iter1 (tFU X.K XR E0 it1))
    (hg1 : ∀ (s : Shared) (H : Hp) (C : Addr) (cl : List (Str × Addr)) (fp : List Addr), PG (X.blk s H scope (compEnvC scope cl C X.env) fp) tgt1 (tFG X.K tv1 tg1)) (ht1 : ∀ (s : Shared) (H : Hp) (C : Addr) (cl : List (Str × Addr)) (fp : List Addr), PTs (X.blk s H scope (compEnvC scope cl C X.env) fp) ifs1 (tFT X.K XR E0 tst1))
    (he : ∀ (s : Shared) (H : Hp) (C : Addr) (cl : List (Str × Addr)) (fp : List Addr), PE (X.blk s H scope (compEnvC scope cl C X.env) fp) elt (tFE X.K XR E0 fe)) (hs : ∀ x, foldedSetIterable iter X.env x = pure x := by intro _; rfl) (hs1 : ∀ env x, foldedSetIterable iter1 env x = pure x := by intro _ _; rfl) :
    PE X (.ListComp elt [⟨tgt, iter, ifs, 0⟩, ⟨tgt1, iter1, ifs1, 0⟩] scope pos) (tFE X.K XR E (fComp2 it (own.map (·.2)) vs1 tg tst it1 tg1 tst1 fe)) := PE.le (pe_lc2 hc hN hi ok hv hg ht hi1 hg1 ht1 he hs hs1) (comp2_le htv htv1 hv)
theorem fs_setLc2 {i : Nat} {y : Str} {py : Pos} (hc : X.calm = true) (hN : X.N.Nodup) (hy : X.N[i]? = some y) (hyl : X.env.scope.names.lookup y = some .local) (hsw : swapsWith (.ListComp elt [⟨tgt, iter, ifs, 0⟩, ⟨tgt1, iter1, ifs1, 0⟩] scope pos) (some (.Name y py)) spos.line X.env = pure true)
    (hi : PI X tgt iter (tFI X.K XR E it)) (ok : BlkOk X.N X.env.scope scope own) (htv : ∀ i, i ∈ tv → i ∈ own.map (·.2)) (htv1 : ∀ i, i ∈ tv1 → i ∈ vs1) (hv : ∀ i ∈ vs1, i ∈ own.map (·.2))
    (hg : ∀ (s : Shared) (H : Hp) (C : Addr) (cl : List (Str × Addr)) (fp : List Addr), PG (X.blk s H scope (compEnvC scope cl C X.env) fp) tgt (tFG X.K tv tg)) (ht : ∀ (s : Shared) (H : Hp) (C : Addr) (cl : List (Str × Addr)) (fp : List Addr), PTs (X.blk s H scope (compEnvC scope cl C X.env) fp) ifs (tFT X.K XR E0 tst))
    (hi1 : ∀ (s : Shared) (H : Hp) (C : Addr) (cl : List (Str × Addr)) (fp : List Addr), PI (X.blk s H scope (compEnvC scope cl C X.env) fp) tgt1 iter1 (tFU X.K XR E0 it1))
    (hg1 : ∀ (s : Shared) (H : Hp) (C : Addr) (cl : List (Str × Addr)) (fp : List Addr), PG (X.blk s H scope (compEnvC scope cl C X.env) fp) tgt1 (tFG X.K tv1 tg1)) (ht1 : ∀ (s : Shared) (H : Hp) (C : Addr) (cl : List (Str × Addr)) (fp : List Addr), PTs (X.blk s H scope (compEnvC scope cl C X.env) fp) ifs1 (tFT X.K XR E0 tst1))
    (he : ∀ (s : Shared) (H : Hp) (C : Addr) (cl : List (Str × Addr)) (fp : List Addr), PE (X.blk s H scope (compEnvC scope cl C X.env) fp) elt (tFE X.K XR E0 fe)) (hs : ∀ x, foldedSetIterable iter X.env x = pure x := by intro _; rfl) (hs1 : ∀ env x, foldedSetIterable iter1 env x = pure x := by intro _ _; rfl) :
    PS X (.Assign [.Name y py] (.ListComp elt [⟨tgt, iter, ifs, 0⟩, ⟨tgt1, iter1, ifs1, 0⟩] scope pos) spos) (tFS X.K XR E (sSet i (fComp2 it (own.map (·.2)) vs1 tg tst it1 tg1 tst1 fe))) :=
  PS.le (ps_setLc2 hc hN hy hyl hsw hi ok hv hg ht hi1 hg1 ht1 he hs hs1) fun D σ H ⟨M, G, ft, S, w⟩ => comp2_le htv htv1 hv σ H _ (bindES S .refl w fun r G1 v H1 M1 ft1 _ S1 P1 R1 w1 => stor_ok S1 P1 (fun a z => z) R1 w1)
end
end Fx
/-! FxM: products, methods, stores by place, several targets -/
namespace Fx
open PySem PySem.Spec
open PyProof.Rows L2
theorem tuple_mul1 (ad0 : Addr) (xs0 : Array Value) (n0 : Nat) (dd0 : Option Addr) (sl0 : Array (Option Value)) (tok : Tok) :
    Meets (Builtin.«tuple.__mul__» ⟨[.ref ad0, .int 1 tok], []⟩) (fun _ Rs sh => sh.heap.get? ad0 = some { cls := .type "tuple", dict := dd0, data := .seq xs0 n0, slots := sl0 } ∧ Rs (.ok (.ret (Value.ref ad0))) sh) :=
  .of_wp fun pg wd ar Rs sh goal => by
    obtain ⟨hpX, gnX, drX, tkX, osX⟩ := sh
    obtain ⟨at0, goal⟩ := goal
    have f1 := AutoSeq1.idx_int
    have c1 : (xs0.isEmpty || (1 : Int) == 1) = true := by simp
    wp_walk using (wpAny_loadPart' at0)
    exact ⟨_, rfl, goal⟩
def rRep1 (K : PySem.W.Frag) : R2 := fun xv yv Hh Qp => ∃ ad0 xs, xv = .ref ad0 ∧ yv = .int 1 ∧ SqT K Hh ad0 xs ∧ Qp (.ref ad0) Hh
theorem op_rep1 {X : Cx} : OpR X (binaryOp .Mult) (rRep1 X.K) := by
  intro pp sh τ Hh xv yv vw tok Qp Iv rpx rpy goal
  obtain ⟨ad0, xs, rfl, rfl, sqT, qe⟩ := goal
  cases rpx
  obtain ⟨tq, rfl⟩ := rpy
  obtain ⟨ts, rl, ⟨⟨kl, dd0, dat, sl0⟩, atO, eC, n0, eD⟩, eS⟩ := Iv.tuple sqT
  simp only at eC eD
  subst eC eD
  exact wpAny_binaryOp_repeat_ref (T := "tuple") (U := "int") (by decide) ⟨_, atO, rfl⟩ (fun s' => typeIs_int s' 1 tq) noFill_tuple_mul F.fills_int_mul F.slot_int_rmul repeat_tuple F.slot_int_index.lookup
    (call_meets F.slot_int_rmul (typeIs_int sh 1 tq) F.entry_int_rmul (F.args_int_rmul_2 _ _) (int_rmul_tuple 1 tq ad0 ts.toArray n0 dd0 sl0)
      ⟨atO, rfl, ⟨_, atO, rfl⟩, call_meets F.slot_tuple_mul ⟨_, atO, rfl⟩ F.entry_tuple_mul (F.args_tuple_mul_2 _ _) (tuple_mul1 ad0 ts.toArray n0 dd0 sl0 tq) ⟨atO, ⟨.ref ad0, Hh, Iv, rfl, qe⟩⟩⟩)
def rMulA (K : PySem.W.Frag) : R2 := fun xv yv Hh Qp => rI CMul (fun i j => .int (i * j)) xv yv Hh Qp ∨ (rRep xv yv Hh Qp ∨ (rRepT K xv yv Hh Qp ∨ rRep1 K xv yv Hh Qp))
theorem op_mulA {X : Cx} : OpR X (binaryOp .Mult) (rMulA X.K) := op_mul.or (op_rep.or (op_repT.or op_rep1))
def mulOk (i j : Int) : Bool := (decide (-(2 ^ 64) < i) && decide (i < 2 ^ 64)) || (decide (-(2 ^ 64) < j) && decide (j < 2 ^ 64))
def rep (xs : List PyData) (k : Int) : List PyData := (List.replicate k.toNat xs).flatten
def kMul : Gm → Rv → Rv → Res Rv := fun G a b => match rd G a, rd G b with
  | some (.int i), some (.int j) => if mulOk i j then .ok (.d (.int (i * j))) G else .bad
  | some (.list xs), some (.int k) => if decide (xs.length ≤ 1000) && decide (0 ≤ k) && decide (k ≤ 1000) then .ok (.new (.lst (rep xs k))) G else .bad
  | some (.tuple xs), some (.int k) => if decide (xs.length ≤ 1000) && decide (1 ≤ k) && decide (k ≤ 1000) && decide (xs ≠ [] ) then .ok (.d (.tuple (rep xs k))) G else .bad
  | _, _ => .bad
instance (xs : List PyData) : Decidable (xs ≠ []) := match xs with
  | [] => isFalse fun h => h rfl
  | _ :: _ => isTrue fun h => nomatch h
section
variable {K : PySem.W.Frag} {XR : XRt} {E : XK}
theorem snd_mul : Snd2 K XR E (rMulA K) kMul := by
  intro σ H M Ha Hb H0 M0 G G0 ft ft0 a b x y Q S P Ra Rb w
  unfold kMul at w
  split at w
  · rename_i i j ea eb
    cases rd_int S ea Ra
    cases rd_int S eb Rb
    split at w
    · rename_i c
      unfold mulOk at c
      simp only [Bool.or_eq_true, Bool.and_eq_true, decide_eq_true_eq] at c
      exact .inl ⟨i, j, rfl, rfl, c, WP.done w S P (.int _)⟩
    · exact w.elim
  · rename_i xs k ea eb
    cases rd_int S eb Rb
    obtain ⟨p, us, rfl, e1, g1⟩ := rd_list S ea Ra
    split at w
    · rename_i c
      simp only [Bool.and_eq_true, decide_eq_true_eq] at c
      refine .inr (.inl ⟨p, k, us, rfl, rfl, e1, by omega, by omega, ?_, fun l hl => w.lst S P (g1.rep k.toNat) hl⟩)
      rw [g1.length, sizeLine_eq]
      have : xs.length * k.toNat ≤ 1000 * 1000 := Nat.mul_le_mul c.1.1 (by omega)
      omega
    · exact w.elim
  · rename_i xs k ea eb
    cases rd_int S eb Rb
    obtain ⟨p, us, rfl, e1, g1⟩ := rd_tup S ea Ra
    split at w
    · rename_i c
      simp only [Bool.and_eq_true, decide_eq_true_eq] at c
      by_cases hk : k = 1
      · subst hk
        refine .inr (.inr (.inr ⟨p, us, rfl, rfl, S.sub.sqT e1, ?_⟩))
        have er : rep xs 1 = xs := by show (List.replicate 1 xs).flatten = xs; simp
        rw [er] at w
        exact WP.done w S P (.tup e1 g1)
      · exact .inr (.inr (.inl ⟨p, k, us, rfl, rfl, S.sub.sqT e1, fun z => c.2 (g1.nil_iff.mp z), by omega, by omega, by rw [g1.length]; exact c.1.1.1, fun l hl => w.tup S P (g1.rep k.toNat) hl⟩))
    · exact w.elim
  · exact w.elim
end
/-! ### methods of an owned list -/
def SndM (K : PySem.W.Frag) (XR : XRt) (E : XK) (r : V → List V → Hp → VK → Prop) (k : Gm → Nat → List Rv → Res Rv) : Prop :=
  ∀ (σ : L2.St) (H M H0 M0 : Hp) (G G0 : Gm) (ft ft0 : Nat → List Addr) (i : Nat) (rs : List Rv) (v : V) (vs : List V) (Q : VK), SI K σ H M G ft → Stp σ G0 H0 M0 ft0 σ G H M ft → σ[i]? = some (some v) → RvsOk K σ H M ft H0 rs vs → WP K XR E (ROv K σ) σ G0 H0 M0 ft0 (k G i rs) Q → r v vs H Q
def isLst (G : Gm) (i : Nat) : Bool := match ownAt G i with
  | some (.lst _) => true
  | _ => false
def fMeth (k : Gm → Nat → List Rv → Res Rv) (fo : Gm → Res Rv) (fs : Gm → Res (List Rv)) : Gm → Res Rv := fun G => (fo G).bind fun r G1 => match r with
  | .own i => if isLst G1 i then (fs G1).bind fun rs G2 => k G2 i rs else .bad
  | _ => .bad
section
variable {X : Cx} {XR : XRt} {E : XK} {o e : Expr} {es : List Expr} {fo : Gm → Res Rv} {fs : Gm → Res (List Rv)} {name : Str} {apos cpos : Pos} {id : String} {r : V → List V → Hp → VK → Prop} {k : Gm → Nat → List Rv → Res Rv}
theorem lst_ty {K : PySem.W.Frag} {σ : L2.St} {G : Gm} {H M : Hp} {ft : Nat → List Addr} {i : Nat} {v : V} (S : SI K σ H M G ft) (h : isLst G i = true) (hv : σ[i]? = some (some v)) : tyV K "list" v H := by
  unfold isLst at h
  split at h
  · rename_i ds e
    obtain ⟨p, rfl, ⟨_, xs, h1, _⟩, _⟩ := own_ok S e hv
    exact .inl ⟨rfl, xs, SqL.of h1⟩
  · cases h
theorem fe_meth (slot : Slot "list" name id) (hty : typeOf (.builtin id) = pure (.type "method_descriptor")) (hm : MtR X id r) (hk : SndM X.K XR E r k) (ho : PE X o (tFE X.K XR E fo)) (ha : PA X (e :: es) (tFA X.K XR E fs))
    (hbase : attributeBase o name X.env (eval o X.env) = eval o X.env := by rfl) (hfew : ((backTo cpos (starEach (e :: es) X.env)).all (fun x => !x.1) &&
      (backToKw cpos (keywordEach [] X.env)).all (fun x => x.1.isSome) && decide ((e :: es).length +
      ([] : List Keyword).length + (if ([] : List Keyword).isEmpty then 0 else 1) < 30)) = true := by rfl)
    (hline : (apos.endLine == cpos.line) = true := by rfl)
    (hs : starEach (e :: es) X.env = (false, eval e X.env) :: starEach es X.env := by rfl) (hplain : (backTo cpos (starEach es X.env)).any (·.1) = false := by rfl) :
    PE X (.Call (.Attribute o name apos) (e :: es) [] cpos) (tFE X.K XR E (fMeth k fo fs)) := PE.le (pe_bm PySem.F.plainAttrs_list slot hty hm ho ha hbase hfew hline hs hplain) fun σ H Q ⟨M, G, ft, S, w⟩ =>
  bindEE S .refl w fun r G1 v H1 M1 ft1 _ S1 P1 R1 w1 => by
    cases r with
    | d x => exact w1.elim
    | new o => exact w1.elim
    | own i =>
      dsimp only at w1
      split at w1
      · rename_i c
        exact ⟨lst_ty S1 c R1, bindAE S1 P1 w1 fun rs G2 vs H2 M2 ft2 _ S2 P2 R2 w2 => hk σ H2 M2 H M G2 G ft2 ft i rs v vs Q S2 (P1.trans P2) R1 (R2.base fun a z => P1.nn z) w2⟩
      · exact w1.elim
theorem fe_meth0 (slot : Slot "list" name id) (hty : typeOf (.builtin id) = pure (.type "method_descriptor")) (hm : MtR X id r) (hk : SndM X.K XR E r k) (ho : PE X o (tFE X.K XR E fo))
    (hbase : attributeBase o name X.env (eval o X.env) = eval o X.env := by rfl) (hline : (apos.endLine == cpos.line) = true := by rfl) : PE X (.Call (.Attribute o name apos) [] [] cpos) (tFE X.K XR E (fMeth k fo fNil)) := PE.le (pe_bm0 PySem.F.plainAttrs_list slot hty hm ho hbase hline) fun σ H Q ⟨M, G, ft, S, w⟩ =>
  bindEE S .refl w fun r G1 v H1 M1 ft1 _ S1 P1 R1 w1 => by
    cases r with
    | d x => exact w1.elim
    | new o => exact w1.elim
    | own i =>
      dsimp only at w1
      split at w1
      · rename_i c
        exact ⟨lst_ty S1 c R1, hk σ H1 M1 H M G1 G ft1 ft i [] v [] Q S1 P1 R1 .nil w1⟩
      · exact w1.elim
end
def kAppend (G : Gm) (i : Nat) : List Rv → Res Rv
  | [r] => match retain G r with
    | some (d, G1) => match mutAt G1 i with
      | some (.lst ds) => if lim (ds.length + 1) then .ok (.d .none) (setOwn G1 i (.lst (ds ++ [d]))) else .bad
      | _ => .bad
    | none => .bad
  | _ => .bad
def kPopAt (G : Gm) (i : Nat) : List Rv → Res Rv
  | [r] => match rd G r, mutAt G i with
    | some (.int n), some (.lst ds) => match ixN ds.length n with
      | some j => match ds[j]? with
        | some d => if decide (-100000 ≤ n) && decide (n ≤ 100000) then .ok (.d d) (setOwn G i (.lst (ds.eraseIdx j))) else .bad
        | none => .bad
      | none => .bad
    | _, _ => .bad
  | _ => .bad
def kPop (G : Gm) (i : Nat) : List Rv → Res Rv
  | [] => match mutAt G i with
    | some (.lst ds) => match ds[ds.length - 1]? with
      | some d => .ok (.d d) (setOwn G i (.lst ds.dropLast))
      | none => .bad
    | _ => .bad
  | _ => .bad
section
variable {K : PySem.W.Frag} {XR : XRt} {E : XK}
theorem DdA.dropLast {M : Hp} {vs : List V} {ds : List PyData} (h : DdA K M vs ds) : DdA K M vs.dropLast ds.dropLast := by
  rw [List.dropLast_eq_take, List.dropLast_eq_take, h.length]
  exact h.take _
theorem mut_list {σ : L2.St} {G : Gm} {H M : Hp} {ft : Nat → List Addr} {i : Nat} {v : V} {ds : List PyData} (S : SI K σ H M G ft) (h : mutAt G i = some (.lst ds)) (hv : σ[i]? = some (some v)) : ∃ p xs, v = .ref p ∧ H p = some (.lst xs) ∧ DdA K M xs ds := by
  obtain ⟨p, rfl, ⟨_, xs, h1, h2⟩, _⟩ := own_ok S (mut_own h).1 hv
  exact ⟨p, xs, rfl, h1, h2⟩
theorem snd_append : SndM K XR E rAppend kAppend := by
  intro σ H M H0 M0 G G0 ft ft0 i rs v vs Q S P hv R w
  unfold kAppend at w
  split at w
  · rename_i r
    split at w
    · rename_i d G1 er
      split at w
      · rename_i ds em
        split at w
        · rename_i c
          cases R with
          | @cons _ _ u _ us H1 F h0 RF hn t =>
          cases t
          obtain ⟨M1, ft1, S1, P1, s1, D1, _, _⟩ := retain_ok S P (fun a z => z) er RF
          obtain ⟨p, xs, rfl, h1, h2⟩ := mut_list S1 em hv
          obtain ⟨S2, P2⟩ := S1.putL (ds' := ds ++ [d]) em hv (h2.append (.one D1))
          exact ⟨p, xs, u, rfl, rfl, h1, by rw [h2.length]; exact lim_succ c, WP.done w S2 (P1.trans P2) .non⟩
        · exact w.elim
      · exact w.elim
    · exact w.elim
  · exact w.elim
theorem snd_popAt : SndM K XR E rPopAt kPopAt := by
  intro σ H M H0 M0 G G0 ft ft0 i rs v vs Q S P hv R w
  unfold kPopAt at w
  split at w
  · rename_i r
    split at w
    · rename_i n ds er em
      split at w
      · rename_i j ej
        split at w
        · rename_i d ed
          split at w
          · rename_i c
            simp only [Bool.and_eq_true, decide_eq_true_eq] at c
            obtain ⟨u, rfl, R1⟩ := R.one
            cases rd_int S er R1
            obtain ⟨p, xs, rfl, h1, h2⟩ := mut_list S em hv
            obtain ⟨S2, P2⟩ := S.putL (ds' := ds.eraseIdx j) em hv (h2.erase j)
            obtain ⟨y, hy, hd⟩ := h2.get ed
            obtain ⟨q1, q2, q3, q4⟩ := ixN_seq ej
            exact ⟨p, xs, n, j, y, rfl, rfl, h1, by omega, by omega, by rw [h2.length]; exact q1, hy, WP.done w S2 (P.trans P2) hd⟩
          · exact w.elim
        · exact w.elim
      · exact w.elim
    · exact w.elim
  · exact w.elim
theorem snd_pop : SndM K XR E rPop kPop := by
  intro σ H M H0 M0 G G0 ft ft0 i rs v vs Q S P hv R w
  unfold kPop at w
  split at w
  · split at w
    · rename_i ds em
      split at w
      · rename_i d ed
        cases R
        obtain ⟨p, xs, rfl, h1, h2⟩ := mut_list S em hv
        obtain ⟨S2, P2⟩ := S.putL (ds' := ds.dropLast) em hv h2.dropLast
        obtain ⟨y, hy, hd⟩ := h2.get ed
        exact ⟨p, xs, y, rfl, rfl, h1, by rw [h2.length]; exact hy, WP.done w S2 (P.trans P2) hd⟩
      · exact w.elim
    · exact w.elim
  · exact w.elim
end
/-! ### xs[i] = e -/
def kSetItem (G : Gm) (j : Nat) (ri r : Rv) : Res Out := match retain G r with
  | some (d, G1) => match rd G1 ri, mutAt G1 j with
    | some (.int k), some (.lst ds) => match ixN ds.length k with
      | some m => .ok .nx (setOwn G1 j (.lst (ds.set m d)))
      | none => .bad
    | _, _ => .bad
  | none => .bad
def sSetItem (fe fo fi : Gm → Res Rv) : Gm → Res Out := fun G => (fe G).bind fun r G1 => (fo G1).bind fun ro G2 => (fi G2).bind fun ri G3 => match ro with
  | .own j => kSetItem G3 j ri r
  | _ => .bad
/-! ### targets of any kind -/
def kAsg (tg : PyData → Gm → Option Gm) (G : Gm) (r : Rv) : Res Out := match retain G r with
  | some (d, G1) => match tg d G1 with
    | some G2 => .ok .nx G2
    | none => .bad
  | none => .bad
def sAsg (tg : PyData → Gm → Option Gm) (f : Gm → Res Rv) : Gm → Res Out := fun G => (f G).bind fun r G1 => kAsg tg G1 r
def plainR : Rv → Bool
  | .own _ => false
  | _ => true
def sPar (i j : Nat) (fs : Gm → Res (List Rv)) : Gm → Res Out := fun G => (fs G).bind fun rs G1 => match rs with
  | [a, b] => if plainR a && plainR b then match setSl G1 i a with
    | some G2 => match setSl G2 j b with
      | some G3 => .ok .nx G3
      | none => .bad
    | none => .bad
    else .bad
  | _ => .bad
def sPar3 (i j k : Nat) (fs : Gm → Res (List Rv)) : Gm → Res Out := fun G => (fs G).bind fun rs G1 => match rs with
  | [a, b, c] => if plainR a && plainR b && plainR c then match setSl G1 i a with
    | some G2 => match setSl G2 j b with
      | some G3 => match setSl G3 k c with
        | some G4 => .ok .nx G4
        | none => .bad
      | none => .bad
    | none => .bad
    else .bad
  | _ => .bad
section
variable {X : Cx} {XR : XRt} {E : XK} {o i e : Expr} {fe fo fi : Gm → Res Rv} {fs : Gm → Res (List Rv)} {pos : Pos}
theorem snd_setItem {K : PySem.W.Frag} {σ : L2.St} {H M H0 M0 : Hp} {G G0 : Gm} {ft ft0 : Nat → List Addr} {j : Nat} {r ri : Rv} {v vi vo : V} {Hi : Hp} {D : Ends} (S : SI K σ H M G ft) (P : Stp σ G0 H0 M0 ft0 σ G H M ft) (hv : σ[j]? = some (some vo)) (R : RvOk K σ H0 H M ft r v) (Ri : RvOk K σ Hi H M ft ri vi)
    (w : WS K XR E σ G0 H0 M0 ft0 (kSetItem G j ri r) D) : rSetL vo vi v H fun H' => D.nx σ H' := by
  unfold kSetItem at w
  split at w
  · rename_i d G1 er
    split at w
    · rename_i k ds ek em
      split at w
      · rename_i m ex
        obtain ⟨F, RF⟩ := R.f
        obtain ⟨M1, ft1, S1, P1, s1, D1, hf1, _⟩ := retain_ok S P (fun a z => z) er RF
        have Ri' : vi = .int k := by
          cases ri with
          | d x => cases ek; cases Ri; rfl
          | own n =>
            have h' : (ownAt G1 n).bind aoD = some (.int k) := ek
            cases e : ownAt G1 n with
            | none => (rw [e] at h'; exact nomatch h')
            | some q => rw [e] at h'; cases q <;> cases h'
          | new q => cases q <;> cases ek
        subst Ri'
        obtain ⟨p, xs, rfl, h1, h2⟩ := mut_list S1 em hv
        obtain ⟨S2, P2⟩ := S1.putL (ds' := ds.set m d) em hv (h2.set D1 m)
        exact ⟨p, xs, k, m, rfl, rfl, h1, by rw [h2.length]; exact ex, w.next S2 (P1.trans P2)⟩
      · exact w.elim
    · exact w.elim
  · exact w.elim
theorem fs_setItem {ps : Pos} (he : PE X e (tFE X.K XR E fe)) (ho : PE X o (tFE X.K XR E fo)) (hi : PE X i (tFE X.K XR E fi))
    (ha : ∀ v, assign (.Subscript o i ps) X.env v = (do
      let own ← holding [v] (eval o X.env)
      let at_ ← holding [v, own] (eval i X.env)
      standAt ps
      holding [v, own, at_] (setItem own at_ v)
      release [v, own, at_] []) := by intro _; rfl)
    (hs : swapsWithSole [.Subscript o i ps] e pos.line X.env = pure false := by rfl) (hw : swappedStores [.Subscript o i ps] e X.env = pure none := by rfl)
    (h1 : (assignEach [.Subscript o i ps] X.env).map (·.2) = [assign (.Subscript o i ps) X.env] := by rfl) : PS X (.Assign [.Subscript o i ps] e pos) (tFS X.K XR E (sSetItem fe fo fi)) :=
  PS.le (ps_asg he (pg_sub ho hi set_list ha) hs hw h1) fun D σ H ⟨M, G, ft, S, w⟩ => bindES S .refl w fun r G1 v H1 M1 ft1 _ S1 P1 R1 w1 =>
    bindES S1 P1 w1 fun ro G2 vo H2 M2 ft2 _ S2 P2 R2 w2 => bindES S2 (P1.trans P2) w2 fun ri G3 vi H3 M3 ft3 _ S3 P3 R3 w3 => by
      cases ro with
      | d x => exact w3.elim
      | new q => exact w3.elim
      | own j => exact snd_setItem S3 ((P1.trans P2).trans P3) R2 ((R1.later P2).later P3) R3 w3
theorem fs_asg {tgt : Expr} {tv : List Nat} {tg : PyData → Gm → Option Gm} (he : PE X e (tFE X.K XR E fe)) (hg : PG X tgt (tFG X.K tv tg)) (hs : swapsWithSole [tgt] e pos.line X.env = pure false := by rfl) (hw : swappedStores [tgt] e X.env = pure none := by rfl)
    (h1 : (assignEach [tgt] X.env).map (·.2) = [assign tgt X.env] := by rfl) : PS X (.Assign [tgt] e pos) (tFS X.K XR E (sAsg tg fe)) := PS.le (ps_asg he hg hs hw h1) fun D σ H ⟨M, G, ft, S, w⟩ =>
  bindES S .refl w fun r G1 v H1 M1 ft1 _ S1 P1 R1 w1 => by
    unfold kAsg at w1
    split at w1
    · rename_i d G2 er
      split at w1
      · rename_i G3 eg
        obtain ⟨F, RF⟩ := R1.f
        obtain ⟨M2, ft2, S2, P2, s2, D2, _, _⟩ := retain_ok S1 P1 (fun a z => z) er RF
        refine ⟨M2, G2, ft2, d, S2, D2, ?_⟩
        rw [eg]
        exact fun σ' H' M' ft' S' P' _ _ => w1.next S' (P2.trans P')
      · exact w1.elim
    · exact w1.elim
theorem set2 {K : PySem.W.Frag} {σ σ0 : L2.St} {H M H0 M0 : Hp} {G G0 G1 : Gm} {ft ft0 : Nat → List Addr} {i : Nat} {a b : Rv} {x y : V} {Ha : Hp} {Fb : List Addr} (S : SI K σ H M G ft) (P : Stp σ0 G0 H0 M0 ft0 σ G H M ft) (pa : plainR a = true) (pb : plainR b = true) (h : setSl G i a = some G1) {Fa : List Addr}
    (RFa : RvF K σ Ha H M ft Fa a x) (ha0 : ∀ c, Ha c = none → H0 c = none) {Hb : Hp} (RFb : RvF K σ Hb H M ft Fb b y) (hab : ∀ c ∈ Fa, Hb c ≠ none) : ∃ ft', SI K (σ.set i (some x)) H M G1 ft' ∧ Stp σ0 G0 H0 M0 ft0 (σ.set i (some x)) G1 H M ft' ∧ RvF K (σ.set i (some x)) Hb H M ft' Fb b y ∧
      (∀ j c, c ∈ ft' j → (∃ k, c ∈ ft k) ∨ c ∈ Fa) := by
  obtain ⟨ft', S', P', k⟩ := setSl_ok S P ha0 h RFa.ok
  have kk : ∀ j c, c ∈ ft' j → (∃ k, c ∈ ft k) ∨ c ∈ Fa := fun j c hc => by
    rcases k j c hc with z | ⟨o, p, F, e1, e2, g, hF⟩
    · exact .inl z
    · subst e1 e2
      obtain ⟨p', e3, g', _⟩ := RFa
      cases e3
      refine .inr ?_
      cases o with
      | lst ds => rw [g'.1]; rw [g.1] at hF; exact hF
      | dct kvs => rw [g'.1]; rw [g.1] at hF; exact hF
      | mat rows =>
        obtain ⟨ps, f1, _, f3, _⟩ := g
        obtain ⟨ps', f1', _, f3', _⟩ := g'
        rw [f3] at f3'
        have e5 : ps.map V.ref = ps'.map V.ref := HO.lst.inj (Option.some.inj f3')
        have e6 : ps = ps' := (List.map_inj_right (fun _ _ h => by cases h; rfl)).mp e5
        rw [f1', ← e6, ← f1]; exact hF
  refine ⟨ft', S', P', ?_, kk⟩
  cases b with
  | d z => exact RFb
  | own n => cases pb
  | new o =>
    obtain ⟨p, e, g, q⟩ := RFb
    refine ⟨p, e, g, fun c hc => ⟨(q c hc).1, (q c hc).2.1, fun j z => ?_⟩⟩
    rcases kk j c z with ⟨n, w⟩ | w
    · exact (q c hc).2.2 n w
    · exact hab c w (q c hc).2.1
theorem fs_par {n m : Nat} {x y : Str} {a b : Expr} {px py pt : Pos} {kt k2 pt2} (hc : X.calm = true) (hN : X.N.Nodup) (hi : X.N[n]? = some x) (hj : X.N[m]? = some y) (hij : n ≠ m) (hx : X.env.scope.names.lookup x = some .local) (hy : X.env.scope.names.lookup y = some .local) (ha : PA X [a, b] (tFA X.K XR E fs))
    (hw : swappedStores [.Tuple [.Name x px, .Name y py] kt pt] (.Tuple [a, b] k2 pt2) X.env = pure (some [x, y])) (hs : swapsWithSole [.Tuple [.Name x px, .Name y py] kt pt] (.Tuple [a, b] k2 pt2) pos.line X.env = pure false := by rfl) :
    PS X (.Assign [.Tuple [.Name x px, .Name y py] kt pt] (.Tuple [a, b] k2 pt2) pos) (tFS X.K XR E (sPar n m fs)) := PS.le (ps_par hc hN hi hj hij hx hy ha hw hs) fun D σ H ⟨M, G, ft, S, w⟩ =>
  bindAS S .refl w fun rs G1 vs H1 M1 ft1 hq S1 P1 R1 w1 => by
    split at w1
    · rename_i ra rb
      split at w1
      · rename_i c
        simp only [Bool.and_eq_true] at c
        split at w1
        · rename_i G2 e2
          split at w1
          · rename_i G3 e3
            cases R1 with
            | @cons _ _ u _ us Ha Fa h0 RFa hna t =>
            cases t with
            | @cons _ _ u2 _ us2 Hb Fb h1 RFb hnb t2 =>
            cases t2
            refine ⟨u, u2, rfl, ?_⟩
            obtain ⟨ft2, S2, P2, RFb', _⟩ := set2 S1 P1 c.1 c.2 e2 RFa (fun a z => z) RFb hna
            obtain ⟨ft3, S3, P3, _⟩ := setSl_ok S2 P2 h0 e3 RFb'.ok
            exact w1.next S3 P3
          · exact w1.elim
        · exact w1.elim
      · exact w1.elim
    · exact w1.elim
theorem fs_par3 {n m l : Nat} {x y z : Str} {a b c : Expr} {px py pz pt : Pos} {kt k2 pt2} (hc : X.calm = true) (hN : X.N.Nodup) (hi : X.N[n]? = some x) (hj : X.N[m]? = some y) (hl : X.N[l]? = some z) (hij : n ≠ m) (hil : n ≠ l) (hjl : m ≠ l)
    (hx : X.env.scope.names.lookup x = some .local) (hy : X.env.scope.names.lookup y = some .local) (hz : X.env.scope.names.lookup z = some .local) (ha : PA X [a, b, c] (tFA X.K XR E fs))
    (hw : swappedStores [.Tuple [.Name x px, .Name y py, .Name z pz] kt pt] (.Tuple [a, b, c] k2 pt2) X.env = pure (some [x, y, z])) (hs : swapsWithSole [.Tuple [.Name x px, .Name y py, .Name z pz] kt pt] (.Tuple [a, b, c] k2 pt2) pos.line X.env = pure false := by rfl) :
    PS X (.Assign [.Tuple [.Name x px, .Name y py, .Name z pz] kt pt] (.Tuple [a, b, c] k2 pt2) pos) (tFS X.K XR E (sPar3 n m l fs)) := PS.le (ps_par3 hc hN hi hj hl hij hil hjl hx hy hz ha hw hs) fun D σ H ⟨M, G, ft, S, w⟩ =>
  bindAS S .refl w fun rs G1 vs H1 M1 ft1 hq S1 P1 R1 w1 => by
    split at w1
    · rename_i ra rb rc
      split at w1
      · rename_i c
        simp only [Bool.and_eq_true] at c
        split at w1
        · rename_i G2 e2
          split at w1
          · rename_i G3 e3
            split at w1
            · rename_i G4 e4
              cases R1 with
              | @cons _ _ u _ us Ha Fa h0 RFa hna t =>
              cases t with
              | @cons _ _ u2 _ us2 Hb Fb h1 RFb hnb t2 =>
              cases t2 with
              | @cons _ _ u3 _ us3 Hc Fc h2 RFc hnc t3 =>
              cases t3
              refine ⟨u, u2, u3, rfl, ?_⟩
              obtain ⟨ft2, S2, P2, RFb', k2⟩ := set2 S1 P1 c.1.1 c.1.2 e2 RFa (fun a z => z) RFb hna
              obtain ⟨_, _, _, RFc', _⟩ := set2 S1 P1 c.1.1 c.2 e2 RFa (fun a z => z) RFc (fun q hq z => hna q hq (h1 q z))
              have RFc2 : RvF X.K (σ.set n (some u)) Hb H1 M1 ft2 Fc rc u3 := by
                cases rc with
                | d w => exact RFc
                | own w => cases c.2
                | new o =>
                  obtain ⟨p, e, g, q⟩ := RFc
                  refine ⟨p, e, g, fun d hd => ⟨(q d hd).1, (q d hd).2.1, fun j z => ?_⟩⟩
                  rcases k2 j d z with ⟨n, w⟩ | w
                  · exact (q d hd).2.2 n w
                  · exact hna d w (h1 d (q d hd).2.1)
              obtain ⟨ft3, S3, P3, RFc3, _⟩ := set2 S2 P2 c.1.2 c.2 e3 RFb' h0 RFc2 hnb
              obtain ⟨ft4, S4, P4, _⟩ := setSl_ok S3 P3 (fun a z => h0 a (h1 a z)) e4 RFc3.ok
              exact w1.next S4 P4
            · exact w1.elim
          · exact w1.elim
        · exact w1.elim
      · exact w1.elim
    · exact w1.elim
end
end Fx
/-! FxN: enumerate of lists and tuples, zip -/
namespace Fx
open PySem PySem.Spec
open PyProof.Rows L2
theorem meets_enum_newT (at0 : Addr) (xs0 : Array Value) (n0 : Nat) (d0 : Option Addr) (s0 : Array (Option Value)) :
    Meets (Builtin.«enumerate.__new__» ⟨[.type "enumerate", .ref at0], []⟩) (fun _ R sh => sh.heap.get? at0 = some { cls := .type "tuple", dict := d0, data := .seq xs0 n0, slots := s0 } ∧
      R (.ok (.ret (.ref (sh.heap.push { cls := .type "tuple_iterator", data := .fields #[.ref at0, .int 0 0] }).objs.size)))
        { sh with heap := (sh.heap.push { cls := .type "tuple_iterator", data := .fields #[.ref at0, .int 0 0] }).push { cls := .type "enumerate", data := .fields #[.none, .bool false, .ref sh.heap.objs.size, rawInt 0, .none, .none] } }) :=
  .of_wp fun pg wd ar R sh h => by
    obtain ⟨hp, g, d, tk, os⟩ := sh; obtain ⟨hl, h⟩ := h
    have hsub := sub_enumerate
    have hL : Heap.IsTuple (Shared.heap ⟨hp, g, d, tk, os⟩) at0 xs0 := ⟨_, hl, rfl, n0, rfl⟩
    wp_walk using AutoSeq1.wpAny_loadPart' hl
    refine wpAny_stack_any fun S0 => wpAny_pure ?_
    split
    · rename_i c _ _ _ _ _
      rcases (c == Value.type "enumerate") with _ | _
      · wp_walk using AutoSeq1.wpAny_loadPart' hl, wpAny_pyIter_tuple hL
        exact ⟨_, rfl, h⟩
      · wp_walk using AutoSeq1.wpAny_loadPart' hl, wpAny_pyIter_tuple hL
        exact ⟨_, rfl, h⟩
    · wp_walk using AutoSeq1.wpAny_loadPart' hl, wpAny_pyIter_tuple hL
      exact ⟨_, rfl, h⟩
section
variable {pg : Program} {wd : World} {ar : Around} {ek : Value → Shared → Prop} {sh : Shared}
theorem call_enum_tuple {at0 : Addr} {xs0 : Array Value} {Q : Value → Shared → Prop} (hL : sh.heap.IsTuple at0 xs0)
    (h : ∀ h', IsEnum h' (sh.heap.objs.size + 1) sh.heap.objs.size 0 .none → h'.IsTupleIter sh.heap.objs.size at0 0 → h'.objs.size = sh.heap.objs.size + 2 →
      (∀ ad ob, sh.heap.get? ad = some ob → h'.get? ad = some ob) → Q (.ref (sh.heap.objs.size + 1)) { sh with heap := h' }) :
    wpAny (model pg wd) ar (call (.type "enumerate") [.ref at0]) Q ek sh := by
  obtain ⟨⟨c, d0, dt, s0⟩, hl, ec, n0, ed⟩ := hL
  replace ec : c = .type "tuple" := ec
  replace ed : dt = .seq xs0 n0 := ed
  subst ec ed
  refine callType_new F.called_enumerate (by decide) (F.typeCall_enumerate_1 _) (F.newCall_enumerate_1 _)
    (fun _ => F.args_object_init_2 _ _) F.entry_enumerate_new (meets_enum_newT at0 xs0 n0 d0 s0) ⟨hl, ?_⟩
  have hl2 : (sh.heap.push { cls := .type "tuple_iterator", data := .fields #[.ref at0, .int 0 0] }).objs.size = sh.heap.objs.size + 1 := Heap.size_push ..
  show _ ∧ _
  rw [hl2]
  have hE : IsEnum ((sh.heap.push { cls := .type "tuple_iterator", data := .fields #[.ref at0, .int 0 0] }).push
      { cls := .type "enumerate", data := .fields #[.none, .bool false, .ref sh.heap.objs.size, rawInt 0, .none, .none] }) (sh.heap.objs.size + 1) sh.heap.objs.size 0 .none := by
    have := Heap.get?_push_size (sh.heap.push { cls := .type "tuple_iterator", data := .fields #[.ref at0, .int 0 0] })
      (o := { cls := .type "enumerate", data := .fields #[.none, .bool false, .ref sh.heap.objs.size, rawInt 0, .none, .none] }) rfl
    rw [hl2] at this; exact this
  refine ⟨⟨_, hE, rfl⟩, h _ hE ⟨_, Heap.get?_push_of_some _ (Heap.get?_push_size _ rfl), rfl, rfl⟩ (by rw [Heap.size_push, hl2]) fun ad ob y0 => Heap.get?_push_of_some _ (Heap.get?_push_of_some _ y0)⟩
end
/-- the tuple at a, each item in a mk pair -/
def IteT (K : PySem.W.Frag) (a : Addr) : It :=
  ⟨fun i Hh => ∃ (us0 : List V) (y0 : V), SqT K Hh a us0 ∧ us0[i]? = some y0, fun i Hh v H' => ∃ T y0, v = .ref T ∧ Hh T = none ∧ H' = upd Hh T (.tup [.int (i : Nat), y0]) ∧ ∀ us0, SqT K Hh a us0 → us0[i]? = some y0, fun i Hh => ∃ us0 : List V, SqT K Hh a us0 ∧ us0.length ≤ i⟩
theorem turn_enumT {P : Program} {wd : World} {K : PySem.W.Frag} {elts : List Expr} {kk : Nat} {tpos : Pos} (a e it : Addr) :
    Turn P wd K (.Tuple elts kk tpos) (IteT K a) [e, it] e (fun i h => (∃ ol, IsEnum h e it ((i : Nat) : Int) ol) ∧ h.IsTupleIter it a i ∧ e ≠ it ∧ a ≠ it ∧ e ≠ a) where
  mem := by simp
  obj := fun i h S0 ad mb => by
    obtain ⟨⟨ol, hE⟩, ⟨ob, eo, ec, ed⟩, _⟩ := S0
    have eqb : ad = e ∨ ad = it := by simpa using mb
    rcases eqb with zz | zz
    · rw [zz]; exact ⟨_, hE, fun v q => nomatch q⟩
    · rw [zz]; exact ⟨ob, eo, fun v q => by rw [ed] at q; cases q⟩
  keep := fun i h h' S0 k => let ⟨⟨ol, hE⟩, hi, n1⟩ := S0; ⟨⟨ol, k e (by simp) _ hE⟩, hi.at fun ob q => k it (by simp) ob q, n1⟩
  item := by
    intro X eP eW eK ec i pp sh τ Hh ek J fr S0 gq
    subst eP eW eK
    obtain ⟨⟨ol, hE⟩, hI, n1, n2, n3⟩ := S0
    obtain ⟨us0, y0, gq2, gx⟩ := gq
    obtain ⟨ts, rl, pT, hl2⟩ := J.tuple gq2
    obtain ⟨u0, gu, su⟩ := rl.get gx
    have el : e < sh.heap.objs.size := Heap.lt_size hE
    have il : it < sh.heap.objs.size := by obtain ⟨_, q, _⟩ := hI; exact Heap.lt_size q
    have jlt : i < ts.toArray.size := by
      have := (List.getElem?_eq_some_iff.mp gu).1
      simpa using this
    refine wpAny_pyNext_enum_itemD (Draws.tuple (prog := X.prog) (w := X.w) (A := X.A.in1) (J.ok.hd ec) it a n2 ts.toArray) hE ⟨hI, pT⟩ jlt n1 (by simp [n1, n3]) fun x' h' tk hx' eo st' tT hZ kp => ?_
    have ex : x' = u0 := by
      have q1 : ts.toArray[i]? = some x' := hx'
      have q2 : ts.toArray[i]? = some u0 := by simpa using gu
      rw [q1] at q2; cases q2; rfl
    subst ex
    refine ⟨_, rfl, wpAny_letOwnedTupleGo_enum (s := { sh with heap := h', toks := tk + 1 }) eo fun h'' he' sb => ?_⟩
    have tT2 : h''.get? sh.heap.objs.size = some { cls := .type "tuple", data := .seq #[.int i tk, x'] } := (sb.2 _ (Nat.ne_of_gt el)).trans tT
    have mk : ObjOk X.prog X.w (upd Hh sh.heap.objs.size (.tup [.int (i : Nat), y0])) h'' sh.heap.objs.size (.tup [.int (i : Nat), y0]) :=
      ⟨by show 2 ≤ sizeLine; decide, [.int i tk, x'], .cons ⟨_, rfl⟩ (.cons su .nil), ⟨_, tT2, rfl, _, rfl⟩⟩
    have J1 : Inv X pp τ (upd Hh sh.heap.objs.size (.tup [.int (i : Nat), y0])) { sh with heap := h'', toks := tk + 1 } :=
      J.turnedNew (ch := [e, it]) (fun ad ob mb q => (sb.2 ad (fun zz => mb (by simp [zz]))).trans (kp ad ob (fun zz => mb (by simp [zz])) (fun zz => mb (by simp [zz])) q)) fr (Nat.le_refl _) mk
    refine ⟨.ref sh.heap.objs.size, _, J1, rfl, ⟨_, y0, rfl, J.hok.fresh (Nat.le_refl _), rfl, fun ys hy => by rw [J.tuple_inj hy gq2]; exact gx⟩, ⟨⟨x', ?_⟩, st'.1.at fun ob q => (sb.2 it (Ne.symm n1)).trans q, n1, n2, n3⟩, fun ad mb => ?_⟩
    · have eN : ((i + 1 : Nat) : Int) = (i : Int) + 1 := by omega
      rw [eN]; exact he'
    · have mb2 : ad < sh.heap.objs.size := by
        have eqb : ad = e ∨ ad = it := by simpa using mb
        rcases eqb with zz | zz
        · rw [zz]; exact el
        · rw [zz]; exact il
      rw [upd_ne (Nat.ne_of_lt mb2)]
      exact (fr ad mb).1
  done := by
    intro X eP eW eK ec i pp sh τ Hh ek J fr S0 gq
    subst eP eW eK
    obtain ⟨⟨ol, hE⟩, hI, n1, n2, n3⟩ := S0
    obtain ⟨us0, gq2, gx⟩ := gq
    obtain ⟨ts, rl, pT, hl2⟩ := J.tuple gq2
    obtain ⟨f0, f1, f2, f3, f4, f5⟩ := fr it (by simp)
    have hl := rl.length
    have tT : sh.TypeIs (.ref e) "enumerate" := ⟨_, hE, rfl⟩
    unfold pyNext
    refine wpAny_bind (wpAny_attempt (wpAny_callSpecial?_slot (name := Str.ofString "__next__") tT F.slot_enumerate_next
      (wpAny_call_entry F.slot_enumerate_next tT F.entry_enumerate_next ?_ (F.args_enumerate_next_1 _))))
    show wpAny _ _ ((field (.ref e) 2) >>= _) _ _ _
    refine wpAny_bind (wpAny_field hE rfl (x := .ref it) rfl ?_)
    refine wpAny_bind (wpAny_nextOf_tuple_end (J.ok.hd ec) hI pT (by simp; omega) fun h' y0 he' hx' => ?_)
    obtain ⟨ob, eo, hc2⟩ := hx'
    refine wpAny_bind (wpAny_isInstance (T := "StopIteration") (b := true) ⟨ob, eo, hc2⟩ isSubtype_stop ?_)
    exact wpAny_pure ⟨rfl, J.turned (t' := sh.toks) (fun ad ob mb q => he' ad ob mb q) f0 f1 f3 f4 f5⟩
  self := fun ar i sh Q ek S0 h => let ⟨⟨_, hE⟩, _⟩ := S0; wpAny_pyIter_enum hE h
def wEnum (K : PySem.W.Frag) (te : TE) : TI := fun τ Hh R => te τ Hh fun y0 H1 => ∃ a, y0 = .ref a ∧ (((∃ us0, SqL K H1 a us0) ∧ R (Ite K a) H1) ∨ ((∃ us0, SqT K H1 a us0) ∧ R (IteT K a) H1))
theorem pi_enumA {X : Cx} {e : Expr} {te : TE} {pT pos tpos : Pos} {elts : List Expr} {kk : Nat} (gq : Gl X "enumerate") (hm : X.mg "enumerate" = none) (hE : PE X e te) (hs : starEach [e] X.env = [(false, eval e X.env)] := by rfl) :
    PI X (.Tuple elts kk tpos) (.Call (.Name "enumerate" pT) [e] [] pos) (wEnum X.K te) := by
  refine ⟨fun pp sh τ Hh R J h => ?_⟩
  have ha : PA X [e] (tCons te tNil) := pa_cons hE pa_nil (by rw [hs]; rfl)
  have h' : tCons te tNil τ Hh (fun vs H1 => ∃ a, vs = [.ref a] ∧ (((∃ us0, SqL X.K H1 a us0) ∧ R (Ite X.K a) H1) ∨ ((∃ us0, SqT X.K H1 a us0) ∧ R (IteT X.K a) H1))) := by
    have eN : (fun (y0 : V) (H1 : Hp) => ∃ a, y0 = .ref a ∧ (((∃ us0, SqL X.K H1 a us0) ∧ R (Ite X.K a) H1) ∨ ((∃ us0, SqT X.K H1 a us0) ∧ R (IteT X.K a) H1))) = fun y0 H1 => ∃ a, [y0] = [V.ref a] ∧ (((∃ us0, SqL X.K H1 a us0) ∧ R (Ite X.K a) H1) ∨ ((∃ us0, SqT X.K H1 a us0) ∧ R (IteT X.K a) H1)) := by
      funext y0 H1
      simp only [List.cons.injEq, and_true]
    show te τ Hh fun y0 H1 => ∃ a, [y0] = [V.ref a] ∧ _
    rw [← eN]
    exact h
  refine Call_ (ld_blt J gq hm boot_enumerate (PyProof.Rows.callWith_type1 (thn (ha.run pos pp sh τ Hh _ J h') fun us s1 ⟨vs, H1, J1, r1, q1⟩ => ?_) hs rfl))
  obtain ⟨a, ex, q⟩ := q1
  subst ex
  cases r1 with
  | cons r rr =>
    cases rr
    cases r
    have fresh2 : ∀ ad, ad ∈ [s1.heap.objs.size + 1, s1.heap.objs.size] → FpOk X pp H1 ad := fun ad mb => by
      have eqb : ad = s1.heap.objs.size + 1 ∨ ad = s1.heap.objs.size := by simpa using mb
      have geq : s1.heap.objs.size ≤ ad := by
        rcases eqb with zz | zz
        · rw [zz]; exact Nat.le_add_right _ _
        · rw [zz]; exact Nat.le_refl _
      exact J1.fpOk geq (J1.hok.fresh geq)
    rcases q with ⟨⟨us0, gq2⟩, q⟩ | ⟨⟨us0, gq2⟩, q⟩
    · obtain ⟨ts, rl, p', hl2⟩ := J1.list gq2
      refine call_enumerate_list p'.isList fun h' hE hI hZ kp => wpAny_pyIter_enum hE ?_
      have J2 : Inv X pp τ H1 { s1 with heap := h' } := J1.kept (t' := s1.toks) kp
      exact ⟨s1.heap.objs.size + 1, [s1.heap.objs.size + 1, s1.heap.objs.size], _, _, H1, rfl, J2, turn_enum a (s1.heap.objs.size + 1) s1.heap.objs.size, ⟨⟨.none, hE⟩, hI, Nat.succ_ne_self _⟩, fresh2, q⟩
    · obtain ⟨ts, rl, p', hl2⟩ := J1.tuple gq2
      obtain ⟨o1, ho1, _⟩ := id p'
      have hla : a < s1.heap.objs.size := Heap.lt_size ho1
      refine call_enum_tuple (show s1.heap.IsTuple a ts.toArray from p') fun h' hE hI hZ kp => wpAny_pyIter_enum hE ?_
      have J2 : Inv X pp τ H1 { s1 with heap := h' } := J1.kept (t' := s1.toks) kp
      exact ⟨s1.heap.objs.size + 1, [s1.heap.objs.size + 1, s1.heap.objs.size], _, _, H1, rfl, J2, turn_enumT a (s1.heap.objs.size + 1) s1.heap.objs.size, ⟨⟨.none, hE⟩, hI, Nat.succ_ne_self _, Nat.ne_of_lt hla, Nat.ne_of_gt (Nat.lt_succ_of_lt hla)⟩, fresh2, q⟩
/-! ### the rules by functions -/
def enumD (ds : List PyData) : List PyData := ds.mapIdx fun i d => .tuple [.int (i : Nat), d]
def enumR : Res Itv → Res Itv
  | .ok p G => .ok (enumD p.1, p.2) G
  | r => r
def iEnum (f : Gm → Res Rv) : Gm → Res Itv := fun G => (f G).bind fun r G1 => enumR (kItems G1 r)
section
variable {K : PySem.W.Frag} {σ : L2.St} {G : Gm} {H M : Hp} {ft : Nat → List Addr}
/-- a new pair is shown -/
theorem pair_shown {σ' : L2.St} {G' : Gm} {H' M' : Hp} {ft' : Nat → List Addr} (S' : SI K σ' H' M' G' ft') {T : Addr} {x y : V} {dx dy : PyData} (hT : H' T = none) (hx : Dd K M' x dx) (hy : Dd K M' y dy) :
    ∃ M3, SI K σ' (upd H' T (.tup [x, y])) M3 G' ft' ∧ Stp σ' G' H' M' ft' σ' G' (upd H' T (.tup [x, y])) M3 ft' ∧ Dd K M3 (.ref T) (.tuple [dx, dy]) := by
  have hm := S'.sub.nn hT
  exact ⟨upd M' T (.tup [x, y]), (S'.lay hT _).show upd_same hm (S'.fresh hT), (Stp.lay S' hT _).show hm (.inl hT), Dd.newT hm (.cons hx (.one hy))⟩
theorem enumD_at {ds : List PyData} {i : Nat} : (enumD ds)[i]? = (ds[i]?).map fun d => .tuple [.int (i : Nat), d] := by
  unfold enumD
  rw [List.getElem?_mapIdx]
theorem it_enumL {a : Addr} {ds : List PyData} (h : ∀ σ' G' H' M' ft', SI K σ' H' M' G' ft' → Stp σ G H M ft σ' G' H' M' ft' → ∃ xs, SqL K H' a xs ∧ DdA K M' xs ds) : ItOk K σ G H M ft (Ite K a) (enumD ds) := by
  intro σ' G' H' M' ft' S' P' i
  obtain ⟨xs, h1, h2⟩ := h σ' G' H' M' ft' S' P'
  rw [enumD_at]
  refine ⟨fun d e => ?_, fun e => ?_⟩
  · cases ed : ds[i]? with
    | none => rw [ed] at e; cases e
    | some d0 =>
      rw [ed] at e; cases e
      obtain ⟨v, e1, e2⟩ := h2.get ed
      refine ⟨⟨xs, v, h1, e1⟩, fun x H3 ⟨T, y, q1, q2, q3, q4⟩ => ?_⟩
      subst q1 q3
      have : some y = some v := (q4 xs h1).symm.trans e1
      cases this
      exact pair_shown S' q2 (.int _) e2
  · cases ed : ds[i]? with
    | none => exact ⟨xs, h1, by rw [h2.length]; exact List.getElem?_eq_none_iff.mp ed⟩
    | some d0 => rw [ed] at e; cases e
theorem it_enumT {a : Addr} {ds : List PyData} (h : ∀ σ' G' H' M' ft', SI K σ' H' M' G' ft' → Stp σ G H M ft σ' G' H' M' ft' → ∃ xs, SqT K H' a xs ∧ DdA K M' xs ds) : ItOk K σ G H M ft (IteT K a) (enumD ds) := by
  intro σ' G' H' M' ft' S' P' i
  obtain ⟨xs, h1, h2⟩ := h σ' G' H' M' ft' S' P'
  rw [enumD_at]
  refine ⟨fun d e => ?_, fun e => ?_⟩
  · cases ed : ds[i]? with
    | none => rw [ed] at e; cases e
    | some d0 =>
      rw [ed] at e; cases e
      obtain ⟨v, e1, e2⟩ := h2.get ed
      refine ⟨⟨xs, v, h1, e1⟩, fun x H3 ⟨T, y, q1, q2, q3, q4⟩ => ?_⟩
      subst q1 q3
      have : some y = some v := (q4 xs h1).symm.trans e1
      cases this
      exact pair_shown S' q2 (.int _) e2
  · cases ed : ds[i]? with
    | none => exact ⟨xs, h1, by rw [h2.length]; exact List.getElem?_eq_none_iff.mp ed⟩
    | some d0 => rw [ed] at e; cases e
end
theorem kItems_noex {G : Gm} {r : Rv} {e : Exn} : kItems G r ≠ .ex e := fun h => by
  unfold kItems at h
  split at h <;> first | (cases h; done) | (split at h <;> cases h)
section
variable {X : Cx} {XR : XRt} {E : XK} {e : Expr} {f : Gm → Res Rv} {p pos tpos : Pos} {elts : List Expr} {kk : Nat}
theorem fi_enum (hg : Gl X "enumerate") (hm : X.mg "enumerate" = none) (he : PE X e (tFE X.K XR E f)) (hs : starEach [e] X.env = [(false, eval e X.env)] := by rfl) : PI X (.Tuple elts kk tpos) (.Call (.Name "enumerate" p) [e] [] pos) (tFI X.K XR E (iEnum f)) :=
  PI.le (pi_enumA hg hm he hs) fun σ H R ⟨M, G, ft, S, w⟩ => by
    refine ⟨M, G, ft, S, ?_⟩
    unfold iEnum at w
    cases e : f G with
    | ok r G1 =>
      rw [e] at w
      intro v H1 M1 ft1 S1 P1 R1
      rw [Res.bind_ok] at w
      cases ek : kItems G1 r with
      | ok p G2 =>
        rw [ek] at w
        obtain ⟨eG, h⟩ := items_ok S1 ek R1
        subst eG
        cases h with
        | l a ea h =>
          obtain ⟨xs, h1, h2⟩ := h σ _ H1 M1 ft1 (S1.lock p.2) .refl
          exact ⟨a, ea, .inl ⟨⟨xs, h1⟩, w _ H1 M1 ft1 S1 P1 (it_enumL h)⟩⟩
        | t a ea h =>
          obtain ⟨xs, h1, h2⟩ := h σ _ H1 M1 ft1 (S1.lock p.2) .refl
          exact ⟨a, ea, .inr ⟨⟨xs, h1⟩, w _ H1 M1 ft1 S1 P1 (it_enumT h)⟩⟩
      | ex x => exact absurd ek kItems_noex
      | bad => rw [ek] at w; exact w.elim
    | ex x => rw [e] at w; exact w
    | bad => rw [e] at w; exact w
end
end Fx
/-! FxO: sorted of lists and tuples of ints or of tuples of ints, any length -/
namespace Fx
open PySem PySem.Spec
open PyProof.Rows L2
section
variable {pgm : Program} {wrl : World} {arn : Around} {ekk : Value → Shared → Prop} {shr : Shared}
theorem collect_tup {ad0 : Addr} {vls : List Value} {Q : List Value → Shared → Prop} (jl0 : shr.heap.IsTuple ad0 vls.toArray)
    (jh0 : Q vls { shr with heap := (shr.heap.push (seqObj "list" #[] 0)).update shr.heap.objs.size (Obj.mapSeq (· ++ vls.toArray)) }) (zsz : vls.length ≤ sizeLine) :
    wpAny (model pgm wrl) arn (collect (.ref ad0)) Q ekk shr := by
  obtain ⟨obb, eob, ecb, nn0, edb⟩ := id jl0
  delta collect
  apply wpAny_bind; apply wpAny_runValue
  refine codeAny_builtin entry_proto_collect' ?_
  show wpAny _ _ (do again (.builtin "list.__iadd__" ⟨[← newList [], .ref ad0], []⟩)) _ _ shr
  refine wpAny_bind (wpAny_newList (wpAny_pure ?_))
  refine ⟨Code.quiet_builtin _ (by decide +kernel), ?_⟩
  refine codeAny_builtin entry_list_iadd' ?_
  show wpAny _ _ (Builtin.List.listExtendWith (.ref shr.heap.objs.size) (.ref ad0) (.ref shr.heap.objs.size)) _ _ { shr with heap := shr.heap.push (seqObj "list" #[] 0) }
  delta Builtin.List.listExtendWith
  have ho' : (shr.heap.push (seqObj "list" #[] 0)).get? ad0 = some obb := Heap.get?_push_of_some _ eob
  refine wpAny_bind (wpAny_typeOf (T := "tuple") ⟨obb, ho', ecb⟩ ?_)
  have et0 : (Value.type "tuple" == Value.type "tuple") = true := by rfl
  rw [if_pos (by rw [et0]; simp)]
  have last := Heap.get?_push_size shr.heap (o := seqObj "list" #[] 0) rfl
  refine wpAny_bind (listItems_at ho' edb (wpAny_bind (listItems_at (xs := #[]) (n := 0) last rfl ?_)))
  rw [if_neg (by simp)]
  refine wpAny_bind (listUpdate_at (xs := #[]) (n := 0) (Heap.get?_push_size _ rfl) rfl ?_ (Nat.zero_le _) (by show (#[] ++ vls.toArray).size ≤ sizeLine + 1; simp only [Array.size_append, List.size_toArray, List.length_nil]; omega))
  refine wpAny_pure ?_
  show wpAny (model pgm wrl) arn (do
      let o ← load shr.heap.objs.size
      match o.data with
      | .seq xs _ => pure xs.toList
      | _ => unsupported "internal:collect") Q ekk { shr with heap := (shr.heap.push (seqObj "list" #[] 0)).update shr.heap.objs.size (Obj.mapSeq (· ++ vls.toArray)) }
  refine wpAny_bind (wpAny_load (get?_update_seq last _) ?_)
  show wpAny _ _ (pure ((#[] : Array Value) ++ vls.toArray).toList) Q ekk _
  rw [show ((#[] : Array Value) ++ vls.toArray).toList = vls by simp]
  exact wpAny_pure jh0
theorem collect_seq {ad0 : Addr} {vls : List Value} {Q : List Value → Shared → Prop} (jl0 : shr.heap.IsList ad0 vls.toArray ∨ shr.heap.IsTuple ad0 vls.toArray)
    (jh0 : Q vls { shr with heap := (shr.heap.push (seqObj "list" #[] 0)).update shr.heap.objs.size (Obj.mapSeq (· ++ vls.toArray)) }) (zsz : vls.length ≤ sizeLine) :
    wpAny (model pgm wrl) arn (collect (.ref ad0)) Q ekk shr := jl0.elim (fun jl0 => collect_list jl0 jh0 zsz) fun jl0 => collect_tup jl0 jh0 zsz
theorem sorted_of {ad0 : Addr} {vls : List Value} {kws : List (Str × Value)} {Q : Value → Shared → Prop} (jl0 : shr.heap.IsList ad0 vls.toArray ∨ shr.heap.IsTuple ad0 vls.toArray) (mL : vls.length ≤ sizeLine) (ma1 : argsOk "sorted" ⟨[.ref ad0], kws⟩) (ha2 : ∀ x, argsOk "list.sort" ⟨[.ref x], kws⟩)
    (body : ∀ E' : Value → Shared → Prop, wpAny (model pgm wrl) arn.in1.in1 (Builtin.«list.sort» ⟨[.ref (shr.heap.objs.size + 1)], kws⟩) (fun f s' => f = .done (.ret .none) ∧ Q (.ref (shr.heap.objs.size + 1)) s') E' { shr with heap := PySem.W.copyHeap shr.heap vls }) :
    wpAny (model pgm wrl) arn (call (.builtin "sorted") [.ref ad0] kws) Q ekk shr := by
  refine call_function_entry_kw kind_sorted plain_sorted entry_sorted ma1 ?_
  unfold Builtin.«sorted»
  refine wpAny_bind (m := checkCount "sorted" 1 1 _) (wpAny_pure (wpAny_bind (collect_seq jl0 ?_ mL)))
  refine wpAny_bind (wpAny_newList ?_ mL)
  have zsz : ((shr.heap.push (seqObj "list" #[] 0)).update shr.heap.objs.size (Obj.mapSeq (· ++ vls.toArray))).objs.size = shr.heap.objs.size + 1 := by
    rw [Heap.size_update]; rw [size_push']
  show wpAny _ _ _ _ _ { shr with heap := PySem.W.copyHeap shr.heap vls }
  rw [zsz]
  refine wpAny_bind (wpAny_holding (wpAny_call_entry_kw slot_list_sort ⟨_, PySem.W.copyHeap_at shr.heap vls, rfl⟩ entry_list_sort ?body (ha2 _)))
  refine wpAny_mono (body _) (fun f s' gq1 => ?_) fun _ _ e => e
  obtain ⟨rfl, gq1⟩ := gq1
  exact ⟨_, rfl, wpAny_pure ⟨_, rfl, gq1⟩⟩
/-! tuples that need not have an item: the first has none -/
theorem call_tup_lt {Q : Value → Shared → Prop} {ad0 b : Addr} {items items2 : Array Value} {e r : Nat → Bool} (jl0 : shr.heap.IsTuple ad0 items) (mb1 : shr.heap.IsTuple b items2)
    (he : ∀ j (h1 : j < items.size) (h2 : j < items2.size), PySem.SeqAt.EqAt arn.in1 shr items[j] items2[j] (e j)) (hr : ∀ j (h1 : j < items.size) (h2 : j < items2.size), e j = false → PySem.SeqAt.RcLt arn.in1 shr items[j] items2[j] (r j))
    (jh0 : Q (.bool (PySem.SeqAt.firstLt e r (decide (items.size < items2.size)) (List.range (min items.size items2.size)))) shr) : wpAny (model pgm wrl) arn (call (.builtin "tuple.__lt__") [.ref ad0, .ref b]) Q ekk shr := by
  obtain ⟨⟨clz, dd1, dt1, sl1⟩, eob, ecb, nn0, edb⟩ := id jl0
  obtain ⟨⟨clz2, dd3, dt3, sl3⟩, eo2, ec2, n2, ed2⟩ := id mb1
  simp only at ecb edb ec2 ed2
  subst ecb edb ec2 ed2
  exact call_meets F.slot_tuple_lt ⟨_, eob, rfl⟩ F.entry_tuple_lt (F.args_tuple_lt_2 _ _) (PySem.SeqAt.tuple_ltAt ad0 b items items2 nn0 n2 dd1 dd3 sl1 sl3 e r) ⟨eob, eo2, he, hr, jh0⟩
/-- as sorting compares two tuples by their own < -/
theorem oneLt_tups {xs ys : List PyData} {a b : Value} {as bs : List Addr} {Q : Bool → Shared → Prop} (ra : Reads shr.heap a (.tuple xs) as) (rb : Reads shr.heap b (.tuple ys) bs) (hal : PySem.W.alikeAll xs ys = true)
    (hu : arn.units + min (PyData.tuple xs).depth (PyData.tuple ys).depth < cLine) (gq1 : Q (PySem.W.dataLt (.tuple xs) (.tuple ys)) shr) : wpAny (model pgm wrl) arn (oneLt' true a b) Q ekk shr := by
  cases ra with
  | @tuple ad0 obb vls nn0 _ as₁ h1 h2 h3 h4 =>
    cases rb with
    | @tuple ad1 ob1 vs' n' _ bs₁ k1 k2 k3 k4 =>
      have n1 : vls.size = xs.length := by simpa using PySem.SeqAt.ReadsAll.length _ _ _ h4
      have n2 : vs'.size = ys.length := by simpa using PySem.SeqAt.ReadsAll.length _ _ _ k4
      rw [PySem.W.dataLt_tuple, ← PySem.W.firstLt_toks xs ys hal, ← n1, ← n2] at gq1
      rw [oneLt'_eq]
      simp only [if_true]
      refine wpAny_bind (wpAny_cRoomFor (PySem.SeqAt.room_here hu) ?_)
      refine wpAny_bind (wpAny_callSpecialIfBound?_slot (T := "tuple") ⟨_, h1, h2⟩ F.slot_tuple_lt (call_tup_lt (e := PySem.SeqAt.pairEq xs ys) (r := fun j => PySem.W.dataLt (xs.getD j .none) (ys.getD j .none)) ⟨_, h1, h2, _, h3⟩ ⟨_, k1, k2, _, k3⟩ (fun j j1 j2 => ?_) (fun j j1 j2 hj => ?_) ?_))
      · have := PySem.W.eqAt_alikeAll xs ys arn.in1 shr vls.toList vs'.toList _ _ h4 k4 hal (PySem.SeqAt.room_in hu) j (by simpa using j1) (by simpa using j2)
        simpa using this
      · have := PySem.W.rcLt_alikeAll xs ys arn.in1 shr vls.toList vs'.toList _ _ h4 k4 hal (PySem.SeqAt.room_in hu) j (by simpa using j1) (by simpa using j2) hj
        simpa using this
      · exact wpAny_truthy_bool gq1
end
end Fx
/-! FxP: sorted, the rule -/
namespace Fx
open PySem PySem.Spec
open PyProof.Rows L2
open PySem.W (EachIs AllAlike Sortable SortsAt dataKind dataLe dataLt alike alikeAll)
def isIntD : PyData → Bool
  | .int _ => true
  | _ => false
def isITup : PyData → Bool
  | .tuple ds => ds.all isIntD
  | _ => false
def okS (d : PyData) : Bool := isIntD d || isITup d
def neTup : PyData → Bool
  | .tuple (_ :: _) => true
  | _ => false
def sortOk (ds : List PyData) : Bool := ds.all isIntD || (ds.all isITup && (ds.all neTup || (match ds with | .tuple [] :: _ => true | _ => false)))
def sortD (ds : List PyData) : List PyData := ds.mergeSort (dataLe false fun d => d)
theorem isIntD_iff {d : PyData} (h : isIntD d = true) : ∃ i, d = .int i := by
  cases d <;> first | exact ⟨_, rfl⟩ | cases h
theorem isITup_iff {d : PyData} (h : isITup d = true) : ∃ ds, d = .tuple ds ∧ ds.all isIntD = true := by
  cases d <;> first | exact ⟨_, rfl, h⟩ | cases h
theorem alikeAll_ints : ∀ {xs ys : List PyData}, xs.all isIntD = true → ys.all isIntD = true → alikeAll xs ys = true
  | [], _, _, _ => by simp [alikeAll]
  | _ :: _, [], _, _ => by simp [alikeAll]
  | x :: xs, y :: ys, h, g => by
    rw [List.all_cons, Bool.and_eq_true] at h g
    obtain ⟨i, rfl⟩ := isIntD_iff h.1
    obtain ⟨j, rfl⟩ := isIntD_iff g.1
    rw [alikeAll, alikeAll_ints h.2 g.2]
    simp [alike]
theorem depthAll_ints : ∀ {xs : List PyData}, xs.all isIntD = true → PyData.depthAll xs = 0
  | [], _ => by simp [PyData.depthAll]
  | x :: xs, h => by
    rw [List.all_cons] at h; rw [Bool.and_eq_true] at h
    obtain ⟨i, rfl⟩ := isIntD_iff h.1
    rw [PyData.depthAll, depthAll_ints h.2]
    simp [PyData.depth]
theorem okS_depth {d : PyData} (h : okS d = true) : d.depth ≤ 1 := by
  unfold okS at h
  rw [Bool.or_eq_true] at h
  rcases h with h | h
  · obtain ⟨i, rfl⟩ := isIntD_iff h
    simp [PyData.depth]
  · obtain ⟨ds, rfl, h⟩ := isITup_iff h
    simp [PyData.depth, depthAll_ints h]
theorem sortOk_okS {ds : List PyData} (h : sortOk ds = true) : ∀ d ∈ ds, okS d = true := fun d hd => by
  unfold sortOk at h
  unfold okS
  rw [Bool.or_eq_true] at h ⊢
  rcases h with h | h
  · exact .inl (List.all_eq_true.mp h d hd)
  · rw [Bool.and_eq_true] at h
    exact .inr (List.all_eq_true.mp h.1 d hd)
theorem sortOk_alike {ds : List PyData} (h : sortOk ds = true) : AllAlike ds := fun d hd d' hd' => by
  unfold sortOk at h
  rw [Bool.or_eq_true] at h
  rcases h with h | h
  · obtain ⟨i, rfl⟩ := isIntD_iff (List.all_eq_true.mp h d hd)
    obtain ⟨j, rfl⟩ := isIntD_iff (List.all_eq_true.mp h d' hd')
    simp [alike]
  · rw [Bool.and_eq_true] at h
    obtain ⟨xs, rfl, h1⟩ := isITup_iff (List.all_eq_true.mp h.1 d hd)
    obtain ⟨ys, rfl, h2⟩ := isITup_iff (List.all_eq_true.mp h.1 d' hd')
    simp [alike, alikeAll_ints h1 h2]
theorem readsAll_ints {K : PySem.W.Frag} {M : Hp} {h : Heap} : ∀ {xs : List V} {its : List Value} {ds : List PyData}, DdA K M xs ds → Vals xs its → ds.all isIntD = true → ReadsAll h its ds []
  | _, _, _, .nil, rv, _ => by cases rv; exact .nil
  | _, _, _, .cons d t, rv, hi => by
    rw [List.all_cons, Bool.and_eq_true] at hi
    obtain ⟨i, rfl⟩ := isIntD_iff hi.1
    cases d
    cases rv with
    | cons r rr =>
      obtain ⟨tk, rfl⟩ := r
      exact ReadsAll.cons (as := []) (bs := []) (.int _ _) (readsAll_ints t rr hi.2)
section
variable {X : Cx} {pins : List (Addr × Obj)} {σ : L2.St} {H M : Hp} {s : Shared}
theorem reads_of (I : Inv X pins σ H s) (sub : Sub M H) {v : V} {u : Value} {d : PyData} (h : Dd X.K M v d) (r : L2.RelV v u) (o : okS d = true) : ∃ as, Reads s.heap u d as := by
  unfold okS at o
  rw [Bool.or_eq_true] at o
  rcases o with o | o
  · obtain ⟨i, rfl⟩ := isIntD_iff o
    cases h
    obtain ⟨tk, rfl⟩ := r
    exact ⟨_, .int _ _⟩
  · obtain ⟨ds, rfl, o⟩ := isITup_iff o
    cases h with
    | tup e g =>
      obtain rfl : u = _ := r
      obtain ⟨its, rv, ⟨ob, h1, h2, n, h3⟩, _⟩ := I.tuple (sub.sqT e)
      exact ⟨_, .tuple h1 h2 h3 (by simpa using readsAll_ints g rv o)⟩
theorem each_of : ∀ {ys : List V} {its : List Value} {ds : List PyData}, Vals ys its → DdA X.K M ys ds → EachIs (fun u (p : V × PyData) => L2.RelV p.1 u) its (ys.zip ds)
  | _, _, _, .nil, .nil => .nil
  | _, _, _, .cons r rr, .cons d t => .cons r (each_of rr t)
theorem each_reads (I : Inv X pins σ H s) (sub : Sub M H) : ∀ {ys : List V} {its : List Value} {ds : List PyData}, Vals ys its → DdA X.K M ys ds → (∀ d ∈ ds, okS d = true) → EachIs (fun u (p : V × PyData) => ∃ as, Reads s.heap u p.2 as) its (ys.zip ds)
  | _, _, _, .nil, .nil, _ => .nil
  | _, _, _, .cons r rr, .cons d t, o => .cons (reads_of I sub d r (o _ List.mem_cons_self)) (each_reads I sub rr t fun d hd => o d (List.mem_cons_of_mem _ hd))
end
theorem zip_snd {K : PySem.W.Frag} {M : Hp} : ∀ {ys : List V} {ds : List PyData}, DdA K M ys ds → (ys.zip ds).map Prod.snd = ds
  | _, _, .nil => rfl
  | _, _, .cons _ t => by
    rw [List.zip_cons_cons, List.map_cons, zip_snd t]
theorem zip_dd {K : PySem.W.Frag} {M : Hp} : ∀ {ys : List V} {ds : List PyData}, DdA K M ys ds → ∀ p ∈ ys.zip ds, Dd K M p.1 p.2
  | _, _, .nil, _, jh0 => by cases jh0
  | _, _, .cons drw t, pp0, jh0 => by
    rw [List.zip_cons_cons] at jh0
    obtain rfl | jh0 := List.mem_cons.mp jh0
    · exact drw
    · exact zip_dd t pp0 jh0
theorem ddA_of {K : PySem.W.Frag} {M : Hp} : ∀ {ps : List (V × PyData)}, (∀ pp0 ∈ ps, Dd K M pp0.1 pp0.2) → DdA K M (ps.map Prod.fst) (ps.map Prod.snd)
  | [], _ => .nil
  | pp0 :: ps, jh0 => .cons (jh0 pp0 List.mem_cons_self) (ddA_of fun q gq1 => jh0 q (List.mem_cons_of_mem _ gq1))
theorem vals_of_each : ∀ {us : List Value} {ps : List (V × PyData)}, EachIs (fun u (pp0 : V × PyData) => L2.RelV pp0.1 u) us ps → Vals (ps.map Prod.fst) us
  | _, _, .nil => .nil
  | _, _, .cons rr0 t => .cons rr0 (vals_of_each t)
section
variable {pgm : Program} {wrl : World} {arn : Around} {ekk : Value → Shared → Prop} {shr : Shared}
theorem firsts_tup (M : Model) (arn : Around) (ekk : Value → Shared → Prop) : ∀ {vls : List Value}, (∀ v ∈ vls, ∃ xs as, Reads shr.heap v (.tuple xs) as) → ∃ fs : List (Option Value), ∀ (Q : List (Option Value) → Shared → Prop), Q fs shr → wpAny M arn (vls.mapM firstOfTuple') Q ekk shr
  | [], _ => ⟨[], fun Q jh0 => by rw [List.mapM_nil]; exact wpAny_pure jh0⟩
  | v :: vls, hv => by
    obtain ⟨fs, hf⟩ := firsts_tup M arn ekk fun u mu0 => hv u (List.mem_cons_of_mem _ mu0)
    obtain ⟨xs, as, rr0⟩ := hv v List.mem_cons_self
    cases rr0 with
    | @tuple aa0 obb its nn0 _ _ h1 h2 h3 h4 =>
      refine ⟨its[0]? :: fs, fun Q jh0 => ?_⟩
      rw [List.mapM_cons]
      refine wpAny_bind ?_
      rw [PySem.W.kas_first_eq]
      refine wpAny_bind (PySem.W.Looks.here (show PySem.W.Looks M shr.heap (typeOf (.ref aa0)) obb.cls from (PySem.W.Looks.ld h1).andThen .now) ?_)
      rw [h2, if_neg (by first | decide | simp)]
      refine wpAny_bind (listItems_at h1 h3 (wpAny_pure ?_))
      exact wpAny_bind (hf _ (wpAny_pure jh0))
theorem kind_tupE {M : Model} {v : Value} {vls : List Value} {Q : SortKind → Shared → Prop} (h0 : ∃ as, Reads shr.heap v (.tuple []) as) (hv : ∀ u ∈ vls, ∃ xs as, Reads shr.heap u (.tuple xs) as) (jh0 : Q oneType' shr) : wpAny M arn (keyKind' (v :: vls).toArray) Q ekk shr := by
  obtain ⟨fs, hf⟩ := firsts_tup M arn ekk hv
  have hT : ∀ u ∈ v :: vls, PySem.W.Looks M shr.heap (typeOf u) (Value.type "tuple") := fun u mu0 => by
    obtain rfl | mu0 := List.mem_cons.mp mu0
    · obtain ⟨as, rr0⟩ := h0
      exact PySem.W.looks_reads rr0
    · obtain ⟨xs, as, rr0⟩ := hv u mu0
      exact PySem.W.looks_reads rr0
  rw [keyKind'_eq, List.mapM_toArray]
  rw [map_eq_pure_bind]
  obtain ⟨as, rr0⟩ := h0
  cases rr0 with
  | @tuple aa0 obb its nn0 _ _ h1 h2 h3 h4 =>
    have zsz2 : its[0]? = none := by
      have ee0 : its.toList = [] := by
        cases q : its.toList with
        | nil => rfl
        | cons aa0 b => rw [q] at h4; cases h4
      rw [← Array.getElem?_toList, ee0]
      rfl
    apply wpAny_bind; apply wpAny_bind
    rw [List.mapM_cons]
    refine wpAny_bind ?_
    rw [PySem.W.kas_first_eq]
    refine wpAny_bind (PySem.W.Looks.here (show PySem.W.Looks M shr.heap (typeOf (.ref aa0)) obb.cls from (PySem.W.Looks.ld h1).andThen .now) ?_)
    rw [h2, if_neg (by first | decide | simp)]
    refine wpAny_bind (listItems_at h1 h3 (wpAny_pure ?_))
    rw [zsz2]
    refine wpAny_bind (hf _ (wpAny_pure ?_))
    refine wpAny_pure ?_
    rw [if_neg (by simp)]; rw [if_neg (by simp)]
    rw [oneTypeOnly'_eq, List.mapM_toArray]; rw [map_eq_pure_bind]
    refine wpAny_bind (wpAny_bind (wpAny_bind (PySem.W.kas_mapM (r := Value.type "tuple") _ (fun v hv Q' gq1 => (hT v hv).here gq1) (wpAny_pure ?_))))
    have hall : ((List.map (fun _ => Value.type "tuple") (Value.ref aa0 :: vls)).toArray.all fun x => x == Value.type "tuple") = true := by
      simp only [List.all_map, List.all_toArray, List.all_eq_true]
      intro _ _
      exact beq_self_eq_true _
    have h0 : (List.map (fun _ => Value.type "tuple") (Value.ref aa0 :: vls)).toArray[0]? = some (Value.type "tuple") := by simp
    rw [h0]
    simp only [hall, if_true]
    exact wpAny_pure (wpAny_pure jh0)
theorem sortsAt_tupE {vls : List Value} {ds : List PyData} (ee0 : EachIs (fun v drw => ∃ as, Reads shr.heap v drw as) vls (.tuple [] :: ds)) (hal : AllAlike (.tuple [] :: ds)) (ht : ∀ drw ∈ ds, ∃ xs, drw = .tuple xs) (mu0 : ∀ drw, drw ∈ PyData.tuple [] :: ds → arn.units + drw.depth < cLine) :
    SortsAt pgm wrl arn shr (dataKind shr.heap (.tuple [] :: ds)) vls := by
  have room : ∀ {drw d' : PyData}, drw ∈ PyData.tuple [] :: ds → arn.units + min drw.depth d'.depth < cLine := fun {drw d'} edb => Nat.lt_of_le_of_lt (Nat.add_le_add_left (Nat.min_le_left _ _) _) (mu0 drw edb)
  have ht' : ∀ drw ∈ PyData.tuple [] :: ds, ∃ xs, drw = .tuple xs := fun drw edb => by
    obtain rfl | edb := List.mem_cons.mp edb
    · exact ⟨_, rfl⟩
    · exact ht drw edb
  refine ⟨fun v hv => ?_, oneType', ?_, fun h2 ekk Q gq1 => ?_⟩
  · obtain ⟨drw, edb, as, rr0⟩ := ee0.left v hv
    exact ⟨_, PySem.W.dataKind_some hal edb rr0⟩
  · intro ekk x y aa0 b Q ha hb gq1
    obtain ⟨drw, as, edb, ra, rfl⟩ := PySem.W.dataKind_inv ha
    obtain ⟨d', as', hd', rb, rfl⟩ := PySem.W.dataKind_inv hb
    rw [keyLt'_oneType]
    have hdd := hal drw edb d' hd'
    have hr := room (d' := d') edb
    obtain ⟨xs, rfl⟩ := ht' drw edb
    obtain ⟨ys, rfl⟩ := ht' d' hd'
    exact oneLt_tups ra rb (by simpa [alike] using hdd) hr gq1
  · cases ee0 with
    | cons h0 t =>
      refine kind_tupE h0 (fun u mu0 => ?_) gq1
      obtain ⟨drw, edb, as, rr0⟩ := t.left u mu0
      obtain ⟨xs, rfl⟩ := ht drw edb
      exact ⟨xs, as, rr0⟩
theorem sortsAt_ok {vls : List Value} {ds : List PyData} (ee0 : EachIs (fun v drw => ∃ as, Reads shr.heap v drw as) vls ds) (jh0 : sortOk ds = true) (mu0 : arn.units + 1 < cLine) : SortsAt pgm wrl arn shr (dataKind shr.heap ds) vls := by
  have hal := sortOk_alike jh0
  have hu' : ∀ drw, drw ∈ ds → arn.units + drw.depth < cLine := fun drw edb => by
    have := okS_depth (sortOk_okS jh0 drw edb)
    omega
  unfold sortOk at jh0
  rw [Bool.or_eq_true] at jh0
  rcases jh0 with jh0 | jh0
  · refine SortsAt.data ee0 hal (.inr fun drw edb => ?_) hu'
    obtain ⟨i, rfl⟩ := isIntD_iff (List.all_eq_true.mp jh0 drw edb)
    exact ⟨fun z => (nomatch z), fun _ z => (nomatch z)⟩
  · rw [Bool.and_eq_true, Bool.or_eq_true] at jh0
    obtain ⟨h1, h2⟩ := jh0
    rcases h2 with h2 | h2
    · refine SortsAt.data ee0 hal (.inl fun drw edb => ?_) hu'
      have q := List.all_eq_true.mp h2 drw edb
      unfold neTup at q
      split at q
      · exact ⟨_, _, rfl⟩
      · cases q
    · split at h2
      · refine sortsAt_tupE ee0 hal (fun drw edb => ?_) hu'
        obtain ⟨xs, rfl, _⟩ := isITup_iff (List.all_eq_true.mp h1 drw (List.mem_cons_of_mem _ edb))
        exact ⟨xs, rfl⟩
      · cases h2
end
end Fx
/-! FxR: sorted(xs), by function -/
namespace Fx
open PySem PySem.Spec
open PyProof.Rows L2
open PySem.W (EachIs AllAlike Sortable SortsAt dataKind dataLe dataLt alike alikeAll)
def rSortA (K : PySem.W.Frag) : List V → Hp → VK → Prop := fun vs H Q => ∃ (M : Hp) (p : Addr) (ys : List V) (ds : List PyData), vs = [.ref p] ∧ (SqL K H p ys ∨ SqT K H p ys) ∧ Sub M H ∧ DdA K M ys ds ∧ sortOk ds = true ∧
  ∀ l zs, H l = none → DdA K M zs (sortD ds) → Q (.ref l) (upd H l (.lst zs))
theorem IsTup.tuple {h : Heap} {a : Addr} {its : Array Value} (p : IsTup h a its) : h.IsTuple a its := p
section
variable {X : Cx}
theorem call_sortedA (hu : X.A.units + 64 < cLine) : CallR X (.builtin "sorted") (rSortA X.K) := by
  intro pins s σ H vs us Q I r h
  obtain ⟨M, p, ys, ds, rfl, hq, sub, D, so, q⟩ := h
  rw [Vals.ref1 r]
  obtain ⟨its, rv, hl, hz⟩ : ∃ its : List Value, Vals ys its ∧ (s.heap.IsList p its.toArray ∨ s.heap.IsTuple p its.toArray) ∧ ys.length ≤ sizeLine := by
    rcases hq with hq | hq
    · obtain ⟨its, rv, pl, hz⟩ := I.list hq
      exact ⟨its, rv, .inl pl.isList, hz⟩
    · obtain ⟨its, rv, pl, hz⟩ := I.tuple hq
      exact ⟨its, rv, .inr pl, hz⟩
  have hL : its.length ≤ sizeLine := by rw [← rv.length]; exact hz
  have er := each_reads I sub rv D (sortOk_okS so)
  have eR := each_of rv D
  have es : (ys.zip ds).map Prod.snd = ds := zip_snd D
  have er' : EachIs (fun v (p : V × PyData) => ∃ as, Reads (PySem.W.sortingHeap (PySem.W.copyHeap s.heap its) (s.heap.objs.size + 1) its) v p.2 as) its (ys.zip ds) := er.mono fun _ _ ⟨as, r⟩ => ⟨as, PyProof.Rows.Reads.keeps (fun _ _ => PySem.W.sorting_copy_old) r⟩
  have hal : AllAlike ((ys.zip ds).map Prod.snd) := by rw [es]; exact sortOk_alike so
  have S : SortsAt X.prog X.w X.A.in1.in1 { s with heap := PySem.W.sortingHeap (PySem.W.copyHeap s.heap its) (s.heap.objs.size + 1) its } (dataKind (PySem.W.sortingHeap (PySem.W.copyHeap s.heap its) (s.heap.objs.size + 1) its) ((ys.zip ds).map Prod.snd)) its := by
    refine sortsAt_ok (shr := { s with heap := PySem.W.sortingHeap (PySem.W.copyHeap s.heap its) (s.heap.objs.size + 1) its }) ?_ (by rw [es]; exact so) ?_
    · exact PySem.W.each_map (R := fun v d => ∃ as, Reads (PySem.W.sortingHeap (PySem.W.copyHeap s.heap its) (s.heap.objs.size + 1) its) v d as) Prod.snd er'
    · show X.A.units + 1 + 1 + 1 < cLine
      omega
  have eo := PySem.W.sortVals_data false eR er' hal
  refine sorted_of hl hL (args_sorted1 _) (fun _ => args_list_sort _) fun E' => PySem.W.list_sort_vals (s := { s with heap := PySem.W.copyHeap s.heap its }) (PySem.W.copyHeap_at s.heap its) S hL ⟨rfl, ?_⟩
  have rz := vals_of_each eo
  have pm := List.mergeSort_perm (ys.zip ds) (dataLe false Prod.snd)
  have Dz : DdA X.K M (((ys.zip ds).mergeSort (dataLe false Prod.snd)).map Prod.fst) (sortD ds) := by
    have e : ((ys.zip ds).mergeSort (dataLe false Prod.snd)).map Prod.snd = sortD ds := by
      unfold sortD
      have q2 := PySem.W.sort_maps (l := ys.zip ds) (r := dataLe false Prod.snd) (s := dataLe false fun d => d) Prod.snd (fun a _ b _ => rfl)
      rw [q2, es]
    rw [← e]
    exact ddA_of fun p hp => zip_dd D p (pm.mem_iff.mp hp)
  have hlen : (((ys.zip ds).mergeSort (dataLe false Prod.snd)).map Prod.fst).length ≤ sizeLine := by
    rw [List.length_map, pm.length_eq, List.length_zip, ← D.length, Nat.min_self]
    exact hz
  obtain ⟨ep, he'⟩ := PyProof.Rows.sortedAll_at s.heap its (PySem.W.sortVals (dataKind (PySem.W.sortingHeap (PySem.W.copyHeap s.heap its) (s.heap.objs.size + 1) its) ((ys.zip ds).map Prod.snd)) false its its).toArray
  exact ⟨.ref _, upd H (s.heap.objs.size + 1) (.lst (((ys.zip ds).mergeSort (dataLe false Prod.snd)).map Prod.fst)), I.laid (t' := s.toks) (fun _ _ => PyProof.Rows.sortedAll_old) (Nat.le_succ _) ⟨hlen, _, ep, rz, he'⟩, rfl, q _ _ (I.hok.fresh (Nat.le_succ _)) Dz⟩
end
def kSorted : Gm → List Rv → Res Rv := k1 fun G d => match d with
  | .list ds => if sortOk ds then .ok (.new (.lst (sortD ds))) G else .bad
  | .tuple ds => if sortOk ds then .ok (.new (.lst (sortD ds))) G else .bad
  | _ => .bad
section
variable {K : PySem.W.Frag} {XR : XRt} {E : XK}
theorem snd_sorted : SndL K XR E (rSortA K) kSorted := snd_k1 fun σ H M H0 M0 G G0 ft ft0 a v d Q S P R e w => by
  split at w
  · obtain ⟨p, xs, rfl, e2, g⟩ := rd_list S e R
    split at w
    · rename_i so
      exact ⟨M, p, xs, _, rfl, .inl (SqL.of e2), S.sub, g, so, fun l zs hl D => w.lst S P D hl⟩
    · exact w.elim
  · obtain ⟨p, xs, rfl, e2, g⟩ := rd_tup S e R
    split at w
    · rename_i so
      exact ⟨M, p, xs, _, rfl, .inr (S.sub.sqT e2), S.sub, g, so, fun l zs hl D => w.lst S P D hl⟩
    · exact w.elim
  · exact w.elim
end
end Fx
/-! FxS: a lambda as a key: its body, pure -/
namespace Fx
open PySem PySem.Spec
open PyProof.Rows L2
open PySem.W (EachIs AllAlike Sortable SortsAt dataKind dataLe dataLt alike alikeAll KeyPure)
/-- e gives the datum d wherever all of s₀ is kept, and keeps all -/
def KP (prog : Program) (w : World) (A : Around) (env : Env) (s₀ : Shared) (e : Expr) (d : PyData) : Prop :=
  ∀ (E : Value → Shared → Prop) (h : Heap) (tk : Nat), (∀ b o, s₀.heap.get? b = some o → h.get? b = some o) → wpAny (model prog w) A (eval e env) (KeyPure d { s₀ with heap := h, toks := tk }) E { s₀ with heap := h, toks := tk }
section
variable {prog : Program} {w : World} {A : Around} {env : Env} {s₀ : Shared}
theorem kp_local {x : Str} {pos : Pos} {m : Str → Option Value} {v : Value} {d : PyData} (hk : env.scope.kind = .function) (hl : env.kindOf x = some .local) (hn : s₀.heap.Ns env.locals m) (hv : m x = some v) (hr : Reads s₀.heap v d [])
    (hd : (x == ("__debug__" : Str)) = false := by decide) : KP prog w A env s₀ (.Name x pos) d := fun E h tk k =>
  wpAny_Name (wpAny_loadName_local hk hl (hn.keeps k) hv ⟨h, tk, rfl, fun _ _ e => e, PyProof.Rows.Reads.keeps k hr⟩) hd
theorem kp_free {x : Str} {pos : Pos} {c : Addr} {v : Value} {d : PyData} (hk : env.scope.kind = .function) (hl : env.kindOf x = some .free) (hc : env.cells.lookup x = some c) (hi : s₀.heap.IsCell c (some v)) (hr : Reads s₀.heap v d [])
    (hd : (x == ("__debug__" : Str)) = false := by decide) (hcd : (x == ("__classdict__" : Str)) = false := by decide) : KP prog w A env s₀ (.Name x pos) d := fun E h tk k =>
  wpAny_Name (wpAny_loadName_free hk hl hc (show Heap.IsCell h c (some v) from let ⟨o, ho, q⟩ := hi; ⟨o, k _ _ ho, q⟩) ⟨h, tk, rfl, fun _ _ e => e, PyProof.Rows.Reads.keeps k hr⟩ hcd) hd
theorem KeyPure.run {k d : PyData} {s : Shared} {v : Value} {s1 s2 : Shared} (h : KeyPure k s v s1) (h2 : KeyPure d s1 v s2) : KeyPure d s v s2 := by
  obtain ⟨h1, t1, rfl, k1, _⟩ := h
  obtain ⟨h2, t2, rfl, k2, r2⟩ := h2
  exact ⟨h2, t2, rfl, fun b o e => k2 b o (k1 b o e), r2⟩
theorem kp_neg {e : Expr} {pos : Pos} {i : Int} (h : KP prog w A env s₀ e (.int i)) : KP prog w A env s₀ (.UnaryOp .USub e pos) (.int (-i)) := fun E hp tk k => by
  refine UnaryOp_ (wpAny_mono (h E hp tk k) (fun v s1 hv => ?_) fun _ _ x => x)
  obtain ⟨h1, t1, rfl, k1, r1⟩ := hv
  cases r1
  exact P.neg_int ⟨h1, t1 + 1, rfl, k1, .int _ _⟩
theorem readsAll_at {h : Heap} : ∀ {vs : List Value} {ds : List PyData} {as : List Addr}, ReadsAll h vs ds as → as = [] → ∀ {j : Nat} {d : PyData}, ds[j]? = some d → ∃ v, vs[j]? = some v ∧ Reads h v d []
  | _, _, _, .nil, _, _, _, e => by cases e
  | _, _, _, .cons (as := a1) (bs := b1) r rr, ea, j, d, e => by
    obtain ⟨rfl, rfl⟩ := List.append_eq_nil_iff.mp ea
    cases j with
    | zero => cases e; exact ⟨_, rfl, r⟩
    | succ j => exact readsAll_at rr rfl (by simpa using e)
theorem kp_idx {a b : Expr} {pos : Pos} {ds : List PyData} {i : Int} {d : PyData} (ha : KP prog w A env s₀ a (.tuple ds)) (hb : KP prog w A env s₀ b (.int i)) (hi : atI ds i = some d) (hz : ds.length ≤ sizeLine) (hs : PlainIx b) : KP prog w A env s₀ (.Subscript a b pos) d := fun E hp tk k => by
  refine Subscript_ (wpAny_mono (ha E hp tk k) (fun v s1 hv => ?_) fun _ _ x => x)
  obtain ⟨h1, t1, rfl, k1, r1⟩ := hv
  refine wpAny_mono (hb E h1 t1 fun b o e => k1 b o (k b o e)) (fun u s2 hu => ?_) fun _ _ x => x
  obtain ⟨h2, t2, rfl, k2, r2⟩ := hu
  cases r2
  have r1' := PyProof.Rows.Reads.keeps k2 r1
  generalize ea : ([] : List Addr) = as at r1'
  cases r1' with
  | @tuple l o its n _ _ e1 e2 e3 e4 =>
    obtain ⟨j, q1, q2, q3, q4, q5⟩ := atI_get hi
    obtain ⟨x, ex, rx⟩ := readsAll_at e4 ea.symm q2
    have hl : its.toList.length = ds.length := PySem.SeqAt.ReadsAll.length _ _ _ e4
    have hn := line63
    have pl : Heap.IsTuple h2 l its := ⟨o, e1, e2, n, e3⟩
    exact subscriptTail_builtinR (x := x) (show Shared.TypeIs { s₀ with heap := h2, toks := t2 } (.ref l) "tuple" from ⟨o, e1, e2⟩) slot_tuple_getitem.lookup
      (getItem_tuple (s := { s₀ with heap := h2, toks := t2 }) (j := j) (Q := fun r s' => r = x ∧ KeyPure d { s₀ with heap := hp, toks := tk } r s') pl (by omega) (by omega) (by rw [← Array.length_toList, hl]; exact q1) (by simpa using ex) ⟨rfl, h2, t2, rfl, fun b o e => k2 b o (k1 b o e), rx⟩) (hs _ _)
theorem kp_tup2 {a b : Expr} {x1 : Nat} {pos : Pos} {d d' : PyData} (ha : KP prog w A env s₀ a d) (hb : KP prog w A env s₀ b d') (hs : starEach [a, b] env = [(false, eval a env), (false, eval b env)] := by rfl) : KP prog w A env s₀ (.Tuple [a, b] x1 pos) (.tuple [d, d']) := fun E hp tk k => by
  refine wpAny_Tuple_spliced ?_
  rw [hs]
  show wpAny _ _ (spliced [(false, eval a env), (false, eval b env)]) _ _ _
  refine Calls.spliced_cons (wpAny_mono (ha E hp tk k) (fun v s1 hv => ?_) fun _ _ x => x)
  obtain ⟨h1, t1, rfl, k1, r1⟩ := hv
  refine Calls.spliced_cons (wpAny_mono (hb E h1 t1 fun b o e => k1 b o (k b o e)) (fun u s2 hu => ?_) fun _ _ x => x)
  obtain ⟨h2, t2, rfl, k2, r2⟩ := hu
  refine Calls.spliced_nil ⟨by simp [sizeLine_eq], ?_⟩
  have kp : ∀ b o, h2.get? b = some o → (h2.push { cls := .type "tuple", data := .seq [v, u].toArray }).get? b = some o := fun b o e => Heap.get?_push_of_some _ e
  refine ⟨_, t2, rfl, fun b o e => kp b o (k2 b o (k1 b o e)), ?_⟩
  exact Reads.tuple (Heap.get?_push_size _ rfl) rfl rfl (ReadsAll.cons (as := []) (bs := []) (PyProof.Rows.Reads.keeps (fun b o e => kp b o (k2 b o e)) r1) (ReadsAll.cons (as := []) (bs := []) (PyProof.Rows.Reads.keeps kp r2) .nil))
end
abbrev envL (q : Str) (scope : Scope) (clo : List (Str × Addr)) (L f c' : Addr) : Env := PySem.W.envX q scope L f (.ref c') clo
section
variable {prog : Program} {w : World}
variable {A : Around} {s : Shared}
/-- a lambda of one parameter is called: its body's datum -/
theorem lam_call {f c' : Addr} {q x : Str} {params : Arguments} {body : Expr} {scope : Scope} {clo : List (Str × Addr)} {pm ctv v : Value} {d : PyData} {E : Value → Shared → Prop} (hd : A.depth < recursionLimit)
    (ho : s.heap.get? f = some (PySem.W.kla_obj "<lambda>" q params body scope clo pm c' ctv)) (hk : scope.kind = .function) (hco : scope.isCoroutine = false) (hgen : scope.isGenerator = false) (hcell : ∀ y ∈ scope.names, y.2 ≠ .cell) (hloc : scope.names.lookup x = some .local)
    (hcr : s.heap.CodeRec (.ref c') q) (hb : bindArgs (PySem.W.kla_fn "<lambda>" q params body scope clo pm (.ref c') ctv) ⟨[v], []⟩ = pure [(x, v)]) (hlim : s.heap.NoLimit)
    (hbody : ∀ (h₁ : Heap) (tk : Nat), (∀ b o, s.heap.get? b = some o → h₁.get? b = some o) → h₁.Ns s.heap.objs.size (fun y => ([(x, v)] : List (Str × Value)).reverse.lookup y) →
      KP prog w (A.deeper (envL q scope clo s.heap.objs.size f c')) (envL q scope clo s.heap.objs.size f c') { s with heap := h₁, toks := tk } body d) :
    wpAny (model prog w) A (call (.ref f) [v]) (KeyPure d s) E s := by
  have rc : codeAny (model prog w) A (.call (.ref f) ⟨[v], []⟩) (fun r s' => ∃ u, r = .ok (.ret u) ∧ KeyPure d s u s') s := by
    refine PySem.W.kla_callFunE hd ho rfl hco hgen rfl hcr ?_
    rw [hb]
    refine wpAny_pure (wpAny_newFunctionEnv hcell (fun y hy => ?_) (fun h₁ hns hsb => ⟨hlim.fresh _ hsb, ?_⟩) hk)
    · rw [List.mem_singleton.mp hy]; exact hloc
    · have kp : ∀ b o, s.heap.get? b = some o → h₁.get? b = some o := fun b o e => hsb.extBut b o (Nat.ne_of_lt (Heap.lt_size e)) (Heap.get?_push_of_some _ e)
      show codeAny _ _ (.expr body (envL q scope clo s.heap.objs.size f c')) _ _
      refine PySem.W.kla_codeExpr (wpAny_mono (hbody h₁ 0 kp hns _ h₁ _ fun _ _ e => e) (fun u s' hq => ?_) fun e s' hq => hq)
      obtain ⟨h2, t2, rfl, k2, r2⟩ := hq
      exact ⟨u, rfl, h2, t2, rfl, fun b o e => k2 b o (kp b o e), r2⟩
  refine wpAny_call (codeAny_mono rc fun r s' hq => ?_)
  obtain ⟨u, rfl, hq⟩ := hq
  exact hq
end
end Fx
/-! FxU: sorted(xs, key=lambda x: (-row[x], x)) -/
namespace Fx
open PySem PySem.Spec
open PyProof.Rows L2
open PySem.W (EachIs AllAlike Sortable SortsAt dataKind dataLe dataLt alike alikeAll KeyPure)
/-- what the making of a lambda changes -/
structure LamStp (H H1 : Hp) (q : Str) : Prop where
  keep : ∀ b o, H b = some o → (∀ ps, o ≠ .tbl ps) → H1 b = some o
  tbls : ∀ b ps, H b = some (.tbl ps) → ∃ ps', H1 b = some (.tbl ps')
  tabs : ∀ P', LamX.TabS H P' q → LamX.TabS H1 P' q
theorem LamStp.refl {H : Hp} {q : Str} : LamStp H H q := ⟨fun _ _ e _ => e, fun b ps e => ⟨ps, e⟩, fun _ h => h⟩
section
variable {X : Cx} {pp : List (Addr × Obj)} {τ : L2.St} {Hh : Hp} {sh : Shared}
theorem lam_make {cnt pT : Addr} {prm : Arguments} {bdy : Expr} {scp : Scope} {ps0 : Pos} {ek : Value → Shared → Prop} {Qp : Value → Shared → Prop} (Iv : Inv X pp τ Hh sh) (tb : LamX.TabB X.base X.mg cnt pT) (cdE : X.env.code = .ref cnt)
    (tT : LamX.TabS Hh pT (X.env.qual ++ "<lambda>")) (dfl : defaultsOf prm X.env = ([], [])) (fre : ∀ y ∈ scp.names, y.2 = .free → ∃ cnt, X.env.cells.lookup y.1 = some cnt)
    (goal : ∀ (fn cD : Addr) (pmv ctw : Value) (Hn : Hp) (sh1 : Shared), Inv X pp τ Hn sh1 → LamStp Hh Hn (X.env.qual ++ "<lambda>") →
      sh1.heap.get? fn = some (PySem.W.kla_obj "<lambda>" (X.env.qual ++ "<lambda>") prm bdy scp (cloFrom X.env.cells scp.names []) pmv cD ctw) → sh1.heap.CodeRec (.ref cD) (X.env.qual ++ "<lambda>") → Qp (.ref fn) sh1) :
    wpAny (model X.prog X.w) X.A (eval (.Lambda prm bdy scp ps0) X.env) Qp ek sh := by
  obtain ⟨tbl, atT, tripl, among⟩ := tT
  have tT0 : LamX.TabS Hh pT (X.env.qual ++ "<lambda>") := ⟨tbl, atT, tripl, among⟩
  refine PySem.W.kla_eval dfl ?_
  have bltT : sh.heap.BuiltinsAt X.mg pT := tb.bm.keeps Iv.bk
  have atT2 : sh.heap.get? pT = some { cls := .none, data := .fields tbl } := Iv.hok pT _ atT
  cases hit : codeAmong ps0 tbl.toList with
  | none =>
    refine PySem.W.kla_makeFunction (mg := X.mg) (c := cnt) (P := pT) (ps := tbl) (closure_ok fre) Iv.ok.glob (Iv.mod.glob.keeps Iv.bk) cdE (tb.code.keeps Iv.bk) atT2 tripl hit tb.gP bltT fun cD ctw hp1 tks memH fresh lt1 rec1 tab1 => ?_
    obtain ⟨cD2, oC, fl, tp, eqC, atC, datC, vvC⟩ := rec1
    cases eqC
    have newC : Hh cD = none := Iv.hok.fresh fresh
    have newT : pT ≠ cD := ne_of_none atT newC
    have rec2 : (hp1.push (PySem.W.kla_obj "<lambda>" (X.env.qual ++ "<lambda>") prm bdy scp (cloFrom X.env.cells scp.names []) ((X.mg "__name__").getD .none) cD ctw)).CodeRec (.ref cD) (X.env.qual ++ "<lambda>") := ⟨cD, oC, fl, tp, rfl, Heap.get?_push_of_some _ atC, datC, vvC⟩
    have In1 := LamX.inv_table (t' := tks) (more := #[rawInt ps0.line, rawInt ps0.col, .ref cD]) (h' := hp1.push (PySem.W.kla_obj "<lambda>" (X.env.qual ++ "<lambda>") prm bdy scp (cloFrom X.env.cells scp.names []) ((X.mg "__name__").getD .none) cD ctw)) Iv atT
      (fun ad ob eqb ev => Heap.get?_push_of_some _ (memH ad ob eqb ev)) (Heap.get?_push_of_some _ tab1) fresh ⟨oC, fl, tp, Heap.get?_push_of_some _ atC, datC, vvC⟩
    have eqL : (tbl ++ #[rawInt ps0.line, rawInt ps0.col, .ref cD]).toList = tbl.toList ++ [rawInt ps0.line, rawInt ps0.col, .ref cD] := by simp
    have kp1 : ∀ ad ob, Hh ad = some ob → (∀ tbl, ob ≠ .tbl tbl) → (upd (upd Hh pT (.tbl (tbl ++ #[rawInt ps0.line, rawInt ps0.col, .ref cD]))) cD (LamX.CodeO cD (X.env.qual ++ "<lambda>"))) ad = some ob := fun ad ob ev nt => by
      rw [upd_ne (ne_of_none ev newC), upd_ne (fun zz => nt tbl (Option.some.inj (ev.symm.trans (by rw [zz]; exact atT))))]
      exact ev
    have atT3 : (upd (upd Hh pT (.tbl (tbl ++ #[rawInt ps0.line, rawInt ps0.col, .ref cD]))) cD (LamX.CodeO cD (X.env.qual ++ "<lambda>"))) pT = some (.tbl (tbl ++ #[rawInt ps0.line, rawInt ps0.col, .ref cD])) := by rw [upd_ne newT, upd_same]
    refine goal hp1.objs.size cD ((X.mg "__name__").getD .none) ctw _ _ In1 ⟨kp1, fun ad tbl2 ev => ?_, fun pT2 tT2 => ?_⟩ (Heap.get?_push_size _ rfl) rec2
    · by_cases eqb : ad = pT
      · rw [eqb]; exact ⟨_, atT3⟩
      · exact ⟨tbl2, by rw [upd_ne (ne_of_none ev newC), upd_ne eqb]; exact ev⟩
    · obtain ⟨tbl2, b1, b2, b3⟩ := tT2
      by_cases eqb : pT2 = pT
      · rw [eqb, atT] at b1
        cases b1
        rw [eqb]
        refine ⟨_, atT3, by rw [eqL]; exact PySem.TriplesOk_snoc _ _ _ _ tripl, fun pq cw hcw => ?_⟩
        rw [eqL] at hcw
        rcases LamX.among_app _ tripl hcw with zz | zz
        · obtain ⟨cD0, ev1, eqC⟩ := among pq cw zz
          exact ⟨cD0, ev1, kp1 _ _ eqC LamX.codeO_ne⟩
        · exact ⟨cD, zz, upd_same⟩
      · refine ⟨tbl2, by rw [upd_ne (ne_of_none b1 newC), upd_ne eqb]; exact b1, b2, fun pq cw hcw => ?_⟩
        obtain ⟨cD0, ev1, eqC⟩ := b3 pq cw hcw
        exact ⟨cD0, ev1, kp1 _ _ eqC LamX.codeO_ne⟩
  | some cw =>
    obtain ⟨cD, ev, atC0⟩ := among ps0 cw hit
    subst ev
    obtain ⟨⟨oC, fl, tp, atC, datC0, vvC0⟩, _, _⟩ := Iv.hok cD _ atC0
    refine PySem.W.kla_makeFunctionHit (mg := X.mg) (c := cnt) (P := pT) (ps := tbl) (closure_ok fre) Iv.ok.glob (Iv.mod.glob.keeps Iv.bk) cdE (tb.code.keeps Iv.bk) atT2 tripl hit bltT fun ctw hp1 tks memH szq => ?_
    have In1 : Inv X pp τ Hh { sh with heap := hp1.push (PySem.W.kla_obj "<lambda>" (X.env.qual ++ "<lambda>") prm bdy scp (cloFrom X.env.cells scp.names []) ((X.mg "__name__").getD .none) cD ctw), toks := tks } := Iv.kept fun ad ob ev => Heap.get?_push_of_some _ (memH ad ob ev)
    exact goal hp1.objs.size cD ((X.mg "__name__").getD .none) ctw Hh _ In1 .refl (Heap.get?_push_size _ rfl) ⟨cD, oC, fl, tp, rfl, Heap.get?_push_of_some _ (memH _ _ atC), datC0, vvC0⟩
end
/-- sorted(xs, key=fn) of a list or a tuple -/
theorem sorted_key_seq {pg : Program} {wd : World} {ar : Around} {ek : Value → Shared → Prop} {sh : Shared} {B : Type} {Rel : Value → B → Prop} {fl : List Value} {items : List B} {at0 fn : Addr} {Qp : Value → Shared → Prop} (key : B → PyData) (sqH : sh.heap.IsList at0 fl.toArray ∨ sh.heap.IsTuple at0 fl.toArray) (ev : EachIs Rel fl items) (alk : AllAlike (items.map key)) (srt : Sortable (items.map key)) (short : items.length ≤ sizeLine)
    (units : ∀ xw, xw ∈ items → ar.units + 2 + (key xw).depth < cLine)
    (each : ∀ (vw : Value) (xw : B), Rel vw xw → xw ∈ items → ∀ (goal : Heap) (tks : Nat), (∀ ad ob, sh.heap.get? ad = some ob → goal.get? ad = some ob) →
      wpAny (model pg wd) ar.in1.in1 (call (.ref fn) [vw]) (KeyPure (key xw) { sh with heap := goal, toks := tks }) (fun _ _ => False) { sh with heap := goal, toks := tks })
    (goal : ∀ res cnt hp1 tks, (∀ ad ob, sh.heap.get? ad = some ob → hp1.get? ad = some ob) → hp1.get? (sh.heap.objs.size + 1) = some (seqObj "list" (List.toArray res) cnt) → res.length = items.length → EachIs Rel res (items.mergeSort (dataLe false key)) →
      Qp (.ref (sh.heap.objs.size + 1)) { sh with heap := hp1, toks := tks }) :
    wpAny (model pg wd) ar (call (.builtin "sorted") [.ref at0] [(Str.ofString "key", .ref fn)]) Qp ek sh := by
  have keepUp : ∀ {gh : Heap}, PySem.W.KeepsBut (sh.heap.objs.size + 1) (PySem.W.copyHeap sh.heap fl) gh → ∀ ad ob, sh.heap.get? ad = some ob → gh.get? ad = some ob := fun {gh} kpG ad ob qe =>
    kpG ad ob (Nat.ne_of_lt (Nat.lt_succ_of_lt (Heap.lt_size qe))) (PySem.W.copyHeap_old qe)
  refine sorted_of sqH (by rw [ev.length]; exact short) (ksk_s1 _ _) (fun _ => ksk_l1 _ _) fun ek2 => ?_
  rw [ksk_t1]
  refine PySem.W.keyH_tree (kz := items.map key) (s := { sh with heap := PySem.W.copyHeap sh.heap fl }) (PySem.W.copyHeap_at sh.heap fl) (by rw [List.length_map]; exact ev.length.symm) (by rw [ev.length]; exact short) alk srt (PySem.W.bound_map (A := ar.in1.in1) units)
    (PySem.W.keyH_turns (s := { sh with heap := PySem.W.copyHeap sh.heap fl }) ev fun vw xw relH memH goal tks kpG => each vw xw relH memH goal tks (keepUp kpG)) fun hp1 tks res cnt kpG there keyd => ⟨rfl, ?_⟩
  exact goal res cnt hp1 tks (keepUp kpG) there ((keyd.length (by rw [List.length_map]; exact ev.length.symm)).trans ev.length) (PySem.W.keyedOut_each key keyd ev)
end Fx
/-! FxV: the rule of sorted(xs, key=lambda x: (-row[x], x)) -/
namespace Fx
open PySem PySem.Spec
open PyProof.Rows L2
open PySem.W (EachIs AllAlike Sortable SortsAt dataKind dataLe dataLt alike alikeAll KeyPure)
def keyN (rds : List PyData) (d : PyData) : PyData := match d with
  | .int i => match atI rds i with
    | some (.int x) => .tuple [.int (-x), .int i]
    | _ => .none
  | _ => .none
def negOk (rds ds : List PyData) : Bool := rds.all isIntD && ds.all fun d => neTup (keyN rds d)
def sortN (rds ds : List PyData) : List PyData := ds.mergeSort (dataLe false (keyN rds))
theorem keyN_iff {rds : List PyData} {d : PyData} (h : neTup (keyN rds d) = true) : ∃ i x, d = .int i ∧ atI rds i = some (.int x) ∧ keyN rds d = .tuple [.int (-x), .int i] := by
  unfold keyN at h ⊢
  split at h
  · split at h
    · rename_i i _ x e
      exact ⟨_, _, rfl, e, by first | rfl | (dsimp only; rw [e])⟩
    · cases h
  · cases h
def tSortNeg (K : PySem.W.Frag) (ir : Nat) (ta : TA) : TE := fun σ H Q => ta σ H fun vs H1 => ∃ (M : Hp) (a : Addr) (ys : List V) (ds : List PyData) (b : Addr) (rvs : List V) (rds : List PyData), vs = [.ref a] ∧ (SqL K H1 a ys ∨ SqT K H1 a ys) ∧ Sub M H1 ∧ DdA K M ys ds ∧
  σ[ir]? = some (some (.ref b)) ∧ SqT K M b rvs ∧ DdA K M rvs rds ∧ negOk rds ds = true ∧ TabI K H1 ∧ ∀ H2, LamStp H1 H2 lamQ → ∀ l zs, H2 l = none → DdA K M zs (sortN rds ds) → Q (.ref l) (upd H2 l (.lst zs))
theorem pe_sortNeg {X : Cx} {e : Expr} {ta : TA} {p kp lpos p1 p2 p3 p4 p5 p6 pos : Pos} {x1 : Nat} {rw_ gd : Str} {params : Arguments} {scope : Scope} {c P : Addr} {k ir : Nat} (hr : Room k X.A) (hg : Gl X "sorted") (hm : X.mg "sorted" = none) (TB : LamX.TabB X.base X.mg c P) (hcode : X.env.code = .ref c) (hq : X.env.qual ++ "<lambda>" = lamQ)
    (ht : PySem.W.tabIn X.K lamDef = some (c, P)) (hN : X.N[ir]? = some rw_) (hv : X.env.scope.names.lookup rw_ = some .cell) (ha : PA X [e] ta) (hs : starEach [e] X.env = [(false, eval e X.env)] := by rfl)
    (hdef : defaultsOf params X.env = ([], []) := by rfl) (hk : scope.kind = .function := by rfl) (hco : scope.isCoroutine = false := by rfl) (hgen : scope.isGenerator = false := by rfl) (hcell : ∀ y ∈ scope.names, y.2 ≠ .cell := by decide) (hloc : scope.names.lookup gd = some .local := by rfl) (hfr : scope.names.lookup rw_ = some .free := by rfl)
    (hfree : ∀ y ∈ scope.names, y.2 = .free → X.env.scope.names.lookup y.1 = some .cell := by decide)
    (hbind : ∀ (q : Str) (cl : List (Str × Addr)) (pm cv ctv v : Value) (body : Expr), bindArgs (PySem.W.kla_fn "<lambda>" q params body scope cl pm cv ctv) ⟨[v], []⟩ = pure [(gd, v)] := by intros; rfl)
    (hd1 : (gd == ("__debug__" : Str)) = false := by decide) (hd2 : (rw_ == ("__debug__" : Str)) = false := by decide) (hd3 : (rw_ == ("__classdict__" : Str)) = false := by decide) :
    PE X (.Call (.Name "sorted" p) [e] [⟨some "key", .Lambda params (.Tuple [.UnaryOp .USub (.Subscript (.Name rw_ p1) (.Name gd p2) p3) p4, .Name gd p5] x1 p6) scope lpos, kp⟩] pos) (tSortNeg X.K ir ta) := by
  refine ⟨fun pins s σ H Q I h => ?_⟩
  refine wpAny_Call_Name_kw (ld_blt I hg hm boot_sorted ?_)
  refine PyProof.Rows.callWith_kw (thn (ha.run pos pins s σ H _ I h) fun us s1 ⟨vs, H1, I1, r1, q1⟩ => ?_) (by rw [hs]; rfl) (by rw [hs]; rfl) (by rfl) (by rfl)
  obtain ⟨M, a, ys, ds, b, rvs, rds, rfl, hsq, sub, D, eσ, hb, Dr, ok, tb, q⟩ := q1
  show wpAny _ _ (evalAll [do let v ← eval (.Lambda params _ scope lpos) X.env; standAt pos; pure v]) _ _ s1
  have hfr' : ∀ y ∈ scope.names, y.2 = .free → ∃ c, X.env.cells.lookup y.1 = some c := fun y hy e => I1.ok.has _ (.inl (hfree y hy e))
  refine wpAny_evalAll_cons (wpAny_bind (lam_make I1 TB hcode (by rw [hq]; exact tb c P ht) hdef hfr' fun f c' pm ctv H2 s2 I2 LS hf hcr => wpAny_bind (wpAny_standAt (wpAny_pure (wpAny_evalAll_nil ?_)))))
  show wpAny _ _ (call (.builtin "sorted") us [(Str.ofString "key", .ref f)]) _ _ s2
  rw [hq] at LS
  rw [Vals.ref1 r1]
  have nL : ∀ {xs : List V} {d : Addr}, SqL X.K H1 d xs → SqL X.K H2 d xs := fun {xs d} z => by
    rcases z with z | z
    · rcases z with z | ⟨o, z⟩
      · exact .inl (.inl (LS.keep _ _ z (fun _ y => nomatch y)))
      · exact .inl (.inr ⟨o, LS.keep _ _ z (fun _ y => nomatch y)⟩)
    · exact .inr z
  have nT : ∀ {xs : List V} {d : Addr}, SqT X.K H1 d xs → SqT X.K H2 d xs := fun {xs d} z => by
    rcases z with z | z
    · rcases z with z | ⟨o, z⟩
      · exact .inl (.inl (LS.keep _ _ z (fun _ y => nomatch y)))
      · exact .inl (.inr ⟨o, LS.keep _ _ z (fun _ y => nomatch y)⟩)
    · exact .inr z
  obtain ⟨its, rv, hl, hz⟩ : ∃ its : List Value, Vals ys its ∧ (s2.heap.IsList a its.toArray ∨ s2.heap.IsTuple a its.toArray) ∧ ys.length ≤ sizeLine := by
    rcases hsq with hq | hq
    · obtain ⟨its, rv, pl, hz⟩ := I2.list (nL hq)
      exact ⟨its, rv, .inl pl.isList, hz⟩
    · obtain ⟨its, rv, pl, hz⟩ := I2.tuple (nT hq)
      exact ⟨its, rv, .inr pl, hz⟩
  unfold negOk at ok
  rw [Bool.and_eq_true] at ok
  obtain ⟨okr, okk⟩ := ok
  have eR := each_of rv D
  have es : (ys.zip ds).map Prod.snd = ds := zip_snd D
  have mem : ∀ p ∈ ys.zip ds, p.2 ∈ ds := fun p hp => (List.of_mem_zip (a := p.1) (b := p.2) hp).2
  have key : ∀ p ∈ ys.zip ds, ∃ i x, p.2 = .int i ∧ atI rds i = some (.int x) ∧ keyN rds p.2 = .tuple [.int (-x), .int i] := fun p hp => keyN_iff (List.all_eq_true.mp okk _ (mem p hp))
  -- the row
  obtain ⟨rits, rrv, ⟨ro, ho1, ho2, rn, ho3⟩, rz⟩ := I2.tuple (nT (sub.sqT hb))
  have rdR : Reads s2.heap (.ref b) (.tuple rds) [] := .tuple ho1 ho2 ho3 (by simpa using readsAll_ints Dr rrv okr)
  have rl : rds.length ≤ sizeLine := by rw [← Dr.length]; exact rz
  obtain ⟨m, hns, hlk⟩ := I2.loc
  obtain ⟨ru, rru, rlook⟩ := hlk ir rw_ (.ref b) hN eσ (.inr (.inl hv))
  obtain rfl : ru = Value.ref b := rru
  obtain ⟨rc, hrc, hrcell⟩ : ∃ rc, X.env.cells.lookup rw_ = some rc ∧ s2.heap.IsCell rc (some (.ref b)) := by
    rcases rlook with ⟨z, _⟩ | ⟨_, z⟩
    · have z' : X.env.scope.names.lookup rw_ = some .local := z
      rw [hv] at z'; cases z'
    · exact z
  have hclo : (cloFrom X.env.cells scope.names []).lookup rw_ = some rc := by
    obtain ⟨c2, h2⟩ := mem_lookup (cloFrom_has (cells := X.env.cells) (acc := []) (PySem.mem_of_lookup hfr))
    rcases cloFrom_mem (PySem.mem_of_lookup h2) with z | ⟨_, z⟩
    · cases z
    · rw [h2, z, hrc]; rfl
  have hkeys : ∀ (p : V × PyData), p ∈ ys.zip ds → okS (keyN rds p.2) = true := fun p hp => by
    obtain ⟨i, x, _, _, e3⟩ := key p hp
    rw [e3]; rfl
  have hun := hr.units
  refine sorted_key_seq (Rel := fun u (p : V × PyData) => L2.RelV p.1 u) (fun p => keyN rds p.2) hl eR (fun d hd d' hd' => ?_) (.inl fun d hd => ?_) (by rw [List.length_zip, ← D.length, Nat.min_self]; exact hz) (fun p hp => ?_) (fun v p hR hp h tk kp => ?_) fun out cc h' tk kp he _ eo => ?_
  · obtain ⟨p, hp, rfl⟩ := List.mem_map.mp hd
    obtain ⟨p', hp', rfl⟩ := List.mem_map.mp hd'
    obtain ⟨i, x, _, _, e3⟩ := key p hp
    obtain ⟨i', x', _, _, e3'⟩ := key p' hp'
    rw [e3, e3']
    simp [alike, alikeAll]
  · obtain ⟨p, hp, rfl⟩ := List.mem_map.mp hd
    obtain ⟨i, x, _, _, e3⟩ := key p hp
    exact ⟨_, _, e3⟩
  · have := okS_depth (hkeys p hp)
    show X.A.units + 2 + (keyN rds p.2).depth < cLine
    omega
  · obtain ⟨i, x, e1, e2, e3⟩ := key p hp
    obtain ⟨tk0, rfl⟩ : ∃ tk0, v = .int i tk0 := by
      have dd := zip_dd D p hp
      rw [e1] at dd
      have hR' : L2.RelV p.1 v := hR
      generalize p.1 = pv at dd hR'
      cases dd
      exact hR'
    show wpAny _ _ _ (KeyPure (keyN rds p.2) _) _ _
    rw [e3]
    have lim : Heap.NoLimit h := I2.nolimit.keeps kp
    obtain ⟨cr1, oc, cvs, ct, cr2, cr3, cr4, cr5⟩ := hcr
    refine lam_call (s := { s2 with heap := h, toks := tk }) (x := gd) (show X.A.in1.in1.depth < recursionLimit from hr.depth) (kp _ _ hf) hk hco hgen hcell hloc ⟨cr1, oc, cvs, ct, cr2, kp _ _ cr3, cr4, cr5⟩ (hbind _ _ _ _ _ _ _) lim fun h₁ tk1 kp1 hns1 => ?_
    have lg : KP X.prog X.w (X.A.in1.in1.deeper (envL (X.env.qual ++ "<lambda>") scope (cloFrom X.env.cells scope.names []) h.objs.size f c')) (envL (X.env.qual ++ "<lambda>") scope (cloFrom X.env.cells scope.names []) h.objs.size f c') { s2 with heap := h₁, toks := tk1 } (.Name gd p2) (.int i) :=
      kp_local (v := .int i tk0) hk hloc hns1 (by simp) (.int _ _) hd1
    have lg5 : KP X.prog X.w (X.A.in1.in1.deeper (envL (X.env.qual ++ "<lambda>") scope (cloFrom X.env.cells scope.names []) h.objs.size f c')) (envL (X.env.qual ++ "<lambda>") scope (cloFrom X.env.cells scope.names []) h.objs.size f c') { s2 with heap := h₁, toks := tk1 } (.Name gd p5) (.int i) :=
      kp_local (v := .int i tk0) hk hloc hns1 (by simp) (.int _ _) hd1
    have lr : KP X.prog X.w (X.A.in1.in1.deeper (envL (X.env.qual ++ "<lambda>") scope (cloFrom X.env.cells scope.names []) h.objs.size f c')) (envL (X.env.qual ++ "<lambda>") scope (cloFrom X.env.cells scope.names []) h.objs.size f c') { s2 with heap := h₁, toks := tk1 } (.Name rw_ p1) (.tuple rds) :=
      kp_free (v := .ref b) (c := rc) hk hfr hclo (by obtain ⟨o, q1, q2⟩ := hrcell; exact ⟨o, kp1 _ _ (kp _ _ q1), q2⟩) (PyProof.Rows.Reads.keeps (fun b o z => kp1 b o (kp b o z)) rdR) hd2 hd3
    exact kp_tup2 (kp_neg (kp_idx lr lg e2 rl (fun _ _ => rfl))) lg5
  · have rz2 := vals_of_each eo
    have pm := List.mergeSort_perm (ys.zip ds) (dataLe false fun (p : V × PyData) => keyN rds p.2)
    have Dz : DdA X.K M (((ys.zip ds).mergeSort (dataLe false fun (p : V × PyData) => keyN rds p.2)).map Prod.fst) (sortN rds ds) := by
      have e : ((ys.zip ds).mergeSort (dataLe false fun (p : V × PyData) => keyN rds p.2)).map Prod.snd = sortN rds ds := by
        unfold sortN
        have q2 := PySem.W.sort_maps (l := ys.zip ds) (r := dataLe false fun (p : V × PyData) => keyN rds p.2) (s := dataLe false (keyN rds)) Prod.snd (fun a _ b _ => rfl)
        rw [q2, es]
      rw [← e]
      exact ddA_of fun p hp => zip_dd D p (pm.mem_iff.mp hp)
    have hlen : (((ys.zip ds).mergeSort (dataLe false fun (p : V × PyData) => keyN rds p.2)).map Prod.fst).length ≤ sizeLine := by
      rw [List.length_map, pm.length_eq, List.length_zip, ← D.length, Nat.min_self]
      exact hz
    exact ⟨.ref _, upd H2 (s2.heap.objs.size + 1) (.lst (((ys.zip ds).mergeSort (dataLe false fun (p : V × PyData) => keyN rds p.2)).map Prod.fst)), I2.laid (t' := tk) kp (Nat.le_succ _) ⟨hlen, _, cc, rz2, he⟩, rfl, q _ LS _ _ (I2.hok.fresh (Nat.le_succ _)) Dz⟩
end Fx
/-! FxW: sorted by a lambda, by function -/
namespace Fx
open PySem PySem.Spec
open PyProof.Rows L2
section
variable {K : PySem.W.Frag} {σ : L2.St} {G : Gm} {H M H2 : Hp} {ft : Nat → List Addr}
theorem LamStp.there {H1 H2 : Hp} {q : Str} (LS : LamStp H1 H2 q) : ∀ a o, H1 a = some o → ∃ o', H2 a = some o' := fun a o e => by
  by_cases h : ∃ ps, o = .tbl ps
  · obtain ⟨ps, rfl⟩ := h
    obtain ⟨ps', h⟩ := LS.tbls a ps e
    exact ⟨_, h⟩
  · exact ⟨o, LS.keep a o e fun ps z => h ⟨ps, z⟩⟩
theorem LamStp.sub (LS : LamStp H H2 lamQ) (S : SI K σ H M G ft) : Sub M H2 := fun a o e => LS.keep a o (S.sub a o e) fun ps z => S.tab.2 a ps (by rw [e, z])
theorem SI.lam (S : SI K σ H M G ft) (LS : LamStp H H2 lamQ) : SI K σ H2 M G ft where
  len := S.len
  sub := LS.sub S
  slot := fun i s e => (S.slot i s e).keep (Sub.refl _) (fun a ha o q nt => LS.keep a o q nt) fun a ha => (S.owned ha).1
  tab := ⟨fun c P q => LS.tabs P (S.tab.1 c P q), S.tab.2⟩
  out := S.out
  disj := S.disj
theorem Stp.lam (LS : LamStp H H2 lamQ) : Stp σ G H M ft σ G H2 M ft :=
  ⟨Sub.refl _, fun _ _ e => .inl e, fun a o e nt _ => LS.keep a o e nt, LS.tbls, fun K t c P q => LS.tabs P (t c P q), LS.there, fun i _ h => .inl ⟨i, h⟩, fun a xs e => LS.keep a _ e (fun _ z => nomatch z), rfl, fun _ o e => ⟨rfl, rfl, o, e⟩, fun _ _ e => ⟨rfl, rfl, e⟩⟩
end
def kSortNeg (ir : Nat) (G : Gm) : List Rv → Res Rv
  | [r] => match rd G r, G[ir]? with
    | some (.list ds), some (.d (.tuple rds)) => if negOk rds ds then .ok (.new (.lst (sortN rds ds))) G else .bad
    | some (.tuple ds), some (.d (.tuple rds)) => if negOk rds ds then .ok (.new (.lst (sortN rds ds))) G else .bad
    | _, _ => .bad
  | _ => .bad
def fSortNeg (ir : Nat) (fs : Gm → Res (List Rv)) : Gm → Res Rv := fun G => (fs G).bind fun rs G1 => kSortNeg ir G1 rs
theorem fe_sortNeg {X : Cx} {XR : XRt} {E : XK} {e : Expr} {fe : Gm → Res Rv} {p kp lpos p1 p2 p3 p4 p5 p6 pos : Pos} {x1 : Nat} {rw_ gd : Str} {params : Arguments} {scope : Scope} {c P : Addr} {k ir : Nat} (hr : Room k X.A) (hg : Gl X "sorted") (hm : X.mg "sorted" = none) (TB : LamX.TabB X.base X.mg c P) (hcode : X.env.code = .ref c) (hq : X.env.qual ++ "<lambda>" = lamQ)
    (ht : PySem.W.tabIn X.K lamDef = some (c, P)) (hN : X.N[ir]? = some rw_) (hv : X.env.scope.names.lookup rw_ = some .cell) (ha : PE X e (tFE X.K XR E fe)) (hs : starEach [e] X.env = [(false, eval e X.env)] := by rfl)
    (hdef : defaultsOf params X.env = ([], []) := by rfl) (hk : scope.kind = .function := by rfl) (hco : scope.isCoroutine = false := by rfl) (hgen : scope.isGenerator = false := by rfl) (hcell : ∀ y ∈ scope.names, y.2 ≠ .cell := by decide) (hloc : scope.names.lookup gd = some .local := by rfl) (hfr : scope.names.lookup rw_ = some .free := by rfl)
    (hfree : (scope.names.all fun y => !decide (y.2 = .free) || decide (X.env.scope.names.lookup y.1 = some .cell)) = true := by rfl)
    (hbind : ∀ (q : Str) (cl : List (Str × Addr)) (pm cv ctv v : Value) (body : Expr), bindArgs (PySem.W.kla_fn "<lambda>" q params body scope cl pm cv ctv) ⟨[v], []⟩ = pure [(gd, v)] := by intros; rfl)
    (hd1 : (gd == ("__debug__" : Str)) = false := by decide) (hd2 : (rw_ == ("__debug__" : Str)) = false := by decide) (hd3 : (rw_ == ("__classdict__" : Str)) = false := by decide) :
    PE X (.Call (.Name "sorted" p) [e] [⟨some "key", .Lambda params (.Tuple [.UnaryOp .USub (.Subscript (.Name rw_ p1) (.Name gd p2) p3) p4, .Name gd p5] x1 p6) scope lpos, kp⟩] pos) (tFE X.K XR E (fSortNeg ir (fCons fe fNil))) :=
  PE.le (pe_sortNeg hr hg hm TB hcode hq ht hN hv (fa_cons ha fa_nil hs) hs hdef hk hco hgen hcell hloc hfr (fun y hy e => by have q := List.all_eq_true.mp hfree y hy; simpa [e] using q) hbind hd1 hd2 hd3) fun σ H Q ⟨M, G, ft, S, w⟩ =>
    bindAE S .refl w fun rs G1 vs H1 M1 ft1 _ S1 P1 R1 w1 => by
      unfold kSortNeg at w1
      split at w1
      · rename_i r
        obtain ⟨v, rfl, Rv1⟩ := R1.one
        split at w1
        · rename_i ds rds e1 e2
          split at w1
          · rename_i ok
            obtain ⟨q, xs, rfl, h2, g⟩ := rd_list S1 e1 Rv1
            obtain ⟨_, u, h3, h4⟩ := S1.slot ir _ e2
            cases h4 with
            | tup h5 h6 => exact ⟨M1, q, xs, ds, _, _, rds, rfl, .inl (SqL.of h2), S1.sub, g, h3, h5, h6, ok, S1.tab.1, fun H2 LS l zs hl D => w1.lst (S1.lam LS) (P1.trans (.lam LS)) D hl⟩
          · exact w1.elim
        · rename_i ds rds e1 e2
          split at w1
          · rename_i ok
            obtain ⟨q, xs, rfl, h2, g⟩ := rd_tup S1 e1 Rv1
            obtain ⟨_, u, h3, h4⟩ := S1.slot ir _ e2
            cases h4 with
            | tup h5 h6 => exact ⟨M1, q, xs, ds, _, _, rds, rfl, .inr (S1.sub.sqT h2), S1.sub, g, h3, h5, h6, ok, S1.tab.1, fun H2 LS l zs hl D => w1.lst (S1.lam LS) (P1.trans (.lam LS)) D hl⟩
          · exact w1.elim
        · exact w1.elim
      · exact w1.elim
end Fx
/-! FxX: try with several clauses 'except x as n' -/
namespace Fx
open PySem PySem.Spec
open PyProof.Rows L2
/-- a clause: its class, its name's slot, its suite -/
abbrev Clause := Value × Nat × (Addr → Value → Option Addr → TS)
def endsAs (i : Nat) (D : Ends) : Ends := { nx := fun σ' H' => D.nx (σ'.set i none) H', rt := D.rt, bk := fun σ' H' => D.bk (σ'.set i none) H', ct := fun σ' H' => D.ct (σ'.set i none) H' }
def wClauses (K : PySem.W.Frag) (Wout : WX) (D : Ends) : List Clause → WX
  | [] => Wout
  | (c, i, ts) :: r => fun cls d σ H => ∃ b, PySem.W.exmOne K cls c = some b ∧ (b = true → ∀ a, H a = none → ts a cls d (endsAs i D) (σ.set i (some (.ref a))) H) ∧ (b = false → wClauses K Wout D r cls d σ H)
inductive ClausesOk (X : Cx) : List ExceptHandler → List Clause → Prop
  | nil : ClausesOk X [] []
  | cons {nm as_ : Str} {cl : Value} {sl : Nat} {tS : Addr → Value → Option Addr → TS} {b0 : Stmt} {su : List Stmt} {npos posE : Pos} {hds : List ExceptHandler} {l : List Clause} (atI : X.N[sl]? = some as_) (loc : X.env.kindOf as_ = some .local) (nmd : Names X nm cl)
      (run : ∀ (ea : Addr) (ob : Obj) (kl : Value) (dct : Option Addr) (pn : List (Addr × Obj)), Zc kl dct ob → (∃ fld, ob.data = .fields fld) → PSs (X.suite ea ((ea, ob) :: pn)) (b0 :: su) (tS ea kl dct)) (rs : ClausesOk X hds l) :
      ClausesOk X (.ExceptHandler (some (.Name nm npos)) (some as_) (b0 :: su) posE :: hds) ((cl, sl, tS) :: l)
theorem ps_try_clauses {X : Cx} {body : List Stmt} {h₀ : ExceptHandler} {hds : List ExceptHandler} {l : List Clause} {pos : Pos} {tb : WX → TS} {Wout : WX} (stE : X.stack = X.env :: X.outer) (frE : X.env.frame = some X.env.locals) (ndN : X.N.Nodup) (tks : Takes X Wout)
    (bodyOk : ∀ (W : WX) (pn : List (Addr × Obj)) (xe : Value → Shared → Prop), Takes (X.tr pn xe) W → PassesOwn (model X.prog X.w) X.A X.env xe → PSs (X.tr pn xe) body (tb W))
    (hdsOk : ClausesOk X (h₀ :: hds) l) : PS X (.Try body (h₀ :: hds) [] [] pos) (fun En τ Hh => tb (wClauses X.K Wout En l) En τ Hh) := by
  refine ⟨fun pp sh τ Hh En Iv pre => ?_⟩
  have good := Iv.ok
  have stk : X.A.frames = some (X.env :: X.outer) := by rw [good.frames, stE]
  refine wpAny_Try_except ?_
  refine wpAny_mono ((bodyOk (wClauses X.K Wout En l) (X.pn ++ pp) (fun ev t₁ => wpAny (model X.prog X.w) X.A (noteFrame ev X.env) (fun _ t₂ => wpAny (model X.prog X.w) X.A (setFlight ev none) (fun _ t₃ =>
    wpAny (model X.prog X.w) X.A (handleBy ev X.env (h₀ :: hds)) (SP X pp En) X.xe t₃) X.xe t₂) X.xe t₁) (fun uu sh' raised => ?_) PassesOwn.looking).run [] sh τ Hh En (Iv.toTry _) pre) (fun fl sh1 said => ?_) (fun ev sh1 at0 => at0)
  · obtain ⟨ea, Bd, sIn, pp', τ', Hh', kl, dct, rfl, Jr, nbk, upw, sk, nfree, oss, agr, tail⟩ := raised
    have Jn : Inv X pp τ' Hh' sIn := Jr.ofTry good
    have sk' : Sky Bd (X.env :: X.outer) ea (Zc kl dct) X.env.locals sh'.heap := by rw [← stE]; exact sk
    show wpAny (model X.prog X.w) X.A (noteFrame (.ref ea) X.env) _ _ _
    refine Sky.land Zc.steady stk frE sk' fun hp3 fly3 upw3 => ?_
    have Jn3 : Inv X pp τ' Hh' { sh' with heap := hp3 } := Jn.landed nbk fly3.1 (upw.trans upw3) oss agr
    obtain ⟨ob3, fld3, at3, zc3, dat3⟩ := fly3.there
    have offFr : ∀ {pre : Heap} {oo : Obj} {fld : Array Value}, pre.FunFrames Bd (X.env :: X.outer) → pre.get? ea = some oo → oo.data = .fields fld → ea ∉ frs (X.env :: X.outer) := fun {pre oo fld} frm ev ddt mm => by
      obtain ⟨_, ob', ev', nnf⟩ := frm.mem mm
      rw [ev] at ev'; cases ev'
      exact nnf _ ddt
    have off := offFr fly3.2.2.1 at3 dat3
    have offL : ea ≠ X.env.locals := fun z => off (List.mem_filterMap.mpr ⟨X.env, List.mem_cons_self, by rw [frE, z]⟩)
    have offF : ea ∉ X.fs := fun mm => by
      obtain ⟨ev, at0, qq⟩ := List.mem_filterMap.mp mm
      exact off (List.mem_filterMap.mpr ⟨ev, List.mem_cons_of_mem _ at0, qq⟩)
    have Su3 := Jn3.suite at3 dat3 nfree offL offF
    have walk : ∀ {rest : List ExceptHandler} {cls' : List Clause}, ClausesOk X rest cls' → wClauses X.K Wout En cls' kl dct τ' Hh' →
        wpAny (model X.prog X.w) X.A (handleBy (.ref ea) X.env rest) (SP X pp En) X.xe { sh' with heap := hp3 } := by
      intro rest cls' ok2
      induction ok2 with
      | nil =>
        intro tail
        refine wpAny_handleBy_nil ?_
        obtain ⟨q1, q2, q3, ob, fld, Tr, obT, trs, at0, zc0, dat0, e1, er⟩ := id fly3
        unfold PySem.passOn
        refine wpAny_bind (wpAny_field at0 dat0 e1 ?_)
        rw [if_neg (show ¬ ((Value.ref Tr == Value.none) = true) from by simp)]
        have out : wpAny (model X.prog X.w) X.A (setFlight (.ref ea) X.env.frame) (fun _ sh4 => wpAny (model X.prog X.w) X.A (throw (.ref ea) : Sem Flow) (SP X pp En) X.xe sh4) X.xe { sh' with heap := hp3 } := by
          rw [frE]
          refine HandSPX.setFlight_upZ fly3 fun hp4 sit4 upw4 => wpAny_throw (tks _ _ ?_)
          exact ⟨ea, Bd, sIn, pp, τ', Hh', kl, dct, rfl, Jn, nbk, (upw.trans upw3).trans upw4, .inr (.inr (by rw [stE]; exact sit4)), nfree, oss, agr, tail⟩
        first
          | exact wpAny_bind (wpAny_pure (wpAny_bind out))
          | exact wpAny_bind out
      | @cons nm as_ cl sl tS b0 su npos posE more cl2 atI loc nmd run rs hyp =>
        intro tail
        obtain ⟨yes, eb, onY, onN⟩ := tail
        have lo : Loc X.env.scope as_ := .inl loc
        refine wpAny_handleBy_cons (codeAny_handlers_test ?_) (by intro qq; cases qq)
        have lkT : PySem.W.Looks (model X.prog X.w) hp3 (typeOf (.ref ea)) kl := fun A Q E sh kk qq => wpAny_typeOf_ref (kk _ _ at3) (by rw [zc3.1]; exact qq)
        have lkM := PySem.W.exm_one (M := model X.prog X.w) (Jn3.kIn) lkT eb
        have look : ∀ {Q : Value → Shared → Prop} {E : Value → Shared → Prop}, Q cl { sh' with heap := hp3 } → wpAny (model X.prog X.w) (X.A.mark (some (.ref ea))) (eval (.Name nm npos) X.env) Q E { sh' with heap := hp3 } := fun {Q E} qq => by
          obtain ⟨nglob, ndbg, mm | ⟨mm, vv, nnn⟩⟩ := nmd
          · exact ld_glob (X := X.suite ea ((ea, ob3) :: (X.pn ++ pp))) Su3 nglob mm qq ndbg
          · exact ld_blt (X := X.suite ea ((ea, ob3) :: (X.pn ++ pp))) Su3 nglob mm vv qq nnn ndbg
        refine look (lkM.here ?_)
        cases yes with
        | true =>
          apply codeAny_handlers_suite_as
          refine HandSPX.lands_againZ fly3 fun hp4 fly4 upw4 => ?_
          have Jn4 : Inv X pp τ' Hh' { sh' with heap := hp4 } := Jn.landed nbk fly4.1 ((upw.trans upw3).trans upw4) oss agr
          obtain ⟨ob4, fld4, at4, zc4, dat4⟩ := fly4.there
          have Su4 := Jn4.suite at4 dat4 nfree offL offF
          refine store_ok (X := X.suite ea ((ea, ob4) :: (X.pn ++ pp))) (v := .ref ea) Su4 ndN atI lo rfl (fun sh5 Su5 => ?_) (.inr loc)
          refine wpAny_mono ((run ea ob4 kl dct (X.pn ++ pp) zc4 ⟨_, dat4⟩).run [] sh5 _ Hh' _ Su5 (onY rfl ea nfree)) (fun fl sh6 said => ?_) (fun _ _ z => False.elim z)
          have fini : ∀ {τ6 : L2.St} {Hh6 : Hp} {Q : Shared → Prop}, Inv (X.suite ea ((ea, ob4) :: (X.pn ++ pp))) [] τ6 Hh6 sh6 → (∀ sh7, Inv X pp (τ6.set sl none) Hh6 sh7 → Q sh7) →
              wpAny (model X.prog X.w) X.A (do bindName X.env as_ .none; unbindBehindTheSuite X.env as_ posE) (fun _ sh7 => Q sh7) X.xe sh6 := fun {τ6 Hh6 Q} Su6 hq => gone_ok (Su6.unsuite good) ndN atI loc hq
          cases fl with
          | next =>
            obtain ⟨τ6, Hh6, Su6, w6⟩ := said
            exact fini Su6 fun sh7 Jn7 => ⟨_, _, Jn7, w6⟩
          | brk =>
            obtain ⟨τ6, Hh6, Su6, w6⟩ := said
            exact fini Su6 fun sh7 Jn7 => ⟨_, _, Jn7, w6⟩
          | cont =>
            obtain ⟨τ6, Hh6, Su6, w6⟩ := said
            exact fini Su6 fun sh7 Jn7 => ⟨_, _, Jn7, w6⟩
          | ret uu =>
            obtain ⟨u6, τ6, Hh6, Su6, ru6, w6⟩ := said
            exact fini Su6 fun sh7 Jn7 => ⟨_, _, _, Jn7, ru6, w6⟩
        | false =>
          show wpAny _ X.A (handleBy (.ref ea) X.env more) _ _ _
          exact hyp (onN rfl)
    exact walk hdsOk tail
  · cases fl with
    | next =>
      obtain ⟨τ', Hh', Jr, qq⟩ := said
      exact wpAny_execs_nil ⟨τ', Hh', Jr.ofTry good, qq⟩
    | brk =>
      obtain ⟨τ', Hh', Jr, qq⟩ := said
      exact ⟨τ', Hh', Jr.ofTry good, qq⟩
    | cont =>
      obtain ⟨τ', Hh', Jr, qq⟩ := said
      exact ⟨τ', Hh', Jr.ofTry good, qq⟩
    | ret uu =>
      obtain ⟨v, τ', Hh', Jr, rs, qq⟩ := said
      exact ⟨v, τ', Hh', Jr.ofTry good, rs, qq⟩
end Fx
/-! FxY: a suite that asks isinstance(e, F); a def that tells the word of an exception -/
namespace Fx
open PySem PySem.Spec
open PyProof.Rows L2
theorem suite_isi {X : Cx} {a D F : Addr} {i : Nat} {n x m o : Str} {oe : Obj} {cls : Value} {d : Option Addr} {pn : List (Addr × Obj)} {k1 k2 : Nat} {p1 p2 p3 p4 p5 p6 p7 p8 : Pos} (C : ExcC X.K D) (hg : Gl X "isinstance") (hm : X.mg "isinstance" = none) (hgF : Gl X x) (hF : X.mg x = some (.ref F)) (hk : PySem.W.kitOne X.K (.ref D) (.ref F) = some true)
    (hN : X.N[i]? = some n) (hv : Vis X.env.scope n) (hz : Zc cls d oe) (hf : ∃ vs, oe.data = .fields vs) (h1 : (n == ("__debug__" : Str)) = false := by decide) (h2 : (n == ("__classdict__" : Str)) = false := by decide) (h3 : (x == ("__debug__" : Str)) = false := by decide) :
    PSs (X.suite a ((a, oe) :: pn)) [.Return (some (.IfExp (.Call (.Name "isinstance" p1) [.Name n p2, .Name x p3] [] p4) (.Constant (.str m) k1 p5) (.Constant (.str o) k2 p6) p7)) p8] (fun Dn σ H => cls = .ref D ∧ d = none ∧ σ[i]? = some (some (.ref a)) ∧ Dn.rt (.str m) H) :=
  ⟨fun pins s σ H Dn I ⟨e1, e2, e3, q⟩ => by
    subst e1 e2
    have hN' : (X.suite a ((a, oe) :: pn)).N[i]? = some n := hN
    refine (pss_one (ps_ret (pe_ifExp (pt_val (pe_callB (call_isE C hz hf) hg hm boot_isinstance (pa_cons (pe_var (i := i) hN' hv h1 h2) (pa_cons (pe_glob (v := .ref F) hgF hF rfl h3) pa_nil)))) pe_str pe_str))).run pins s σ H Dn I ?_
    exact ⟨.ref a, e3, ⟨.ref F, .ref F, true, rfl, fun u hu => hu, hk, true, rfl, q⟩⟩⟩
/-- how an exception lies: of the class at CM -/
def XRm (CM : Addr) : XRt := fun e cls d _ => match e with
  | .mal => cls = .ref CM ∧ d = none
  | .rf _ => False
def wordF (Fc : Gm → Res Rv) : Gm → Res Rv
  | [.d x] => match Fc [.d x] with
    | .ok _ _ => .ok (.d (.str "none")) [.d x]
    | .ex .mal => .ok (.d (.str "malformed")) [.d x]
    | _ => .bad
  | _ => .bad
/-- .. that tells a reason, too -/
def wordR (Fc : Gm → Res Rv) : Gm → Res Rv
  | [.d x] => match Fc [.d x] with
    | .ok _ _ => .ok (.d (.str "none")) [.d x]
    | .ex .mal => .ok (.d (.str "malformed")) [.d x]
    | .ex (.rf z) => .ok (.d (.str z)) [.d x]
    | _ => .bad
  | _ => .bad
theorem no_own {K : PySem.W.Frag} {σ : L2.St} {H M : Hp} {ft : Nat → List Addr} {x : PyData} (S : SI K σ H M [.d x] ft) : ∀ i, ft i = [] := fun i => by
  cases i with
  | zero => exact (S.slot 0 _ rfl).1
  | succ j => exact S.out (j + 1) (by simp)
section
variable {P : Program} {w : World} {K : PySem.W.Frag}
variable {mg : Str → Option Value} {base : Heap}
theorem fn_word {qual : Str} {x xc : Str} {st : Stmt} {f fc : Addr} {fd fdc : FuncData} {psc : List Str} {k : Nat} {Fc : Gm → Res Rv} {CM CF CR : Addr} {k1 k2 k3 : Nat} {p1 p2 p3 p4 p5 p6 p7 p8 p9 p10 p11 p12 p13 p14 p15 p16 p17 p18 p19 : Pos} {suite2 : List Stmt} {b2 : Stmt}
    (F : Fun K x qual st f fd) (S : FnScope ["call", "e"] ["call"] (defScope st)) (okc : FnOk P w K mg base (L2.CX P w) k fc fdc psc (spF K (XRm CM) Fc)) (gc : mg xc = some (.ref fc)) (kc : PySem.W.keepIn K (.ref fc) = true) (bc : Binds K fdc psc [])
    (C : ExcC K CM) (ni : mg "isinstance" = none) (gM : mg "Malformed" = some (.ref CM)) (gF : mg "Fault" = some (.ref CF)) (gR : mg "Refused" = some (.ref CR)) (kk : PySem.W.kitOne K (.ref CM) (.ref CF) = some true) (xm : PySem.W.exmOne K (.ref CM) (.ref CM) = some true)
    (hxc : (defScope st).names.lookup xc = some .globalImplicit) (h1 : (defScope st).names.lookup (Str.ofString "isinstance") = some .globalImplicit) (h2 : (defScope st).names.lookup (Str.ofString "Malformed") = some .globalImplicit) (h3 : (defScope st).names.lookup (Str.ofString "Fault") = some .globalImplicit) (h4 : (defScope st).names.lookup (Str.ofString "Refused") = some .globalImplicit) (he : (defScope st).names.lookup (Str.ofString "e") = some .local) (hcl : (defScope st).names.lookup (Str.ofString "call") = some .local)
    (hst : defBody st = [.Try [.Expr (.Call (.Name xc p1) [.Name "call" p2] [] p3) p4] [.ExceptHandler (some (.Name "Malformed" p5)) (some "e") [.Return (some (.IfExp (.Call (.Name "isinstance" p6) [.Name "e" p7, .Name "Fault" p8] [] p9) (.Constant (.str "malformed") k1 p10) (.Constant (.str "other") k2 p11) p12)) p13] p14,
      .ExceptHandler (some (.Name "Refused" p15)) (some "e") (b2 :: suite2) p16] [] [] p17, .Return (some (.Constant (.str "none") k3 p18)) p19]) (hdb : (xc == ("__debug__" : Str)) = false) : FnOk P w K mg base (L2.CX P w) (k + 1) f fd ["call"] (spF K (XRm CM) (wordF Fc)) := by
  have hsp : ∀ vs H Q E, spF K (XRm CM) (wordF Fc) vs H Q E → ∃ v d M ft, vs = [v] ∧ SI K [some v] H M [.d d] ft ∧ WP K (XRm CM) E (ROv K [some v]) [some v] [.d d] H M ft (wordF Fc [.d d]) Q := fun vs H Q E ⟨M, As, ft, S, h⟩ => by
    unfold wordF at h
    split at h
    · rename_i d
      have hl : vs.length = 1 := by have := S.len; simpa using this
      match vs, hl with
      | [v], _ => exact ⟨v, d, M, ft, rfl, S, h⟩
    · exact h.elim
  refine F.okX S (fun vs H Q E h => by obtain ⟨v, d, M, ft, rfl, _⟩ := hsp vs H Q E h; rfl) (fun cdv A outer s H vs Q E hr h => ?_)
  obtain ⟨v, d, M, ft, rfl, S0, h0⟩ := hsp vs H Q E h
  rw [hst]
  have nd := S.nd
  refine ⟨_, pss_cons (ps_try_clauses (l := [(.ref CM, 1, fun a cls d' Dn σ H => cls = .ref CM ∧ d' = none ∧ σ[1]? = some (some (.ref a)) ∧ Dn.rt (.str "malformed") H), (.ref CR, 1, fun _ _ _ => tNever)]) rfl rfl nd (takes_of rfl rfl rfl rfl)
    (fun W pn xe tk _ => pss_one (ps_expr (pe_callS (E := WE W) okc hr hxc gc kc bc (fun σ => passAt tk σ) (pa_cons (pe_var (i := 0) rfl (.inl hcl)) pa_nil) hdb)))
    (.cons (sl := 1) rfl he ⟨h2, by decide, .inl gM⟩ (fun a oe cls d' pn hz hf => suite_isi (X := cxOf (L2.CX P w) P w K mg base ["call", "e"] qual (defScope st) f cdv A outer s H E) C h1 ni h3 gF kk (i := 1) rfl (.inl he) hz hf) (.cons (sl := 1) rfl he ⟨h4, by decide, .inl gR⟩ (fun a oe cls d' pn hz hf => pss_never) .nil)))
    (pss_one (ps_ret pe_str)), ?_⟩
  have nft := no_own S0
  have hs0 := S0.slot 0 _ rfl
  obtain ⟨_, v', ev, Dv⟩ := hs0
  cases ev
  -- behind the call
  show ∃ u, (L2.start ["call", "e"] [v])[0]? = some (some u) ∧ _
  refine ⟨v, rfl, ?_⟩
  refine ⟨M, [.d d], ft, S0, ?_⟩
  replace h0 : WP K (XRm CM) E (ROv K [some v]) [some v] [.d d] H M ft (match Fc [.d d] with
    | .ok _ _ => .ok (.d (.str "none")) [.d d]
    | .ex .mal => .ok (.d (.str "malformed")) [.d d]
    | _ => .bad) Q := h0
  cases ec : Fc [.d d] with
  | bad => rw [ec] at h0; exact h0.elim
  | ok r G' =>
    rw [ec] at h0
    intro u H' M' ft' S' P' R'
    have SF : SI K [some v] H' M' [.d d] (fun _ => []) := {
      len := rfl
      sub := S'.sub
      slot := fun i s e => by
        cases i with
        | zero => cases e; exact ⟨rfl, v, rfl, Dv.mono P'.mono⟩
        | succ j => cases e
      tab := S'.tab
      out := fun _ _ => rfl
      disj := fun i j a h => by cases h }
    exact h0 (.str "none") H' M' (fun _ => []) SF ⟨P'.mono, P'.new, P'.frame, P'.tbls, P'.tab, P'.there, fun i a z => (by cases z), P'.tups, rfl, fun i o e => (by cases i with | zero => cases e | succ j => cases e), fun i o e => (by cases i with | zero => cases e | succ j => cases e)⟩ (Dd.str _)
  | ex e =>
    rw [ec] at h0
    cases e with
    | rf r => exact h0.elim
    | mal =>
      intro cls d' H' hx fr
      obtain ⟨rfl, rfl⟩ := hx
      refine ⟨true, xm, fun _ a na => ⟨rfl, rfl, rfl, ?_⟩, fun z => (by cases z)⟩
      have subM : Sub M H' := fun b o e => fr.1 b o (S0.sub b o e) (fun ps z => S0.tab.2 b ps (by rw [e, z])) fun i z => (by rw [nft i] at z; cases z)
      have SF : SI K [some v] H' M [.d d] ft := {
        len := rfl
        sub := subM
        slot := fun i s e => by
          cases i with
          | zero => cases e; exact ⟨nft 0, v, rfl, Dv⟩
          | succ j => cases e
        tab := ⟨fr.2.2.1 K S0.tab.1, S0.tab.2⟩
        out := S0.out
        disj := S0.disj }
      exact h0 (.str "malformed") H' M ft SF ⟨Sub.refl _, fun _ _ e => .inl e, fun b o e nt _ => fr.1 b o e nt fun i z => (by rw [nft i] at z; cases z), fr.2.2.2, fr.2.2.1, fr.2.1, fun i a z => (by rw [nft i] at z; cases z), fun b xs e => fr.1 b _ e (fun _ z => nomatch z) fun i z => (by rw [nft i] at z; cases z), rfl, fun i o e => (by cases i with | zero => cases e | succ j => cases e), fun i o e => (by cases i with | zero => cases e | succ j => cases e)⟩ (Dd.str _)
end
section
variable {P : Program} {w : World} {K : PySem.W.Frag}
variable {mg : Str → Option Value} {base : Heap} {XR : XRt}
/-- a def's body as a function, the code object told -/
theorem fn_mkXc {x qual : Str} {st : Stmt} {f : Addr} {fd : FuncData} {N ps : List Str} {k n m : Nat} {fb : Gm → Res Out} (F : Fun K x qual st f fd) (S : FnScope N ps (defScope st)) (hn : ps.length = n) (hm : N.length = n + m)
    (hbody : ∀ (cdv : Value), fd.code = cdv → ∀ (A : Around) (outer : List Env) (s : Shared) (H : Hp) (E : XK), Room k (A.deeper (envOfC qual (defScope st) s.heap.objs.size f cdv)) →
      PSs (cxOf (L2.CX P w) P w K mg base N qual (defScope st) f cdv A outer s H E) (defBody st) (tFS K XR E fb)) : FnOk P w K mg base (L2.CX P w) (k + 1) f fd ps (spF K XR (runDef n m fb)) := by
  have lenOf : ∀ vs H Q E, spF K XR (runDef n m fb) vs H Q E → vs.length = n ∧ ∃ M As ft, SI K (vs.map some) H M As ft ∧ As.all argSl = true ∧ WP K XR E (ROv K (vs.map some)) (vs.map some) As H M ft (endDef As (fb (As ++ List.replicate m .no))) Q := fun vs H Q E ⟨M, As, ft, S, h⟩ => by
    unfold runDef at h
    split at h
    · rename_i c
      simp only [Bool.and_eq_true, decide_eq_true_eq] at c
      have := S.len
      rw [List.length_map] at this
      exact ⟨this.trans c.1, M, As, ft, S, c.2, h⟩
    · exact h.elim
  obtain ⟨ocl, od, kV, doc, pm, an, cdv, ct, osl, rfl, lk, hcd⟩ := F.ex
  refine fn_of lk hcd S (fun vs H Q E h => by rw [hn]; exact (lenOf vs H Q E h).1) fun A outer s H vs Q E hr h => ?_
  obtain ⟨hl, M, As, ft, S2, hA, h2⟩ := lenOf vs H Q E h
  refine ⟨_, hbody cdv rfl A outer s H E hr, ?_⟩
  have es : L2.start N vs = vs.map some ++ List.replicate m none := by
    unfold L2.start
    rw [hm, hl, Nat.add_sub_cancel_left]
  rw [es]
  exact def_end S2 hA h2
theorem pe_globI {X : Cx} {x : Str} {pos : Pos} {i : Int} (hg : Gl X x) (hm : ∃ t, X.mg x = some (.int i t)) (hd : (x == ("__debug__" : Str)) = false := by decide) : PE X (.Name x pos) (tC (.int i)) := by
  obtain ⟨t, hm⟩ := hm
  exact pe_glob hg hm ⟨_, rfl⟩ hd
end
end Fx
/-! FxZ: a law's start and end -/
namespace Fx
open PySem PySem.Spec
open PyProof.Rows L2
theorem law_sp {K : PySem.W.Frag} {XR : XRt} {F : Gm → Res Rv} {H : Hp} {a : Addr} {ns : List Int} (hT : TabI K H) (h : SqL K H a (ns.map V.int)) (hF : ∃ G, F [.d (.dict [(.none, .list (ns.map .int))])] = .ok (.d (.bool true)) G) : spF K XR F [.ref a] H (fun v _ => v = .bl true) fun _ _ _ => False := by
  obtain ⟨G, hF⟩ := hF
  have sub : Sub (fun b => match H b with | some (.tbl _) => none | o => o) H := fun b o e => by
    have e' : (match H b with | some (.tbl _) => none | o => o) = some o := e
    split at e'
    · cases e'
    · exact e'
  have rd : ∀ {xs : List V}, SqL K H a xs → SqL K (fun b => match H b with | some (.tbl _) => none | o => o) a xs := fun {xs} z => by
    rcases z with z | z
    · rcases z with z | ⟨o, z⟩
      · exact .inl (.inl (show (match H a with | some (.tbl _) => none | o => o) = _ by rw [z]))
      · exact .inl (.inr ⟨o, show (match H a with | some (.tbl _) => none | o => o) = _ by rw [z]⟩)
    · exact .inr z
  refine ⟨_, [.d (.dict [(.none, .list (ns.map .int))])], fun _ => [], { len := rfl, sub := sub, slot := fun i s e => ?_, tab := ⟨hT, fun b ps z => ?_⟩, out := fun _ _ => rfl, disj := fun i j b z => by cases z }, ?_⟩
  · cases i with
    | zero => cases e; exact ⟨rfl, .ref a, rfl, .frz (rd h) (DdA.ofInts ns)⟩
    | succ j => cases e
  · have z' : (match H b with | some (.tbl _) => none | o => o) = some (.tbl ps) := z
    split at z'
    · cases z'
    · rename_i n; exact n ps z'
  · rw [hF]
    intro v H' M' ft' S' P' R'
    cases R'
    rfl
end Fx
/-! FxT: forgetting slots behind a suite -/
namespace Fx
open PySem PySem.Spec
open PyProof.Rows L2
/-- a slot that may be stored to is forgotten -/
def kil (G : Gm) (i : Nat) : Gm := if freeAt G i then G.set i .no else G
def killG : Gm → List Nat → Gm
  | G, [] => G
  | G, i :: r => killG (kil G i) r
def sKl (vs : List Nat) (f : Gm → Res Out) : Gm → Res Out := fun G => match f G with
  | .ok .nx G1 => .ok .nx (killG G1 vs)
  | .ok .ct G1 => .ok .ct (killG G1 vs)
  | .ok .bk G1 => .ok .bk (killG G1 vs)
  | r => r
section
variable {K : PySem.W.Frag} {XR : XRt} {E : XK} {σ σ0 : L2.St} {G G0 : Gm} {H M H0 M0 : Hp} {ft ft0 : Nat → List Addr}
theorem killed : ∀ (vs : List Nat) {G : Gm} {ft : Nat → List Addr}, SI K σ H M G ft → Stp σ0 G0 H0 M0 ft0 σ G H M ft → ∃ ft', SI K σ H M (killG G vs) ft' ∧ Stp σ0 G0 H0 M0 ft0 σ (killG G vs) H M ft'
  | [], _, _, S, P => ⟨_, S, P⟩
  | i :: r, G, ft, S, P => by
    unfold killG kil
    by_cases h : freeAt G i = true
    · rw [if_pos h]
      exact killed r (S.drop i) (P.drop h)
    · rw [if_neg h]
      exact killed r S P
end
section
variable {X : Cx} {XR : XRt} {E : XK} {sts : List Stmt} {f : Gm → Res Out}
theorem fs_kl {vs : List Nat} (h : PSs X sts (tFS X.K XR E f)) : PSs X sts (tFS X.K XR E (sKl vs f)) := PSs.le h fun D σ H ⟨M, G, ft, S, w⟩ => by
  refine ⟨M, G, ft, S, ?_⟩
  unfold sKl at w
  cases e : f G with
  | ok o G1 =>
    rw [e] at w
    cases o with
    | nx => exact fun σ' H' M' ft' S1 P1 => let ⟨ft2, S2, P2⟩ := killed vs S1 P1; w σ' H' M' ft2 S2 P2
    | ct => exact fun σ' H' M' ft' S1 P1 => let ⟨ft2, S2, P2⟩ := killed vs S1 P1; w σ' H' M' ft2 S2 P2
    | bk => exact fun σ' H' M' ft' S1 P1 => let ⟨ft2, S2, P2⟩ := killed vs S1 P1; w σ' H' M' ft2 S2 P2
    | rt v => exact w
  | ex x => rw [e] at w; exact w
  | bad => rw [e] at w; exact w
end
/-- x *= e -/
def sAugM (i : Nat) (f : Gm → Res Rv) : Gm → Res Out := fun G => match intAt G i with
  | some a => (f G).bind fun r G1 => match rd G1 r with
    | some (.int b) => if mulOk a b then stor G1 i (.d (.int (a * b))) else .bad
    | _ => .bad
  | none => .bad
section
variable {X : Cx} {XR : XRt} {E : XK} {e : Expr} {fe : Gm → Res Rv} {pos : Pos}
theorem mulOk_c {i j : Int} (h : mulOk i j = true) : CMul i j := by
  unfold mulOk at h
  simp only [Bool.or_eq_true, Bool.and_eq_true, decide_eq_true_eq] at h
  exact h
theorem ip_mulR : PIp X .Mult (rI CMul fun i j => .int (i * j)) := fun pins s σ H x y v u Q I r1 r2 h => iop_mul pins s σ H x y v u Q I r1 r2 h
theorem fs_augM {i : Nat} {x : Str} {pos' : Pos} (hN : X.N.Nodup) (hi : X.N[i]? = some x) (hx : Loc X.env.scope x) (he : PE X e (tFE X.K XR E fe)) (hf : X.fn x = true ∨ X.env.scope.names.lookup x = some .local := by first | exact .inl rfl | exact .inr rfl | assumption) :
    PS X (.AugAssign (.Name x pos') .Mult e pos) (tFS X.K XR E (sAugM i fe)) := PS.le (ps_aug hN hi hx he ip_mulR hf) fun D σ H ⟨M, G, ft, S, w⟩ => by
  unfold sAugM at w
  split at w
  · rename_i a ea
    refine ⟨.int a, intAt_ok S ea, bindES S .refl w fun r G1 v H1 M1 ft1 _ S1 P1 R1 w1 => ?_⟩
    split at w1
    · rename_i b eb
      split at w1
      · rename_i c
        cases rd_int S1 eb R1
        exact ⟨a, b, rfl, rfl, mulOk_c c, stor_ok (Hb := H) (r := .d (.int (a * b))) (v := .int (a * b)) S1 P1 (fun a z => z) (Dd.int _) w1⟩
      · exact w1.elim
    · exact w1.elim
  · exact w.elim
end
end Fx
namespace C0
open PySem PySem.Spec PyProof.Rows L2 Fx
def wfuel : Nat := 1000
def f_is_whole : Gm → Res Out := (sRet (fAnd (fUn (kIsi "int") (fVar 0)) (fNot (fUn (kIsi "bool") (fVar 0)))))
def F_is_whole : Gm → Res Rv := runDef 1 0 f_is_whole
def f_is_wishes : Gm → Res Out := (sSeq (sIf (tOr' (tNot' (fTest (fUn (kIsi "tuple") (fVar 0)))) (fTest (fOp2 kNe (fCallK kLen (fCons (fVar 0) fNil)) (fVar 1)))) (sRet (fC (.bool false))) sNx) (sRet (fCallK kAll (fCons (fComp (iSeq (fVar 0)) [2] (gN 2) tYesF (fAnd (fCallK (kCall F_is_whole) (fCons (fVar 2) fNil)) (fChn kLe kLe (fC (.int 1)) (fVar 2) (fC (.int 1000))))) fNil))))
def F_is_wishes : Gm → Res Rv := runDef 2 1 f_is_wishes
def f_is_game : Gm → Res Out := (sSeq (sIf (tOr' (tNot' (fTest (fUn (kIsi "tuple") (fVar 0)))) (tOr' (tNot' (fTest (fChn kLe kLe (fC (.int 1)) (fCallK kLen (fCons (fVar 0) fNil)) (fC (.int 6))))) (tNot' (fTest (fUn (kIsi "tuple") (fOp2 kIdx (fVar 0) (fC (.int 0)))))))) (sRet (fC (.bool false))) sNx) (sRet (fAnd (fChn kLe kLe (fC (.int 1)) (fCallK kLen (fCons (fOp2 kIdx (fVar 0) (fC (.int 0))) fNil)) (fC (.int 10))) (fCallK kAll (fCons (fComp (iSeq (fVar 0)) [1] (gN 1) tYesF (fCallK (kCall F_is_wishes) (fCons (fVar 1) (fCons (fCallK kLen (fCons (fOp2 kIdx (fVar 0) (fC (.int 0))) fNil)) fNil)))) fNil)))))
def F_is_game : Gm → Res Rv := runDef 1 1 f_is_game
def f_check_game : Gm → Res Out := (sIf (tNot' (fTest (fCallK (kCall F_is_game) (fCons (fVar 0) fNil)))) (sRaise .mal) sNx)
def F_check_game : Gm → Res Rv := runDef 1 0 f_check_game
def f_fits_owners : Gm → Res Out := (sSeq (sIf (tOr' (tNot' (fTest (fUn (kIsi "tuple") (fVar 1)))) (fTest (fOp2 kNe (fCallK kLen (fCons (fVar 1) fNil)) (fCallK kLen (fCons (fOp2 kIdx (fVar 0) (fC (.int 0))) fNil))))) (sRet (fC (.bool false))) sNx) (sRet (fCallK kAll (fCons (fComp (iSeq (fVar 1)) [2] (gN 2) tYesF (fAnd (fCallK (kCall F_is_whole) (fCons (fVar 2) fNil)) (fChn kLe kLt (fC (.int 0)) (fVar 2) (fCallK kLen (fCons (fVar 0) fNil))))) fNil))))
def F_fits_owners : Gm → Res Rv := runDef 2 1 f_fits_owners
def f_check_share : Gm → Res Out := (sSeq (sExpr (fCallK (kCall F_check_game) (fCons (fVar 0) fNil))) (sIf (tNot' (fTest (fCallK (kCall F_fits_owners) (fCons (fVar 0) (fCons (fVar 1) fNil))))) (sRaise .mal) sNx))
def F_check_share : Gm → Res Rv := runDef 2 0 f_check_share
def f_parts_of : Gm → Res Out := (sSeq (sSet 2 (fComp (iRg1 (fVar 0)) [3] (gN 3) tYesF (fTup fNil))) (sSeq (sFor (iEnum (fVar 1)) (gT 2 (gsCons (gN 4) (gsCons (gN 5) gsNil)))
  (sSetItem (fOp2 kAdd (fOp2 kIdx (fVar 2) (fVar 5)) (fTup (fCons (fVar 4) fNil))) (fVar 2) (fVar 5))) (sRet (fVar 2))))
def F_parts_of : Gm → Res Rv := runDef 2 4 f_parts_of
def f_worth : Gm → Res Out := (sRet (fCallK kSum (fCons (fComp (iSeq (fVar 1)) [2] (gN 2) tYesF (fOp2 kIdx (fVar 0) (fVar 2))) fNil)))
def F_worth : Gm → Res Rv := runDef 2 1 f_worth
def f_law_draw : Gm → Res Out := (sSeq (sSet 1 (fC (.int 7))) (sSeq (sFor (iSeq (fVar 0)) (gN 2)
  (sSet 1 (fOp2 kMod (fCallK kInt (fCons (fOp2 kAdd (fOp2 kAdd (fOp2 kMul (fVar 1) (fC (.int 48271))) (fOp2 kMod (fCallK kAbs (fCons (fCallK kInt (fCons (fVar 2) fNil)) fNil)) (fC (.int 65521)))) (fC (.int 1))) fNil)) (fC (.int 2147483647))))) (sRet (fLst (fCons (fComp (iSeq (fVar 0)) [2] (gN 2) tYesF (fCallK kAbs (fCons (fCallK kInt (fCons (fVar 2) fNil)) fNil))) (fCons (fUn kNeg (fC (.int 1))) (fCons (fC (.int 0)) (fCons (fVar 1) fNil))))))))
def F_law_draw : Gm → Res Rv := runDef 1 2 f_law_draw
def f_law_take : Gm → Res Out := (sSeq (sIf (fTest (fOp2 kEq (fOp2 kIdx (fVar 0) (fC (.int 2))) (fC (.int 0)))) (sSeq (sSetItem (fOp2 kAdd (fOp2 kIdx (fVar 0) (fC (.int 1))) (fC (.int 1))) (fVar 0) (fC (.int 1))) (sSeq (sIf (fTest (fOp2 kLt (fOp2 kIdx (fVar 0) (fC (.int 1))) (fCallK kLen (fCons (fOp2 kIdx (fVar 0) (fC (.int 0))) fNil)))) (sSetItem (fOp2 kIdx (fOp2 kIdx (fVar 0) (fC (.int 0))) (fOp2 kIdx (fVar 0) (fC (.int 1)))) (fVar 0) (fC (.int 2))) sNx) (sIf (fTest (fOp2 kEq (fOp2 kIdx (fVar 0) (fC (.int 2))) (fC (.int 0)))) (sSeq (sSetItem (fOp2 kMod (fCallK kInt (fCons (fOp2 kAdd (fOp2 kMul (fOp2 kIdx (fVar 0) (fC (.int 3))) (fC (.int 48271))) (fC (.int 11))) fNil)) (fC (.int 2147483647))) (fVar 0) (fC (.int 3))) (sSetItem (fOp2 kIdx (fVar 0) (fC (.int 3))) (fVar 0) (fC (.int 2)))) sNx))) sNx) (sSeq (sSet 2 (fOp2 kMod (fCallK kInt (fCons (fOp2 kIdx (fVar 0) (fC (.int 2))) fNil)) (fVar 1))) (sSeq (sSetItem (fOp2 kDiv (fOp2 kIdx (fVar 0) (fC (.int 2))) (fVar 1)) (fVar 0) (fC (.int 2))) (sRet (fVar 2)))))
def F_law_take : Gm → Res Rv := runDef 2 1 f_law_take
def f_law_game : Gm → Res Out := (sSeq (sPar 4 5 (fCons (fOp2 kAdd (fC (.int 1)) (fCallK (kCallM F_law_take) (fCons (fVar 0) (fCons (fVar 1) fNil)))) (fCons (fOp2 kAdd (fC (.int 1)) (fCallK (kCallM F_law_take) (fCons (fVar 0) (fCons (fVar 2) fNil)))) fNil))) (sSeq (sSet 6 (fOp2 kIdx (fLst (fCons (fC (.int 2)) (fCons (fC (.int 4)) (fCons (fVar 3) fNil)))) (fCallK (kCallM F_law_take) (fCons (fVar 0) (fCons (fC (.int 3)) fNil))))) (sSeq (sSet 7 (fLst fNil)) (sSeq (sFor (iRg1 (fVar 4)) (gN 8)
  (sSeq (sSet 9 (fCallK kTuple (fCons (fComp (iRg1 (fVar 5)) [10] (gN 10) tYesF (fOp2 kAdd (fC (.int 1)) (fCallK (kCallM F_law_take) (fCons (fVar 0) (fCons (fVar 6) fNil))))) fNil))) (sExpr (fMeth kAppend (fVar 7) (fCons (fIf (tAnd' (fTest (fOp2 kNe (fVar 7) (fLst fNil))) (fTest (fOp2 kEq (fCallK (kCallM F_law_take) (fCons (fVar 0) (fCons (fC (.int 4)) fNil))) (fC (.int 0))))) (fOp2 kIdx (fVar 7) (fCallK (kCallM F_law_take) (fCons (fVar 0) (fCons (fCallK kLen (fCons (fVar 7) fNil)) fNil)))) (fVar 9)) fNil))))) (sRet (fCallK kTuple (fCons (fVar 7) fNil)))))))
def F_law_game : Gm → Res Rv := runDef 4 7 f_law_game
def f_law_owners : Gm → Res Out := (sRet (fCallK kTuple (fCons (fComp (iSeq (fOp2 kIdx (fVar 1) (fC (.int 0)))) [2] (gN 2) tYesF (fCallK (kCallM F_law_take) (fCons (fVar 0) (fCons (fCallK kLen (fCons (fVar 1) fNil)) fNil)))) fNil)))
def F_law_owners : Gm → Res Rv := runDef 2 1 f_law_owners
def f_law_worth : Gm → Res Out := (sRet (fCallK kSum (fCons (fComp (iRg1 (fCallK kLen (fCons (fVar 1) fNil))) [4] (gN 4) (fTest (fOp2 kEq (fOp2 kIdx (fVar 1) (fVar 4)) (fVar 3))) (fOp2 kIdx (fOp2 kIdx (fVar 0) (fVar 2)) (fVar 4))) fNil)))
def F_law_worth : Gm → Res Rv := runDef 4 1 f_law_worth
def f_law_bad_game : Gm → Res Out := (sSeq (sSet 2 (fLst (fCons (fC .none) (fCons (fTup fNil) (fCons (fC (.int 5)) (fCons (fCallK kList (fCons (fVar 1) fNil)) (fCons (fTup (fCons (fTup fNil) fNil)) (fCons (fOp2 kAdd (fVar 1) (fTup (fCons (fOp2 kMul (fTup (fCons (fC (.int 1)) fNil)) (fOp2 kAdd (fCallK kLen (fCons (fOp2 kIdx (fVar 1) (fC (.int 0))) fNil)) (fC (.int 1)))) fNil))) (fCons (fOp2 kAdd (fSlice (fVar 1) fNoPart (fPart (fUn kNeg (fC (.int 1))))) (fTup (fCons (fOp2 kMul (fTup (fCons (fC (.int 0)) fNil)) (fCallK kLen (fCons (fOp2 kIdx (fVar 1) (fC (.int 0))) fNil))) fNil))) (fCons (fOp2 kAdd (fSlice (fVar 1) fNoPart (fPart (fUn kNeg (fC (.int 1))))) (fTup (fCons (fOp2 kMul (fTup (fCons (fC (.int 1001)) fNil)) (fCallK kLen (fCons (fOp2 kIdx (fVar 1) (fC (.int 0))) fNil))) fNil))) fNil)))))))))) (sSeq (sSet 2 (fOp2 kAdd (fVar 2) (fLst (fCons (fOp2 kMul (fTup (fCons (fTup (fCons (fC (.int 1)) fNil)) fNil)) (fC (.int 7))) (fCons (fTup (fCons (fOp2 kMul (fTup (fCons (fC (.int 1)) fNil)) (fC (.int 11))) fNil)) (fCons (fOp2 kAdd (fSlice (fVar 1) fNoPart (fPart (fUn kNeg (fC (.int 1))))) (fTup (fCons (fOp2 kMul (fLst (fCons (fC (.int 1)) fNil)) (fCallK kLen (fCons (fOp2 kIdx (fVar 1) (fC (.int 0))) fNil))) fNil))) (fCons (fOp2 kAdd (fSlice (fVar 1) fNoPart (fPart (fUn kNeg (fC (.int 1))))) (fTup (fCons (fOp2 kMul (fTup (fCons (fC (.bool true)) fNil)) (fCallK kLen (fCons (fOp2 kIdx (fVar 1) (fC (.int 0))) fNil))) fNil))) (fCons (fC (.str (Str.ofString "game"))) fNil)))))))) (sRet (fOp2 kIdx (fVar 2) (fCallK (kCallM F_law_take) (fCons (fVar 0) (fCons (fC (.int 13)) fNil)))))))
def F_law_bad_game : Gm → Res Rv := runDef 2 1 f_law_bad_game
def f_law_bad_owners : Gm → Res Out := (sRet (fOp2 kIdx (fLst (fCons (fC .none) (fCons (fTup fNil) (fCons (fOp2 kAdd (fVar 2) (fTup (fCons (fC (.int 0)) fNil))) (fCons (fCallK kList (fCons (fVar 2) fNil)) (fCons (fOp2 kAdd (fSlice (fVar 2) fNoPart (fPart (fUn kNeg (fC (.int 1))))) (fTup (fCons (fCallK kLen (fCons (fVar 1) fNil)) fNil))) (fCons (fOp2 kAdd (fSlice (fVar 2) fNoPart (fPart (fUn kNeg (fC (.int 1))))) (fTup (fCons (fUn kNeg (fC (.int 1))) fNil))) (fCons (fOp2 kMul (fTup (fCons (fC .none) fNil)) (fCallK kLen (fCons (fVar 2) fNil))) (fCons (fC (.str (Str.ofString "0"))) fNil))))))))) (fCallK (kCallM F_law_take) (fCons (fVar 0) (fCons (fC (.int 8)) fNil)))))
def F_law_bad_owners : Gm → Res Rv := runDef 3 0 f_law_bad_owners
def common_s1 : Gm → Res Out := (sPar 0 1 (fCons (fCallK kAbs (fCons (fVar 0) fNil)) (fCons (fCallK kAbs (fCons (fVar 1) fNil)) fNil)))
def common_b1 : Gm → Res Out := (sPar 0 1 (fCons (fVar 1) (fCons (fOp2 kMod (fVar 0) (fVar 1)) fNil)))
def common_t1 : Gm → Res Bool := (fTest (fOp2 kNe (fVar 1) (fC (.int 0))))
def common_s2 : Gm → Res Out := (sWhile wfuel common_t1
  common_b1)
def common_s3 : Gm → Res Out := (sRet (fVar 0))
def f_common : Gm → Res Out := (sSeq common_s1 (sSeq common_s2 common_s3))
def F_common : Gm → Res Rv := runDef 2 0 f_common
def lowest_s1 : Gm → Res Out := (sSet 2 (fCallK (kCall F_common) (fCons (fVar 0) (fCons (fVar 1) fNil))))
def lowest_s2 : Gm → Res Out := (sIf (fTest (fOp2 kLt (fVar 1) (fC (.int 0)))) (sSet 2 (fUn kNeg (fVar 2))) sNx)
def lowest_s3 : Gm → Res Out := (sRet (fTup (fCons (fOp2 kDiv (fVar 0) (fVar 2)) (fCons (fOp2 kDiv (fVar 1) (fVar 2)) fNil))))
def f_lowest : Gm → Res Out := (sSeq lowest_s1 (sSeq lowest_s2 lowest_s3))
def F_lowest : Gm → Res Rv := runDef 2 1 f_lowest
def is_ratio_s1 : Gm → Res Out := (sIf (tOr' (tNot' (fTest (fUn (kIsi "tuple") (fVar 0)))) (tOr' (fTest (fOp2 kNe (fCallK kLen (fCons (fVar 0) fNil)) (fC (.int 2)))) (tOr' (tNot' (fTest (fCallK (kCall F_is_whole) (fCons (fOp2 kIdx (fVar 0) (fC (.int 0))) fNil)))) (tNot' (fTest (fCallK (kCall F_is_whole) (fCons (fOp2 kIdx (fVar 0) (fC (.int 1))) fNil))))))) (sRet (fC (.bool false))) sNx)
def is_ratio_s2 : Gm → Res Out := (sRet (fAnd (fOp2 kGt (fOp2 kIdx (fVar 0) (fC (.int 1))) (fC (.int 0))) (fOp2 kEq (fCallK (kCall F_common) (fCons (fOp2 kIdx (fVar 0) (fC (.int 0))) (fCons (fOp2 kIdx (fVar 0) (fC (.int 1))) fNil))) (fC (.int 1)))))
def f_is_ratio : Gm → Res Out := (sSeq is_ratio_s1 is_ratio_s2)
def F_is_ratio : Gm → Res Rv := runDef 1 0 f_is_ratio
def f_plus : Gm → Res Out := (sRet (fCallK (kCall F_lowest) (fCons (fOp2 kAdd (fOp2 kMul (fOp2 kIdx (fVar 0) (fC (.int 0))) (fOp2 kIdx (fVar 1) (fC (.int 1)))) (fOp2 kMul (fOp2 kIdx (fVar 1) (fC (.int 0))) (fOp2 kIdx (fVar 0) (fC (.int 1))))) (fCons (fOp2 kMul (fOp2 kIdx (fVar 0) (fC (.int 1))) (fOp2 kIdx (fVar 1) (fC (.int 1)))) fNil))))
def F_plus : Gm → Res Rv := runDef 2 0 f_plus
def f_minus : Gm → Res Out := (sRet (fCallK (kCall F_lowest) (fCons (fOp2 kSub (fOp2 kMul (fOp2 kIdx (fVar 0) (fC (.int 0))) (fOp2 kIdx (fVar 1) (fC (.int 1)))) (fOp2 kMul (fOp2 kIdx (fVar 1) (fC (.int 0))) (fOp2 kIdx (fVar 0) (fC (.int 1))))) (fCons (fOp2 kMul (fOp2 kIdx (fVar 0) (fC (.int 1))) (fOp2 kIdx (fVar 1) (fC (.int 1)))) fNil))))
def F_minus : Gm → Res Rv := runDef 2 0 f_minus
def worth_table_s1 : Gm → Res Out := (sSet 2 (fCallK (kCall F_parts_of) (fCons (fCallK kLen (fCons (fVar 0) fNil)) (fCons (fVar 1) fNil))))
def worth_table_c1 : Gm → Res Rv := (fComp (iSeq (fVar 2)) [3] (gN 3) tYesF (fCallK (kCall F_worth) (fCons (fVar 4) (fCons (fVar 3) fNil))))
def worth_table_c2 : Gm → Res Rv := (fComp (iSeq (fVar 0)) [4] (gN 4) tYesF worth_table_c1)
def worth_table_s2 : Gm → Res Out := (sRet worth_table_c2)
def f_worth_table : Gm → Res Out := (sSeq worth_table_s1 worth_table_s2)
def F_worth_table : Gm → Res Rv := runDef 2 3 f_worth_table
def are_payments_s1 : Gm → Res Out := (sIf (tOr' (tNot' (fTest (fUn (kIsi "tuple") (fVar 1)))) (fTest (fOp2 kNe (fCallK kLen (fCons (fVar 1) fNil)) (fCallK kLen (fCons (fVar 0) fNil))))) (sRet (fC (.bool false))) sNx)
def are_payments_c1 : Gm → Res Rv := (fComp (iSeq (fVar 1)) [2] (gN 2) tYesF (fAnd (fCallK (kCall F_is_ratio) (fCons (fVar 2) fNil)) (fOp2 kGe (fOp2 kIdx (fVar 2) (fC (.int 0))) (fC (.int 0)))))
def are_payments_s2 : Gm → Res Out := (sRet (fCallK kAll (fCons are_payments_c1 fNil)))
def f_are_payments : Gm → Res Out := (sSeq are_payments_s1 are_payments_s2)
def F_are_payments : Gm → Res Rv := runDef 2 1 f_are_payments
def calm_table_s1 : Gm → Res Out := (sSet 4 (fCallK (kCall F_plus) (fCons (fTup (fCons (fOp2 kIdx (fVar 3) (fVar 2)) (fCons (fC (.int 1)) fNil))) (fCons (fOp2 kIdx (fVar 1) (fVar 2)) fNil))))
def calm_table_b1 : Gm → Res Out := (sKl [5, 6] (sIf (fTest (fOp2 kLt (fOp2 kIdx (fCallK (kCall F_minus) (fCons (fVar 4) (fCons (fCallK (kCall F_plus) (fCons (fTup (fCons (fVar 6) (fCons (fC (.int 1)) fNil))) (fCons (fOp2 kIdx (fVar 1) (fVar 5)) fNil))) fNil))) (fC (.int 0))) (fC (.int 0)))) (sRet (fC (.bool false))) sNx))
def calm_table_s2 : Gm → Res Out := (sFor (iEnum (fVar 3)) (gT 2 (gsCons (gN 5) (gsCons (gN 6) gsNil)))
  calm_table_b1)
def calm_table_b2 : Gm → Res Out := (sKl [2, 3, 4, 5, 6] (sSeq calm_table_s1 calm_table_s2))
def calm_table_s3 : Gm → Res Out := (sFor (iEnum (fVar 0)) (gT 2 (gsCons (gN 2) (gsCons (gN 3) gsNil)))
  calm_table_b2)
def calm_table_s4 : Gm → Res Out := (sRet (fC (.bool true)))
def f_calm_table : Gm → Res Out := (sSeq calm_table_s3 calm_table_s4)
def F_calm_table : Gm → Res Rv := runDef 2 5 f_calm_table
def is_calm_s1 : Gm → Res Out := (sExpr (fCallK (kCall F_check_share) (fCons (fVar 0) (fCons (fVar 1) fNil))))
def is_calm_s2 : Gm → Res Out := (sIf (tNot' (fTest (fCallK (kCall F_are_payments) (fCons (fVar 0) (fCons (fVar 2) fNil))))) (sRaise .mal) sNx)
def is_calm_s3 : Gm → Res Out := (sRet (fCallK (kCall F_calm_table) (fCons (fCallK (kCall F_worth_table) (fCons (fVar 0) (fCons (fVar 1) fNil))) (fCons (fVar 2) fNil))))
def f_is_calm : Gm → Res Out := (sSeq is_calm_s1 (sSeq is_calm_s2 is_calm_s3))
def F_is_calm : Gm → Res Rv := runDef 3 0 f_is_calm
def gaps_of_c1 : Gm → Res Rv := (fComp (iSeq (fVar 3)) [1] (gN 1) tYesF (fOp2 kSub (fVar 1) (fOp2 kIdx (fVar 3) (fVar 2))))
def gaps_of_c2 : Gm → Res Rv := (fComp (iEnum (fVar 0)) [2, 3] (gT 2 (gsCons (gN 2) (gsCons (gN 3) gsNil))) tYesF gaps_of_c1)
def f_gaps_of : Gm → Res Out := (sRet gaps_of_c2)
def F_gaps_of : Gm → Res Rv := runDef 1 3 f_gaps_of
def longest_s1 : Gm → Res Out := (sSet 1 (fCallK kLen (fCons (fVar 0) fNil)))
def longest_s2 : Gm → Res Out := (sSet 2 (fOp2 kMul (fLst (fCons (fC (.int 0)) fNil)) (fVar 1)))
def longest_s3 : Gm → Res Out := (sSet 4 (fCallK kList (fCons (fVar 2) fNil)))
def longest_b1 : Gm → Res Out := (sKl [6] (sIf (tAnd' (fTest (fOp2 kNe (fVar 5) (fVar 6))) (fTest (fOp2 kGt (fOp2 kAdd (fOp2 kIdx (fOp2 kIdx (fVar 0) (fVar 5)) (fVar 6)) (fOp2 kIdx (fVar 2) (fVar 6))) (fOp2 kIdx (fVar 4) (fVar 5))))) (sSetItem (fOp2 kAdd (fOp2 kIdx (fOp2 kIdx (fVar 0) (fVar 5)) (fVar 6)) (fOp2 kIdx (fVar 2) (fVar 6))) (fVar 4) (fVar 5)) sNx))
def longest_b2 : Gm → Res Out := (sKl [5, 6] (sFor (iRg1 (fVar 1)) (gN 6)
  longest_b1))
def longest_s4 : Gm → Res Out := (sFor (iRg1 (fVar 1)) (gN 5)
  longest_b2)
def longest_s5 : Gm → Res Out := (sIf (fTest (fOp2 kEq (fVar 4) (fVar 2))) (sRet (fVar 2)) sNx)
def longest_s6 : Gm → Res Out := (sSet 2 (fVar 4))
def longest_b3 : Gm → Res Out := (sKl [3, 4, 5, 6] (sSeq longest_s3 (sSeq longest_s4 (sSeq longest_s5 longest_s6))))
def longest_s7 : Gm → Res Out := (sFor (iRg1 (fVar 1)) (gN 3)
  longest_b3)
def longest_s8 : Gm → Res Out := (sRet (fC .none))
def f_longest : Gm → Res Out := (sSeq longest_s1 (sSeq longest_s2 (sSeq longest_s7 longest_s8)))
def F_longest : Gm → Res Rv := runDef 1 6 f_longest
def least_payments_s1 : Gm → Res Out := (sExpr (fCallK (kCall F_check_share) (fCons (fVar 0) (fCons (fVar 1) fNil))))
def least_payments_s2 : Gm → Res Out := (sSet 2 (fCallK (kCall F_longest) (fCons (fCallK (kCall F_gaps_of) (fCons (fCallK (kCall F_worth_table) (fCons (fVar 0) (fCons (fVar 1) fNil))) fNil)) fNil)))
def least_payments_s3 : Gm → Res Out := (sRet (fIf (fTest (fOp2 kIsN (fVar 2) (fC .none))) (fC .none) (fCallK kTuple (fCons (fVar 2) fNil))))
def f_least_payments : Gm → Res Out := (sSeq least_payments_s1 (sSeq least_payments_s2 least_payments_s3))
def F_least_payments : Gm → Res Rv := runDef 2 1 f_least_payments
def law_fraction_s1 : Gm → Res Out := (sPar 2 3 (fCons (fCallK kAbs (fCons (fVar 0) fNil)) (fCons (fCallK kAbs (fCons (fVar 1) fNil)) fNil)))
def law_fraction_b1 : Gm → Res Out := (sPar 2 3 (fCons (fVar 3) (fCons (fOp2 kMod (fCallK kInt (fCons (fVar 2) fNil)) (fVar 3)) fNil)))
def law_fraction_t1 : Gm → Res Bool := (fTest (fOp2 kNe (fVar 3) (fC (.int 0))))
def law_fraction_s2 : Gm → Res Out := (sWhile wfuel law_fraction_t1
  law_fraction_b1)
def law_fraction_s3 : Gm → Res Out := (sRet (fIf (fTest (fOp2 kGt (fVar 1) (fC (.int 0)))) (fTup (fCons (fOp2 kDiv (fVar 0) (fVar 2)) (fCons (fOp2 kDiv (fVar 1) (fVar 2)) fNil))) (fTup (fCons (fOp2 kDiv (fUn kNeg (fVar 0)) (fVar 2)) (fCons (fOp2 kDiv (fUn kNeg (fVar 1)) (fVar 2)) fNil)))))
def f_law_fraction : Gm → Res Out := (sSeq law_fraction_s1 (sSeq law_fraction_s2 law_fraction_s3))
def F_law_fraction : Gm → Res Rv := runDef 2 2 f_law_fraction
def f_law_plus : Gm → Res Out := (sRet (fCallK (kCall F_law_fraction) (fCons (fOp2 kAdd (fOp2 kMul (fOp2 kIdx (fVar 0) (fC (.int 0))) (fOp2 kIdx (fVar 1) (fC (.int 1)))) (fOp2 kMul (fOp2 kIdx (fVar 1) (fC (.int 0))) (fOp2 kIdx (fVar 0) (fC (.int 1))))) (fCons (fOp2 kMul (fOp2 kIdx (fVar 0) (fC (.int 1))) (fOp2 kIdx (fVar 1) (fC (.int 1)))) fNil))))
def F_law_plus : Gm → Res Rv := runDef 2 0 f_law_plus
def f_law_minus : Gm → Res Out := (sRet (fCallK (kCall F_law_fraction) (fCons (fOp2 kSub (fOp2 kMul (fOp2 kIdx (fVar 0) (fC (.int 0))) (fOp2 kIdx (fVar 1) (fC (.int 1)))) (fOp2 kMul (fOp2 kIdx (fVar 1) (fC (.int 0))) (fOp2 kIdx (fVar 0) (fC (.int 1))))) (fCons (fOp2 kMul (fOp2 kIdx (fVar 0) (fC (.int 1))) (fOp2 kIdx (fVar 1) (fC (.int 1)))) fNil))))
def F_law_minus : Gm → Res Rv := runDef 2 0 f_law_minus
def f_law_less : Gm → Res Out := (sRet (fOp2 kLt (fOp2 kMul (fOp2 kIdx (fVar 0) (fC (.int 0))) (fOp2 kIdx (fVar 1) (fC (.int 1)))) (fOp2 kMul (fOp2 kIdx (fVar 1) (fC (.int 0))) (fOp2 kIdx (fVar 0) (fC (.int 1))))))
def F_law_less : Gm → Res Rv := runDef 2 0 f_law_less
def law_sum_s1 : Gm → Res Out := (sSet 1 (fTup (fCons (fC (.int 0)) (fCons (fC (.int 1)) fNil))))
def law_sum_b1 : Gm → Res Out := (sKl [2] (sSet 1 (fCallK (kCall F_law_plus) (fCons (fVar 1) (fCons (fVar 2) fNil)))))
def law_sum_s2 : Gm → Res Out := (sFor (iSeq (fVar 0)) (gN 2)
  law_sum_b1)
def law_sum_s3 : Gm → Res Out := (sRet (fVar 1))
def f_law_sum : Gm → Res Out := (sSeq law_sum_s1 (sSeq law_sum_s2 law_sum_s3))
def F_law_sum : Gm → Res Rv := runDef 1 2 f_law_sum
def f_law_times : Gm → Res Out := (sRet (fCallK (kCall F_law_fraction) (fCons (fOp2 kMul (fOp2 kIdx (fVar 0) (fC (.int 0))) (fOp2 kIdx (fVar 1) (fC (.int 0)))) (fCons (fOp2 kMul (fOp2 kIdx (fVar 0) (fC (.int 1))) (fOp2 kIdx (fVar 1) (fC (.int 1)))) fNil))))
def F_law_times : Gm → Res Rv := runDef 2 0 f_law_times
def f_law_over : Gm → Res Out := (sRet (fCallK (kCall F_law_fraction) (fCons (fOp2 kMul (fOp2 kIdx (fVar 0) (fC (.int 0))) (fOp2 kIdx (fVar 1) (fC (.int 1)))) (fCons (fOp2 kMul (fOp2 kIdx (fVar 0) (fC (.int 1))) (fOp2 kIdx (fVar 1) (fC (.int 0)))) fNil))))
def F_law_over : Gm → Res Rv := runDef 2 0 f_law_over
def law_is_fraction_s1 : Gm → Res Out := (sIf (tOr' (tNot' (fTest (fUn (kIsi "tuple") (fVar 0)))) (fTest (fOp2 kNe (fCallK kLen (fCons (fVar 0) fNil)) (fC (.int 2))))) (sRet (fC (.bool false))) sNx)
def law_is_fraction_b1 : Gm → Res Out := (sKl [1] (sIf (tOr' (tNot' (fTest (fUn (kIsi "int") (fVar 1)))) (fTest (fUn (kIsi "bool") (fVar 1)))) (sRet (fC (.bool false))) sNx))
def law_is_fraction_s2 : Gm → Res Out := (sFor (iSeq (fVar 0)) (gN 1)
  law_is_fraction_b1)
def law_is_fraction_s3 : Gm → Res Out := (sRet (fAnd (fOp2 kGt (fOp2 kIdx (fVar 0) (fC (.int 1))) (fC (.int 0))) (fOp2 kEq (fCallK (kCall F_law_fraction) (fCons (fOp2 kIdx (fVar 0) (fC (.int 0))) (fCons (fOp2 kIdx (fVar 0) (fC (.int 1))) fNil))) (fVar 0))))
def f_law_is_fraction : Gm → Res Out := (sSeq law_is_fraction_s1 (sSeq law_is_fraction_s2 law_is_fraction_s3))
def F_law_is_fraction : Gm → Res Rv := runDef 1 1 f_law_is_fraction
def law_is_high_s1 : Gm → Res Out := (sIf (tOr' (tNot' (fTest (fUn (kIsi "tuple") (fVar 0)))) (fTest (fOp2 kNe (fCallK kLen (fCons (fVar 0) fNil)) (fVar 1)))) (sRet (fC (.bool false))) sNx)
def law_is_high_c1 : Gm → Res Rv := (fComp (iSeq (fVar 0)) [2] (gN 2) (tOr' (tNot' (fTest (fCallK (kCall F_law_is_fraction) (fCons (fVar 2) fNil)))) (fTest (fOp2 kLt (fOp2 kIdx (fVar 2) (fC (.int 0))) (fC (.int 0))))) (fVar 2))
def law_is_high_s2 : Gm → Res Out := (sRet (fOp2 kEq law_is_high_c1 (fLst fNil)))
def f_law_is_high : Gm → Res Out := (sSeq law_is_high_s1 law_is_high_s2)
def F_law_is_high : Gm → Res Rv := runDef 2 1 f_law_is_high
def f_law_whole : Gm → Res Out := (sRet (fAnd (fUn (kIsi "int") (fVar 0)) (fAnd (fNot (fUn (kIsi "bool") (fVar 0))) (fChn kLe kLe (fVar 1) (fVar 0) (fVar 2)))))
def F_law_whole : Gm → Res Rv := runDef 3 0 f_law_whole
def law_shares_s1 : Gm → Res Out := (sSet 2 (fLst (fCons (fTup fNil) fNil)))
def law_shares_s2 : Gm → Res Out := (sSet 4 (fLst fNil))
def law_shares_c1 : Gm → Res Rv := (fComp (iRg1 (fVar 0)) [6] (gN 6) tYesF (fOp2 kAdd (fVar 5) (fTup (fCons (fVar 6) fNil))))
def law_shares_b1 : Gm → Res Out := (sKl [5] (sSet 4 (fOp2 kAdd (fVar 4) law_shares_c1)))
def law_shares_s3 : Gm → Res Out := (sFor (iSeq (fVar 2)) (gN 5)
  law_shares_b1)
def law_shares_s4 : Gm → Res Out := (sSet 2 (fVar 4))
def law_shares_b2 : Gm → Res Out := (sKl [3, 4, 5] (sSeq law_shares_s2 (sSeq law_shares_s3 law_shares_s4)))
def law_shares_s5 : Gm → Res Out := (sFor (iRg1 (fVar 1)) (gN 3)
  law_shares_b2)
def law_shares_s6 : Gm → Res Out := (sRet (fVar 2))
def f_law_shares : Gm → Res Out := (sSeq law_shares_s1 (sSeq law_shares_s5 law_shares_s6))
def F_law_shares : Gm → Res Rv := runDef 2 5 f_law_shares
def law_orders_s1 : Gm → Res Out := (sSet 1 (fLst (fCons (fTup fNil) fNil)))
def law_orders_s2 : Gm → Res Out := (sSet 3 (fLst fNil))
def law_orders_c1 : Gm → Res Rv := (fComp (iRg1 (fVar 0)) [5] (gN 5) (fTest (fOp2 kNin (fVar 5) (fVar 4))) (fOp2 kAdd (fVar 4) (fTup (fCons (fVar 5) fNil))))
def law_orders_b1 : Gm → Res Out := (sKl [4] (sSet 3 (fOp2 kAdd (fVar 3) law_orders_c1)))
def law_orders_s3 : Gm → Res Out := (sFor (iSeq (fVar 1)) (gN 4)
  law_orders_b1)
def law_orders_s4 : Gm → Res Out := (sSet 1 (fVar 3))
def law_orders_b2 : Gm → Res Out := (sKl [2, 3, 4] (sSeq law_orders_s2 (sSeq law_orders_s3 law_orders_s4)))
def law_orders_s5 : Gm → Res Out := (sFor (iRg1 (fVar 0)) (gN 2)
  law_orders_b2)
def law_orders_s6 : Gm → Res Out := (sRet (fVar 1))
def f_law_orders : Gm → Res Out := (sSeq law_orders_s1 (sSeq law_orders_s5 law_orders_s6))
def F_law_orders : Gm → Res Rv := runDef 1 5 f_law_orders
end C0
namespace D67
open PySem PySem.Spec PyProof.Rows L2 Fx C0
def ratio_s1 : Gm → Res Out := (sIf (tOr' (tNot' (fTest (fCallK (kCall F_is_whole) (fCons (fVar 0) fNil)))) (tOr' (tNot' (fTest (fCallK (kCall F_is_whole) (fCons (fVar 1) fNil)))) (fTest (fOp2 kEq (fVar 1) (fC (.int 0)))))) (sRaise .mal) sNx)
def ratio_s2 : Gm → Res Out := (sRet (fCallK (kCall F_lowest) (fCons (fVar 0) (fCons (fVar 1) fNil))))
def f_ratio : Gm → Res Out := (sSeq ratio_s1 ratio_s2)
def F_ratio : Gm → Res Rv := runDef 2 0 f_ratio
def check_few_s1 : Gm → Res Out := (sSet 1 (fC (.int 1)))
def check_few_b1 : Gm → Res Out := (sKl [2] (sAugM 1 (fCallK kLen (fCons (fVar 0) fNil))))
def check_few_s2 : Gm → Res Out := (sFor (iSeq (fOp2 kIdx (fVar 0) (fC (.int 0)))) (gN 2)
  check_few_b1)
def check_few_s3 : Gm → Res Out := (sIf (fTest (fOp2 kGt (fVar 1) (fC (.int 60000)))) (sRaise (.rf "large")) sNx)
def f_check_few : Gm → Res Out := (sSeq check_few_s1 (sSeq check_few_s2 check_few_s3))
def F_check_few : Gm → Res Rv := runDef 1 2 f_check_few
def every_share_s1 : Gm → Res Out := (sSet 1 (fLst (fCons (fTup fNil) fNil)))
def every_share_c1 : Gm → Res Rv := (fComp2 (iSeq (fVar 1)) [3, 4] [4] (gN 3) tYesF (iRg1 (fCallK kLen (fCons (fVar 0) fNil))) (gN 4) tYesF (fOp2 kAdd (fVar 3) (fTup (fCons (fVar 4) fNil))))
def every_share_b1 : Gm → Res Out := (sKl [2] (sSet 1 every_share_c1))
def every_share_s2 : Gm → Res Out := (sFor (iSeq (fOp2 kIdx (fVar 0) (fC (.int 0)))) (gN 2)
  every_share_b1)
def every_share_s3 : Gm → Res Out := (sRet (fVar 1))
def f_every_share : Gm → Res Out := (sSeq every_share_s1 (sSeq every_share_s2 every_share_s3))
def F_every_share : Gm → Res Rv := runDef 1 4 f_every_share
def cheapest_s1 : Gm → Res Out := (sExpr (fCallK (kCall F_check_game) (fCons (fVar 0) fNil)))
def cheapest_s2 : Gm → Res Out := (sExpr (fCallK (kCall F_check_few) (fCons (fVar 0) fNil)))
def cheapest_s3 : Gm → Res Out := (sAsg (gT 2 (gsCons (gN 1) (gsCons (gN 2) gsNil))) (fTup (fCons (fC .none) (fCons (fC .none) fNil))))
def cheapest_s4 : Gm → Res Out := (sSet 4 (fCallK (kCall F_longest) (fCons (fCallK (kCall F_gaps_of) (fCons (fCallK (kCall F_worth_table) (fCons (fVar 0) (fCons (fVar 3) fNil))) fNil)) fNil)))
def cheapest_s5 : Gm → Res Out := (sIf (tAnd' (fTest (fOp2 kNotN (fVar 4) (fC .none))) (tOr' (fTest (fOp2 kIsN (fVar 1) (fC .none))) (fTest (fOp2 kLt (fCallK kSum (fCons (fVar 4) fNil)) (fVar 1))))) (sPar 1 2 (fCons (fCallK kSum (fCons (fVar 4) fNil)) (fCons (fVar 3) fNil))) sNx)
def cheapest_b1 : Gm → Res Out := (sKl [3, 4] (sSeq cheapest_s4 cheapest_s5))
def cheapest_s6 : Gm → Res Out := (sFor (iSeq (fCallK (kCall F_every_share) (fCons (fVar 0) fNil))) (gN 3)
  cheapest_b1)
def cheapest_s7 : Gm → Res Out := (sRet (fTup (fCons (fVar 1) (fCons (fVar 2) fNil))))
def f_cheapest : Gm → Res Out := (sSeq cheapest_s1 (sSeq cheapest_s2 (sSeq cheapest_s3 (sSeq cheapest_s6 cheapest_s7))))
def F_cheapest : Gm → Res Rv := runDef 1 4 f_cheapest
def pay_left_s1 : Gm → Res Out := (sSet 3 (fCallK (kCall F_least_payments) (fCons (fVar 0) (fCons (fVar 1) fNil))))
def pay_left_s2 : Gm → Res Out := (sIf (tOr' (tNot' (fTest (fCallK (kCall F_is_ratio) (fCons (fVar 2) fNil)))) (fTest (fOp2 kLt (fOp2 kIdx (fVar 2) (fC (.int 0))) (fC (.int 0))))) (sRaise .mal) sNx)
def pay_left_s3 : Gm → Res Out := (sIf (fTest (fOp2 kIsN (fVar 3) (fC .none))) (sRet (fC .none)) sNx)
def pay_left_s4 : Gm → Res Out := (sSet 4 (fCallK (kCall F_minus) (fCons (fVar 2) (fCons (fTup (fCons (fCallK kSum (fCons (fVar 3) fNil)) (fCons (fC (.int 1)) fNil))) fNil))))
def pay_left_s5 : Gm → Res Out := (sIf (fTest (fOp2 kLt (fOp2 kIdx (fVar 4) (fC (.int 0))) (fC (.int 0)))) (sRet (fC .none)) sNx)
def pay_left_s6 : Gm → Res Out := (sSet 5 (fCallK (kCall F_ratio) (fCons (fOp2 kIdx (fVar 4) (fC (.int 0))) (fCons (fOp2 kMul (fOp2 kIdx (fVar 4) (fC (.int 1))) (fCallK kLen (fCons (fVar 0) fNil))) fNil))))
def pay_left_s7 : Gm → Res Out := (sSet 6 (fCallK (kCall F_worth_table) (fCons (fVar 0) (fCons (fVar 1) fNil))))
def pay_left_c1 : Gm → Res Rv := (fComp (iEnum (fVar 3)) [7, 8] (gT 2 (gsCons (gN 7) (gsCons (gN 8) gsNil))) tYesF (fCallK (kCall F_plus) (fCons (fTup (fCons (fOp2 kAdd (fOp2 kIdx (fOp2 kIdx (fVar 6) (fVar 7)) (fVar 7)) (fVar 8)) (fCons (fC (.int 1)) fNil))) (fCons (fVar 5) fNil))))
def pay_left_s8 : Gm → Res Out := (sRet (fCallK kTuple (fCons pay_left_c1 fNil)))
def f_pay_left : Gm → Res Out := (sSeq pay_left_s1 (sSeq pay_left_s2 (sSeq pay_left_s3 (sSeq pay_left_s4 (sSeq pay_left_s5 (sSeq pay_left_s6 (sSeq pay_left_s7 pay_left_s8)))))))
def F_pay_left : Gm → Res Rv := runDef 3 6 f_pay_left
def law_call_s1 : Gm → Res Out := (sAsg (gT 4 (gsCons (gN 1) (gsCons (gN 2) (gsCons (gN 3) (gsCons (gN 4) gsNil))))) (fVar 0))
def law_call_s2 : Gm → Res Out := (sIf (fTest (fOp2 kEq (fVar 1) (fC (.int 0)))) (sExpr (fCallK (kCall F_least_payments) (fCons (fVar 2) (fCons (fVar 3) fNil)))) (sIf (fTest (fOp2 kEq (fVar 1) (fC (.int 1)))) (sExpr (fCallK (kCall F_cheapest) (fCons (fVar 2) fNil))) (sExpr (fCallK (kCall F_pay_left) (fCons (fVar 2) (fCons (fVar 3) (fCons (fVar 4) fNil)))))))
def f_law_call : Gm → Res Out := (sSeq law_call_s1 law_call_s2)
def F_law_call : Gm → Res Rv := runDef 1 4 f_law_call
def F_law_word : Gm → Res Rv := wordR F_law_call
def law_least_s1 : Gm → Res Out := (sSet 2 (fCallK kLen (fCons (fVar 0) fNil)))
def law_least_c1 : Gm → Res Rv := (fComp (iRg1 (fVar 2)) [4] (gN 4) tYesF (fOp2 kSub (fCallK (kCall F_law_worth) (fCons (fVar 0) (fCons (fVar 1) (fCons (fVar 5) (fCons (fVar 4) fNil))))) (fCallK (kCall F_law_worth) (fCons (fVar 0) (fCons (fVar 1) (fCons (fVar 5) (fCons (fVar 5) fNil)))))))
def law_least_c2 : Gm → Res Rv := (fComp (iRg1 (fVar 2)) [5] (gN 5) tYesF law_least_c1)
def law_least_s2 : Gm → Res Out := (sSet 3 law_least_c2)
def law_least_s3 : Gm → Res Out := (sSet 6 (fOp2 kMul (fLst (fCons (fC (.int 0)) fNil)) (fVar 2)))
def law_least_c3 : Gm → Res Rv := (fComp (iRg1 (fVar 2)) [4] (gN 4) tYesF (fOp2 kAdd (fOp2 kIdx (fOp2 kIdx (fVar 3) (fVar 5)) (fVar 4)) (fOp2 kIdx (fVar 6) (fVar 4))))
def law_least_c4 : Gm → Res Rv := (fComp (iRg1 (fVar 2)) [5] (gN 5) tYesF (fCallK kMax (fCons (fOp2 kAdd (fLst (fCons (fOp2 kIdx (fVar 6) (fVar 5)) fNil)) law_least_c3) fNil)))
def law_least_s4 : Gm → Res Out := (sSet 8 law_least_c4)
def law_least_s5 : Gm → Res Out := (sIf (fTest (fOp2 kEq (fVar 8) (fVar 6))) (sRet (fCallK kTuple (fCons (fVar 6) fNil))) sNx)
def law_least_s6 : Gm → Res Out := (sSet 6 (fVar 8))
def law_least_b1 : Gm → Res Out := (sKl [7, 8] (sSeq law_least_s4 (sSeq law_least_s5 law_least_s6)))
def law_least_s7 : Gm → Res Out := (sFor (iRg1 (fOp2 kAdd (fVar 2) (fC (.int 1)))) (gN 7)
  law_least_b1)
def law_least_s8 : Gm → Res Out := (sRet (fC .none))
def f_law_least : Gm → Res Out := (sSeq law_least_s1 (sSeq law_least_s2 (sSeq law_least_s3 (sSeq law_least_s7 law_least_s8))))
def F_law_least : Gm → Res Rv := runDef 2 7 f_law_least
def law_s1 : Gm → Res Out := (sSet 1 (fCallK (kCall F_law_draw) (fCons (fVar 0) fNil)))
def law_s2 : Gm → Res Out := (sSet 2 (fCallK (kCallM F_law_game) (fCons (fVar 1) (fCons (fC (.int 4)) (fCons (fC (.int 6)) (fCons (fC (.int 30)) fNil))))))
def law_s3 : Gm → Res Out := (sAsg (gT 2 (gsCons (gN 3) (gsCons (gN 4) gsNil))) (fTup (fCons (fCallK kLen (fCons (fVar 2) fNil)) (fCons (fCallK kLen (fCons (fOp2 kIdx (fVar 2) (fC (.int 0))) fNil)) fNil))))
def law_c1 : Gm → Res Rv := (fComp (iRg1 (fC (.int 3))) [6] (gN 6) tYesF (fCallK (kCallM F_law_owners) (fCons (fVar 1) (fCons (fVar 2) fNil))))
def law_s4 : Gm → Res Out := (sSet 5 law_c1)
def law_c2 : Gm → Res Rv := (fComp (iRg1 (fVar 3)) [8] (gN 8) tYesF (fOp2 kIdx (fOp2 kIdx (fVar 2) (fVar 8)) (fVar 9)))
def law_c3 : Gm → Res Rv := (fComp (iRg1 (fVar 4)) [9] (gN 9) tYesF (fCallK kMax (fCons law_c2 fNil)))
def law_s5 : Gm → Res Out := (sSet 7 law_c3)
def law_c4 : Gm → Res Rv := (fComp (iRg1 (fVar 3)) [8] (gN 8) (fTest (fOp2 kEq (fOp2 kIdx (fOp2 kIdx (fVar 2) (fVar 8)) (fVar 9)) (fOp2 kIdx (fVar 7) (fVar 9)))) (fVar 8))
def law_c5 : Gm → Res Rv := (fComp (iRg1 (fVar 4)) [9] (gN 9) tYesF (fOp2 kIdx law_c4 (fC (.int 0))))
def law_s6 : Gm → Res Out := (sExpr (fMeth kAppend (fVar 5) (fCons (fCallK kTuple (fCons law_c5 fNil)) fNil)))
def law_s7 : Gm → Res Out := (sAsg (gT 2 (gsCons (gN 11) (gsCons (gN 12) gsNil))) (fTup (fCons (fCallK (kCall F_law_least) (fCons (fVar 2) (fCons (fVar 10) fNil))) (fCons (fCallK (kCall F_least_payments) (fCons (fVar 2) (fCons (fVar 10) fNil))) fNil))))
def law_c6 : Gm → Res Rv := (fComp (iSeq (fVar 12)) [13] (gN 13) (tOr' (tNot' (fTest (fUn (kIsi "int") (fVar 13)))) (fTest (fUn (kIsi "bool") (fVar 13)))) (fVar 13))
def law_s8 : Gm → Res Out := (sIf (tOr' (fTest (fOp2 kNe (fVar 12) (fVar 11))) (tAnd' (fTest (fOp2 kNotN (fVar 12) (fC .none))) (fTest (fOp2 kNe law_c6 (fLst fNil))))) (sRet (fC (.bool false))) sNx)
def law_s9 : Gm → Res Out := (sSet 14 (fCallK (kCall F_law_fraction) (fCons (fCallK (kCallM F_law_take) (fCons (fVar 1) (fCons (fC (.int 80)) fNil))) (fCons (fOp2 kAdd (fC (.int 1)) (fCallK (kCallM F_law_take) (fCons (fVar 1) (fCons (fC (.int 3)) fNil)))) fNil))))
def law_s10 : Gm → Res Out := (sSet 15 (fCallK (kCall F_pay_left) (fCons (fVar 2) (fCons (fVar 10) (fCons (fVar 14) fNil)))))
def law_s11 : Gm → Res Out := (sIf (fTest (fOp2 kNotN (fVar 15) (fC .none))) (sRet (fC (.bool false))) sNx)
def law_s12 : Gm → Res Out := sCt
def law_s13 : Gm → Res Out := (sIf (fTest (fOp2 kIsN (fVar 12) (fC .none))) (sSeq law_s11 law_s12) sNx)
def law_c7 : Gm → Res Rv := (fComp (iSeq (fVar 12)) [13] (gN 13) tYesF (fTup (fCons (fVar 13) (fCons (fC (.int 1)) fNil))))
def law_s14 : Gm → Res Out := (sIf (tOr' (fTest (fOp2 kNe (fCallK kMin (fCons (fVar 12) fNil)) (fC (.int 0)))) (fTest (fOp2 kNotB (fCallK (kCall F_is_calm) (fCons (fVar 2) (fCons (fVar 10) (fCons (fCallK kTuple (fCons law_c7 fNil)) fNil)))) (fC (.bool true))))) (sRet (fC (.bool false))) sNx)
def law_c8 : Gm → Res Rv := (fComp (iSeq (fVar 12)) [13] (gN 13) tYesF (fCallK (kCall F_law_fraction) (fCons (fOp2 kSub (fOp2 kAdd (fOp2 kMul (fC (.int 2)) (fVar 13)) (fCallK (kCallM F_law_take) (fCons (fVar 1) (fCons (fC (.int 7)) fNil)))) (fCallK (kCallM F_law_take) (fCons (fVar 1) (fCons (fC (.int 3)) fNil)))) (fCons (fC (.int 2)) fNil))))
def law_s15 : Gm → Res Out := (sSet 16 (fCallK kTuple (fCons law_c8 fNil)))
def law_c9 : Gm → Res Rv := (fComp (iSeq (fVar 16)) [13] (gN 13) tYesF (fOp2 kIdx (fVar 13) (fC (.int 0))))
def law_c10 : Gm → Res Rv := (fComp (iRg1 (fVar 3)) [8] (gN 8) (fTest (fCallK (kCall F_law_less) (fCons (fOp2 kIdx (fVar 16) (fVar 8)) (fCons (fTup (fCons (fOp2 kIdx (fVar 12) (fVar 8)) (fCons (fC (.int 1)) fNil))) fNil)))) (fVar 8))
def law_s16 : Gm → Res Out := (sIf (tAnd' (fTest (fOp2 kGe (fCallK kMin (fCons law_c9 fNil)) (fC (.int 0)))) (fTest (fCallK (kCall F_is_calm) (fCons (fVar 2) (fCons (fVar 10) (fCons (fVar 16) fNil)))))) (sIf (fTest (fOp2 kNe law_c10 (fLst fNil))) (sRet (fC (.bool false))) sNx) sNx)
def law_b1 : Gm → Res Out := (sKl [6, 16] (sSeq law_s15 law_s16))
def law_s17 : Gm → Res Out := (sFor (iRg1 (fC (.int 4))) (gN 6)
  law_b1)
def law_s18 : Gm → Res Out := (sSet 17 (fCallK (kCall F_law_minus) (fCons (fVar 14) (fCons (fTup (fCons (fCallK kSum (fCons (fVar 12) fNil)) (fCons (fC (.int 1)) fNil))) fNil))))
def law_s19 : Gm → Res Out := (sIf (fTest (fOp2 kNe (fOp2 kIsN (fVar 15) (fC .none)) (fOp2 kLt (fOp2 kIdx (fVar 17) (fC (.int 0))) (fC (.int 0))))) (sRet (fC (.bool false))) sNx)
def law_s20 : Gm → Res Out := (sSet 18 (fCallK (kCall F_law_over) (fCons (fVar 17) (fCons (fTup (fCons (fVar 3) (fCons (fC (.int 1)) fNil))) fNil))))
def law_c11 : Gm → Res Rv := (fComp (iRg1 (fVar 3)) [8] (gN 8) tYesF (fCallK (kCall F_law_plus) (fCons (fTup (fCons (fOp2 kAdd (fCallK (kCall F_law_worth) (fCons (fVar 2) (fCons (fVar 10) (fCons (fVar 8) (fCons (fVar 8) fNil))))) (fOp2 kIdx (fVar 12) (fVar 8))) (fCons (fC (.int 1)) fNil))) (fCons (fVar 18) fNil))))
def law_s21 : Gm → Res Out := (sIf (fTest (fOp2 kNe (fVar 15) (fCallK kTuple (fCons law_c11 fNil)))) (sRet (fC (.bool false))) sNx)
def law_c12 : Gm → Res Rv := (fComp (iRg1 (fVar 3)) [8] (gN 8) tYesF (fCallK (kCall F_law_worth) (fCons (fVar 2) (fCons (fVar 10) (fCons (fVar 8) (fCons (fVar 8) fNil))))))
def law_s22 : Gm → Res Out := (sIf (fTest (fOp2 kNe (fCallK (kCall F_law_sum) (fCons (fVar 15) fNil)) (fCallK (kCall F_law_plus) (fCons (fVar 14) (fCons (fTup (fCons (fCallK kSum (fCons law_c12 fNil)) (fCons (fC (.int 1)) fNil))) fNil))))) (sRet (fC (.bool false))) sNx)
def law_s23 : Gm → Res Out := (sIf (fTest (fOp2 kNotN (fVar 15) (fC .none))) (sKl [18] (sSeq law_s20 (sSeq law_s21 law_s22))) sNx)
def law_b2 : Gm → Res Out := (sKl [6, 10, 11, 12, 14, 15, 16, 17, 18] (sSeq law_s7 (sSeq law_s8 (sSeq law_s9 (sSeq law_s10 (sSeq law_s13 (sSeq law_s14 (sSeq law_s17 (sSeq law_s18 (sSeq law_s19 law_s23))))))))))
def law_s24 : Gm → Res Out := (sFor (iSeq (fVar 5)) (gN 10)
  law_b2)
def law_c13 : Gm → Res Rv := (fComp (iSeq (fSlice (fVar 2) fNoPart (fPart (fC (.int 3))))) [20] (gN 20) tYesF (fSlice (fVar 20) fNoPart (fPart (fC (.int 4)))))
def law_s25 : Gm → Res Out := (sSet 19 (fCallK kTuple (fCons law_c13 fNil)))
def law_s26 : Gm → Res Out := (sAsg (gT 2 (gsCons (gN 21) (gsCons (gN 22) gsNil))) (fTup (fCons (fC .none) (fCons (fC .none) fNil))))
def law_s27 : Gm → Res Out := (sSet 11 (fCallK (kCall F_law_least) (fCons (fVar 19) (fCons (fVar 10) fNil))))
def law_s28 : Gm → Res Out := (sIf (tAnd' (fTest (fOp2 kNotN (fVar 11) (fC .none))) (tOr' (fTest (fOp2 kIsN (fVar 21) (fC .none))) (fTest (fOp2 kLt (fCallK kSum (fCons (fVar 11) fNil)) (fVar 21))))) (sPar 21 22 (fCons (fCallK kSum (fCons (fVar 11) fNil)) (fCons (fVar 10) fNil))) sNx)
def law_b3 : Gm → Res Out := (sKl [10, 11] (sSeq law_s27 law_s28))
def law_s29 : Gm → Res Out := (sFor (iSeq (fCallK (kCall F_law_shares) (fCons (fCallK kLen (fCons (fVar 19) fNil)) (fCons (fCallK kLen (fCons (fOp2 kIdx (fVar 19) (fC (.int 0))) fNil)) fNil)))) (gN 10)
  law_b3)
def law_s30 : Gm → Res Out := (sIf (fTest (fOp2 kNe (fCallK (kCall F_cheapest) (fCons (fVar 19) fNil)) (fTup (fCons (fVar 21) (fCons (fVar 22) fNil))))) (sRet (fC (.bool false))) sNx)
def law_s31 : Gm → Res Out := (sIf (fTest (fOp2 kNe (fCallK (kCall F_law_word) (fCons (fTup (fCons (fC (.int 1)) (fCons (fOp2 kMul (fTup (fCons (fOp2 kMul (fTup (fCons (fC (.int 1)) fNil)) (fC (.int 10))) fNil)) (fC (.int 4))) (fCons (fC (.int 0)) (fCons (fC (.int 0)) fNil))))) fNil)) (fC (.str (Str.ofString "large"))))) (sRet (fC (.bool false))) sNx)
def law_s32 : Gm → Res Out := (sAsg (gT 2 (gsCons (gN 23) (gsCons (gN 24) gsNil))) (fTup (fCons (fCallK (kCallM F_law_bad_game) (fCons (fVar 1) (fCons (fVar 2) fNil))) (fCons (fCallK (kCallM F_law_bad_owners) (fCons (fVar 1) (fCons (fVar 2) (fCons (fOp2 kIdx (fVar 5) (fC (.int 0))) fNil)))) fNil))))
def law_c14 : Gm → Res Rv := (fComp (iRg1 (fC (.int 3))) [26] (gN 26) tYesF (fTup (fCons (fVar 26) (fCons (fVar 23) (fCons (fOp2 kIdx (fVar 5) (fC (.int 0))) (fCons (fTup (fCons (fC (.int 1)) (fCons (fC (.int 1)) fNil))) fNil))))))
def law_s33 : Gm → Res Out := (sSet 25 (fOp2 kAdd law_c14 (fLst (fCons (fTup (fCons (fC (.int 0)) (fCons (fVar 2) (fCons (fVar 24) (fCons (fC (.int 0)) fNil))))) (fCons (fTup (fCons (fC (.int 2)) (fCons (fVar 2) (fCons (fVar 24) (fCons (fTup (fCons (fC (.int 1)) (fCons (fC (.int 1)) fNil))) fNil))))) fNil)))))
def law_s34 : Gm → Res Out := (sExpr (fMeth kAppend (fVar 25) (fCons (fTup (fCons (fC (.int 2)) (fCons (fVar 2) (fCons (fOp2 kIdx (fVar 5) (fC (.int 0))) (fCons (fOp2 kIdx (fLst (fCons (fC .none) (fCons (fUn kNeg (fC (.int 1))) (fCons (fTup (fCons (fUn kNeg (fC (.int 1))) (fCons (fC (.int 2)) fNil))) (fCons (fTup (fCons (fC (.int 2)) (fCons (fC (.int 4)) fNil))) (fCons (fC (.int 1)) (fCons (fC (.str (Str.ofString "1"))) fNil))))))) (fCallK (kCallM F_law_take) (fCons (fVar 1) (fCons (fC (.int 6)) fNil)))) fNil))))) fNil)))
def law_c15 : Gm → Res Rv := (fComp (iSeq (fVar 25)) [27] (gN 27) (fTest (fOp2 kNe (fCallK (kCall F_law_word) (fCons (fVar 27) fNil)) (fC (.str (Str.ofString "malformed"))))) (fVar 27))
def law_s35 : Gm → Res Out := (sRet (fOp2 kEq law_c15 (fLst fNil)))
def f_law : Gm → Res Out := (sSeq law_s1 (sSeq law_s2 (sSeq law_s3 (sSeq law_s4 (sSeq law_s5 (sSeq law_s6 (sSeq law_s24 (sSeq law_s25 (sSeq law_s26 (sSeq law_s29 (sSeq law_s30 (sSeq law_s31 (sSeq law_s32 (sSeq law_s33 (sSeq law_s34 law_s35)))))))))))))))
def F_law : Gm → Res Rv := runDef 1 27 f_law
end D67
/-! FxRe: an own exception whose __init__ says super().__init__(reason); self.reason = reason -/
namespace Fx
open PySem PySem.Spec
open PyProof.Rows L2
section
variable {w : World} {prog : Program} {E : Value → Shared → Prop} {A : Around}
abbrev veMw (a : Addr) : Obj := PySem.W.kxs_mw "ValueError.__init__" a
/-- the wrapper bound to the exception is called -/
theorem mw_run {h : Heap} {g : Array GenState} {dr : Drawn} {tk : Nat} {os : OsState} {nm q : Str} {C N u a t0 : Addr} {bs bm : List Value} {hd : Bool} {sn : List Str} {sub : List Value} {ab : Bool} {col : Option Bool} {dd : Option Addr} {k0 k1 k2 k3 k5 : Option Value} {us : List Value} {Q : Value → Shared → Prop}
    (cC : h.get? C = some (excClassObj nm q C N bs bm hd sn sub ab col dd k0 k1 k2 k3 k5 "ValueError.__new__")) (ca : h.get? a = some (PySem.HandSPX.excO C t0)) (cu : h.get? u = some (veMw a)) (few : us.length ≤ sizeLine)
    (then_ : ∀ h' t1, (∀ b o, b ≠ a → h.get? b = some o → h'.get? b = some o) → h'.get? a = some (PySem.HandSPX.excO C t1) → Q .none ⟨h', g, dr, tk, os⟩) : wpAny (model prog w) A (call (.ref u) us) Q E ⟨h, g, dr, tk, os⟩ := by
  refine wpAny_call (codeAny_of_tree (show wpAny _ A.in1 (callAny (.ref u) ⟨us, []⟩) _ _ _ from ?_))
  simp only [callAny]
  refine wpAny_bind (wpAny_load cu ?_)
  simp only [veMw, PySem.W.kxs_mw, show (Value.type "method-wrapper" == Value.type "method" || Value.type "method-wrapper" == Value.type "builtin_function_or_method" || Value.type "method-wrapper" == Value.type "method-wrapper") = true by decide, if_true]
  refine PySem.W.KFB.if_so (by decide) (wpAny_bind (PySem.W.check_bound_init PySem.F.excBase_ValueError.toExcCallFacts cC ca rfl (wpAny_bind (wpAny_pure (wpAny_pure ⟨PySem.plainId_quiet PySem.F.excBase_ValueError.init.plain _, codeAny_builtin PySem.F.excBase_ValueError.initEntry ?_⟩)))))
  rw [Around.under_plainId PySem.F.excBase_ValueError.init.plain _]
  wp_walk
  refine then_ _ h.objs.size (fun b o hb ho => ?_) ?_
  · exact (Heap.get?_update_other _ _ (Ne.symm hb)).trans (Heap.get?_push_of_some _ ho)
  · rw [Heap.get?_update_self _ (Heap.get?_push_of_some _ ca) rfl]
    rfl
theorem mw_with {M : Model} {s : Shared} {pos : Pos} {u a : Addr} {env : Env} {e : Expr} {es : List Expr} {Q : Value → Shared → Prop} (h : wpAny M A (spliced (backTo pos (starEach (e :: es) env))) (fun vs s1 => PySem.W.KxsAt "ValueError.__init__" u a s1.heap ∧ wpAny M A (call (.ref u) vs) Q E s1) E s)
    (he : starEach (e :: es) env = (false, eval e env) :: starEach es env := by rfl) (hp : (backTo pos (starEach es env)).any (·.1) = false := by rfl) : wpAny M A (callWith pos (.ref u) [] (backTo pos (starEach (e :: es) env)) []) Q E s := by
  rw [he] at h ⊢
  exact PySem.W.kxs_callWith (i := "ValueError.__init__") (x := a) (by show (false || (backTo pos (starEach es env)).any (·.1)) = false; rw [hp]; rfl) (PySem.Calls.evalArgs_plain h)
end
theorem one_look {β : Type} {x y : Str} {c d : β} (h : [(x, c)].lookup y = some d) : y = x ∧ c = d := by
  rw [List.lookup_cons] at h
  split at h
  · rename_i z
    cases h
    exact ⟨eq_of_beq z, rfl⟩
  · cases h
/-- its names -/
def reSc : Scope := { kind := .function, names := [("self", .local), ("reason", .local), ("__class__", .free), ("super", .globalImplicit)], isGenerator := false, isCoroutine := false, more := [] }
/-- the __init__ of the class at C, as it stands behind the top -/
structure InitAt (K : PySem.W.Frag) (file : Str) (qual : Str) (params : Arguments) (body : List Stmt) (C f : Addr) (fd : FuncData) : Prop where
  ex : ∃ (oc kV doc pm ct ccl cl : Value) (od an cdd cld : Option Addr) (osl ccs csl : Array (Option Value)) (cda cc : Addr) (vs : Array Value) (tf : Tok),
    fd = PySem.W.fnX "__init__" qual params body reSc [("__class__", cc)] .none kV doc pm an (.ref cda) ct ∧ K.lookup f = some ⟨oc, od, .func fd, osl⟩ ∧ PySem.W.codeIn K (.ref cda) qual = true ∧
    K.lookup cda = some ⟨ccl, cdd, .fields vs, ccs⟩ ∧ vs[2]? = some (.str file tf) ∧ K.lookup cc = some ⟨cl, cld, .cell (some (.ref C)), csl⟩
  tp : PySem.W.typeIn K (.ref f) = some (.type "function")
  fi : PySem.W.findIn K (.ref C) "__init__" = some (some (.ref f))
  up : PySem.W.ks_superIn K C C "__init__" = some (some (.builtin "ValueError.__init__"))
  ve : PySem.W.subIn K (.ref C) (.type "ValueError") = some true
  tpa : PySem.W.nsIn K cStatics "thirdparty.any" = some none
  own : PySem.W.mroIn K C (.ref C) = some true
  no : PySem.W.findIn K (.ref C) "reason" = some none
  ox : OexC K C
/-- what the __init__ does: the reason is kept in the exception's own dict -/
def spI (C : Addr) : Sp := fun vs H Q _ => ∃ (a : Addr) (v : V), vs = [.ref a, v] ∧ H a = some (exo a C none) ∧ ∀ dx, H dx = none → dx ≠ a → Q .non (upd (upd H dx (exd dx [("reason", v)])) a (exo a C (some dx)))
theorem fn_init {P : Program} {w : World} {K : PySem.W.Frag} {mg : Str → Option Value} {base : Heap} {CX : CXT} {k : Nat} {file qual : Str} {params : Arguments} {body : List Stmt} {C f : Addr} {fd : FuncData} {a1 : Arg} {p0 p1 p2 p3 p4 p5 p6 p7 p8 p9 : Pos} (J : InitAt K file qual params body C f fd)
    (ns : mg "super" = none)
    (hfile : ((P.main.file : Str) == file) = true) (htop : (P.main.scope.names.lookup ("super" : Str)).isSome = false) (hps : (params.posonlyargs ++ params.args).head? = some a1) (ha1 : a1.arg = ("self" : Str))
    (hst : body = [.Expr (.Call (.Attribute (.Call (.Name "super" p0) [] [] p1) "__init__" p2) [.Name "reason" p3] [] p4) p5, .Assign [.Attribute (.Name "self" p6) "reason" p7] (.Name "reason" p8) p9])
    (hev : ∀ L cda cc : Addr, ∃ pl : Sem Bool, eval (.Call (.Attribute (.Call (.Name "super" p0) [] [] p1) "__init__" p2) [.Name "reason" p3] [] p4) (PySem.W.envX qual reSc L f (.ref cda) [("__class__", cc)]) = (do
      let ov ← attributeBase (.Call (.Name "super" p0) [] [] p1) "__init__" (PySem.W.envX qual reSc L f (.ref cda) [("__class__", cc)]) (eval (.Call (.Name "super" p0) [] [] p1) (PySem.W.envX qual reSc L f (.ref cda) [("__class__", cc)]))
      standAt p2.atName
      let (g, first) ← holding [ov] (getMethod ov "__init__" pl)
      callWith p4 g first (backTo p4 (starEach [.Name "reason" p3] (PySem.W.envX qual reSc L f (.ref cda) [("__class__", cc)]))) []))
    (hsw : ∀ L cda cc : Addr, swapsWith (.Name "reason" p8) (some (.Attribute (.Name "self" p6) "reason" p7)) p9.line (PySem.W.envX qual reSc L f (.ref cda) [("__class__", cc)]) = pure false) :
    FnOk P w K mg base CX (k + 1) f fd ["self", "reason"] (spI C) := by
  have S : NdefX.NScope ["self", "reason", "__class__"] ["self", "reason"] ["__class__"] reSc := NdefX.nscope_by (by decide +kernel)
  have hsu : reSc.names.lookup ("super" : Str) = some .globalImplicit := by decide +kernel
  obtain ⟨oc, kV, doc, pm, ct, ccl, cl, od, an, cdd, cld, osl, ccs, csl, cda, cc, vs2, tf, rfl, lk, hcd, hcode, hvs, hcell⟩ := J.ex
  refine ⟨fun vs H Q E ⟨a, v, e, _⟩ => by rw [e]; rfl, fun A outer s H args us vs Q E hr e0 hb r hsp => ?_⟩
  obtain ⟨a, v, rfl, ha, hq⟩ := hsp
  have kept0 : ∀ b o, base.get? b = some o → s.heap.get? b = some o := fun b o e => (e0.bs b o e).1
  have inK : K.In s.heap := e0.mod.kin.keeps kept0
  have lim : s.heap.NoLimit := e0.mod.nolimit.keeps kept0
  let F : NdefX.NF := ⟨"__init__", qual, params, body, reSc, [("__class__", cc)], cda⟩
  refine codeAny_call_function hr.depth (inK _ _ lk) rfl S.co S.gen rfl (PySem.W.codeRec_of inK hcd) (hb _ _ _ _ (wpAny_newFunctionEnv S.nocell (fun ⟨n, _⟩ hy => S.par n (List.of_mem_zip hy).1) (fun h1 hns hsb => ⟨lim.fresh _ hsb, ?_⟩) S.kind))
  show codeAny _ _ (.func body (NdefX.envF F f s.heap.objs.size)) _ _
  refine ks_codeAny_funcAt ?_
  have kp : ∀ b o, s.heap.get? b = some o → h1.get? b = some o := fun b o e => hsb.extBut b o (Nat.ne_of_lt (Heap.lt_size e)) (Heap.get?_push_of_some _ e)
  have bcc : base.get? cc = some _ := e0.mod.kin _ _ hcell
  have Cs : NdefX.CellsAt F.cl ["__class__"] [some (.ref C)] s.heap H := {
    len := rfl
    all := fun y c e => by
      obtain ⟨_, rfl⟩ := one_look e
      exact ⟨(e0.bs _ _ bcc).2, _, _, (e0.bs _ _ bcc).1, rfl⟩
    inj := fun x y c e1 e2 => (one_look e1).1.trans (one_look e2).1.symm
    has := fun i y e => by
      match i, e with
      | 0, e =>
        cases e
        exact ⟨cc, rfl, fun v e => by cases e; exact ⟨_, rfl, _, (e0.bs _ _ bcc).1, rfl⟩⟩ }
  obtain ⟨u, rfl, rv⟩ : ∃ u, us = [.ref a, u] ∧ RelV v u := by
    cases r with
    | cons r0 r1 => cases r1 with
      | cons r2 r3 => cases r3; obtain rfl := r0; exact ⟨_, rfl, r2⟩
  have I1 : Inv (NdefX.ncx CX P w K mg base ["self", "reason", "__class__"] F f A outer s H E) [] (NdefX.startF ["self", "reason", "__class__"] [.ref a, v] [some (.ref C)]) H { s with heap := h1, toks := s.toks + 2 } := NdefX.inv_startN S hr.hd e0 rfl r Cs hns kp
  have inK1 := I1.kIn
  obtain ⟨nm, q, N, bs, bm, sn, sub, ab, col, dd, k0, k1, k2, k3, k5, hC, hbm⟩ := J.ox.cls
  obtain ⟨t0, hx⟩ := exo_at I1.hok ha
  refine ks_wpAt_mono (Q := SP (NdefX.ncx CX P w K mg base ["self", "reason", "__class__"] F f A outer s H E) [] { nx := fun _ H' => Q .non H', rt := Q }) (E := (NdefX.ncx CX P w K mg base ["self", "reason", "__class__"] F f A outer s H E).xe) ?_ (fun fl s' hs => ?_) fun e s' hs => hs
  · rw [hst]
    obtain ⟨pl, hpl⟩ := hev s.heap.objs.size cda cc
    refine ks_wpAt_execs_cons (ks_wpAt_Expr_any (ks_wpAt_MethodCall (pl := pl) ?_ hpl))
    have ksu : (NdefX.envF F f s.heap.objs.size).kindOf "super" = some .globalImplicit := hsu
    have kcl : (NdefX.envF F f s.heap.objs.size).kindOf "__class__" = some .free := S.frk "__class__" (by simp)
    have kse : (NdefX.envF F f s.heap.objs.size).kindOf "self" = some .local := S.par "self" (by simp)
    have kre : (NdefX.envF F f s.heap.objs.size).kindOf "reason" = some .local := S.par "reason" (by simp)
    refine ks_wpAt_super_base (env := NdefX.envF F f s.heap.objs.size) ksu kcl (by decide) rfl (inK1 _ _ lk) rfl hps rfl (inK1 _ _ hcode) rfl hvs hfile htop ?_
    obtain ⟨mb, b1, b2⟩ := I1.mod.blt
    refine PySem.W.ks_loadName_global S.kind ksu (PySem.Calls.loadGlobal_builtin (env := NdefX.envF F f s.heap.objs.size) (I1.mod.glob.keeps I1.bk) ns (b1.keeps I1.bk) (v := .type "super") ((b2 "super" (by decide)).trans (by first | rfl | decide +kernel)) ⟨rfl, ?_⟩)
    refine wpAny_loadName_free S.kind kcl rfl ⟨_, inK1 _ _ hcell, rfl⟩ ?_
    rw [ha1]
    refine wpAny_loadName_local S.kind kse hns (v := .ref a) (by rfl) ?_
    refine ks_wpAny_isType_cls (inK1 _ _ hC) rfl ⟨rfl, ?_⟩
    refine ks_wpAny_call_super (inK1 _ _ hC) rfl hx rfl (fun c e => by cases e) (PySem.W.looks_mroIn inK1 J.own) (fun h2 e2 k2 => ?_)
    have I2 := I1.kept (t' := s.toks + 2) k2
    have hx2 := k2 _ _ hx
    have inK2 := I2.kIn
    obtain ⟨cd, hcd2, hal⟩ := Option.bind_eq_some_iff.mp (show (PySem.W.clsIn K C).bind (fun cd => PySem.W.alongIn K "__init__" ((cd.mro.dropWhile (· != .ref C)).drop 1)) = some (some (.builtin "ValueError.__init__")) from J.up)
    have xC : a ≠ C := fun z => by
      have y := inK1 _ _ hC
      rw [← z, hx] at y
      cases y
    refine PySem.W.kxs_getMethod PySem.W.kxs_ValueError e2 (PySem.W.looks_opaque inK2 J.tpa) (l₀ := cd.mro) (fun A Q E s k q => wpAny_bind ((PySem.W.looks_clsIn inK2 hcd2) A _ E s k (wpAny_pure q))) rfl inK2 hal ((PySem.W.InstAt.type (od := none) ⟨hx2, rfl, rfl, trivial⟩).andThen (PySem.W.looks_subIn inK2 J.ve)) xC (by decide) ?_
    have I3 : Inv (NdefX.ncx CX P w K mg base ["self", "reason", "__class__"] F f A outer s H E) [(h2.objs.size, veMw a)] _ H _ := ClX.pin_new (t' := s.toks + 2 + 1) (a := h2.objs.size) (o := veMw a) I2 (h' := h2.push (veMw a)) (fun b o e => Heap.get?_push_of_some _ e) (Nat.le_refl _) (Heap.get?_push_size _ rfl) (fun _ z => by cases z)
    refine mw_with (a := a) (thn ((pa_cons (pe_var (X := NdefX.ncx CX P w K mg base ["self", "reason", "__class__"] F f A outer s H E) (i := 1) rfl (.inl kre)) pa_nil).run p4 _ _ _ H (fun vs H1 => vs = [v] ∧ H1 = H) I3 ⟨v, rfl, rfl, rfl⟩) fun us s4 ⟨vs4, H4, I4, r4, e4, eH⟩ => ?_)
    subst e4
    rw [eH] at I4
    refine ⟨ClX.pin_at I4, ?_⟩
    obtain ⟨t4, hx4⟩ := exo_at I4.hok ha
    have hlen : us.length ≤ sizeLine := by
      rw [← Paired.length r4, sizeLine_eq]
      show 1 ≤ _
      omega
    obtain ⟨hp4, g4, d4, tk4, os4⟩ := s4
    refine mw_run (I4.kIn _ _ hC) hx4 (ClX.pin_at I4) hlen fun h5 t5 k5 hx5 => ?_
    have I5 := (ClX.unpin I4).write (t' := tk4) (x := a) (e := a) (o := exo a C none) (by rw [ha]; exact True.intro) (.inl rfl) k5 ⟨_, hx5⟩ (exo_ok hx5)
    rw [show upd H a (exo a C none) = H by
      funext b
      by_cases hb : b = a
      · rw [hb, upd_same, ha]
      · rw [upd_ne hb]] at I5
    refine wpAt_of_wpAny ((pss_one (ps_ost (X := NdefX.ncx CX P w K mg base ["self", "reason", "__class__"] F f A outer s H E) (f := "reason") (pe_var (i := 0) rfl (.inl kse)) (pe_var (i := 1) rfl (.inl kre)) (hsw _ _ _))).run [] _ _ H _ I5 ?_)
    exact ⟨v, rfl, .ref a, rfl, a, C, rfl, J.ox, J.no, .inl ⟨ha, hq⟩⟩
  · have said : ∀ {τ : L2.St} {H6 : Hp} {y : V} {z : Value}, Inv (NdefX.ncx CX P w K mg base ["self", "reason", "__class__"] F f A outer s H E) [] τ H6 s' → RelV y z → Q y H6 → CE outer P w H s Q z s' :=
      fun {_ H6 y _} I6 ry hy => ⟨y, H6, I6.os, I6.bare, I6.base, I6.hok, ry, hy⟩
    match fl, hs with
    | .ret _, ⟨_, _, _, I6, ry, hy⟩ => exact said I6 ry hy
    | .next, ⟨_, _, I6, hy⟩ => exact said (y := .non) (z := .none) I6 rfl hy
    | .brk, ⟨_, _, _, hy⟩ => exact hy.elim
    | .cont, ⟨_, _, _, hy⟩ => exact hy.elim
/-! ### isinstance(e, F), e with its own dict -/
def rIsD (K : PySem.W.Frag) (D a dd : Addr) : List V → Hp → VK → Prop := fun xs H Q => ∃ (c : V) (cv : Value) (b : Bool) (fs : List (Str × V)), xs = [.ref a, c] ∧ H dd = some (.xd fs) ∧ (∀ u, RelV c u → u = cv) ∧ PySem.W.kitOne K (.ref D) cv = some b ∧ Q (.bl b) H
theorem call_isD {X : Cx} {a D dd : Addr} {oe : Obj} {pn : List (Addr × Obj)} (C : ExcC X.K D) (hz : Zc (.ref D) (some dd) oe) (hf : ∃ vs, oe.data = .fields vs) : CallR (X.suite a ((a, oe) :: pn)) (.builtin "isinstance") (rIsD X.K D a dd) := fun pins s σ H xs us Q I r h => by
  obtain ⟨c, cv, b, fs, rfl, hdd, hcv, e, q⟩ := h
  cases r with
  | cons rx rr =>
    cases rr with
    | cons rt rr =>
      cases rr
      cases rx
      obtain rfl := hcv _ rt
      have hget := (I.pin (a, oe) (List.mem_append_left _ List.mem_cons_self)).1
      obtain ⟨od, hod⟩ := objOk_get (I.hok dd _ hdd)
      have J : PySem.W.InstAt s.heap a oe D (some od) := by
        obtain ⟨oc, od', oda, osl⟩ := oe
        obtain ⟨vs, hv⟩ := hf
        obtain ⟨h1, h2⟩ := hz
        dsimp only at h1 h2 hv
        subst h1 h2 hv
        exact ⟨hget, rfl, rfl, hod⟩
      obtain ⟨cd, hcd, _⟩ := PySem.W.any_some C.hd
      exact PySem.W.kia_one (PySem.W.kitx_exc (by rw [hcd]; rfl) C.hg C.hk C.hs C.ha C.hn C.ht C.hm) I.kIn J e (fun z => nomatch z) fun tk => ⟨.bl b, H, I.kept (t' := tk) fun _ _ z => z, rfl, q⟩
theorem suite_isr {X : Cx} {a D F : Addr} {i : Nat} {n x o : Str} {oe : Obj} {cls : Value} {d : Option Addr} {pn : List (Addr × Obj)} {k2 : Nat} {p1 p2 p3 p4 p5 p6 p7 p8 p9 : Pos} (C : ExcC X.K D) (T : XfC X.K D) (hno : PySem.W.findIn X.K (.ref D) "reason" = some none) (hg : Gl X "isinstance") (hm : X.mg "isinstance" = none) (hgF : Gl X x) (hF : X.mg x = some (.ref F)) (hk : PySem.W.kitOne X.K (.ref D) (.ref F) = some true)
    (hN : X.N[i]? = some n) (hv : Vis X.env.scope n) (hz : Zc cls d oe) (hf : ∃ vs, oe.data = .fields vs)
    (hb : attributeBase (.Name n p5) "reason" X.env (eval (.Name n p5) X.env) = eval (.Name n p5) X.env)
    (h1 : (n == ("__debug__" : Str)) = false := by decide) (h2 : (n == ("__classdict__" : Str)) = false := by decide) (h3 : (x == ("__debug__" : Str)) = false := by decide) :
    PSs (X.suite a ((a, oe) :: pn)) [.Return (some (.IfExp (.Call (.Name "isinstance" p1) [.Name n p2, .Name x p3] [] p4) (.Attribute (.Name n p5) "reason" p9) (.Constant (.str o) k2 p6) p7)) p8] (fun Dn σ H => cls = .ref D ∧ σ[i]? = some (some (.ref a)) ∧ ∃ (dd : Addr) (fs : List (Str × V)) (v : V), d = some dd ∧ H dd = some (.xd fs) ∧ fs.lookup ("reason" : Str) = some v ∧ Dn.rt v H) :=
  ⟨fun pins s σ H Dn I ⟨e1, e3, dd, fs, v, e2, hd, hl, q⟩ => by
    subst e1 e2
    have hN' : (X.suite a ((a, oe) :: pn)).N[i]? = some n := hN
    refine (pss_one (ps_ret (pe_ifExp (pt_val (pe_callB (call_isD C hz hf) hg hm boot_isinstance (pa_cons (pe_var (i := i) hN' hv h1 h2) (pa_cons (pe_glob (v := .ref F) hgF hF rfl h3) pa_nil)))) (pe_xf T hno hz hf (pe_var (i := i) hN' hv h1 h2) hb) pe_str))).run pins s σ H Dn I ?_
    exact ⟨.ref a, e3, ⟨.ref F, .ref F, true, fs, rfl, hd, fun u hu => hu, hk, true, rfl, .ref a, e3, rfl, rfl, dd, fs, v, rfl, hd, hl, q⟩⟩⟩
/-- how an exception lies: of the class at CM; of the class at CR, its dict telling the reason -/
def XRr (CM CR : Addr) : XRt := fun e cls d H => match e with
  | .mal => cls = .ref CM ∧ d = none
  | .rf z => cls = .ref CR ∧ ∃ (dd : Addr) (fs : List (Str × V)), d = some dd ∧ H dd = some (.xd fs) ∧ fs.lookup ("reason" : Str) = some (V.str z)
/-- what is told of the class that is raised with a reason -/
structure RefT (P : Program) (K : PySem.W.Frag) (mg : Str → Option Value) (base : Heap) (C : Addr) : Prop where
  at_ : ∃ (f : Addr) (fd : FuncData), (∀ (w : World) (k : Nat), FnOk P w K mg base (L2.CX P w) (k + 1) f fd ["self", "reason"] (spI C)) ∧ PySem.W.findIn K (.ref C) "__init__" = some (some (.ref f)) ∧ PySem.W.typeIn K (.ref f) = some (.type "function") ∧ Binds K fd ["self", "reason"] []
  ox : OexC K C
  g : mg "Refused" = some (.ref C)
theorem fs_raiseR {X : Cx} {E : XK} {CM C : Addr} {z : Str} {j k : Nat} {p p1 p2 p3 : Pos} (T : RefT X.prog X.K X.mg X.base C) (hr : Room k X.A) (hk : 2 ≤ k) (hc : X.calm = true) (tk : Takes X (fun cls d _ H => E cls d H)) (hg : Gl X "Refused") :
    PS X (.Raise (some (.Call (.Name "Refused" p) [.Constant (.str z) j p1] [] p2)) none p3) (tFS X.K (XRr CM C) E (sRaise (.rf z))) := by
  obtain ⟨f, fd, ok, fi, tp, hb⟩ := T.at_
  refine PS.le (ps_raise hc tk (pmk_oex T.ox fi tp (ok X.w 0) (hr.mono hk) hb .nil (passes_call tk fun _ _ _ _ h => h.elim) hg T.g (pa_cons pe_str pa_nil))) fun D σ H ⟨M, G, ft, S, w⟩ => ?_
  refine ⟨by show 1 ≤ 1000; omega, fun a ha => ⟨a, .str z, rfl, upd_same, fun dx n ne => ⟨rfl, dx, _, upd_same, (upd_ne ne).trans upd_same, ?_, ?_⟩⟩⟩
  · rw [upd_ne ne] at n
    exact n
  · rw [upd_ne ne] at n
    have old : ∀ b o, H b = some o → upd (del (upd (upd (upd H a (exo a C none)) dx (exd dx [("reason", .str z)])) a (exo a C (some dx))) a) dx (.xd [("reason", .str z)]) b = some o := fun b o e => by
      have h1 : b ≠ dx := fun q => by rw [q, n] at e; cases e
      have h2 : b ≠ a := fun q => by rw [q, ha] at e; cases e
      rw [upd_ne h1, del_ne h2, upd_ne h2, upd_ne h1, upd_ne h2]
      exact e
    exact w _ _ _ ⟨rfl, dx, _, rfl, upd_same, rfl⟩ ⟨fun b o e _ _ => old b o e, fun b o e => ⟨o, old b o e⟩, fun K t => t.ext old, fun b ps e => ⟨ps, old b _ e⟩⟩
end Fx
/-! FxRf: a def that tells the word of an exception, or its reason -/
namespace Fx
open PySem PySem.Spec
open PyProof.Rows L2
section
variable {P : Program} {w : World} {K : PySem.W.Frag}
variable {mg : Str → Option Value} {base : Heap}
/-- what the clauses want of the two classes -/
structure WordC (K : PySem.W.Frag) (CM CR CF : Addr) : Prop where
  cM : ExcC K CM
  cR : ExcC K CR
  xR : XfC K CR
  nR : PySem.W.findIn K (.ref CR) "reason" = some none
  kM : PySem.W.kitOne K (.ref CM) (.ref CF) = some true
  kR : PySem.W.kitOne K (.ref CR) (.ref CF) = some true
  mm : PySem.W.exmOne K (.ref CM) (.ref CM) = some true
  rm : PySem.W.exmOne K (.ref CR) (.ref CM) = some false
  rr : PySem.W.exmOne K (.ref CR) (.ref CR) = some true
theorem fn_wordR {qual : Str} {x xc : Str} {st : Stmt} {f fc : Addr} {fd fdc : FuncData} {psc : List Str} {k : Nat} {Fc : Gm → Res Rv} {CM CF CR : Addr} {k1 k2 k3 k4 : Nat} {p1 p2 p3 p4 p5 p6 p7 p8 p9 p10 p11 p12 p13 p14 p15 p16 p17 p18 p19 p20 p21 p22 p23 p24 p25 p26 p27 p28 : Pos}
    (F : Fun K x qual st f fd) (S : FnScope ["call", "e"] ["call"] (defScope st)) (okc : FnOk P w K mg base (L2.CX P w) k fc fdc psc (spF K (XRr CM CR) Fc)) (gc : mg xc = some (.ref fc)) (kc : PySem.W.keepIn K (.ref fc) = true) (bc : Binds K fdc psc [])
    (W : WordC K CM CR CF) (ni : mg "isinstance" = none) (gM : mg "Malformed" = some (.ref CM)) (gF : mg "Fault" = some (.ref CF)) (gR : mg "Refused" = some (.ref CR))
    (hxc : (defScope st).names.lookup xc = some .globalImplicit) (h1 : (defScope st).names.lookup (Str.ofString "isinstance") = some .globalImplicit) (h2 : (defScope st).names.lookup (Str.ofString "Malformed") = some .globalImplicit) (h3 : (defScope st).names.lookup (Str.ofString "Fault") = some .globalImplicit) (h4 : (defScope st).names.lookup (Str.ofString "Refused") = some .globalImplicit) (he : (defScope st).names.lookup (Str.ofString "e") = some .local) (hcl : (defScope st).names.lookup (Str.ofString "call") = some .local)
    (hst : defBody st = [.Try [.Expr (.Call (.Name xc p1) [.Name "call" p2] [] p3) p4] [.ExceptHandler (some (.Name "Malformed" p5)) (some "e") [.Return (some (.IfExp (.Call (.Name "isinstance" p6) [.Name "e" p7, .Name "Fault" p8] [] p9) (.Constant (.str "malformed") k1 p10) (.Constant (.str "other") k2 p11) p12)) p13] p14,
      .ExceptHandler (some (.Name "Refused" p15)) (some "e") [.Return (some (.IfExp (.Call (.Name "isinstance" p20) [.Name "e" p21, .Name "Fault" p22] [] p23) (.Attribute (.Name "e" p24) "reason" p28) (.Constant (.str "other") k4 p25) p26)) p27] p16] [] [] p17, .Return (some (.Constant (.str "none") k3 p18)) p19]) (hdb : (xc == ("__debug__" : Str)) = false)
    (hb : ∀ L cd, attributeBase (.Name "e" p24) "reason" (envOfC qual (defScope st) L f cd) (eval (.Name "e" p24) (envOfC qual (defScope st) L f cd)) = eval (.Name "e" p24) (envOfC qual (defScope st) L f cd)) : FnOk P w K mg base (L2.CX P w) (k + 1) f fd ["call"] (spF K (XRr CM CR) (wordR Fc)) := by
  have hsp : ∀ vs H Q E, spF K (XRr CM CR) (wordR Fc) vs H Q E → ∃ v d M ft, vs = [v] ∧ SI K [some v] H M [.d d] ft ∧ WP K (XRr CM CR) E (ROv K [some v]) [some v] [.d d] H M ft (wordR Fc [.d d]) Q := fun vs H Q E ⟨M, As, ft, S, h⟩ => by
    unfold wordR at h
    split at h
    · rename_i d
      have hl : vs.length = 1 := by have := S.len; simpa using this
      match vs, hl with
      | [v], _ => exact ⟨v, d, M, ft, rfl, S, h⟩
    · exact h.elim
  refine F.okX S (fun vs H Q E h => by obtain ⟨v, d, M, ft, rfl, _⟩ := hsp vs H Q E h; rfl) (fun cdv A outer s H vs Q E hr h => ?_)
  obtain ⟨v, d, M, ft, rfl, S0, h0⟩ := hsp vs H Q E h
  rw [hst]
  have nd := S.nd
  refine ⟨_, pss_cons (ps_try_clauses (l := [(.ref CM, 1, fun a cls d' Dn σ H => cls = .ref CM ∧ d' = none ∧ σ[1]? = some (some (.ref a)) ∧ Dn.rt (.str "malformed") H),
      (.ref CR, 1, fun a cls d' Dn σ H => cls = .ref CR ∧ σ[1]? = some (some (.ref a)) ∧ ∃ (dd : Addr) (fs : List (Str × V)) (v : V), d' = some dd ∧ H dd = some (.xd fs) ∧ fs.lookup ("reason" : Str) = some v ∧ Dn.rt v H)]) rfl rfl nd (takes_of rfl rfl rfl rfl)
    (fun W pn xe tk _ => pss_one (ps_expr (pe_callS (E := WE W) okc hr hxc gc kc bc (fun σ => passAt tk σ) (pa_cons (pe_var (i := 0) rfl (.inl hcl)) pa_nil) hdb)))
    (.cons (sl := 1) rfl he ⟨h2, by decide, .inl gM⟩ (fun a oe cls d' pn hz hf => suite_isi (X := cxOf (L2.CX P w) P w K mg base ["call", "e"] qual (defScope st) f cdv A outer s H E) W.cM h1 ni h3 gF W.kM (i := 1) rfl (.inl he) hz hf)
      (.cons (sl := 1) rfl he ⟨h4, by decide, .inl gR⟩ (fun a oe cls d' pn hz hf => suite_isr (X := cxOf (L2.CX P w) P w K mg base ["call", "e"] qual (defScope st) f cdv A outer s H E) W.cR W.xR W.nR h1 ni h3 gF W.kR (i := 1) rfl (.inl he) hz hf (hb _ _)) .nil)))
    (pss_one (ps_ret pe_str)), ?_⟩
  have nft := no_own S0
  obtain ⟨_, v', ev, Dv⟩ := S0.slot 0 _ rfl
  cases ev
  show ∃ u, (L2.start ["call", "e"] [v])[0]? = some (some u) ∧ _
  refine ⟨v, rfl, M, [.d d], ft, S0, ?_⟩
  -- behind an exception
  have back : ∀ (H' : Hp), Frm H ft H' → ∀ y : Str, WP K (XRr CM CR) E (ROv K [some v]) [some v] [.d d] H M ft (.ok (.d (.str y)) [.d d]) Q → Q (.str y) H' := fun H' fr y h0 => by
    have subM : Sub M H' := fun b o e => fr.1 b o (S0.sub b o e) (fun ps z => S0.tab.2 b ps (by rw [e, z])) fun i z => (by rw [nft i] at z; cases z)
    have SF : SI K [some v] H' M [.d d] ft := {
      len := rfl
      sub := subM
      slot := fun i s e => by
        cases i with
        | zero => cases e; exact ⟨nft 0, v, rfl, Dv⟩
        | succ j => cases e
      tab := ⟨fr.2.2.1 K S0.tab.1, S0.tab.2⟩
      out := S0.out
      disj := S0.disj }
    exact h0 (.str y) H' M ft SF ⟨Sub.refl _, fun _ _ e => .inl e, fun b o e nt _ => fr.1 b o e nt fun i z => (by rw [nft i] at z; cases z), fr.2.2.2, fr.2.2.1, fr.2.1, fun i a z => (by rw [nft i] at z; cases z), fun b xs e => fr.1 b _ e (fun _ z => nomatch z) fun i z => (by rw [nft i] at z; cases z), rfl, fun i o e => (by cases i with | zero => cases e | succ j => cases e), fun i o e => (by cases i with | zero => cases e | succ j => cases e)⟩ (Dd.str _)
  replace h0 : WP K (XRr CM CR) E (ROv K [some v]) [some v] [.d d] H M ft (match Fc [.d d] with
    | .ok _ _ => .ok (.d (.str "none")) [.d d]
    | .ex .mal => .ok (.d (.str "malformed")) [.d d]
    | .ex (.rf z) => .ok (.d (.str z)) [.d d]
    | _ => .bad) Q := h0
  cases ec : Fc [.d d] with
  | bad => rw [ec] at h0; exact h0.elim
  | ok r G' =>
    rw [ec] at h0
    intro u H' M' ft' S' P' R'
    have SF : SI K [some v] H' M' [.d d] (fun _ => []) := {
      len := rfl
      sub := S'.sub
      slot := fun i s e => by
        cases i with
        | zero => cases e; exact ⟨rfl, v, rfl, Dv.mono P'.mono⟩
        | succ j => cases e
      tab := S'.tab
      out := fun _ _ => rfl
      disj := fun i j a h => by cases h }
    exact h0 (.str "none") H' M' (fun _ => []) SF ⟨P'.mono, P'.new, P'.frame, P'.tbls, P'.tab, P'.there, fun i a z => (by cases z), P'.tups, rfl, fun i o e => (by cases i with | zero => cases e | succ j => cases e), fun i o e => (by cases i with | zero => cases e | succ j => cases e)⟩ (Dd.str _)
  | ex e =>
    rw [ec] at h0
    cases e with
    | rf z =>
      intro cls d' H' hx fr
      obtain ⟨rfl, dd, fs, rfl, hd, hl⟩ := hx
      refine ⟨false, W.rm, (fun q => nomatch q), fun _ => ⟨true, W.rr, fun _ a na => ⟨rfl, rfl, dd, fs, .str z, rfl, hd, hl, back H' fr z h0⟩, (fun q => nomatch q)⟩⟩
    | mal =>
      intro cls d' H' hx fr
      obtain ⟨rfl, rfl⟩ := hx
      exact ⟨true, W.mm, fun _ a na => ⟨rfl, rfl, rfl, back H' fr "malformed" h0⟩, (fun q => nomatch q)⟩
end
end Fx
namespace D67
open PySem PySem.Spec PyProof.Rows L2 Fx C0
def topS (i : Nat) : Stmt := PySem.Challenge.pw_fairfields_k67_whole_least_payments.main.body.getD i (.Pass ⟨0, 0, 0, 0⟩)
abbrev st_is_whole : Stmt := topS 5
theorem sc_is_whole : FnScope ["value"] ["value"] (defScope st_is_whole) := ⟨rfl, rfl, rfl, by decide +kernel, rfl, by decide +kernel, by decide +kernel⟩
abbrev st_common : Stmt := topS 6
theorem sc_common : FnScope ["a", "b"] ["a", "b"] (defScope st_common) := ⟨rfl, rfl, rfl, by decide +kernel, rfl, by decide +kernel, by decide +kernel⟩
abbrev st_lowest : Stmt := topS 7
theorem sc_lowest : FnScope ["n", "d", "g"] ["n", "d"] (defScope st_lowest) := ⟨rfl, rfl, rfl, by decide +kernel, rfl, by decide +kernel, by decide +kernel⟩
abbrev st_ratio : Stmt := topS 8
theorem sc_ratio : FnScope ["n", "d"] ["n", "d"] (defScope st_ratio) := ⟨rfl, rfl, rfl, by decide +kernel, rfl, by decide +kernel, by decide +kernel⟩
abbrev st_is_ratio : Stmt := topS 9
theorem sc_is_ratio : FnScope ["value"] ["value"] (defScope st_is_ratio) := ⟨rfl, rfl, rfl, by decide +kernel, rfl, by decide +kernel, by decide +kernel⟩
abbrev st_plus : Stmt := topS 10
theorem sc_plus : FnScope ["a", "b"] ["a", "b"] (defScope st_plus) := ⟨rfl, rfl, rfl, by decide +kernel, rfl, by decide +kernel, by decide +kernel⟩
abbrev st_minus : Stmt := topS 11
theorem sc_minus : FnScope ["a", "b"] ["a", "b"] (defScope st_minus) := ⟨rfl, rfl, rfl, by decide +kernel, rfl, by decide +kernel, by decide +kernel⟩
abbrev st_is_wishes : Stmt := topS 17
theorem sc_is_wishes : FnScope ["value", "size", "item"] ["value", "size"] (defScope st_is_wishes) := ⟨rfl, rfl, rfl, by decide +kernel, rfl, by decide +kernel, by decide +kernel⟩
abbrev st_is_game : Stmt := topS 18
theorem sc_is_game : FnScope ["value", "row"] ["value"] (defScope st_is_game) := ⟨rfl, rfl, rfl, by decide +kernel, rfl, by decide +kernel, by decide +kernel⟩
abbrev st_check_game : Stmt := topS 19
theorem sc_check_game : FnScope ["game"] ["game"] (defScope st_check_game) := ⟨rfl, rfl, rfl, by decide +kernel, rfl, by decide +kernel, by decide +kernel⟩
abbrev st_fits_owners : Stmt := topS 20
theorem sc_fits_owners : FnScope ["game", "value", "owner"] ["game", "value"] (defScope st_fits_owners) := ⟨rfl, rfl, rfl, by decide +kernel, rfl, by decide +kernel, by decide +kernel⟩
abbrev st_check_share : Stmt := topS 21
theorem sc_check_share : FnScope ["game", "owners"] ["game", "owners"] (defScope st_check_share) := ⟨rfl, rfl, rfl, by decide +kernel, rfl, by decide +kernel, by decide +kernel⟩
abbrev st_parts_of : Stmt := topS 22
theorem sc_parts_of : FnScope ["n", "owners", "found", "_", "good", "owner"] ["n", "owners"] (defScope st_parts_of) := ⟨rfl, rfl, rfl, by decide +kernel, rfl, by decide +kernel, by decide +kernel⟩
abbrev st_worth : Stmt := topS 23
theorem sc_worth : FnScope ["row", "goods", "good"] ["row", "goods"] (defScope st_worth) := ⟨rfl, rfl, rfl, by decide +kernel, rfl, by decide +kernel, by decide +kernel⟩
abbrev st_worth_table : Stmt := topS 24
theorem sc_worth_table : FnScope ["game", "owners", "parts", "part", "row"] ["game", "owners"] (defScope st_worth_table) := ⟨rfl, rfl, rfl, by decide +kernel, rfl, by decide +kernel, by decide +kernel⟩
abbrev st_check_few : Stmt := topS 25
theorem sc_check_few : FnScope ["game", "count", "_"] ["game"] (defScope st_check_few) := ⟨rfl, rfl, rfl, by decide +kernel, rfl, by decide +kernel, by decide +kernel⟩
abbrev st_every_share : Stmt := topS 26
theorem sc_every_share : FnScope ["game", "found", "_", "share", "i"] ["game"] (defScope st_every_share) := ⟨rfl, rfl, rfl, by decide +kernel, rfl, by decide +kernel, by decide +kernel⟩
abbrev st_are_payments : Stmt := topS 28
theorem sc_are_payments : FnScope ["game", "value", "item"] ["game", "value"] (defScope st_are_payments) := ⟨rfl, rfl, rfl, by decide +kernel, rfl, by decide +kernel, by decide +kernel⟩
abbrev st_calm_table : Stmt := topS 29
theorem sc_calm_table : FnScope ["table", "payments", "i", "row", "own", "k", "worth"] ["table", "payments"] (defScope st_calm_table) := ⟨rfl, rfl, rfl, by decide +kernel, rfl, by decide +kernel, by decide +kernel⟩
abbrev st_is_calm : Stmt := topS 30
theorem sc_is_calm : FnScope ["game", "owners", "payments"] ["game", "owners", "payments"] (defScope st_is_calm) := ⟨rfl, rfl, rfl, by decide +kernel, rfl, by decide +kernel, by decide +kernel⟩
abbrev st_gaps_of : Stmt := topS 31
theorem sc_gaps_of : FnScope ["table", "worth", "i", "row"] ["table"] (defScope st_gaps_of) := ⟨rfl, rfl, rfl, by decide +kernel, rfl, by decide +kernel, by decide +kernel⟩
abbrev st_longest : Stmt := topS 32
theorem sc_longest : FnScope ["gaps", "many", "sums", "_", "more", "i", "k"] ["gaps"] (defScope st_longest) := ⟨rfl, rfl, rfl, by decide +kernel, rfl, by decide +kernel, by decide +kernel⟩
abbrev st_least_payments : Stmt := topS 33
theorem sc_least_payments : FnScope ["game", "owners", "found"] ["game", "owners"] (defScope st_least_payments) := ⟨rfl, rfl, rfl, by decide +kernel, rfl, by decide +kernel, by decide +kernel⟩
abbrev st_cheapest : Stmt := topS 34
theorem sc_cheapest : FnScope ["game", "best", "found", "owners", "sums"] ["game"] (defScope st_cheapest) := ⟨rfl, rfl, rfl, by decide +kernel, rfl, by decide +kernel, by decide +kernel⟩
abbrev st_pay_left : Stmt := topS 35
theorem sc_pay_left : FnScope ["game", "owners", "money", "found", "rest", "share", "table", "i", "item"] ["game", "owners", "money"] (defScope st_pay_left) := ⟨rfl, rfl, rfl, by decide +kernel, rfl, by decide +kernel, by decide +kernel⟩
abbrev st_law_draw : Stmt := topS 37
theorem sc_law_draw : FnScope ["script", "seed", "cell"] ["script"] (defScope st_law_draw) := ⟨rfl, rfl, rfl, by decide +kernel, rfl, by decide +kernel, by decide +kernel⟩
abbrev st_law_take : Stmt := topS 38
theorem sc_law_take : FnScope ["draw", "many", "found"] ["draw", "many"] (defScope st_law_take) := ⟨rfl, rfl, rfl, by decide +kernel, rfl, by decide +kernel, by decide +kernel⟩
abbrev st_law_fraction : Stmt := topS 39
theorem sc_law_fraction : FnScope ["n", "d", "x", "y"] ["n", "d"] (defScope st_law_fraction) := ⟨rfl, rfl, rfl, by decide +kernel, rfl, by decide +kernel, by decide +kernel⟩
abbrev st_law_plus : Stmt := topS 40
theorem sc_law_plus : FnScope ["a", "b"] ["a", "b"] (defScope st_law_plus) := ⟨rfl, rfl, rfl, by decide +kernel, rfl, by decide +kernel, by decide +kernel⟩
abbrev st_law_minus : Stmt := topS 41
theorem sc_law_minus : FnScope ["a", "b"] ["a", "b"] (defScope st_law_minus) := ⟨rfl, rfl, rfl, by decide +kernel, rfl, by decide +kernel, by decide +kernel⟩
abbrev st_law_less : Stmt := topS 42
theorem sc_law_less : FnScope ["a", "b"] ["a", "b"] (defScope st_law_less) := ⟨rfl, rfl, rfl, by decide +kernel, rfl, by decide +kernel, by decide +kernel⟩
abbrev st_law_sum : Stmt := topS 43
theorem sc_law_sum : FnScope ["items", "found", "item"] ["items"] (defScope st_law_sum) := ⟨rfl, rfl, rfl, by decide +kernel, rfl, by decide +kernel, by decide +kernel⟩
abbrev st_law_over : Stmt := topS 45
theorem sc_law_over : FnScope ["a", "b"] ["a", "b"] (defScope st_law_over) := ⟨rfl, rfl, rfl, by decide +kernel, rfl, by decide +kernel, by decide +kernel⟩
abbrev st_law_game : Stmt := topS 49
theorem sc_law_game : FnScope ["draw", "people", "goods", "most", "n", "m", "top", "rows", "i", "row", "good"] ["draw", "people", "goods", "most"] (defScope st_law_game) := ⟨rfl, rfl, rfl, by decide +kernel, rfl, by decide +kernel, by decide +kernel⟩
abbrev st_law_owners : Stmt := topS 50
theorem sc_law_owners : FnScope ["draw", "game", "good"] ["draw", "game"] (defScope st_law_owners) := ⟨rfl, rfl, rfl, by decide +kernel, rfl, by decide +kernel, by decide +kernel⟩
abbrev st_law_worth : Stmt := topS 51
theorem sc_law_worth : FnScope ["game", "owners", "i", "k", "good"] ["game", "owners", "i", "k"] (defScope st_law_worth) := ⟨rfl, rfl, rfl, by decide +kernel, rfl, by decide +kernel, by decide +kernel⟩
abbrev st_law_shares : Stmt := topS 54
theorem sc_law_shares : FnScope ["n", "m", "found", "good", "longer", "row", "i"] ["n", "m"] (defScope st_law_shares) := ⟨rfl, rfl, rfl, by decide +kernel, rfl, by decide +kernel, by decide +kernel⟩
abbrev st_law_bad_game : Stmt := topS 56
theorem sc_law_bad_game : FnScope ["draw", "game", "found"] ["draw", "game"] (defScope st_law_bad_game) := ⟨rfl, rfl, rfl, by decide +kernel, rfl, by decide +kernel, by decide +kernel⟩
abbrev st_law_bad_owners : Stmt := topS 57
theorem sc_law_bad_owners : FnScope ["draw", "game", "owners"] ["draw", "game", "owners"] (defScope st_law_bad_owners) := ⟨rfl, rfl, rfl, by decide +kernel, rfl, by decide +kernel, by decide +kernel⟩
abbrev st_law_call : Stmt := topS 58
theorem sc_law_call : FnScope ["call", "which", "game", "owners", "money"] ["call"] (defScope st_law_call) := ⟨rfl, rfl, rfl, by decide +kernel, rfl, by decide +kernel, by decide +kernel⟩
abbrev st_law_word : Stmt := topS 59
theorem sc_law_word : FnScope ["call", "e"] ["call"] (defScope st_law_word) := ⟨rfl, rfl, rfl, by decide +kernel, rfl, by decide +kernel, by decide +kernel⟩
abbrev st_law_least : Stmt := topS 60
theorem sc_law_least : FnScope ["game", "owners", "n", "gaps", "k", "i", "found", "turn", "more"] ["game", "owners"] (defScope st_law_least) := ⟨rfl, rfl, rfl, by decide +kernel, rfl, by decide +kernel, by decide +kernel⟩
abbrev st_law : Stmt := topS 61
theorem sc_law : FnScope ["script", "draw", "game", "n", "m", "shares", "turn", "best", "i", "good", "owners", "due", "told", "item", "money", "left", "more", "rest", "each", "small", "row", "sums", "first", "bad", "wrong", "calls", "which", "call"] ["script"] (defScope st_law) := ⟨rfl, rfl, rfl, by decide +kernel, rfl, by decide +kernel, by decide +kernel⟩
structure Fa where
  f_is_whole : Addr
  d_is_whole : FuncData
  f_common : Addr
  d_common : FuncData
  f_lowest : Addr
  d_lowest : FuncData
  f_ratio : Addr
  d_ratio : FuncData
  f_is_ratio : Addr
  d_is_ratio : FuncData
  f_plus : Addr
  d_plus : FuncData
  f_minus : Addr
  d_minus : FuncData
  f_is_wishes : Addr
  d_is_wishes : FuncData
  f_is_game : Addr
  d_is_game : FuncData
  f_check_game : Addr
  d_check_game : FuncData
  f_fits_owners : Addr
  d_fits_owners : FuncData
  f_check_share : Addr
  d_check_share : FuncData
  f_parts_of : Addr
  d_parts_of : FuncData
  f_worth : Addr
  d_worth : FuncData
  f_worth_table : Addr
  d_worth_table : FuncData
  f_check_few : Addr
  d_check_few : FuncData
  f_every_share : Addr
  d_every_share : FuncData
  f_are_payments : Addr
  d_are_payments : FuncData
  f_calm_table : Addr
  d_calm_table : FuncData
  f_is_calm : Addr
  d_is_calm : FuncData
  f_gaps_of : Addr
  d_gaps_of : FuncData
  f_longest : Addr
  d_longest : FuncData
  f_least_payments : Addr
  d_least_payments : FuncData
  f_cheapest : Addr
  d_cheapest : FuncData
  f_pay_left : Addr
  d_pay_left : FuncData
  f_law_draw : Addr
  d_law_draw : FuncData
  f_law_take : Addr
  d_law_take : FuncData
  f_law_fraction : Addr
  d_law_fraction : FuncData
  f_law_plus : Addr
  d_law_plus : FuncData
  f_law_minus : Addr
  d_law_minus : FuncData
  f_law_less : Addr
  d_law_less : FuncData
  f_law_sum : Addr
  d_law_sum : FuncData
  f_law_over : Addr
  d_law_over : FuncData
  f_law_game : Addr
  d_law_game : FuncData
  f_law_owners : Addr
  d_law_owners : FuncData
  f_law_worth : Addr
  d_law_worth : FuncData
  f_law_shares : Addr
  d_law_shares : FuncData
  f_law_bad_game : Addr
  d_law_bad_game : FuncData
  f_law_bad_owners : Addr
  d_law_bad_owners : FuncData
  f_law_call : Addr
  d_law_call : FuncData
  f_law_word : Addr
  d_law_word : FuncData
  f_law_least : Addr
  d_law_least : FuncData
  f_law : Addr
  d_law : FuncData
  CM : Addr
  CF : Addr
  CR : Addr
def firstDef (s : Stmt) : Stmt := match s with
  | .ClassDef _ _ _ b _ _ _ _ _ _ _ => b.headD (.Pass ⟨0, 0, 0, 0⟩)
  | _ => .Pass ⟨0, 0, 0, 0⟩
abbrev st_Init : Stmt := firstDef (topS 3)
structure Tk (P : Program) (K : PySem.W.Frag) (mg : Str → Option Value) (base : Heap) (a : Fa) : Prop where
  F_is_whole : Fun K "is_whole" "is_whole" st_is_whole a.f_is_whole a.d_is_whole
  g_is_whole : mg "is_whole" = some (.ref a.f_is_whole)
  b_is_whole : Binds K a.d_is_whole ["value"] []
  F_common : Fun K "common" "common" st_common a.f_common a.d_common
  g_common : mg "common" = some (.ref a.f_common)
  b_common : Binds K a.d_common ["a", "b"] []
  F_lowest : Fun K "lowest" "lowest" st_lowest a.f_lowest a.d_lowest
  g_lowest : mg "lowest" = some (.ref a.f_lowest)
  b_lowest : Binds K a.d_lowest ["n", "d"] []
  F_ratio : Fun K "ratio" "ratio" st_ratio a.f_ratio a.d_ratio
  g_ratio : mg "ratio" = some (.ref a.f_ratio)
  b_ratio : Binds K a.d_ratio ["n", "d"] []
  F_is_ratio : Fun K "is_ratio" "is_ratio" st_is_ratio a.f_is_ratio a.d_is_ratio
  g_is_ratio : mg "is_ratio" = some (.ref a.f_is_ratio)
  b_is_ratio : Binds K a.d_is_ratio ["value"] []
  F_plus : Fun K "plus" "plus" st_plus a.f_plus a.d_plus
  g_plus : mg "plus" = some (.ref a.f_plus)
  b_plus : Binds K a.d_plus ["a", "b"] []
  F_minus : Fun K "minus" "minus" st_minus a.f_minus a.d_minus
  g_minus : mg "minus" = some (.ref a.f_minus)
  b_minus : Binds K a.d_minus ["a", "b"] []
  F_is_wishes : Fun K "is_wishes" "is_wishes" st_is_wishes a.f_is_wishes a.d_is_wishes
  g_is_wishes : mg "is_wishes" = some (.ref a.f_is_wishes)
  b_is_wishes : Binds K a.d_is_wishes ["value", "size"] []
  F_is_game : Fun K "is_game" "is_game" st_is_game a.f_is_game a.d_is_game
  g_is_game : mg "is_game" = some (.ref a.f_is_game)
  b_is_game : Binds K a.d_is_game ["value"] []
  F_check_game : Fun K "check_game" "check_game" st_check_game a.f_check_game a.d_check_game
  g_check_game : mg "check_game" = some (.ref a.f_check_game)
  b_check_game : Binds K a.d_check_game ["game"] []
  F_fits_owners : Fun K "fits_owners" "fits_owners" st_fits_owners a.f_fits_owners a.d_fits_owners
  g_fits_owners : mg "fits_owners" = some (.ref a.f_fits_owners)
  b_fits_owners : Binds K a.d_fits_owners ["game", "value"] []
  F_check_share : Fun K "check_share" "check_share" st_check_share a.f_check_share a.d_check_share
  g_check_share : mg "check_share" = some (.ref a.f_check_share)
  b_check_share : Binds K a.d_check_share ["game", "owners"] []
  F_parts_of : Fun K "parts_of" "parts_of" st_parts_of a.f_parts_of a.d_parts_of
  g_parts_of : mg "parts_of" = some (.ref a.f_parts_of)
  b_parts_of : Binds K a.d_parts_of ["n", "owners"] []
  F_worth : Fun K "worth" "worth" st_worth a.f_worth a.d_worth
  g_worth : mg "worth" = some (.ref a.f_worth)
  b_worth : Binds K a.d_worth ["row", "goods"] []
  F_worth_table : Fun K "worth_table" "worth_table" st_worth_table a.f_worth_table a.d_worth_table
  g_worth_table : mg "worth_table" = some (.ref a.f_worth_table)
  b_worth_table : Binds K a.d_worth_table ["game", "owners"] []
  F_check_few : Fun K "check_few" "check_few" st_check_few a.f_check_few a.d_check_few
  g_check_few : mg "check_few" = some (.ref a.f_check_few)
  b_check_few : Binds K a.d_check_few ["game"] []
  F_every_share : Fun K "every_share" "every_share" st_every_share a.f_every_share a.d_every_share
  g_every_share : mg "every_share" = some (.ref a.f_every_share)
  b_every_share : Binds K a.d_every_share ["game"] []
  F_are_payments : Fun K "are_payments" "are_payments" st_are_payments a.f_are_payments a.d_are_payments
  g_are_payments : mg "are_payments" = some (.ref a.f_are_payments)
  b_are_payments : Binds K a.d_are_payments ["game", "value"] []
  F_calm_table : Fun K "calm_table" "calm_table" st_calm_table a.f_calm_table a.d_calm_table
  g_calm_table : mg "calm_table" = some (.ref a.f_calm_table)
  b_calm_table : Binds K a.d_calm_table ["table", "payments"] []
  F_is_calm : Fun K "is_calm" "is_calm" st_is_calm a.f_is_calm a.d_is_calm
  g_is_calm : mg "is_calm" = some (.ref a.f_is_calm)
  b_is_calm : Binds K a.d_is_calm ["game", "owners", "payments"] []
  F_gaps_of : Fun K "gaps_of" "gaps_of" st_gaps_of a.f_gaps_of a.d_gaps_of
  g_gaps_of : mg "gaps_of" = some (.ref a.f_gaps_of)
  b_gaps_of : Binds K a.d_gaps_of ["table"] []
  F_longest : Fun K "longest" "longest" st_longest a.f_longest a.d_longest
  g_longest : mg "longest" = some (.ref a.f_longest)
  b_longest : Binds K a.d_longest ["gaps"] []
  F_least_payments : Fun K "least_payments" "least_payments" st_least_payments a.f_least_payments a.d_least_payments
  g_least_payments : mg "least_payments" = some (.ref a.f_least_payments)
  b_least_payments : Binds K a.d_least_payments ["game", "owners"] []
  F_cheapest : Fun K "cheapest" "cheapest" st_cheapest a.f_cheapest a.d_cheapest
  g_cheapest : mg "cheapest" = some (.ref a.f_cheapest)
  b_cheapest : Binds K a.d_cheapest ["game"] []
  F_pay_left : Fun K "pay_left" "pay_left" st_pay_left a.f_pay_left a.d_pay_left
  g_pay_left : mg "pay_left" = some (.ref a.f_pay_left)
  b_pay_left : Binds K a.d_pay_left ["game", "owners", "money"] []
  F_law_draw : Fun K "_law_draw" "_law_draw" st_law_draw a.f_law_draw a.d_law_draw
  g_law_draw : mg "_law_draw" = some (.ref a.f_law_draw)
  b_law_draw : Binds K a.d_law_draw ["script"] []
  F_law_take : Fun K "_law_take" "_law_take" st_law_take a.f_law_take a.d_law_take
  g_law_take : mg "_law_take" = some (.ref a.f_law_take)
  b_law_take : Binds K a.d_law_take ["draw", "many"] []
  F_law_fraction : Fun K "_law_fraction" "_law_fraction" st_law_fraction a.f_law_fraction a.d_law_fraction
  g_law_fraction : mg "_law_fraction" = some (.ref a.f_law_fraction)
  b_law_fraction : Binds K a.d_law_fraction ["n", "d"] []
  F_law_plus : Fun K "_law_plus" "_law_plus" st_law_plus a.f_law_plus a.d_law_plus
  g_law_plus : mg "_law_plus" = some (.ref a.f_law_plus)
  b_law_plus : Binds K a.d_law_plus ["a", "b"] []
  F_law_minus : Fun K "_law_minus" "_law_minus" st_law_minus a.f_law_minus a.d_law_minus
  g_law_minus : mg "_law_minus" = some (.ref a.f_law_minus)
  b_law_minus : Binds K a.d_law_minus ["a", "b"] []
  F_law_less : Fun K "_law_less" "_law_less" st_law_less a.f_law_less a.d_law_less
  g_law_less : mg "_law_less" = some (.ref a.f_law_less)
  b_law_less : Binds K a.d_law_less ["a", "b"] []
  F_law_sum : Fun K "_law_sum" "_law_sum" st_law_sum a.f_law_sum a.d_law_sum
  g_law_sum : mg "_law_sum" = some (.ref a.f_law_sum)
  b_law_sum : Binds K a.d_law_sum ["items"] []
  F_law_over : Fun K "_law_over" "_law_over" st_law_over a.f_law_over a.d_law_over
  g_law_over : mg "_law_over" = some (.ref a.f_law_over)
  b_law_over : Binds K a.d_law_over ["a", "b"] []
  F_law_game : Fun K "_law_game" "_law_game" st_law_game a.f_law_game a.d_law_game
  g_law_game : mg "_law_game" = some (.ref a.f_law_game)
  b_law_game : Binds K a.d_law_game ["draw", "people", "goods", "most"] []
  F_law_owners : Fun K "_law_owners" "_law_owners" st_law_owners a.f_law_owners a.d_law_owners
  g_law_owners : mg "_law_owners" = some (.ref a.f_law_owners)
  b_law_owners : Binds K a.d_law_owners ["draw", "game"] []
  F_law_worth : Fun K "_law_worth" "_law_worth" st_law_worth a.f_law_worth a.d_law_worth
  g_law_worth : mg "_law_worth" = some (.ref a.f_law_worth)
  b_law_worth : Binds K a.d_law_worth ["game", "owners", "i", "k"] []
  F_law_shares : Fun K "_law_shares" "_law_shares" st_law_shares a.f_law_shares a.d_law_shares
  g_law_shares : mg "_law_shares" = some (.ref a.f_law_shares)
  b_law_shares : Binds K a.d_law_shares ["n", "m"] []
  F_law_bad_game : Fun K "_law_bad_game" "_law_bad_game" st_law_bad_game a.f_law_bad_game a.d_law_bad_game
  g_law_bad_game : mg "_law_bad_game" = some (.ref a.f_law_bad_game)
  b_law_bad_game : Binds K a.d_law_bad_game ["draw", "game"] []
  F_law_bad_owners : Fun K "_law_bad_owners" "_law_bad_owners" st_law_bad_owners a.f_law_bad_owners a.d_law_bad_owners
  g_law_bad_owners : mg "_law_bad_owners" = some (.ref a.f_law_bad_owners)
  b_law_bad_owners : Binds K a.d_law_bad_owners ["draw", "game", "owners"] []
  F_law_call : Fun K "_law_call" "_law_call" st_law_call a.f_law_call a.d_law_call
  g_law_call : mg "_law_call" = some (.ref a.f_law_call)
  b_law_call : Binds K a.d_law_call ["call"] []
  F_law_word : Fun K "_law_word" "_law_word" st_law_word a.f_law_word a.d_law_word
  g_law_word : mg "_law_word" = some (.ref a.f_law_word)
  b_law_word : Binds K a.d_law_word ["call"] []
  F_law_least : Fun K "_law_least" "_law_least" st_law_least a.f_law_least a.d_law_least
  g_law_least : mg "_law_least" = some (.ref a.f_law_least)
  b_law_least : Binds K a.d_law_least ["game", "owners"] []
  F_law : Fun K "law" "law" st_law a.f_law a.d_law
  g_law : mg "law" = some (.ref a.f_law)
  b_law : Binds K a.d_law ["script"] []
  n_abs : mg "abs" = none
  n_all : mg "all" = none
  n_bool : mg "bool" = none
  n_enumerate : mg "enumerate" = none
  n_int : mg "int" = none
  n_isinstance : mg "isinstance" = none
  n_len : mg "len" = none
  n_list : mg "list" = none
  n_max : mg "max" = none
  n_min : mg "min" = none
  n_range : mg "range" = none
  n_sum : mg "sum" = none
  n_tuple : mg "tuple" = none
  m_MOST_GOODS : ∃ t, mg "MOST_GOODS" = some (.int 10 t)
  m_MOST_PEOPLE : ∃ t, mg "MOST_PEOPLE" = some (.int 6 t)
  m_MOST_SHARES : ∃ t, mg "MOST_SHARES" = some (.int 60000 t)
  m_MOST_WISH : ∃ t, mg "MOST_WISH" = some (.int 1000 t)
  gM : mg "Malformed" = some (.ref a.CM)
  kM : PySem.W.keepIn K (.ref a.CM) = true
  xM : PySem.W.excIn K a.CM [.type "ValueError", .type "Exception", .type "BaseException", .type "object"] "ValueError.__new__" = true
  bM : PySem.W.subIn K (.ref a.CM) (.type "BaseException") = some true
  tM : PySem.W.typeIn K (.ref a.CM) = some (.type "type")
  cM : ExcC K a.CM
  gF : mg "Fault" = some (.ref a.CF)
  gR : mg "Refused" = some (.ref a.CR)
  kMF : PySem.W.kitOne K (.ref a.CM) (.ref a.CF) = some true
  eMM : PySem.W.exmOne K (.ref a.CM) (.ref a.CM) = some true
  rR : RefT P K mg base a.CR
  wC : WordC K a.CM a.CR a.CF
section
variable {P : Program} {w : World} {K : PySem.W.Frag} {mg : Str → Option Value} {base : Heap} {a : Fa}
theorem ok_is_whole (T : Tk P K mg base a) : FnOk P w K mg base (L2.CX P w) 1 a.f_is_whole a.d_is_whole ["value"] (spF K (XRr a.CM a.CR) F_is_whole) := fn_mkX T.F_is_whole sc_is_whole rfl rfl fun cdv A outer s H E hr =>
    (fs_one (fs_ret (fe_and (fe_isi isi_int (by rfl) T.n_isinstance (by rfl) T.n_int (by decide +kernel) (fe_var (pv 0))) (fe_one (fe_not (fe_isi isi_bool (by rfl) T.n_isinstance (by rfl) T.n_bool (by decide +kernel) (fe_var (pv 0))))))))
theorem ok_common (T : Tk P K mg base a) : FnOk P w K mg base (L2.CX P w) 1 a.f_common a.d_common ["a", "b"] (spF K (XRr a.CM a.CR) F_common) := fn_mkX T.F_common sc_common rfl rfl fun cdv A outer s H E hr =>
    (fs_cons (fs_par (n := 0) (m := 1) rfl sc_common.nd rfl rfl (by decide) rfl rfl (fa_cons (fe_callB call_abs snd_abs (by rfl) T.n_abs (by decide +kernel) (fa_cons (fe_var (pv 0)) fa_nil)) (fa_cons (fe_callB call_abs snd_abs (by rfl) T.n_abs (by decide +kernel) (fa_cons (fe_var (pv 1)) fa_nil)) fa_nil)) (by rfl))
    (fs_cons (fs_while wfuel (passes_of rfl) (ft_cmp (op_neD hr.units) snd_ne (fe_var (pv 1)) fe_int (nomark _))
    (fs_one (fs_par (n := 0) (m := 1) rfl sc_common.nd rfl rfl (by decide) rfl rfl (fa_cons (fe_var (pv 1)) (fa_cons (fe_op op_modN snd_mod (fe_var (pv 0)) (fe_var (pv 1))) fa_nil)) (by rfl))))
    (fs_one (fs_ret (fe_var (pv 0))))))
theorem ok_lowest (T : Tk P K mg base a) : FnOk P w K mg base (L2.CX P w) 2 a.f_lowest a.d_lowest ["n", "d"] (spF K (XRr a.CM a.CR) F_lowest) := fn_mkX T.F_lowest sc_lowest rfl rfl fun cdv A outer s H E hr =>
    (fs_cons (fs_set (i := 2) sc_lowest.nd rfl (.inl rfl) (fe_call (ok_common T) (hr.mono (by decide)) (by rfl) T.g_common T.F_common.kp T.b_common (passes_call (takes_of rfl rfl rfl rfl) (fun _ _ _ _ h => h)) (fa_cons (fe_var (pv 0)) (fa_cons (fe_var (pv 1)) fa_nil))))
    (fs_cons (fs_if (ft_cmp op_lt snd_lt (fe_var (pv 1)) fe_int (nomark _)) (fs_one (fs_set (i := 2) sc_lowest.nd rfl (.inl rfl) (fe_neg (fe_var (pv 2))))) fs_nil)
    (fs_one (fs_ret (fe_tup (fa_cons (fe_op op_divA snd_div (fe_var (pv 0)) (fe_var (pv 2))) (fa_cons (fe_op op_divA snd_div (fe_var (pv 1)) (fe_var (pv 2))) fa_nil)))))))
theorem ok_ratio (T : Tk P K mg base a) : FnOk P w K mg base (L2.CX P w) 3 a.f_ratio a.d_ratio ["n", "d"] (spF K (XRr a.CM a.CR) F_ratio) := fn_mkX T.F_ratio sc_ratio rfl rfl fun cdv A outer s H E hr =>
    (fs_cons (fs_if (PW.pt (fw_or (ft_not (ft_val (fe_call (ok_is_whole T) (hr.mono (by decide)) (by rfl) T.g_is_whole T.F_is_whole.kp T.b_is_whole (passes_call (takes_of rfl rfl rfl rfl) (fun _ _ _ _ h => h)) (fa_cons (fe_var (pv 0)) fa_nil)))) (fw_or (ft_not (ft_val (fe_call (ok_is_whole T) (hr.mono (by decide)) (by rfl) T.g_is_whole T.F_is_whole.kp T.b_is_whole (passes_call (takes_of rfl rfl rfl rfl) (fun _ _ _ _ h => h)) (fa_cons (fe_var (pv 1)) fa_nil)))) (fw_or1 (ft_cmp (op_eqD hr.units) snd_eq (fe_var (pv 1)) fe_int (nomark _)))))) (fs_one (fs_raise (ps_raise rfl (takes_of rfl rfl rfl rfl) (pmk_own PySem.F.excBase_ValueError T.xM T.gM T.kM (raises_own T.bM T.tM) (by rfl))) (fun _ _ _ h => h) (fun _ => ⟨rfl, rfl⟩))) fs_nil)
    (fs_one (fs_ret (fe_call (ok_lowest T) (hr.mono (by decide)) (by rfl) T.g_lowest T.F_lowest.kp T.b_lowest (passes_call (takes_of rfl rfl rfl rfl) (fun _ _ _ _ h => h)) (fa_cons (fe_var (pv 0)) (fa_cons (fe_var (pv 1)) fa_nil))))))
theorem ok_is_ratio (T : Tk P K mg base a) : FnOk P w K mg base (L2.CX P w) 2 a.f_is_ratio a.d_is_ratio ["value"] (spF K (XRr a.CM a.CR) F_is_ratio) := fn_mkX T.F_is_ratio sc_is_ratio rfl rfl fun cdv A outer s H E hr =>
    (fs_cons (fs_if (PW.pt (fw_or (ft_not (ft_val (fe_isi isi_tuple (by rfl) T.n_isinstance (by rfl) T.n_tuple (by decide +kernel) (fe_var (pv 0))))) (fw_or (ft_cmp (op_neD hr.units) snd_ne (fe_callB call_lenA snd_len (by rfl) T.n_len (by decide +kernel) (fa_cons (fe_var (pv 0)) fa_nil)) fe_int (nomark _)) (fw_or (ft_not (ft_val (fe_call (ok_is_whole T) (hr.mono (by decide)) (by rfl) T.g_is_whole T.F_is_whole.kp T.b_is_whole (passes_call (takes_of rfl rfl rfl rfl) (fun _ _ _ _ h => h)) (fa_cons (fe_idx (fe_var (pv 0)) fe_int) fa_nil)))) (fw_or1 (ft_not (ft_val (fe_call (ok_is_whole T) (hr.mono (by decide)) (by rfl) T.g_is_whole T.F_is_whole.kp T.b_is_whole (passes_call (takes_of rfl rfl rfl rfl) (fun _ _ _ _ h => h)) (fa_cons (fe_idx (fe_var (pv 0)) fe_int) fa_nil))))))))) (fs_one (fs_ret fe_bl)) fs_nil)
    (fs_one (fs_ret (fe_and (fe_cmp op_gt snd_gt (fe_idx (fe_var (pv 0)) fe_int) fe_int (nomark _)) (fe_one (fe_cmp (op_eqD hr.units) snd_eq (fe_call (ok_common T) (hr.mono (by decide)) (by rfl) T.g_common T.F_common.kp T.b_common (passes_call (takes_of rfl rfl rfl rfl) (fun _ _ _ _ h => h)) (fa_cons (fe_idx (fe_var (pv 0)) fe_int) (fa_cons (fe_idx (fe_var (pv 0)) fe_int) fa_nil))) fe_int (nomark _)))))))
theorem ok_plus (T : Tk P K mg base a) : FnOk P w K mg base (L2.CX P w) 3 a.f_plus a.d_plus ["a", "b"] (spF K (XRr a.CM a.CR) F_plus) := fn_mkX T.F_plus sc_plus rfl rfl fun cdv A outer s H E hr =>
    (fs_one (fs_ret (fe_call (ok_lowest T) (hr.mono (by decide)) (by rfl) T.g_lowest T.F_lowest.kp T.b_lowest (passes_call (takes_of rfl rfl rfl rfl) (fun _ _ _ _ h => h)) (fa_cons (fe_op op_addA snd_add (fe_op op_mulA snd_mul (fe_idx (fe_var (pv 0)) fe_int) (fe_idx (fe_var (pv 1)) fe_int)) (fe_op op_mulA snd_mul (fe_idx (fe_var (pv 1)) fe_int) (fe_idx (fe_var (pv 0)) fe_int))) (fa_cons (fe_op op_mulA snd_mul (fe_idx (fe_var (pv 0)) fe_int) (fe_idx (fe_var (pv 1)) fe_int)) fa_nil)))))
theorem ok_minus (T : Tk P K mg base a) : FnOk P w K mg base (L2.CX P w) 3 a.f_minus a.d_minus ["a", "b"] (spF K (XRr a.CM a.CR) F_minus) := fn_mkX T.F_minus sc_minus rfl rfl fun cdv A outer s H E hr =>
    (fs_one (fs_ret (fe_call (ok_lowest T) (hr.mono (by decide)) (by rfl) T.g_lowest T.F_lowest.kp T.b_lowest (passes_call (takes_of rfl rfl rfl rfl) (fun _ _ _ _ h => h)) (fa_cons (fe_op op_sub snd_sub (fe_op op_mulA snd_mul (fe_idx (fe_var (pv 0)) fe_int) (fe_idx (fe_var (pv 1)) fe_int)) (fe_op op_mulA snd_mul (fe_idx (fe_var (pv 1)) fe_int) (fe_idx (fe_var (pv 0)) fe_int))) (fa_cons (fe_op op_mulA snd_mul (fe_idx (fe_var (pv 0)) fe_int) (fe_idx (fe_var (pv 1)) fe_int)) fa_nil)))))
theorem ok_is_wishes (T : Tk P K mg base a) : FnOk P w K mg base (L2.CX P w) 2 a.f_is_wishes a.d_is_wishes ["value", "size"] (spF K (XRr a.CM a.CR) F_is_wishes) := fn_mkX T.F_is_wishes sc_is_wishes rfl rfl fun cdv A outer s H E hr =>
    (fs_cons (fs_if (PW.pt (fw_or (ft_not (ft_val (fe_isi isi_tuple (by rfl) T.n_isinstance (by rfl) T.n_tuple (by decide +kernel) (fe_var (pv 0))))) (fw_or1 (ft_cmp (op_neD hr.units) snd_ne (fe_callB call_lenA snd_len (by rfl) T.n_len (by decide +kernel) (fa_cons (fe_var (pv 0)) fa_nil)) (fe_var (pv 1)) (nomark _))))) (fs_one (fs_ret fe_bl)) fs_nil)
    (fs_one (fs_ret (fe_callB (cr_all rfl) snd_all (by rfl) T.n_all (by decide +kernel) (fa_cons (fe_lc (own := [("item", 2)]) rfl sc_is_wishes.nd (fi_seq (fe_var (pv 0))) (blkOk_by (own := [("item", 2)]) (N := ["value", "size", "item"]) (sc := defScope st_is_wishes) (by decide +kernel)) (fun _ h => h) (fun _ _ _ _ _ => (fg_name (pg_name (i := 2) sc_is_wishes.nd rfl (.inl rfl)))) (fun _ _ _ _ _ => fts_nil) (fun _ _ _ _ _ => (fe_and (fe_call (ok_is_whole T) (hr.mono (by decide)) (by rfl) T.g_is_whole T.F_is_whole.kp T.b_is_whole passL (fa_cons (fe_var (pv 2)) fa_nil)) (fe_one (fe_chain op_le snd_le op_le snd_le fe_int (fe_var (pv 2)) (fe_c (pe_globI (by rfl) T.m_MOST_WISH) (fun _ => .int 1000))))))) fa_nil)))))
theorem ok_is_game (T : Tk P K mg base a) : FnOk P w K mg base (L2.CX P w) 3 a.f_is_game a.d_is_game ["value"] (spF K (XRr a.CM a.CR) F_is_game) := fn_mkX T.F_is_game sc_is_game rfl rfl fun cdv A outer s H E hr =>
    (fs_cons (fs_if (PW.pt (fw_or (ft_not (ft_val (fe_isi isi_tuple (by rfl) T.n_isinstance (by rfl) T.n_tuple (by decide +kernel) (fe_var (pv 0))))) (fw_or (ft_not (ft_chain op_le snd_le op_le snd_le fe_int (fe_callB call_lenA snd_len (by rfl) T.n_len (by decide +kernel) (fa_cons (fe_var (pv 0)) fa_nil)) (fe_c (pe_globI (by rfl) T.m_MOST_PEOPLE) (fun _ => .int 6)))) (fw_or1 (ft_not (ft_val (fe_isi isi_tuple (by rfl) T.n_isinstance (by rfl) T.n_tuple (by decide +kernel) (fe_idx (fe_var (pv 0)) fe_int)))))))) (fs_one (fs_ret fe_bl)) fs_nil)
    (fs_one (fs_ret (fe_and (fe_chain op_le snd_le op_le snd_le fe_int (fe_callB call_lenA snd_len (by rfl) T.n_len (by decide +kernel) (fa_cons (fe_idx (fe_var (pv 0)) fe_int) fa_nil)) (fe_c (pe_globI (by rfl) T.m_MOST_GOODS) (fun _ => .int 10))) (fe_one (fe_callB (cr_all rfl) snd_all (by rfl) T.n_all (by decide +kernel) (fa_cons (fe_lc (own := [("row", 1)]) rfl sc_is_game.nd (fi_seq (fe_var (pv 0))) (blkOk_by (own := [("row", 1)]) (N := ["value", "row"]) (sc := defScope st_is_game) (by decide +kernel)) (fun _ h => h) (fun _ _ _ _ _ => (fg_name (pg_name (i := 1) sc_is_game.nd rfl (.inl rfl)))) (fun _ _ _ _ _ => fts_nil) (fun _ _ _ _ _ => (fe_call (ok_is_wishes T) (hr.mono (by decide)) (by rfl) T.g_is_wishes T.F_is_wishes.kp T.b_is_wishes passL (fa_cons (fe_var (pv 1)) (fa_cons (fe_callB call_lenA snd_len (by rfl) T.n_len (by decide +kernel) (fa_cons (fe_idx (fe_var (pv 0)) fe_int) fa_nil)) fa_nil))))) fa_nil)))))))
theorem ok_check_game (T : Tk P K mg base a) : FnOk P w K mg base (L2.CX P w) 4 a.f_check_game a.d_check_game ["game"] (spF K (XRr a.CM a.CR) F_check_game) := fn_mkX T.F_check_game sc_check_game rfl rfl fun cdv A outer s H E hr =>
    (fs_one (fs_if (ft_not (ft_val (fe_call (ok_is_game T) (hr.mono (by decide)) (by rfl) T.g_is_game T.F_is_game.kp T.b_is_game (passes_call (takes_of rfl rfl rfl rfl) (fun _ _ _ _ h => h)) (fa_cons (fe_var (pv 0)) fa_nil)))) (fs_one (fs_raise (ps_raise rfl (takes_of rfl rfl rfl rfl) (pmk_own PySem.F.excBase_ValueError T.xM T.gM T.kM (raises_own T.bM T.tM) (by rfl))) (fun _ _ _ h => h) (fun _ => ⟨rfl, rfl⟩))) fs_nil))
theorem ok_fits_owners (T : Tk P K mg base a) : FnOk P w K mg base (L2.CX P w) 2 a.f_fits_owners a.d_fits_owners ["game", "value"] (spF K (XRr a.CM a.CR) F_fits_owners) := fn_mkX T.F_fits_owners sc_fits_owners rfl rfl fun cdv A outer s H E hr =>
    (fs_cons (fs_if (PW.pt (fw_or (ft_not (ft_val (fe_isi isi_tuple (by rfl) T.n_isinstance (by rfl) T.n_tuple (by decide +kernel) (fe_var (pv 1))))) (fw_or1 (ft_cmp (op_neD hr.units) snd_ne (fe_callB call_lenA snd_len (by rfl) T.n_len (by decide +kernel) (fa_cons (fe_var (pv 1)) fa_nil)) (fe_callB call_lenA snd_len (by rfl) T.n_len (by decide +kernel) (fa_cons (fe_idx (fe_var (pv 0)) fe_int) fa_nil)) (nomark _))))) (fs_one (fs_ret fe_bl)) fs_nil)
    (fs_one (fs_ret (fe_callB (cr_all rfl) snd_all (by rfl) T.n_all (by decide +kernel) (fa_cons (fe_lc (own := [("owner", 2)]) rfl sc_fits_owners.nd (fi_seq (fe_var (pv 1))) (blkOk_by (own := [("owner", 2)]) (N := ["game", "value", "owner"]) (sc := defScope st_fits_owners) (by decide +kernel)) (fun _ h => h) (fun _ _ _ _ _ => (fg_name (pg_name (i := 2) sc_fits_owners.nd rfl (.inl rfl)))) (fun _ _ _ _ _ => fts_nil) (fun _ _ _ _ _ => (fe_and (fe_call (ok_is_whole T) (hr.mono (by decide)) (by rfl) T.g_is_whole T.F_is_whole.kp T.b_is_whole passL (fa_cons (fe_var (pv 2)) fa_nil)) (fe_one (fe_chain op_le snd_le op_lt snd_lt fe_int (fe_var (pv 2)) (fe_callB call_lenA snd_len (by rfl) T.n_len (by decide +kernel) (fa_cons (fe_var (pv 0)) fa_nil))))))) fa_nil)))))
theorem ok_check_share (T : Tk P K mg base a) : FnOk P w K mg base (L2.CX P w) 5 a.f_check_share a.d_check_share ["game", "owners"] (spF K (XRr a.CM a.CR) F_check_share) := fn_mkX T.F_check_share sc_check_share rfl rfl fun cdv A outer s H E hr =>
    (fs_cons (fs_expr (fe_call (ok_check_game T) (hr.mono (by decide)) (by rfl) T.g_check_game T.F_check_game.kp T.b_check_game (passes_call (takes_of rfl rfl rfl rfl) (fun _ _ _ _ h => h)) (fa_cons (fe_var (pv 0)) fa_nil)))
    (fs_one (fs_if (ft_not (ft_val (fe_call (ok_fits_owners T) (hr.mono (by decide)) (by rfl) T.g_fits_owners T.F_fits_owners.kp T.b_fits_owners (passes_call (takes_of rfl rfl rfl rfl) (fun _ _ _ _ h => h)) (fa_cons (fe_var (pv 0)) (fa_cons (fe_var (pv 1)) fa_nil))))) (fs_one (fs_raise (ps_raise rfl (takes_of rfl rfl rfl rfl) (pmk_own PySem.F.excBase_ValueError T.xM T.gM T.kM (raises_own T.bM T.tM) (by rfl))) (fun _ _ _ h => h) (fun _ => ⟨rfl, rfl⟩))) fs_nil)))
theorem ok_parts_of (T : Tk P K mg base a) : FnOk P w K mg base (L2.CX P w) 1 a.f_parts_of a.d_parts_of ["n", "owners"] (spF K (XRr a.CM a.CR) F_parts_of) := fn_mkX T.F_parts_of sc_parts_of rfl rfl fun cdv A outer s H E hr =>
    (fs_cons (fs_setLc (own := [("_", 3)]) (i := 2) rfl sc_parts_of.nd rfl rfl (sw_true rfl rfl rfl (by decide +kernel)) (fi_rg1 (by rfl) T.n_range (fe_var (pv 0))) (blkOk_by (own := [("_", 3)]) (N := ["n", "owners", "found", "_", "good", "owner"]) (sc := defScope st_parts_of) (by decide +kernel)) (fun _ h => h) (fun _ _ _ _ _ => (fg_name (pg_name (i := 3) sc_parts_of.nd rfl (.inl rfl)))) (fun _ _ _ _ _ => fts_nil) (fun _ _ _ _ _ => (fe_tup fa_nil)))
    (fs_cons (fs_for (passes_of rfl) rfl (fi_enum (by rfl) T.n_enumerate (fe_var (pv 1))) (fg_tup rfl (fgs_cons (fg_name (pg_name (i := 4) sc_parts_of.nd rfl (.inl rfl))) (fgs_cons (fg_name (pg_name (i := 5) sc_parts_of.nd rfl (.inl rfl))) fgs_nil)))
    (fs_one (fs_setItem (fe_op op_addA snd_add (fe_idx (fe_var (pv 2)) (fe_var (pv 5))) (fe_tup (fa_cons (fe_var (pv 4)) fa_nil))) (fe_var (pv 2)) (fe_var (pv 5)))))
    (fs_one (fs_ret (fe_var (pv 2))))))
theorem ok_worth (T : Tk P K mg base a) : FnOk P w K mg base (L2.CX P w) 1 a.f_worth a.d_worth ["row", "goods"] (spF K (XRr a.CM a.CR) F_worth) := fn_mkX T.F_worth sc_worth rfl rfl fun cdv A outer s H E hr =>
    (fs_one (fs_ret (fe_callB (cr_sumA rfl) snd_sum (by rfl) T.n_sum (by decide +kernel) (fa_cons (fe_lc (own := [("good", 2)]) rfl sc_worth.nd (fi_seq (fe_var (pv 1))) (blkOk_by (own := [("good", 2)]) (N := ["row", "goods", "good"]) (sc := defScope st_worth) (by decide +kernel)) (fun _ h => h) (fun _ _ _ _ _ => (fg_name (pg_name (i := 2) sc_worth.nd rfl (.inl rfl)))) (fun _ _ _ _ _ => fts_nil) (fun _ _ _ _ _ => (fe_idx (fe_var (pv 0)) (fe_var (pv 2))))) fa_nil))))
theorem ok_worth_table (T : Tk P K mg base a) : FnOk P w K mg base (L2.CX P w) 2 a.f_worth_table a.d_worth_table ["game", "owners"] (spF K (XRr a.CM a.CR) F_worth_table) := fn_mkX T.F_worth_table sc_worth_table rfl rfl fun cdv A outer s H E hr =>
    (fs_cons (fs_set (i := 2) sc_worth_table.nd rfl (.inr rfl) (fe_call (ok_parts_of T) (hr.mono (by decide)) (by rfl) T.g_parts_of T.F_parts_of.kp T.b_parts_of (passes_call (takes_of rfl rfl rfl rfl) (fun _ _ _ _ h => h)) (fa_cons (fe_callB call_lenA snd_len (by rfl) T.n_len (by decide +kernel) (fa_cons (fe_var (pv 0)) fa_nil)) (fa_cons (fe_var (pv 1)) fa_nil))))
    (fs_one (fs_ret (fe_lc (own := [("row", 4)]) rfl sc_worth_table.nd (fi_seq (fe_var (pv 0))) (blkOk_by (own := [("row", 4)]) (N := ["game", "owners", "parts", "part", "row"]) (sc := defScope st_worth_table) (by decide +kernel)) (fun _ h => h) (fun _ _ _ _ _ => (fg_name (pg_name (i := 4) sc_worth_table.nd rfl (by first | exact .inl rfl | exact .inr rfl)))) (fun _ _ _ _ _ => fts_nil) (fun _ _ _ _ _ => (fe_lc (own := [("part", 3)]) rfl sc_worth_table.nd (fi_seq (fe_var (pv 2))) (blkOk_by (own := [("part", 3)]) (N := ["game", "owners", "parts", "part", "row"]) (by rfl)) (fun _ h => h) (fun _ _ _ _ _ => (fg_name (pg_name (i := 3) sc_worth_table.nd rfl (.inl rfl)))) (fun _ _ _ _ _ => fts_nil) (fun _ _ _ _ _ => (fe_call (ok_worth T) (hr.mono (by decide)) (by rfl) T.g_worth T.F_worth.kp T.b_worth passL (fa_cons (fe_var (pv 4)) (fa_cons (fe_var (pv 3)) fa_nil))))))))))
theorem ok_check_few (T : Tk P K mg base a) : FnOk P w K mg base (L2.CX P w) 3 a.f_check_few a.d_check_few ["game"] (spF K (XRr a.CM a.CR) F_check_few) := fn_mkX T.F_check_few sc_check_few rfl rfl fun cdv A outer s H E hr =>
    (fs_cons (fs_set (i := 1) sc_check_few.nd rfl (.inl rfl) fe_int)
    (fs_cons (fs_for (passes_of rfl) rfl (fi_seq (fe_idx (fe_var (pv 0)) fe_int)) (fg_name (pg_name (i := 2) sc_check_few.nd rfl (.inl rfl)))
    (fs_kl (vs := [2]) (fs_one (fs_augM (i := 1) sc_check_few.nd rfl (.inl rfl) (fe_callB call_lenA snd_len (by rfl) T.n_len (by decide +kernel) (fa_cons (fe_var (pv 0)) fa_nil))))))
    (fs_one (fs_if (ft_cmp op_gt snd_gt (fe_var (pv 1)) (fe_c (pe_globI (by rfl) T.m_MOST_SHARES) (fun _ => .int 60000)) (nomark _)) (fs_one (fs_raiseR (z := "large") T.rR hr (by decide) rfl (takes_of rfl rfl rfl rfl) (by rfl))) fs_nil))))
theorem ok_every_share (T : Tk P K mg base a) : FnOk P w K mg base (L2.CX P w) 1 a.f_every_share a.d_every_share ["game"] (spF K (XRr a.CM a.CR) F_every_share) := fn_mkX T.F_every_share sc_every_share rfl rfl fun cdv A outer s H E hr =>
    (fs_cons (fs_set (i := 1) sc_every_share.nd rfl (.inl rfl) (fe_lst (fa_cons (fe_tup fa_nil) fa_nil)))
    (fs_cons (fs_for (passes_of rfl) rfl (fi_seq (fe_idx (fe_var (pv 0)) fe_int)) (fg_name (pg_name (i := 2) sc_every_share.nd rfl (.inl rfl)))
    (fs_kl (vs := [2]) (fs_one (fs_setLc2 (own := [("share", 3), ("i", 4)]) (i := 1) rfl sc_every_share.nd rfl rfl (sw_true rfl rfl rfl (by decide +kernel)) (fi_seq (fe_var (pv 1))) (blkOk_by (own := [("share", 3), ("i", 4)]) (N := ["game", "found", "_", "share", "i"]) (sc := defScope st_every_share) (by decide +kernel)) (by decide) (fun _ h => h) (vs1 := [4]) (by decide) (fun _ _ _ _ _ => (fg_name (pg_name (i := 3) sc_every_share.nd rfl (.inl rfl)))) (fun _ _ _ _ _ => fts_nil) (fun _ _ _ _ _ => (fu_rg1 (by rfl) T.n_range (fe_callB call_lenA snd_len (by rfl) T.n_len (by decide +kernel) (fa_cons (fe_var (pv 0)) fa_nil)))) (fun _ _ _ _ _ => (fg_name (pg_name (i := 4) sc_every_share.nd rfl (.inl rfl)))) (fun _ _ _ _ _ => fts_nil) (fun _ _ _ _ _ => (fe_op op_addA snd_add (fe_var (pv 3)) (fe_tup (fa_cons (fe_var (pv 4)) fa_nil))))))))
    (fs_one (fs_ret (fe_var (pv 1))))))
theorem ok_are_payments (T : Tk P K mg base a) : FnOk P w K mg base (L2.CX P w) 3 a.f_are_payments a.d_are_payments ["game", "value"] (spF K (XRr a.CM a.CR) F_are_payments) := fn_mkX T.F_are_payments sc_are_payments rfl rfl fun cdv A outer s H E hr =>
    (fs_cons (fs_if (PW.pt (fw_or (ft_not (ft_val (fe_isi isi_tuple (by rfl) T.n_isinstance (by rfl) T.n_tuple (by decide +kernel) (fe_var (pv 1))))) (fw_or1 (ft_cmp (op_neD hr.units) snd_ne (fe_callB call_lenA snd_len (by rfl) T.n_len (by decide +kernel) (fa_cons (fe_var (pv 1)) fa_nil)) (fe_callB call_lenA snd_len (by rfl) T.n_len (by decide +kernel) (fa_cons (fe_var (pv 0)) fa_nil)) (nomark _))))) (fs_one (fs_ret fe_bl)) fs_nil)
    (fs_one (fs_ret (fe_callB (cr_all rfl) snd_all (by rfl) T.n_all (by decide +kernel) (fa_cons (fe_lc (own := [("item", 2)]) rfl sc_are_payments.nd (fi_seq (fe_var (pv 1))) (blkOk_by (own := [("item", 2)]) (N := ["game", "value", "item"]) (sc := defScope st_are_payments) (by decide +kernel)) (fun _ h => h) (fun _ _ _ _ _ => (fg_name (pg_name (i := 2) sc_are_payments.nd rfl (.inl rfl)))) (fun _ _ _ _ _ => fts_nil) (fun _ _ _ _ _ => (fe_and (fe_call (ok_is_ratio T) (hr.mono (by decide)) (by rfl) T.g_is_ratio T.F_is_ratio.kp T.b_is_ratio passL (fa_cons (fe_var (pv 2)) fa_nil)) (fe_one (fe_cmp op_ge snd_ge (fe_idx (fe_var (pv 2)) fe_int) fe_int (nomark _)))))) fa_nil)))))
theorem ok_calm_table (T : Tk P K mg base a) : FnOk P w K mg base (L2.CX P w) 4 a.f_calm_table a.d_calm_table ["table", "payments"] (spF K (XRr a.CM a.CR) F_calm_table) := fn_mkX T.F_calm_table sc_calm_table rfl rfl fun cdv A outer s H E hr =>
    (fs_cons (fs_for (passes_of rfl) rfl (fi_enum (by rfl) T.n_enumerate (fe_var (pv 0))) (fg_tup rfl (fgs_cons (fg_name (pg_name (i := 2) sc_calm_table.nd rfl (.inl rfl))) (fgs_cons (fg_name (pg_name (i := 3) sc_calm_table.nd rfl (.inl rfl))) fgs_nil)))
    (fs_kl (vs := [2, 3, 4, 5, 6]) (fs_cons (fs_set (i := 4) sc_calm_table.nd rfl (.inl rfl) (fe_call (ok_plus T) (hr.mono (by decide)) (by rfl) T.g_plus T.F_plus.kp T.b_plus (passes_call (takes_of rfl rfl rfl rfl) (fun _ _ _ _ h => h)) (fa_cons (fe_tup (fa_cons (fe_idx (fe_var (pv 3)) (fe_var (pv 2))) (fa_cons fe_int fa_nil))) (fa_cons (fe_idx (fe_var (pv 1)) (fe_var (pv 2))) fa_nil))))
    (fs_one (fs_for (passes_of rfl) rfl (fi_enum (by rfl) T.n_enumerate (fe_var (pv 3))) (fg_tup rfl (fgs_cons (fg_name (pg_name (i := 5) sc_calm_table.nd rfl (.inl rfl))) (fgs_cons (fg_name (pg_name (i := 6) sc_calm_table.nd rfl (.inl rfl))) fgs_nil)))
    (fs_kl (vs := [5, 6]) (fs_one (fs_if (ft_cmp op_lt snd_lt (fe_idx (fe_call (ok_minus T) (hr.mono (by decide)) (by rfl) T.g_minus T.F_minus.kp T.b_minus (passes_call (takes_of rfl rfl rfl rfl) (fun _ _ _ _ h => h)) (fa_cons (fe_var (pv 4)) (fa_cons (fe_call (ok_plus T) (hr.mono (by decide)) (by rfl) T.g_plus T.F_plus.kp T.b_plus (passes_call (takes_of rfl rfl rfl rfl) (fun _ _ _ _ h => h)) (fa_cons (fe_tup (fa_cons (fe_var (pv 6)) (fa_cons fe_int fa_nil))) (fa_cons (fe_idx (fe_var (pv 1)) (fe_var (pv 5))) fa_nil))) fa_nil))) fe_int) fe_int (nomark _)) (fs_one (fs_ret fe_bl)) fs_nil))))))))
    (fs_one (fs_ret fe_bl)))
theorem ok_is_calm (T : Tk P K mg base a) : FnOk P w K mg base (L2.CX P w) 6 a.f_is_calm a.d_is_calm ["game", "owners", "payments"] (spF K (XRr a.CM a.CR) F_is_calm) := fn_mkX T.F_is_calm sc_is_calm rfl rfl fun cdv A outer s H E hr =>
    (fs_cons (fs_expr (fe_call (ok_check_share T) (hr.mono (by decide)) (by rfl) T.g_check_share T.F_check_share.kp T.b_check_share (passes_call (takes_of rfl rfl rfl rfl) (fun _ _ _ _ h => h)) (fa_cons (fe_var (pv 0)) (fa_cons (fe_var (pv 1)) fa_nil))))
    (fs_cons (fs_if (ft_not (ft_val (fe_call (ok_are_payments T) (hr.mono (by decide)) (by rfl) T.g_are_payments T.F_are_payments.kp T.b_are_payments (passes_call (takes_of rfl rfl rfl rfl) (fun _ _ _ _ h => h)) (fa_cons (fe_var (pv 0)) (fa_cons (fe_var (pv 2)) fa_nil))))) (fs_one (fs_raise (ps_raise rfl (takes_of rfl rfl rfl rfl) (pmk_own PySem.F.excBase_ValueError T.xM T.gM T.kM (raises_own T.bM T.tM) (by rfl))) (fun _ _ _ h => h) (fun _ => ⟨rfl, rfl⟩))) fs_nil)
    (fs_one (fs_ret (fe_call (ok_calm_table T) (hr.mono (by decide)) (by rfl) T.g_calm_table T.F_calm_table.kp T.b_calm_table (passes_call (takes_of rfl rfl rfl rfl) (fun _ _ _ _ h => h)) (fa_cons (fe_call (ok_worth_table T) (hr.mono (by decide)) (by rfl) T.g_worth_table T.F_worth_table.kp T.b_worth_table (passes_call (takes_of rfl rfl rfl rfl) (fun _ _ _ _ h => h)) (fa_cons (fe_var (pv 0)) (fa_cons (fe_var (pv 1)) fa_nil))) (fa_cons (fe_var (pv 2)) fa_nil)))))))
theorem ok_gaps_of (T : Tk P K mg base a) : FnOk P w K mg base (L2.CX P w) 1 a.f_gaps_of a.d_gaps_of ["table"] (spF K (XRr a.CM a.CR) F_gaps_of) := fn_mkX T.F_gaps_of sc_gaps_of rfl rfl fun cdv A outer s H E hr =>
    (fs_one (fs_ret (fe_lc (own := [("i", 2), ("row", 3)]) rfl sc_gaps_of.nd (fi_enum (by rfl) T.n_enumerate (fe_var (pv 0))) (blkOk_by (own := [("i", 2), ("row", 3)]) (N := ["table", "worth", "i", "row"]) (sc := defScope st_gaps_of) (by decide +kernel)) (fun _ h => h) (fun _ _ _ _ _ => (fg_tup rfl (fgs_cons (fg_name (pg_name (i := 2) sc_gaps_of.nd rfl (by first | exact .inl rfl | exact .inr rfl))) (fgs_cons (fg_name (pg_name (i := 3) sc_gaps_of.nd rfl (by first | exact .inl rfl | exact .inr rfl))) fgs_nil)))) (fun _ _ _ _ _ => fts_nil) (fun _ _ _ _ _ => (fe_lc (own := [("worth", 1)]) rfl sc_gaps_of.nd (fi_seq (fe_var (pv 3))) (blkOk_by (own := [("worth", 1)]) (N := ["table", "worth", "i", "row"]) (by rfl)) (fun _ h => h) (fun _ _ _ _ _ => (fg_name (pg_name (i := 1) sc_gaps_of.nd rfl (.inl rfl)))) (fun _ _ _ _ _ => fts_nil) (fun _ _ _ _ _ => (fe_op op_sub snd_sub (fe_var (pv 1)) (fe_idx (fe_var (pv 3)) (fe_var (pv 2))))))))))
theorem ok_longest (T : Tk P K mg base a) : FnOk P w K mg base (L2.CX P w) 1 a.f_longest a.d_longest ["gaps"] (spF K (XRr a.CM a.CR) F_longest) := fn_mkX T.F_longest sc_longest rfl rfl fun cdv A outer s H E hr =>
    (fs_cons (fs_set (i := 1) sc_longest.nd rfl (.inl rfl) (fe_callB call_lenA snd_len (by rfl) T.n_len (by decide +kernel) (fa_cons (fe_var (pv 0)) fa_nil)))
    (fs_cons (fs_set (i := 2) sc_longest.nd rfl (.inl rfl) (fe_op op_mulA snd_mul (fe_lst (fa_cons fe_int fa_nil)) (fe_var (pv 1))))
    (fs_cons (fs_for (passes_of rfl) rfl (fi_rg1 (by rfl) T.n_range (fe_var (pv 1))) (fg_name (pg_name (i := 3) sc_longest.nd rfl (.inl rfl)))
    (fs_kl (vs := [3, 4, 5, 6]) (fs_cons (fs_set (i := 4) sc_longest.nd rfl (.inl rfl) (fe_callTy call_list_of snd_list (by rfl) T.n_list (by decide +kernel) (fa_cons (fe_var (pv 2)) fa_nil)))
    (fs_cons (fs_for (passes_of rfl) rfl (fi_rg1 (by rfl) T.n_range (fe_var (pv 1))) (fg_name (pg_name (i := 5) sc_longest.nd rfl (.inl rfl)))
    (fs_kl (vs := [5, 6]) (fs_one (fs_for (passes_of rfl) rfl (fi_rg1 (by rfl) T.n_range (fe_var (pv 1))) (fg_name (pg_name (i := 6) sc_longest.nd rfl (.inl rfl)))
    (fs_kl (vs := [6]) (fs_one (fs_if (PW.pt (fw_and (ft_cmp (op_neD hr.units) snd_ne (fe_var (pv 5)) (fe_var (pv 6)) (nomark _)) (fw_and1 (ft_cmp op_gt snd_gt (fe_op op_addA snd_add (fe_idx (fe_idx (fe_var (pv 0)) (fe_var (pv 5))) (fe_var (pv 6))) (fe_idx (fe_var (pv 2)) (fe_var (pv 6)))) (fe_idx (fe_var (pv 4)) (fe_var (pv 5))) (nomark _))))) (fs_one (fs_setItem (fe_op op_addA snd_add (fe_idx (fe_idx (fe_var (pv 0)) (fe_var (pv 5))) (fe_var (pv 6))) (fe_idx (fe_var (pv 2)) (fe_var (pv 6)))) (fe_var (pv 4)) (fe_var (pv 5)))) fs_nil)))))))
    (fs_cons (fs_if (ft_cmp (op_eqD hr.units) snd_eq (fe_var (pv 4)) (fe_var (pv 2)) (nomark _)) (fs_one (fs_ret (fe_var (pv 2)))) fs_nil)
    (fs_one (fs_set (i := 2) sc_longest.nd rfl (.inl rfl) (fe_var (pv 4)))))))))
    (fs_one (fs_ret fe_non)))))
theorem ok_least_payments (T : Tk P K mg base a) : FnOk P w K mg base (L2.CX P w) 6 a.f_least_payments a.d_least_payments ["game", "owners"] (spF K (XRr a.CM a.CR) F_least_payments) := fn_mkX T.F_least_payments sc_least_payments rfl rfl fun cdv A outer s H E hr =>
    (fs_cons (fs_expr (fe_call (ok_check_share T) (hr.mono (by decide)) (by rfl) T.g_check_share T.F_check_share.kp T.b_check_share (passes_call (takes_of rfl rfl rfl rfl) (fun _ _ _ _ h => h)) (fa_cons (fe_var (pv 0)) (fa_cons (fe_var (pv 1)) fa_nil))))
    (fs_cons (fs_set (i := 2) sc_least_payments.nd rfl (.inl rfl) (fe_call (ok_longest T) (hr.mono (by decide)) (by rfl) T.g_longest T.F_longest.kp T.b_longest (passes_call (takes_of rfl rfl rfl rfl) (fun _ _ _ _ h => h)) (fa_cons (fe_call (ok_gaps_of T) (hr.mono (by decide)) (by rfl) T.g_gaps_of T.F_gaps_of.kp T.b_gaps_of (passes_call (takes_of rfl rfl rfl rfl) (fun _ _ _ _ h => h)) (fa_cons (fe_call (ok_worth_table T) (hr.mono (by decide)) (by rfl) T.g_worth_table T.F_worth_table.kp T.b_worth_table (passes_call (takes_of rfl rfl rfl rfl) (fun _ _ _ _ h => h)) (fa_cons (fe_var (pv 0)) (fa_cons (fe_var (pv 1)) fa_nil))) fa_nil)) fa_nil)))
    (fs_one (fs_ret (fe_if (ft_cmp op_isN snd_isN (fe_var (pv 2)) fe_non (nomark _)) fe_non (fe_callTy call_tuple_of snd_tuple (by rfl) T.n_tuple (by decide +kernel) (fa_cons (fe_var (pv 2)) fa_nil)))))))
theorem ok_cheapest (T : Tk P K mg base a) : FnOk P w K mg base (L2.CX P w) 5 a.f_cheapest a.d_cheapest ["game"] (spF K (XRr a.CM a.CR) F_cheapest) := fn_mkX T.F_cheapest sc_cheapest rfl rfl fun cdv A outer s H E hr =>
    (fs_cons (fs_expr (fe_call (ok_check_game T) (hr.mono (by decide)) (by rfl) T.g_check_game T.F_check_game.kp T.b_check_game (passes_call (takes_of rfl rfl rfl rfl) (fun _ _ _ _ h => h)) (fa_cons (fe_var (pv 0)) fa_nil)))
    (fs_cons (fs_expr (fe_call (ok_check_few T) (hr.mono (by decide)) (by rfl) T.g_check_few T.F_check_few.kp T.b_check_few (passes_call (takes_of rfl rfl rfl rfl) (fun _ _ _ _ h => h)) (fa_cons (fe_var (pv 0)) fa_nil)))
    (fs_cons (fs_asg (fe_tup (fa_cons fe_non (fa_cons fe_non fa_nil))) (fg_tup rfl (fgs_cons (fg_name (pg_name (i := 1) sc_cheapest.nd rfl (.inl rfl))) (fgs_cons (fg_name (pg_name (i := 2) sc_cheapest.nd rfl (.inl rfl))) fgs_nil))))
    (fs_cons (fs_for (passes_of rfl) rfl (fi_seq (fe_call (ok_every_share T) (hr.mono (by decide)) (by rfl) T.g_every_share T.F_every_share.kp T.b_every_share (passes_call (takes_of rfl rfl rfl rfl) (fun _ _ _ _ h => h)) (fa_cons (fe_var (pv 0)) fa_nil))) (fg_name (pg_name (i := 3) sc_cheapest.nd rfl (.inl rfl)))
    (fs_kl (vs := [3, 4]) (fs_cons (fs_set (i := 4) sc_cheapest.nd rfl (.inl rfl) (fe_call (ok_longest T) (hr.mono (by decide)) (by rfl) T.g_longest T.F_longest.kp T.b_longest (passes_call (takes_of rfl rfl rfl rfl) (fun _ _ _ _ h => h)) (fa_cons (fe_call (ok_gaps_of T) (hr.mono (by decide)) (by rfl) T.g_gaps_of T.F_gaps_of.kp T.b_gaps_of (passes_call (takes_of rfl rfl rfl rfl) (fun _ _ _ _ h => h)) (fa_cons (fe_call (ok_worth_table T) (hr.mono (by decide)) (by rfl) T.g_worth_table T.F_worth_table.kp T.b_worth_table (passes_call (takes_of rfl rfl rfl rfl) (fun _ _ _ _ h => h)) (fa_cons (fe_var (pv 0)) (fa_cons (fe_var (pv 3)) fa_nil))) fa_nil)) fa_nil)))
    (fs_one (fs_if (PW.pt (fw_and (ft_cmp op_notN snd_notN (fe_var (pv 4)) fe_non (nomark _)) (fw_and1 (PW.pt (fw_or (ft_cmp op_isN snd_isN (fe_var (pv 1)) fe_non (nomark _)) (fw_or1 (ft_cmp op_lt snd_lt (fe_callB (cr_sumA rfl) snd_sum (by rfl) T.n_sum (by decide +kernel) (fa_cons (fe_var (pv 4)) fa_nil)) (fe_var (pv 1)) (nomark _)))))))) (fs_one (fs_par (n := 1) (m := 2) rfl sc_cheapest.nd rfl rfl (by decide) rfl rfl (fa_cons (fe_callB (cr_sumA rfl) snd_sum (by rfl) T.n_sum (by decide +kernel) (fa_cons (fe_var (pv 4)) fa_nil)) (fa_cons (fe_var (pv 3)) fa_nil)) (by rfl))) fs_nil)))))
    (fs_one (fs_ret (fe_tup (fa_cons (fe_var (pv 1)) (fa_cons (fe_var (pv 2)) fa_nil)))))))))
theorem ok_pay_left (T : Tk P K mg base a) : FnOk P w K mg base (L2.CX P w) 7 a.f_pay_left a.d_pay_left ["game", "owners", "money"] (spF K (XRr a.CM a.CR) F_pay_left) := fn_mkX T.F_pay_left sc_pay_left rfl rfl fun cdv A outer s H E hr =>
    (fs_cons (fs_set (i := 3) sc_pay_left.nd rfl (.inl rfl) (fe_call (ok_least_payments T) (hr.mono (by decide)) (by rfl) T.g_least_payments T.F_least_payments.kp T.b_least_payments (passes_call (takes_of rfl rfl rfl rfl) (fun _ _ _ _ h => h)) (fa_cons (fe_var (pv 0)) (fa_cons (fe_var (pv 1)) fa_nil))))
    (fs_cons (fs_if (PW.pt (fw_or (ft_not (ft_val (fe_call (ok_is_ratio T) (hr.mono (by decide)) (by rfl) T.g_is_ratio T.F_is_ratio.kp T.b_is_ratio (passes_call (takes_of rfl rfl rfl rfl) (fun _ _ _ _ h => h)) (fa_cons (fe_var (pv 2)) fa_nil)))) (fw_or1 (ft_cmp op_lt snd_lt (fe_idx (fe_var (pv 2)) fe_int) fe_int (nomark _))))) (fs_one (fs_raise (ps_raise rfl (takes_of rfl rfl rfl rfl) (pmk_own PySem.F.excBase_ValueError T.xM T.gM T.kM (raises_own T.bM T.tM) (by rfl))) (fun _ _ _ h => h) (fun _ => ⟨rfl, rfl⟩))) fs_nil)
    (fs_cons (fs_if (ft_cmp op_isN snd_isN (fe_var (pv 3)) fe_non (nomark _)) (fs_one (fs_ret fe_non)) fs_nil)
    (fs_cons (fs_set (i := 4) sc_pay_left.nd rfl (.inl rfl) (fe_call (ok_minus T) (hr.mono (by decide)) (by rfl) T.g_minus T.F_minus.kp T.b_minus (passes_call (takes_of rfl rfl rfl rfl) (fun _ _ _ _ h => h)) (fa_cons (fe_var (pv 2)) (fa_cons (fe_tup (fa_cons (fe_callB (cr_sumA rfl) snd_sum (by rfl) T.n_sum (by decide +kernel) (fa_cons (fe_var (pv 3)) fa_nil)) (fa_cons fe_int fa_nil))) fa_nil))))
    (fs_cons (fs_if (ft_cmp op_lt snd_lt (fe_idx (fe_var (pv 4)) fe_int) fe_int (nomark _)) (fs_one (fs_ret fe_non)) fs_nil)
    (fs_cons (fs_set (i := 5) sc_pay_left.nd rfl (.inr rfl) (fe_call (ok_ratio T) (hr.mono (by decide)) (by rfl) T.g_ratio T.F_ratio.kp T.b_ratio (passes_call (takes_of rfl rfl rfl rfl) (fun _ _ _ _ h => h)) (fa_cons (fe_idx (fe_var (pv 4)) fe_int) (fa_cons (fe_op op_mulA snd_mul (fe_idx (fe_var (pv 4)) fe_int) (fe_callB call_lenA snd_len (by rfl) T.n_len (by decide +kernel) (fa_cons (fe_var (pv 0)) fa_nil))) fa_nil))))
    (fs_cons (fs_set (i := 6) sc_pay_left.nd rfl (.inr rfl) (fe_call (ok_worth_table T) (hr.mono (by decide)) (by rfl) T.g_worth_table T.F_worth_table.kp T.b_worth_table (passes_call (takes_of rfl rfl rfl rfl) (fun _ _ _ _ h => h)) (fa_cons (fe_var (pv 0)) (fa_cons (fe_var (pv 1)) fa_nil))))
    (fs_one (fs_ret (fe_callTy call_tuple_of snd_tuple (by rfl) T.n_tuple (by decide +kernel) (fa_cons (fe_lc (own := [("i", 7), ("item", 8)]) rfl sc_pay_left.nd (fi_enum (by rfl) T.n_enumerate (fe_var (pv 3))) (blkOk_by (own := [("i", 7), ("item", 8)]) (N := ["game", "owners", "money", "found", "rest", "share", "table", "i", "item"]) (sc := defScope st_pay_left) (by decide +kernel)) (fun _ h => h) (fun _ _ _ _ _ => (fg_tup rfl (fgs_cons (fg_name (pg_name (i := 7) sc_pay_left.nd rfl (.inl rfl))) (fgs_cons (fg_name (pg_name (i := 8) sc_pay_left.nd rfl (.inl rfl))) fgs_nil)))) (fun _ _ _ _ _ => fts_nil) (fun _ _ _ _ _ => (fe_call (ok_plus T) (hr.mono (by decide)) (by rfl) T.g_plus T.F_plus.kp T.b_plus passL (fa_cons (fe_tup (fa_cons (fe_op op_addA snd_add (fe_idx (fe_idx (fe_var (pv 6)) (fe_var (pv 7))) (fe_var (pv 7))) (fe_var (pv 8))) (fa_cons fe_int fa_nil))) (fa_cons (fe_var (pv 5)) fa_nil))))) fa_nil)))))))))))
theorem ok_law_draw (T : Tk P K mg base a) : FnOk P w K mg base (L2.CX P w) 1 a.f_law_draw a.d_law_draw ["script"] (spF K (XRr a.CM a.CR) F_law_draw) := fn_mkX T.F_law_draw sc_law_draw rfl rfl fun cdv A outer s H E hr =>
    (fs_cons (fs_set (i := 1) sc_law_draw.nd rfl (.inl rfl) fe_int)
    (fs_cons (fs_for (passes_of rfl) rfl (fi_seq (fe_var (pv 0))) (fg_name (pg_name (i := 2) sc_law_draw.nd rfl (.inl rfl)))
    (fs_one (fs_set (i := 1) sc_law_draw.nd rfl (.inl rfl) (fe_op op_modN snd_mod (fe_callTy call_int1 snd_int (by rfl) T.n_int (by decide +kernel) (fa_cons (fe_op op_addA snd_add (fe_op op_addA snd_add (fe_op op_mulA snd_mul (fe_var (pv 1)) fe_int) (fe_op op_modN snd_mod (fe_callB call_abs snd_abs (by rfl) T.n_abs (by decide +kernel) (fa_cons (fe_callTy call_int1 snd_int (by rfl) T.n_int (by decide +kernel) (fa_cons (fe_var (pv 2)) fa_nil)) fa_nil)) fe_int)) fe_int) fa_nil)) fe_int))))
    (fs_one (fs_ret (fe_lst (fa_cons (fe_lc (own := [("cell", 2)]) rfl sc_law_draw.nd (fi_seq (fe_var (pv 0))) (blkOk_by (own := [("cell", 2)]) (N := ["script", "seed", "cell"]) (sc := defScope st_law_draw) (by decide +kernel)) (fun _ h => h) (fun _ _ _ _ _ => (fg_name (pg_name (i := 2) sc_law_draw.nd rfl (.inl rfl)))) (fun _ _ _ _ _ => fts_nil) (fun _ _ _ _ _ => (fe_callB call_abs snd_abs (by rfl) T.n_abs (by decide +kernel) (fa_cons (fe_callTy call_int1 snd_int (by rfl) T.n_int (by decide +kernel) (fa_cons (fe_var (pv 2)) fa_nil)) fa_nil)))) (fa_cons (fe_neg fe_int) (fa_cons fe_int (fa_cons (fe_var (pv 1)) fa_nil)))))))))
theorem ok_law_take (T : Tk P K mg base a) : FnOk P w K mg base (L2.CX P w) 1 a.f_law_take a.d_law_take ["draw", "many"] (spF K (XRr a.CM a.CR) F_law_take) := fn_mkX T.F_law_take sc_law_take rfl rfl fun cdv A outer s H E hr =>
    (fs_cons (fs_if (ft_cmp (op_eqD hr.units) snd_eq (fe_idx (fe_var (pv 0)) fe_int) fe_int (nomark _)) (fs_cons (fs_setItem (fe_op op_addA snd_add (fe_idx (fe_var (pv 0)) fe_int) fe_int) (fe_var (pv 0)) fe_int)
    (fs_cons (fs_if (ft_cmp op_lt snd_lt (fe_idx (fe_var (pv 0)) fe_int) (fe_callB call_lenA snd_len (by rfl) T.n_len (by decide +kernel) (fa_cons (fe_idx (fe_var (pv 0)) fe_int) fa_nil)) (nomark _)) (fs_one (fs_setItem (fe_idx (fe_idx (fe_var (pv 0)) fe_int) (fe_idx (fe_var (pv 0)) fe_int)) (fe_var (pv 0)) fe_int)) fs_nil)
    (fs_one (fs_if (ft_cmp (op_eqD hr.units) snd_eq (fe_idx (fe_var (pv 0)) fe_int) fe_int (nomark _)) (fs_cons (fs_setItem (fe_op op_modN snd_mod (fe_callTy call_int1 snd_int (by rfl) T.n_int (by decide +kernel) (fa_cons (fe_op op_addA snd_add (fe_op op_mulA snd_mul (fe_idx (fe_var (pv 0)) fe_int) fe_int) fe_int) fa_nil)) fe_int) (fe_var (pv 0)) fe_int)
    (fs_one (fs_setItem (fe_idx (fe_var (pv 0)) fe_int) (fe_var (pv 0)) fe_int))) fs_nil)))) fs_nil)
    (fs_cons (fs_set (i := 2) sc_law_take.nd rfl (.inl rfl) (fe_op op_modN snd_mod (fe_callTy call_int1 snd_int (by rfl) T.n_int (by decide +kernel) (fa_cons (fe_idx (fe_var (pv 0)) fe_int) fa_nil)) (fe_var (pv 1))))
    (fs_cons (fs_setItem (fe_op op_divA snd_div (fe_idx (fe_var (pv 0)) fe_int) (fe_var (pv 1))) (fe_var (pv 0)) fe_int)
    (fs_one (fs_ret (fe_var (pv 2)))))))
theorem ok_law_fraction (T : Tk P K mg base a) : FnOk P w K mg base (L2.CX P w) 1 a.f_law_fraction a.d_law_fraction ["n", "d"] (spF K (XRr a.CM a.CR) F_law_fraction) := fn_mkX T.F_law_fraction sc_law_fraction rfl rfl fun cdv A outer s H E hr =>
    (fs_cons (fs_par (n := 2) (m := 3) rfl sc_law_fraction.nd rfl rfl (by decide) rfl rfl (fa_cons (fe_callB call_abs snd_abs (by rfl) T.n_abs (by decide +kernel) (fa_cons (fe_var (pv 0)) fa_nil)) (fa_cons (fe_callB call_abs snd_abs (by rfl) T.n_abs (by decide +kernel) (fa_cons (fe_var (pv 1)) fa_nil)) fa_nil)) (by rfl))
    (fs_cons (fs_while wfuel (passes_of rfl) (ft_cmp (op_neD hr.units) snd_ne (fe_var (pv 3)) fe_int (nomark _))
    (fs_one (fs_par (n := 2) (m := 3) rfl sc_law_fraction.nd rfl rfl (by decide) rfl rfl (fa_cons (fe_var (pv 3)) (fa_cons (fe_op op_modN snd_mod (fe_callTy call_int1 snd_int (by rfl) T.n_int (by decide +kernel) (fa_cons (fe_var (pv 2)) fa_nil)) (fe_var (pv 3))) fa_nil)) (by rfl))))
    (fs_one (fs_ret (fe_if (ft_cmp op_gt snd_gt (fe_var (pv 1)) fe_int (nomark _)) (fe_tup (fa_cons (fe_op op_divA snd_div (fe_var (pv 0)) (fe_var (pv 2))) (fa_cons (fe_op op_divA snd_div (fe_var (pv 1)) (fe_var (pv 2))) fa_nil))) (fe_tup (fa_cons (fe_op op_divA snd_div (fe_neg (fe_var (pv 0))) (fe_var (pv 2))) (fa_cons (fe_op op_divA snd_div (fe_neg (fe_var (pv 1))) (fe_var (pv 2))) fa_nil))))))))
theorem ok_law_plus (T : Tk P K mg base a) : FnOk P w K mg base (L2.CX P w) 2 a.f_law_plus a.d_law_plus ["a", "b"] (spF K (XRr a.CM a.CR) F_law_plus) := fn_mkX T.F_law_plus sc_law_plus rfl rfl fun cdv A outer s H E hr =>
    (fs_one (fs_ret (fe_call (ok_law_fraction T) (hr.mono (by decide)) (by rfl) T.g_law_fraction T.F_law_fraction.kp T.b_law_fraction (passes_call (takes_of rfl rfl rfl rfl) (fun _ _ _ _ h => h)) (fa_cons (fe_op op_addA snd_add (fe_op op_mulA snd_mul (fe_idx (fe_var (pv 0)) fe_int) (fe_idx (fe_var (pv 1)) fe_int)) (fe_op op_mulA snd_mul (fe_idx (fe_var (pv 1)) fe_int) (fe_idx (fe_var (pv 0)) fe_int))) (fa_cons (fe_op op_mulA snd_mul (fe_idx (fe_var (pv 0)) fe_int) (fe_idx (fe_var (pv 1)) fe_int)) fa_nil)))))
theorem ok_law_minus (T : Tk P K mg base a) : FnOk P w K mg base (L2.CX P w) 2 a.f_law_minus a.d_law_minus ["a", "b"] (spF K (XRr a.CM a.CR) F_law_minus) := fn_mkX T.F_law_minus sc_law_minus rfl rfl fun cdv A outer s H E hr =>
    (fs_one (fs_ret (fe_call (ok_law_fraction T) (hr.mono (by decide)) (by rfl) T.g_law_fraction T.F_law_fraction.kp T.b_law_fraction (passes_call (takes_of rfl rfl rfl rfl) (fun _ _ _ _ h => h)) (fa_cons (fe_op op_sub snd_sub (fe_op op_mulA snd_mul (fe_idx (fe_var (pv 0)) fe_int) (fe_idx (fe_var (pv 1)) fe_int)) (fe_op op_mulA snd_mul (fe_idx (fe_var (pv 1)) fe_int) (fe_idx (fe_var (pv 0)) fe_int))) (fa_cons (fe_op op_mulA snd_mul (fe_idx (fe_var (pv 0)) fe_int) (fe_idx (fe_var (pv 1)) fe_int)) fa_nil)))))
theorem ok_law_less (T : Tk P K mg base a) : FnOk P w K mg base (L2.CX P w) 1 a.f_law_less a.d_law_less ["a", "b"] (spF K (XRr a.CM a.CR) F_law_less) := fn_mkX T.F_law_less sc_law_less rfl rfl fun cdv A outer s H E hr =>
    (fs_one (fs_ret (fe_cmp op_lt snd_lt (fe_op op_mulA snd_mul (fe_idx (fe_var (pv 0)) fe_int) (fe_idx (fe_var (pv 1)) fe_int)) (fe_op op_mulA snd_mul (fe_idx (fe_var (pv 1)) fe_int) (fe_idx (fe_var (pv 0)) fe_int)) (nomark _))))
theorem ok_law_sum (T : Tk P K mg base a) : FnOk P w K mg base (L2.CX P w) 3 a.f_law_sum a.d_law_sum ["items"] (spF K (XRr a.CM a.CR) F_law_sum) := fn_mkX T.F_law_sum sc_law_sum rfl rfl fun cdv A outer s H E hr =>
    (fs_cons (fs_set (i := 1) sc_law_sum.nd rfl (.inl rfl) (fe_tup (fa_cons fe_int (fa_cons fe_int fa_nil))))
    (fs_cons (fs_for (passes_of rfl) rfl (fi_seq (fe_var (pv 0))) (fg_name (pg_name (i := 2) sc_law_sum.nd rfl (.inl rfl)))
    (fs_kl (vs := [2]) (fs_one (fs_set (i := 1) sc_law_sum.nd rfl (.inl rfl) (fe_call (ok_law_plus T) (hr.mono (by decide)) (by rfl) T.g_law_plus T.F_law_plus.kp T.b_law_plus (passes_call (takes_of rfl rfl rfl rfl) (fun _ _ _ _ h => h)) (fa_cons (fe_var (pv 1)) (fa_cons (fe_var (pv 2)) fa_nil)))))))
    (fs_one (fs_ret (fe_var (pv 1))))))
theorem ok_law_over (T : Tk P K mg base a) : FnOk P w K mg base (L2.CX P w) 2 a.f_law_over a.d_law_over ["a", "b"] (spF K (XRr a.CM a.CR) F_law_over) := fn_mkX T.F_law_over sc_law_over rfl rfl fun cdv A outer s H E hr =>
    (fs_one (fs_ret (fe_call (ok_law_fraction T) (hr.mono (by decide)) (by rfl) T.g_law_fraction T.F_law_fraction.kp T.b_law_fraction (passes_call (takes_of rfl rfl rfl rfl) (fun _ _ _ _ h => h)) (fa_cons (fe_op op_mulA snd_mul (fe_idx (fe_var (pv 0)) fe_int) (fe_idx (fe_var (pv 1)) fe_int)) (fa_cons (fe_op op_mulA snd_mul (fe_idx (fe_var (pv 0)) fe_int) (fe_idx (fe_var (pv 1)) fe_int)) fa_nil)))))
theorem ok_law_game (T : Tk P K mg base a) : FnOk P w K mg base (L2.CX P w) 2 a.f_law_game a.d_law_game ["draw", "people", "goods", "most"] (spF K (XRr a.CM a.CR) F_law_game) := fn_mkX T.F_law_game sc_law_game rfl rfl fun cdv A outer s H E hr =>
    (fs_cons (fs_par (n := 4) (m := 5) rfl sc_law_game.nd rfl rfl (by decide) rfl rfl (fa_cons (fe_op op_addA snd_add fe_int (fe_callM (ok_law_take T) (hr.mono (by decide)) (by rfl) T.g_law_take T.F_law_take.kp T.b_law_take (passes_call (takes_of rfl rfl rfl rfl) (fun _ _ _ _ h => h)) (fa_cons (fe_var (pv 0)) (fa_cons (fe_var (pv 1)) fa_nil)))) (fa_cons (fe_op op_addA snd_add fe_int (fe_callM (ok_law_take T) (hr.mono (by decide)) (by rfl) T.g_law_take T.F_law_take.kp T.b_law_take (passes_call (takes_of rfl rfl rfl rfl) (fun _ _ _ _ h => h)) (fa_cons (fe_var (pv 0)) (fa_cons (fe_var (pv 2)) fa_nil)))) fa_nil)) (by rfl))
    (fs_cons (fs_set (i := 6) sc_law_game.nd rfl (.inr rfl) (fe_idx (fe_lst (fa_cons fe_int (fa_cons fe_int (fa_cons (fe_var (pv 3)) fa_nil)))) (fe_callM (ok_law_take T) (hr.mono (by decide)) (by rfl) T.g_law_take T.F_law_take.kp T.b_law_take (passes_call (takes_of rfl rfl rfl rfl) (fun _ _ _ _ h => h)) (fa_cons (fe_var (pv 0)) (fa_cons fe_int fa_nil)))))
    (fs_cons (fs_set (i := 7) sc_law_game.nd rfl (.inl rfl) (fe_lst fa_nil))
    (fs_cons (fs_for (passes_of rfl) rfl (fi_rg1 (by rfl) T.n_range (fe_var (pv 4))) (fg_name (pg_name (i := 8) sc_law_game.nd rfl (.inl rfl)))
    (fs_cons (fs_set (i := 9) sc_law_game.nd rfl (.inl rfl) (fe_callTy call_tuple_of snd_tuple (by rfl) T.n_tuple (by decide +kernel) (fa_cons (fe_lc (own := [("good", 10)]) rfl sc_law_game.nd (fi_rg1 (by rfl) T.n_range (fe_var (pv 5))) (blkOk_by (own := [("good", 10)]) (N := ["draw", "people", "goods", "most", "n", "m", "top", "rows", "i", "row", "good"]) (sc := defScope st_law_game) (by decide +kernel)) (fun _ h => h) (fun _ _ _ _ _ => (fg_name (pg_name (i := 10) sc_law_game.nd rfl (.inl rfl)))) (fun _ _ _ _ _ => fts_nil) (fun _ _ _ _ _ => (fe_op op_addA snd_add fe_int (fe_callM (ok_law_take T) (hr.mono (by decide)) (by rfl) T.g_law_take T.F_law_take.kp T.b_law_take passL (fa_cons (fe_var (pv 0)) (fa_cons (fe_var (pv 6)) fa_nil)))))) fa_nil)))
    (fs_one (fs_expr (fe_meth PySem.F.slot_list_append PySem.F.type_list_append mt_append snd_append (fe_var (pv 7)) (fa_cons (fe_if (PW.pt (fw_and (ft_cmp (op_neD hr.units) snd_ne (fe_var (pv 7)) (fe_lst fa_nil) (nomark _)) (fw_and1 (ft_cmp (op_eqD hr.units) snd_eq (fe_callM (ok_law_take T) (hr.mono (by decide)) (by rfl) T.g_law_take T.F_law_take.kp T.b_law_take (passes_call (takes_of rfl rfl rfl rfl) (fun _ _ _ _ h => h)) (fa_cons (fe_var (pv 0)) (fa_cons fe_int fa_nil))) fe_int (nomark _))))) (fe_idx (fe_var (pv 7)) (fe_callM (ok_law_take T) (hr.mono (by decide)) (by rfl) T.g_law_take T.F_law_take.kp T.b_law_take (passes_call (takes_of rfl rfl rfl rfl) (fun _ _ _ _ h => h)) (fa_cons (fe_var (pv 0)) (fa_cons (fe_callB call_lenA snd_len (by rfl) T.n_len (by decide +kernel) (fa_cons (fe_var (pv 7)) fa_nil)) fa_nil)))) (fe_var (pv 9))) fa_nil))))))
    (fs_one (fs_ret (fe_callTy call_tuple_of snd_tuple (by rfl) T.n_tuple (by decide +kernel) (fa_cons (fe_var (pv 7)) fa_nil))))))))
theorem ok_law_owners (T : Tk P K mg base a) : FnOk P w K mg base (L2.CX P w) 2 a.f_law_owners a.d_law_owners ["draw", "game"] (spF K (XRr a.CM a.CR) F_law_owners) := fn_mkX T.F_law_owners sc_law_owners rfl rfl fun cdv A outer s H E hr =>
    (fs_one (fs_ret (fe_callTy call_tuple_of snd_tuple (by rfl) T.n_tuple (by decide +kernel) (fa_cons (fe_lc (own := [("good", 2)]) rfl sc_law_owners.nd (fi_seq (fe_idx (fe_var (pv 1)) fe_int)) (blkOk_by (own := [("good", 2)]) (N := ["draw", "game", "good"]) (sc := defScope st_law_owners) (by decide +kernel)) (fun _ h => h) (fun _ _ _ _ _ => (fg_name (pg_name (i := 2) sc_law_owners.nd rfl (.inl rfl)))) (fun _ _ _ _ _ => fts_nil) (fun _ _ _ _ _ => (fe_callM (ok_law_take T) (hr.mono (by decide)) (by rfl) T.g_law_take T.F_law_take.kp T.b_law_take passL (fa_cons (fe_var (pv 0)) (fa_cons (fe_callB call_lenA snd_len (by rfl) T.n_len (by decide +kernel) (fa_cons (fe_var (pv 1)) fa_nil)) fa_nil))))) fa_nil))))
theorem ok_law_worth (T : Tk P K mg base a) : FnOk P w K mg base (L2.CX P w) 1 a.f_law_worth a.d_law_worth ["game", "owners", "i", "k"] (spF K (XRr a.CM a.CR) F_law_worth) := fn_mkX T.F_law_worth sc_law_worth rfl rfl fun cdv A outer s H E hr =>
    (fs_one (fs_ret (fe_callB (cr_sumA rfl) snd_sum (by rfl) T.n_sum (by decide +kernel) (fa_cons (fe_lc (own := [("good", 4)]) rfl sc_law_worth.nd (fi_rg1 (by rfl) T.n_range (fe_callB call_lenA snd_len (by rfl) T.n_len (by decide +kernel) (fa_cons (fe_var (pv 1)) fa_nil))) (blkOk_by (own := [("good", 4)]) (N := ["game", "owners", "i", "k", "good"]) (sc := defScope st_law_worth) (by decide +kernel)) (fun _ h => h) (fun _ _ _ _ _ => (fg_name (pg_name (i := 4) sc_law_worth.nd rfl (.inl rfl)))) (fun _ _ _ _ _ => (fts_one (ft_cmp (op_eqD hr.units) snd_eq (fe_idx (fe_var (pv 1)) (fe_var (pv 4))) (fe_var (pv 3)) (nomark _)))) (fun _ _ _ _ _ => (fe_idx (fe_idx (fe_var (pv 0)) (fe_var (pv 2))) (fe_var (pv 4))))) fa_nil))))
theorem ok_law_shares (T : Tk P K mg base a) : FnOk P w K mg base (L2.CX P w) 1 a.f_law_shares a.d_law_shares ["n", "m"] (spF K (XRr a.CM a.CR) F_law_shares) := fn_mkX T.F_law_shares sc_law_shares rfl rfl fun cdv A outer s H E hr =>
    (fs_cons (fs_set (i := 2) sc_law_shares.nd rfl (.inl rfl) (fe_lst (fa_cons (fe_tup fa_nil) fa_nil)))
    (fs_cons (fs_for (passes_of rfl) rfl (fi_rg1 (by rfl) T.n_range (fe_var (pv 1))) (fg_name (pg_name (i := 3) sc_law_shares.nd rfl (.inl rfl)))
    (fs_kl (vs := [3, 4, 5]) (fs_cons (fs_set (i := 4) sc_law_shares.nd rfl (.inl rfl) (fe_lst fa_nil))
    (fs_cons (fs_for (passes_of rfl) rfl (fi_seq (fe_var (pv 2))) (fg_name (pg_name (i := 5) sc_law_shares.nd rfl (.inr rfl)))
    (fs_kl (vs := [5]) (fs_one (fs_set (i := 4) sc_law_shares.nd rfl (.inl rfl) (fe_op op_addA snd_add (fe_var (pv 4)) (fe_lc (own := [("i", 6)]) rfl sc_law_shares.nd (fi_rg1 (by rfl) T.n_range (fe_var (pv 0))) (blkOk_by (own := [("i", 6)]) (N := ["n", "m", "found", "good", "longer", "row", "i"]) (sc := defScope st_law_shares) (by decide +kernel)) (fun _ h => h) (fun _ _ _ _ _ => (fg_name (pg_name (i := 6) sc_law_shares.nd rfl (.inl rfl)))) (fun _ _ _ _ _ => fts_nil) (fun _ _ _ _ _ => (fe_op op_addA snd_add (fe_var (pv 5)) (fe_tup (fa_cons (fe_var (pv 6)) fa_nil))))))))))
    (fs_one (fs_set (i := 2) sc_law_shares.nd rfl (.inl rfl) (fe_var (pv 4))))))))
    (fs_one (fs_ret (fe_var (pv 2))))))
theorem ok_law_bad_game (T : Tk P K mg base a) : FnOk P w K mg base (L2.CX P w) 2 a.f_law_bad_game a.d_law_bad_game ["draw", "game"] (spF K (XRr a.CM a.CR) F_law_bad_game) := fn_mkX T.F_law_bad_game sc_law_bad_game rfl rfl fun cdv A outer s H E hr =>
    (fs_cons (fs_set (i := 2) sc_law_bad_game.nd rfl (.inl rfl) (fe_lst (fa_cons fe_non (fa_cons (fe_tup fa_nil) (fa_cons fe_int (fa_cons (fe_callTy call_list_of snd_list (by rfl) T.n_list (by decide +kernel) (fa_cons (fe_var (pv 1)) fa_nil)) (fa_cons (fe_tup (fa_cons (fe_tup fa_nil) fa_nil)) (fa_cons (fe_op op_addA snd_add (fe_var (pv 1)) (fe_tup (fa_cons (fe_op op_mulA snd_mul (fe_tup (fa_cons fe_int fa_nil)) (fe_op op_addA snd_add (fe_callB call_lenA snd_len (by rfl) T.n_len (by decide +kernel) (fa_cons (fe_idx (fe_var (pv 1)) fe_int) fa_nil)) fe_int)) fa_nil))) (fa_cons (fe_op op_addA snd_add (fe_slice (fe_var (pv 1)) fo_none (fo_some (fe_neg fe_int))) (fe_tup (fa_cons (fe_op op_mulA snd_mul (fe_tup (fa_cons fe_int fa_nil)) (fe_callB call_lenA snd_len (by rfl) T.n_len (by decide +kernel) (fa_cons (fe_idx (fe_var (pv 1)) fe_int) fa_nil))) fa_nil))) (fa_cons (fe_op op_addA snd_add (fe_slice (fe_var (pv 1)) fo_none (fo_some (fe_neg fe_int))) (fe_tup (fa_cons (fe_op op_mulA snd_mul (fe_tup (fa_cons fe_int fa_nil)) (fe_callB call_lenA snd_len (by rfl) T.n_len (by decide +kernel) (fa_cons (fe_idx (fe_var (pv 1)) fe_int) fa_nil))) fa_nil))) fa_nil))))))))))
    (fs_cons (fs_set (i := 2) sc_law_bad_game.nd rfl (.inl rfl) (fe_op op_addA snd_add (fe_var (pv 2)) (fe_lst (fa_cons (fe_op op_mulA snd_mul (fe_tup (fa_cons (fe_tup (fa_cons fe_int fa_nil)) fa_nil)) fe_int) (fa_cons (fe_tup (fa_cons (fe_op op_mulA snd_mul (fe_tup (fa_cons fe_int fa_nil)) fe_int) fa_nil)) (fa_cons (fe_op op_addA snd_add (fe_slice (fe_var (pv 1)) fo_none (fo_some (fe_neg fe_int))) (fe_tup (fa_cons (fe_op op_mulA snd_mul (fe_lst (fa_cons fe_int fa_nil)) (fe_callB call_lenA snd_len (by rfl) T.n_len (by decide +kernel) (fa_cons (fe_idx (fe_var (pv 1)) fe_int) fa_nil))) fa_nil))) (fa_cons (fe_op op_addA snd_add (fe_slice (fe_var (pv 1)) fo_none (fo_some (fe_neg fe_int))) (fe_tup (fa_cons (fe_op op_mulA snd_mul (fe_tup (fa_cons fe_bl fa_nil)) (fe_callB call_lenA snd_len (by rfl) T.n_len (by decide +kernel) (fa_cons (fe_idx (fe_var (pv 1)) fe_int) fa_nil))) fa_nil))) (fa_cons fe_str fa_nil))))))))
    (fs_one (fs_ret (fe_idx (fe_var (pv 2)) (fe_callM (ok_law_take T) (hr.mono (by decide)) (by rfl) T.g_law_take T.F_law_take.kp T.b_law_take (passes_call (takes_of rfl rfl rfl rfl) (fun _ _ _ _ h => h)) (fa_cons (fe_var (pv 0)) (fa_cons fe_int fa_nil))))))))
theorem ok_law_bad_owners (T : Tk P K mg base a) : FnOk P w K mg base (L2.CX P w) 2 a.f_law_bad_owners a.d_law_bad_owners ["draw", "game", "owners"] (spF K (XRr a.CM a.CR) F_law_bad_owners) := fn_mkX T.F_law_bad_owners sc_law_bad_owners rfl rfl fun cdv A outer s H E hr =>
    (fs_one (fs_ret (fe_idx (fe_lst (fa_cons fe_non (fa_cons (fe_tup fa_nil) (fa_cons (fe_op op_addA snd_add (fe_var (pv 2)) (fe_tup (fa_cons fe_int fa_nil))) (fa_cons (fe_callTy call_list_of snd_list (by rfl) T.n_list (by decide +kernel) (fa_cons (fe_var (pv 2)) fa_nil)) (fa_cons (fe_op op_addA snd_add (fe_slice (fe_var (pv 2)) fo_none (fo_some (fe_neg fe_int))) (fe_tup (fa_cons (fe_callB call_lenA snd_len (by rfl) T.n_len (by decide +kernel) (fa_cons (fe_var (pv 1)) fa_nil)) fa_nil))) (fa_cons (fe_op op_addA snd_add (fe_slice (fe_var (pv 2)) fo_none (fo_some (fe_neg fe_int))) (fe_tup (fa_cons (fe_neg fe_int) fa_nil))) (fa_cons (fe_op op_mulA snd_mul (fe_tup (fa_cons fe_non fa_nil)) (fe_callB call_lenA snd_len (by rfl) T.n_len (by decide +kernel) (fa_cons (fe_var (pv 2)) fa_nil))) (fa_cons fe_str fa_nil))))))))) (fe_callM (ok_law_take T) (hr.mono (by decide)) (by rfl) T.g_law_take T.F_law_take.kp T.b_law_take (passes_call (takes_of rfl rfl rfl rfl) (fun _ _ _ _ h => h)) (fa_cons (fe_var (pv 0)) (fa_cons fe_int fa_nil))))))
theorem ok_law_call (T : Tk P K mg base a) : FnOk P w K mg base (L2.CX P w) 8 a.f_law_call a.d_law_call ["call"] (spF K (XRr a.CM a.CR) F_law_call) := fn_mkX T.F_law_call sc_law_call rfl rfl fun cdv A outer s H E hr =>
    (fs_cons (fs_asg (fe_var (pv 0)) (fg_tup rfl (fgs_cons (fg_name (pg_name (i := 1) sc_law_call.nd rfl (.inl rfl))) (fgs_cons (fg_name (pg_name (i := 2) sc_law_call.nd rfl (.inl rfl))) (fgs_cons (fg_name (pg_name (i := 3) sc_law_call.nd rfl (.inl rfl))) (fgs_cons (fg_name (pg_name (i := 4) sc_law_call.nd rfl (.inl rfl))) fgs_nil))))))
    (fs_one (fs_if (ft_cmp (op_eqD hr.units) snd_eq (fe_var (pv 1)) fe_int (nomark _)) (fs_one (fs_expr (fe_call (ok_least_payments T) (hr.mono (by decide)) (by rfl) T.g_least_payments T.F_least_payments.kp T.b_least_payments (passes_call (takes_of rfl rfl rfl rfl) (fun _ _ _ _ h => h)) (fa_cons (fe_var (pv 2)) (fa_cons (fe_var (pv 3)) fa_nil))))) (fs_one (fs_if (ft_cmp (op_eqD hr.units) snd_eq (fe_var (pv 1)) fe_int (nomark _)) (fs_one (fs_expr (fe_call (ok_cheapest T) (hr.mono (by decide)) (by rfl) T.g_cheapest T.F_cheapest.kp T.b_cheapest (passes_call (takes_of rfl rfl rfl rfl) (fun _ _ _ _ h => h)) (fa_cons (fe_var (pv 2)) fa_nil)))) (fs_one (fs_expr (fe_call (ok_pay_left T) (hr.mono (by decide)) (by rfl) T.g_pay_left T.F_pay_left.kp T.b_pay_left (passes_call (takes_of rfl rfl rfl rfl) (fun _ _ _ _ h => h)) (fa_cons (fe_var (pv 2)) (fa_cons (fe_var (pv 3)) (fa_cons (fe_var (pv 4)) fa_nil)))))))))))
theorem ok_law_word (T : Tk P K mg base a) : FnOk P w K mg base (L2.CX P w) 9 a.f_law_word a.d_law_word ["call"] (spF K (XRr a.CM a.CR) F_law_word) :=
  fn_wordR T.F_law_word sc_law_word (ok_law_call T) T.g_law_call T.F_law_call.kp T.b_law_call T.wC T.n_isinstance T.gM T.gF T.gR rfl rfl rfl rfl rfl rfl rfl rfl (by decide) (fun _ _ => rfl)
theorem ok_law_least (T : Tk P K mg base a) : FnOk P w K mg base (L2.CX P w) 2 a.f_law_least a.d_law_least ["game", "owners"] (spF K (XRr a.CM a.CR) F_law_least) := fn_mkX T.F_law_least sc_law_least rfl rfl fun cdv A outer s H E hr =>
    (fs_cons (fs_set (i := 2) sc_law_least.nd rfl (.inr rfl) (fe_callB call_lenA snd_len (by rfl) T.n_len (by decide +kernel) (fa_cons (fe_var (pv 0)) fa_nil)))
    (fs_cons (fs_set (i := 3) sc_law_least.nd rfl (.inr rfl) (fe_lc (own := [("i", 5)]) rfl sc_law_least.nd (fi_rg1 (by rfl) T.n_range (fe_var (pv 2))) (blkOk_by (own := [("i", 5)]) (N := ["game", "owners", "n", "gaps", "k", "i", "found", "turn", "more"]) (sc := defScope st_law_least) (by decide +kernel)) (fun _ h => h) (fun _ _ _ _ _ => (fg_name (pg_name (i := 5) sc_law_least.nd rfl (by first | exact .inl rfl | exact .inr rfl)))) (fun _ _ _ _ _ => fts_nil) (fun _ _ _ _ _ => (fe_lc (own := [("k", 4)]) rfl sc_law_least.nd (fi_rg1 (by rfl) T.n_range (fe_var (pv 2))) (blkOk_by (own := [("k", 4)]) (N := ["game", "owners", "n", "gaps", "k", "i", "found", "turn", "more"]) (by rfl)) (fun _ h => h) (fun _ _ _ _ _ => (fg_name (pg_name (i := 4) sc_law_least.nd rfl (.inl rfl)))) (fun _ _ _ _ _ => fts_nil) (fun _ _ _ _ _ => (fe_op op_sub snd_sub (fe_call (ok_law_worth T) (hr.mono (by decide)) (by rfl) T.g_law_worth T.F_law_worth.kp T.b_law_worth passL (fa_cons (fe_var (pv 0)) (fa_cons (fe_var (pv 1)) (fa_cons (fe_var (pv 5)) (fa_cons (fe_var (pv 4)) fa_nil))))) (fe_call (ok_law_worth T) (hr.mono (by decide)) (by rfl) T.g_law_worth T.F_law_worth.kp T.b_law_worth passL (fa_cons (fe_var (pv 0)) (fa_cons (fe_var (pv 1)) (fa_cons (fe_var (pv 5)) (fa_cons (fe_var (pv 5)) fa_nil)))))))))))
    (fs_cons (fs_set (i := 6) sc_law_least.nd rfl (.inr rfl) (fe_op op_mulA snd_mul (fe_lst (fa_cons fe_int fa_nil)) (fe_var (pv 2))))
    (fs_cons (fs_for (passes_of rfl) rfl (fi_rg1 (by rfl) T.n_range (fe_op op_addA snd_add (fe_var (pv 2)) fe_int)) (fg_name (pg_name (i := 7) sc_law_least.nd rfl (.inl rfl)))
    (fs_kl (vs := [7, 8]) (fs_cons (fs_setLc (own := [("i", 5)]) (i := 8) rfl sc_law_least.nd rfl rfl (sw_true rfl rfl rfl (by decide +kernel)) (fi_rg1 (by rfl) T.n_range (fe_var (pv 2))) (blkOk_by (own := [("i", 5)]) (N := ["game", "owners", "n", "gaps", "k", "i", "found", "turn", "more"]) (sc := defScope st_law_least) (by decide +kernel)) (fun _ h => h) (fun _ _ _ _ _ => (fg_name (pg_name (i := 5) sc_law_least.nd rfl (by first | exact .inl rfl | exact .inr rfl)))) (fun _ _ _ _ _ => fts_nil) (fun _ _ _ _ _ => (fe_callB (cr_maxA rfl) snd_max (by rfl) T.n_max (by decide +kernel) (fa_cons (fe_op op_addA snd_add (fe_lst (fa_cons (fe_idx (fe_var (pv 6)) (fe_var (pv 5))) fa_nil)) (fe_lc (own := [("k", 4)]) rfl sc_law_least.nd (fi_rg1 (by rfl) T.n_range (fe_var (pv 2))) (blkOk_by (own := [("k", 4)]) (N := ["game", "owners", "n", "gaps", "k", "i", "found", "turn", "more"]) (by rfl)) (fun _ h => h) (fun _ _ _ _ _ => (fg_name (pg_name (i := 4) sc_law_least.nd rfl (.inl rfl)))) (fun _ _ _ _ _ => fts_nil) (fun _ _ _ _ _ => (fe_op op_addA snd_add (fe_idx (fe_idx (fe_var (pv 3)) (fe_var (pv 5))) (fe_var (pv 4))) (fe_idx (fe_var (pv 6)) (fe_var (pv 4))))))) fa_nil))))
    (fs_cons (fs_if (ft_cmp (op_eqD hr.units) snd_eq (fe_var (pv 8)) (fe_var (pv 6)) (nomark _)) (fs_one (fs_ret (fe_callTy call_tuple_of snd_tuple (by rfl) T.n_tuple (by decide +kernel) (fa_cons (fe_var (pv 6)) fa_nil)))) fs_nil)
    (fs_one (fs_set (i := 6) sc_law_least.nd rfl (.inr rfl) (fe_var (pv 8))))))))
    (fs_one (fs_ret fe_non))))))
theorem ok_law (T : Tk P K mg base a) : FnOk P w K mg base (L2.CX P w) 10 a.f_law a.d_law ["script"] (spF K (XRr a.CM a.CR) F_law) := fn_mkX T.F_law sc_law rfl rfl fun cdv A outer s H E hr =>
    (fs_cons (fs_set (i := 1) sc_law.nd rfl (.inr rfl) (fe_call (ok_law_draw T) (hr.mono (by decide)) (by rfl) T.g_law_draw T.F_law_draw.kp T.b_law_draw (passes_call (takes_of rfl rfl rfl rfl) (fun _ _ _ _ h => h)) (fa_cons (fe_var (pv 0)) fa_nil)))
    (fs_cons (fs_set (i := 2) sc_law.nd rfl (.inr rfl) (fe_callM (ok_law_game T) (hr.mono (by decide)) (by rfl) T.g_law_game T.F_law_game.kp T.b_law_game (passes_call (takes_of rfl rfl rfl rfl) (fun _ _ _ _ h => h)) (fa_cons (fe_var (pv 1)) (fa_cons fe_int (fa_cons fe_int (fa_cons fe_int fa_nil))))))
    (fs_cons (fs_asg (fe_tup (fa_cons (fe_callB call_lenA snd_len (by rfl) T.n_len (by decide +kernel) (fa_cons (fe_var (pv 2)) fa_nil)) (fa_cons (fe_callB call_lenA snd_len (by rfl) T.n_len (by decide +kernel) (fa_cons (fe_idx (fe_var (pv 2)) fe_int) fa_nil)) fa_nil))) (fg_tup rfl (fgs_cons (fg_name (pg_name (i := 3) sc_law.nd rfl (.inr rfl))) (fgs_cons (fg_name (pg_name (i := 4) sc_law.nd rfl (.inl rfl))) fgs_nil))))
    (fs_cons (fs_set (i := 5) sc_law.nd rfl (.inr rfl) (fe_lc (own := [("turn", 6)]) rfl sc_law.nd (fi_rg1 (by rfl) T.n_range fe_int) (blkOk_by (own := [("turn", 6)]) (N := ["script", "draw", "game", "n", "m", "shares", "turn", "best", "i", "good", "owners", "due", "told", "item", "money", "left", "more", "rest", "each", "small", "row", "sums", "first", "bad", "wrong", "calls", "which", "call"]) (sc := defScope st_law) (by decide +kernel)) (fun _ h => h) (fun _ _ _ _ _ => (fg_name (pg_name (i := 6) sc_law.nd rfl (.inl rfl)))) (fun _ _ _ _ _ => fts_nil) (fun _ _ _ _ _ => (fe_callM (ok_law_owners T) (hr.mono (by decide)) (by rfl) T.g_law_owners T.F_law_owners.kp T.b_law_owners passL (fa_cons (fe_var (pv 1)) (fa_cons (fe_var (pv 2)) fa_nil))))))
    (fs_cons (fs_set (i := 7) sc_law.nd rfl (.inr rfl) (fe_lc (own := [("good", 9)]) rfl sc_law.nd (fi_rg1 (by rfl) T.n_range (fe_var (pv 4))) (blkOk_by (own := [("good", 9)]) (N := ["script", "draw", "game", "n", "m", "shares", "turn", "best", "i", "good", "owners", "due", "told", "item", "money", "left", "more", "rest", "each", "small", "row", "sums", "first", "bad", "wrong", "calls", "which", "call"]) (sc := defScope st_law) (by decide +kernel)) (fun _ h => h) (fun _ _ _ _ _ => (fg_name (pg_name (i := 9) sc_law.nd rfl (by first | exact .inl rfl | exact .inr rfl)))) (fun _ _ _ _ _ => fts_nil) (fun _ _ _ _ _ => (fe_callB (cr_maxA rfl) snd_max (by rfl) T.n_max (by decide +kernel) (fa_cons (fe_lc (own := [("i", 8)]) rfl sc_law.nd (fi_rg1 (by rfl) T.n_range (fe_var (pv 3))) (blkOk_by (own := [("i", 8)]) (N := ["script", "draw", "game", "n", "m", "shares", "turn", "best", "i", "good", "owners", "due", "told", "item", "money", "left", "more", "rest", "each", "small", "row", "sums", "first", "bad", "wrong", "calls", "which", "call"]) (by rfl)) (fun _ h => h) (fun _ _ _ _ _ => (fg_name (pg_name (i := 8) sc_law.nd rfl (.inl rfl)))) (fun _ _ _ _ _ => fts_nil) (fun _ _ _ _ _ => (fe_idx (fe_idx (fe_var (pv 2)) (fe_var (pv 8))) (fe_var (pv 9))))) fa_nil)))))
    (fs_cons (fs_expr (fe_meth PySem.F.slot_list_append PySem.F.type_list_append mt_append snd_append (fe_var (pv 5)) (fa_cons (fe_callTy call_tuple_of snd_tuple (by rfl) T.n_tuple (by decide +kernel) (fa_cons (fe_lc (own := [("good", 9)]) rfl sc_law.nd (fi_rg1 (by rfl) T.n_range (fe_var (pv 4))) (blkOk_by (own := [("good", 9)]) (N := ["script", "draw", "game", "n", "m", "shares", "turn", "best", "i", "good", "owners", "due", "told", "item", "money", "left", "more", "rest", "each", "small", "row", "sums", "first", "bad", "wrong", "calls", "which", "call"]) (sc := defScope st_law) (by decide +kernel)) (fun _ h => h) (fun _ _ _ _ _ => (fg_name (pg_name (i := 9) sc_law.nd rfl (by first | exact .inl rfl | exact .inr rfl)))) (fun _ _ _ _ _ => fts_nil) (fun _ _ _ _ _ => (fe_idx (fe_lc (own := [("i", 8)]) rfl sc_law.nd (fi_rg1 (by rfl) T.n_range (fe_var (pv 3))) (blkOk_by (own := [("i", 8)]) (N := ["script", "draw", "game", "n", "m", "shares", "turn", "best", "i", "good", "owners", "due", "told", "item", "money", "left", "more", "rest", "each", "small", "row", "sums", "first", "bad", "wrong", "calls", "which", "call"]) (by rfl)) (fun _ h => h) (fun _ _ _ _ _ => (fg_name (pg_name (i := 8) sc_law.nd rfl (.inl rfl)))) (fun _ _ _ _ _ => (fts_one (ft_cmp (op_eqD hr.units) snd_eq (fe_idx (fe_idx (fe_var (pv 2)) (fe_var (pv 8))) (fe_var (pv 9))) (fe_idx (fe_var (pv 7)) (fe_var (pv 9))) (nomark _)))) (fun _ _ _ _ _ => (fe_var (pv 8)))) fe_int))) fa_nil)) fa_nil)))
    (fs_cons (fs_for (passes_of rfl) rfl (fi_seq (fe_var (pv 5))) (fg_name (pg_name (i := 10) sc_law.nd rfl (.inr rfl)))
    (fs_kl (vs := [6, 10, 11, 12, 14, 15, 16, 17, 18]) (fs_cons (fs_asg (fe_tup (fa_cons (fe_call (ok_law_least T) (hr.mono (by decide)) (by rfl) T.g_law_least T.F_law_least.kp T.b_law_least (passes_call (takes_of rfl rfl rfl rfl) (fun _ _ _ _ h => h)) (fa_cons (fe_var (pv 2)) (fa_cons (fe_var (pv 10)) fa_nil))) (fa_cons (fe_call (ok_least_payments T) (hr.mono (by decide)) (by rfl) T.g_least_payments T.F_least_payments.kp T.b_least_payments (passes_call (takes_of rfl rfl rfl rfl) (fun _ _ _ _ h => h)) (fa_cons (fe_var (pv 2)) (fa_cons (fe_var (pv 10)) fa_nil))) fa_nil))) (fg_tup rfl (fgs_cons (fg_name (pg_name (i := 11) sc_law.nd rfl (.inl rfl))) (fgs_cons (fg_name (pg_name (i := 12) sc_law.nd rfl (.inr rfl))) fgs_nil))))
    (fs_cons (fs_if (PW.pt (fw_or (ft_cmp (op_neD hr.units) snd_ne (fe_var (pv 12)) (fe_var (pv 11)) (nomark _)) (fw_or1 (PW.pt (fw_and (ft_cmp op_notN snd_notN (fe_var (pv 12)) fe_non (nomark _)) (fw_and1 (ft_cmp (op_neD hr.units) snd_ne (fe_lc (own := [("item", 13)]) rfl sc_law.nd (fi_seq (fe_var (pv 12))) (blkOk_by (own := [("item", 13)]) (N := ["script", "draw", "game", "n", "m", "shares", "turn", "best", "i", "good", "owners", "due", "told", "item", "money", "left", "more", "rest", "each", "small", "row", "sums", "first", "bad", "wrong", "calls", "which", "call"]) (sc := defScope st_law) (by decide +kernel)) (fun _ h => h) (fun _ _ _ _ _ => (fg_name (pg_name (i := 13) sc_law.nd rfl (.inl rfl)))) (fun _ _ _ _ _ => (fts_one (PW.pt (fw_or (ft_not (ft_val (fe_isi isi_int (by rfl) T.n_isinstance (by rfl) T.n_int (by decide +kernel) (fe_var (pv 13))))) (fw_or1 (ft_val (fe_isi isi_bool (by rfl) T.n_isinstance (by rfl) T.n_bool (by decide +kernel) (fe_var (pv 13))))))))) (fun _ _ _ _ _ => (fe_var (pv 13)))) (fe_lst fa_nil) (nomark _)))))))) (fs_one (fs_ret fe_bl)) fs_nil)
    (fs_cons (fs_set (i := 14) sc_law.nd rfl (.inl rfl) (fe_call (ok_law_fraction T) (hr.mono (by decide)) (by rfl) T.g_law_fraction T.F_law_fraction.kp T.b_law_fraction (passes_call (takes_of rfl rfl rfl rfl) (fun _ _ _ _ h => h)) (fa_cons (fe_callM (ok_law_take T) (hr.mono (by decide)) (by rfl) T.g_law_take T.F_law_take.kp T.b_law_take (passes_call (takes_of rfl rfl rfl rfl) (fun _ _ _ _ h => h)) (fa_cons (fe_var (pv 1)) (fa_cons fe_int fa_nil))) (fa_cons (fe_op op_addA snd_add fe_int (fe_callM (ok_law_take T) (hr.mono (by decide)) (by rfl) T.g_law_take T.F_law_take.kp T.b_law_take (passes_call (takes_of rfl rfl rfl rfl) (fun _ _ _ _ h => h)) (fa_cons (fe_var (pv 1)) (fa_cons fe_int fa_nil)))) fa_nil))))
    (fs_cons (fs_set (i := 15) sc_law.nd rfl (.inl rfl) (fe_call (ok_pay_left T) (hr.mono (by decide)) (by rfl) T.g_pay_left T.F_pay_left.kp T.b_pay_left (passes_call (takes_of rfl rfl rfl rfl) (fun _ _ _ _ h => h)) (fa_cons (fe_var (pv 2)) (fa_cons (fe_var (pv 10)) (fa_cons (fe_var (pv 14)) fa_nil)))))
    (fs_cons (fs_if (ft_cmp op_isN snd_isN (fe_var (pv 12)) fe_non (nomark _)) (fs_cons (fs_if (ft_cmp op_notN snd_notN (fe_var (pv 15)) fe_non (nomark _)) (fs_one (fs_ret fe_bl)) fs_nil)
    (fs_one fs_continue)) fs_nil)
    (fs_cons (fs_if (PW.pt (fw_or (ft_cmp (op_neD hr.units) snd_ne (fe_callB (cr_minA rfl) snd_min (by rfl) T.n_min (by decide +kernel) (fa_cons (fe_var (pv 12)) fa_nil)) fe_int (nomark _)) (fw_or1 (ft_cmp op_notBl snd_notB (fe_call (ok_is_calm T) (hr.mono (by decide)) (by rfl) T.g_is_calm T.F_is_calm.kp T.b_is_calm (passes_call (takes_of rfl rfl rfl rfl) (fun _ _ _ _ h => h)) (fa_cons (fe_var (pv 2)) (fa_cons (fe_var (pv 10)) (fa_cons (fe_callTy call_tuple_of snd_tuple (by rfl) T.n_tuple (by decide +kernel) (fa_cons (fe_lc (own := [("item", 13)]) rfl sc_law.nd (fi_seq (fe_var (pv 12))) (blkOk_by (own := [("item", 13)]) (N := ["script", "draw", "game", "n", "m", "shares", "turn", "best", "i", "good", "owners", "due", "told", "item", "money", "left", "more", "rest", "each", "small", "row", "sums", "first", "bad", "wrong", "calls", "which", "call"]) (sc := defScope st_law) (by decide +kernel)) (fun _ h => h) (fun _ _ _ _ _ => (fg_name (pg_name (i := 13) sc_law.nd rfl (.inl rfl)))) (fun _ _ _ _ _ => fts_nil) (fun _ _ _ _ _ => (fe_tup (fa_cons (fe_var (pv 13)) (fa_cons fe_int fa_nil))))) fa_nil)) fa_nil)))) fe_bl (nomark _))))) (fs_one (fs_ret fe_bl)) fs_nil)
    (fs_cons (fs_for (passes_of rfl) rfl (fi_rg1 (by rfl) T.n_range fe_int) (fg_name (pg_name (i := 6) sc_law.nd rfl (.inl rfl)))
    (fs_kl (vs := [6, 16]) (fs_cons (fs_set (i := 16) sc_law.nd rfl (.inr rfl) (fe_callTy call_tuple_of snd_tuple (by rfl) T.n_tuple (by decide +kernel) (fa_cons (fe_lc (own := [("item", 13)]) rfl sc_law.nd (fi_seq (fe_var (pv 12))) (blkOk_by (own := [("item", 13)]) (N := ["script", "draw", "game", "n", "m", "shares", "turn", "best", "i", "good", "owners", "due", "told", "item", "money", "left", "more", "rest", "each", "small", "row", "sums", "first", "bad", "wrong", "calls", "which", "call"]) (sc := defScope st_law) (by decide +kernel)) (fun _ h => h) (fun _ _ _ _ _ => (fg_name (pg_name (i := 13) sc_law.nd rfl (.inl rfl)))) (fun _ _ _ _ _ => fts_nil) (fun _ _ _ _ _ => (fe_call (ok_law_fraction T) (hr.mono (by decide)) (by rfl) T.g_law_fraction T.F_law_fraction.kp T.b_law_fraction passL (fa_cons (fe_op op_sub snd_sub (fe_op op_addA snd_add (fe_op op_mulA snd_mul fe_int (fe_var (pv 13))) (fe_callM (ok_law_take T) (hr.mono (by decide)) (by rfl) T.g_law_take T.F_law_take.kp T.b_law_take passL (fa_cons (fe_var (pv 1)) (fa_cons fe_int fa_nil)))) (fe_callM (ok_law_take T) (hr.mono (by decide)) (by rfl) T.g_law_take T.F_law_take.kp T.b_law_take passL (fa_cons (fe_var (pv 1)) (fa_cons fe_int fa_nil)))) (fa_cons fe_int fa_nil))))) fa_nil)))
    (fs_one (fs_if (PW.pt (fw_and (ft_cmp op_ge snd_ge (fe_callB (cr_minA rfl) snd_min (by rfl) T.n_min (by decide +kernel) (fa_cons (fe_lc (own := [("item", 13)]) rfl sc_law.nd (fi_seq (fe_var (pv 16))) (blkOk_by (own := [("item", 13)]) (N := ["script", "draw", "game", "n", "m", "shares", "turn", "best", "i", "good", "owners", "due", "told", "item", "money", "left", "more", "rest", "each", "small", "row", "sums", "first", "bad", "wrong", "calls", "which", "call"]) (sc := defScope st_law) (by decide +kernel)) (fun _ h => h) (fun _ _ _ _ _ => (fg_name (pg_name (i := 13) sc_law.nd rfl (.inl rfl)))) (fun _ _ _ _ _ => fts_nil) (fun _ _ _ _ _ => (fe_idx (fe_var (pv 13)) fe_int))) fa_nil)) fe_int (nomark _)) (fw_and1 (ft_val (fe_call (ok_is_calm T) (hr.mono (by decide)) (by rfl) T.g_is_calm T.F_is_calm.kp T.b_is_calm (passes_call (takes_of rfl rfl rfl rfl) (fun _ _ _ _ h => h)) (fa_cons (fe_var (pv 2)) (fa_cons (fe_var (pv 10)) (fa_cons (fe_var (pv 16)) fa_nil)))))))) (fs_one (fs_if (ft_cmp (op_neD hr.units) snd_ne (fe_lc (own := [("i", 8)]) rfl sc_law.nd (fi_rg1 (by rfl) T.n_range (fe_var (pv 3))) (blkOk_by (own := [("i", 8)]) (N := ["script", "draw", "game", "n", "m", "shares", "turn", "best", "i", "good", "owners", "due", "told", "item", "money", "left", "more", "rest", "each", "small", "row", "sums", "first", "bad", "wrong", "calls", "which", "call"]) (sc := defScope st_law) (by decide +kernel)) (fun _ h => h) (fun _ _ _ _ _ => (fg_name (pg_name (i := 8) sc_law.nd rfl (.inl rfl)))) (fun _ _ _ _ _ => (fts_one (ft_val (fe_call (ok_law_less T) (hr.mono (by decide)) (by rfl) T.g_law_less T.F_law_less.kp T.b_law_less passL (fa_cons (fe_idx (fe_var (pv 16)) (fe_var (pv 8))) (fa_cons (fe_tup (fa_cons (fe_idx (fe_var (pv 12)) (fe_var (pv 8))) (fa_cons fe_int fa_nil))) fa_nil)))))) (fun _ _ _ _ _ => (fe_var (pv 8)))) (fe_lst fa_nil) (nomark _)) (fs_one (fs_ret fe_bl)) fs_nil)) fs_nil)))))
    (fs_cons (fs_set (i := 17) sc_law.nd rfl (.inl rfl) (fe_call (ok_law_minus T) (hr.mono (by decide)) (by rfl) T.g_law_minus T.F_law_minus.kp T.b_law_minus (passes_call (takes_of rfl rfl rfl rfl) (fun _ _ _ _ h => h)) (fa_cons (fe_var (pv 14)) (fa_cons (fe_tup (fa_cons (fe_callB (cr_sumA rfl) snd_sum (by rfl) T.n_sum (by decide +kernel) (fa_cons (fe_var (pv 12)) fa_nil)) (fa_cons fe_int fa_nil))) fa_nil))))
    (fs_cons (fs_if (ft_cmp (op_neD hr.units) snd_ne (fe_cmp op_isN snd_isN (fe_var (pv 15)) fe_non (nomark _)) (fe_cmp op_lt snd_lt (fe_idx (fe_var (pv 17)) fe_int) fe_int (nomark _)) (nomark _)) (fs_one (fs_ret fe_bl)) fs_nil)
    (fs_one (fs_if (ft_cmp op_notN snd_notN (fe_var (pv 15)) fe_non (nomark _)) (fs_kl (vs := [18]) (fs_cons (fs_set (i := 18) sc_law.nd rfl (.inr rfl) (fe_call (ok_law_over T) (hr.mono (by decide)) (by rfl) T.g_law_over T.F_law_over.kp T.b_law_over (passes_call (takes_of rfl rfl rfl rfl) (fun _ _ _ _ h => h)) (fa_cons (fe_var (pv 17)) (fa_cons (fe_tup (fa_cons (fe_var (pv 3)) (fa_cons fe_int fa_nil))) fa_nil))))
    (fs_cons (fs_if (ft_cmp (op_neD hr.units) snd_ne (fe_var (pv 15)) (fe_callTy call_tuple_of snd_tuple (by rfl) T.n_tuple (by decide +kernel) (fa_cons (fe_lc (own := [("i", 8)]) rfl sc_law.nd (fi_rg1 (by rfl) T.n_range (fe_var (pv 3))) (blkOk_by (own := [("i", 8)]) (N := ["script", "draw", "game", "n", "m", "shares", "turn", "best", "i", "good", "owners", "due", "told", "item", "money", "left", "more", "rest", "each", "small", "row", "sums", "first", "bad", "wrong", "calls", "which", "call"]) (sc := defScope st_law) (by decide +kernel)) (fun _ h => h) (fun _ _ _ _ _ => (fg_name (pg_name (i := 8) sc_law.nd rfl (.inl rfl)))) (fun _ _ _ _ _ => fts_nil) (fun _ _ _ _ _ => (fe_call (ok_law_plus T) (hr.mono (by decide)) (by rfl) T.g_law_plus T.F_law_plus.kp T.b_law_plus passL (fa_cons (fe_tup (fa_cons (fe_op op_addA snd_add (fe_call (ok_law_worth T) (hr.mono (by decide)) (by rfl) T.g_law_worth T.F_law_worth.kp T.b_law_worth passL (fa_cons (fe_var (pv 2)) (fa_cons (fe_var (pv 10)) (fa_cons (fe_var (pv 8)) (fa_cons (fe_var (pv 8)) fa_nil))))) (fe_idx (fe_var (pv 12)) (fe_var (pv 8)))) (fa_cons fe_int fa_nil))) (fa_cons (fe_var (pv 18)) fa_nil))))) fa_nil)) (nomark _)) (fs_one (fs_ret fe_bl)) fs_nil)
    (fs_one (fs_if (ft_cmp (op_neD hr.units) snd_ne (fe_call (ok_law_sum T) (hr.mono (by decide)) (by rfl) T.g_law_sum T.F_law_sum.kp T.b_law_sum (passes_call (takes_of rfl rfl rfl rfl) (fun _ _ _ _ h => h)) (fa_cons (fe_var (pv 15)) fa_nil)) (fe_call (ok_law_plus T) (hr.mono (by decide)) (by rfl) T.g_law_plus T.F_law_plus.kp T.b_law_plus (passes_call (takes_of rfl rfl rfl rfl) (fun _ _ _ _ h => h)) (fa_cons (fe_var (pv 14)) (fa_cons (fe_tup (fa_cons (fe_callB (cr_sumA rfl) snd_sum (by rfl) T.n_sum (by decide +kernel) (fa_cons (fe_lc (own := [("i", 8)]) rfl sc_law.nd (fi_rg1 (by rfl) T.n_range (fe_var (pv 3))) (blkOk_by (own := [("i", 8)]) (N := ["script", "draw", "game", "n", "m", "shares", "turn", "best", "i", "good", "owners", "due", "told", "item", "money", "left", "more", "rest", "each", "small", "row", "sums", "first", "bad", "wrong", "calls", "which", "call"]) (sc := defScope st_law) (by decide +kernel)) (fun _ h => h) (fun _ _ _ _ _ => (fg_name (pg_name (i := 8) sc_law.nd rfl (.inl rfl)))) (fun _ _ _ _ _ => fts_nil) (fun _ _ _ _ _ => (fe_call (ok_law_worth T) (hr.mono (by decide)) (by rfl) T.g_law_worth T.F_law_worth.kp T.b_law_worth passL (fa_cons (fe_var (pv 2)) (fa_cons (fe_var (pv 10)) (fa_cons (fe_var (pv 8)) (fa_cons (fe_var (pv 8)) fa_nil))))))) fa_nil)) (fa_cons fe_int fa_nil))) fa_nil))) (nomark _)) (fs_one (fs_ret fe_bl)) fs_nil))))) fs_nil)))))))))))))
    (fs_cons (fs_set (i := 19) sc_law.nd rfl (.inl rfl) (fe_callTy call_tuple_of snd_tuple (by rfl) T.n_tuple (by decide +kernel) (fa_cons (fe_lc (own := [("row", 20)]) rfl sc_law.nd (fi_seq (fe_slice (fe_var (pv 2)) fo_none (fo_some fe_int))) (blkOk_by (own := [("row", 20)]) (N := ["script", "draw", "game", "n", "m", "shares", "turn", "best", "i", "good", "owners", "due", "told", "item", "money", "left", "more", "rest", "each", "small", "row", "sums", "first", "bad", "wrong", "calls", "which", "call"]) (sc := defScope st_law) (by decide +kernel)) (fun _ h => h) (fun _ _ _ _ _ => (fg_name (pg_name (i := 20) sc_law.nd rfl (.inl rfl)))) (fun _ _ _ _ _ => fts_nil) (fun _ _ _ _ _ => (fe_slice (fe_var (pv 20)) fo_none (fo_some fe_int)))) fa_nil)))
    (fs_cons (fs_asg (fe_tup (fa_cons fe_non (fa_cons fe_non fa_nil))) (fg_tup rfl (fgs_cons (fg_name (pg_name (i := 21) sc_law.nd rfl (.inl rfl))) (fgs_cons (fg_name (pg_name (i := 22) sc_law.nd rfl (.inl rfl))) fgs_nil))))
    (fs_cons (fs_for (passes_of rfl) rfl (fi_seq (fe_call (ok_law_shares T) (hr.mono (by decide)) (by rfl) T.g_law_shares T.F_law_shares.kp T.b_law_shares (passes_call (takes_of rfl rfl rfl rfl) (fun _ _ _ _ h => h)) (fa_cons (fe_callB call_lenA snd_len (by rfl) T.n_len (by decide +kernel) (fa_cons (fe_var (pv 19)) fa_nil)) (fa_cons (fe_callB call_lenA snd_len (by rfl) T.n_len (by decide +kernel) (fa_cons (fe_idx (fe_var (pv 19)) fe_int) fa_nil)) fa_nil)))) (fg_name (pg_name (i := 10) sc_law.nd rfl (.inr rfl)))
    (fs_kl (vs := [10, 11]) (fs_cons (fs_set (i := 11) sc_law.nd rfl (.inl rfl) (fe_call (ok_law_least T) (hr.mono (by decide)) (by rfl) T.g_law_least T.F_law_least.kp T.b_law_least (passes_call (takes_of rfl rfl rfl rfl) (fun _ _ _ _ h => h)) (fa_cons (fe_var (pv 19)) (fa_cons (fe_var (pv 10)) fa_nil))))
    (fs_one (fs_if (PW.pt (fw_and (ft_cmp op_notN snd_notN (fe_var (pv 11)) fe_non (nomark _)) (fw_and1 (PW.pt (fw_or (ft_cmp op_isN snd_isN (fe_var (pv 21)) fe_non (nomark _)) (fw_or1 (ft_cmp op_lt snd_lt (fe_callB (cr_sumA rfl) snd_sum (by rfl) T.n_sum (by decide +kernel) (fa_cons (fe_var (pv 11)) fa_nil)) (fe_var (pv 21)) (nomark _)))))))) (fs_one (fs_par (n := 21) (m := 22) rfl sc_law.nd rfl rfl (by decide) rfl rfl (fa_cons (fe_callB (cr_sumA rfl) snd_sum (by rfl) T.n_sum (by decide +kernel) (fa_cons (fe_var (pv 11)) fa_nil)) (fa_cons (fe_var (pv 10)) fa_nil)) (by rfl))) fs_nil)))))
    (fs_cons (fs_if (ft_cmp (op_neD hr.units) snd_ne (fe_call (ok_cheapest T) (hr.mono (by decide)) (by rfl) T.g_cheapest T.F_cheapest.kp T.b_cheapest (passes_call (takes_of rfl rfl rfl rfl) (fun _ _ _ _ h => h)) (fa_cons (fe_var (pv 19)) fa_nil)) (fe_tup (fa_cons (fe_var (pv 21)) (fa_cons (fe_var (pv 22)) fa_nil))) (nomark _)) (fs_one (fs_ret fe_bl)) fs_nil)
    (fs_cons (fs_if (ft_cmp (op_neD hr.units) snd_ne (fe_call (ok_law_word T) (hr.mono (by decide)) (by rfl) T.g_law_word T.F_law_word.kp T.b_law_word (passes_call (takes_of rfl rfl rfl rfl) (fun _ _ _ _ h => h)) (fa_cons (fe_tup (fa_cons fe_int (fa_cons (fe_op op_mulA snd_mul (fe_tup (fa_cons (fe_op op_mulA snd_mul (fe_tup (fa_cons fe_int fa_nil)) fe_int) fa_nil)) fe_int) (fa_cons fe_int (fa_cons fe_int fa_nil))))) fa_nil)) fe_str (nomark _)) (fs_one (fs_ret fe_bl)) fs_nil)
    (fs_cons (fs_asg (fe_tup (fa_cons (fe_callM (ok_law_bad_game T) (hr.mono (by decide)) (by rfl) T.g_law_bad_game T.F_law_bad_game.kp T.b_law_bad_game (passes_call (takes_of rfl rfl rfl rfl) (fun _ _ _ _ h => h)) (fa_cons (fe_var (pv 1)) (fa_cons (fe_var (pv 2)) fa_nil))) (fa_cons (fe_callM (ok_law_bad_owners T) (hr.mono (by decide)) (by rfl) T.g_law_bad_owners T.F_law_bad_owners.kp T.b_law_bad_owners (passes_call (takes_of rfl rfl rfl rfl) (fun _ _ _ _ h => h)) (fa_cons (fe_var (pv 1)) (fa_cons (fe_var (pv 2)) (fa_cons (fe_idx (fe_var (pv 5)) fe_int) fa_nil)))) fa_nil))) (fg_tup rfl (fgs_cons (fg_name (pg_name (i := 23) sc_law.nd rfl (.inr rfl))) (fgs_cons (fg_name (pg_name (i := 24) sc_law.nd rfl (.inl rfl))) fgs_nil))))
    (fs_cons (fs_set (i := 25) sc_law.nd rfl (.inl rfl) (fe_op op_addA snd_add (fe_lc (own := [("which", 26)]) rfl sc_law.nd (fi_rg1 (by rfl) T.n_range fe_int) (blkOk_by (own := [("which", 26)]) (N := ["script", "draw", "game", "n", "m", "shares", "turn", "best", "i", "good", "owners", "due", "told", "item", "money", "left", "more", "rest", "each", "small", "row", "sums", "first", "bad", "wrong", "calls", "which", "call"]) (sc := defScope st_law) (by decide +kernel)) (fun _ h => h) (fun _ _ _ _ _ => (fg_name (pg_name (i := 26) sc_law.nd rfl (.inl rfl)))) (fun _ _ _ _ _ => fts_nil) (fun _ _ _ _ _ => (fe_tup (fa_cons (fe_var (pv 26)) (fa_cons (fe_var (pv 23)) (fa_cons (fe_idx (fe_var (pv 5)) fe_int) (fa_cons (fe_tup (fa_cons fe_int (fa_cons fe_int fa_nil))) fa_nil))))))) (fe_lst (fa_cons (fe_tup (fa_cons fe_int (fa_cons (fe_var (pv 2)) (fa_cons (fe_var (pv 24)) (fa_cons fe_int fa_nil))))) (fa_cons (fe_tup (fa_cons fe_int (fa_cons (fe_var (pv 2)) (fa_cons (fe_var (pv 24)) (fa_cons (fe_tup (fa_cons fe_int (fa_cons fe_int fa_nil))) fa_nil))))) fa_nil)))))
    (fs_cons (fs_expr (fe_meth PySem.F.slot_list_append PySem.F.type_list_append mt_append snd_append (fe_var (pv 25)) (fa_cons (fe_tup (fa_cons fe_int (fa_cons (fe_var (pv 2)) (fa_cons (fe_idx (fe_var (pv 5)) fe_int) (fa_cons (fe_idx (fe_lst (fa_cons fe_non (fa_cons (fe_neg fe_int) (fa_cons (fe_tup (fa_cons (fe_neg fe_int) (fa_cons fe_int fa_nil))) (fa_cons (fe_tup (fa_cons fe_int (fa_cons fe_int fa_nil))) (fa_cons fe_int (fa_cons fe_str fa_nil))))))) (fe_callM (ok_law_take T) (hr.mono (by decide)) (by rfl) T.g_law_take T.F_law_take.kp T.b_law_take (passes_call (takes_of rfl rfl rfl rfl) (fun _ _ _ _ h => h)) (fa_cons (fe_var (pv 1)) (fa_cons fe_int fa_nil)))) fa_nil))))) fa_nil)))
    (fs_one (fs_ret (fe_cmp (op_eqD hr.units) snd_eq (fe_lc (own := [("call", 27)]) rfl sc_law.nd (fi_seq (fe_var (pv 25))) (blkOk_by (own := [("call", 27)]) (N := ["script", "draw", "game", "n", "m", "shares", "turn", "best", "i", "good", "owners", "due", "told", "item", "money", "left", "more", "rest", "each", "small", "row", "sums", "first", "bad", "wrong", "calls", "which", "call"]) (sc := defScope st_law) (by decide +kernel)) (fun _ h => h) (fun _ _ _ _ _ => (fg_name (pg_name (i := 27) sc_law.nd rfl (.inl rfl)))) (fun _ _ _ _ _ => (fts_one (ft_cmp (op_neD hr.units) snd_ne (fe_call (ok_law_word T) (hr.mono (by decide)) (by rfl) T.g_law_word T.F_law_word.kp T.b_law_word passL (fa_cons (fe_var (pv 27)) fa_nil)) fe_str (nomark _)))) (fun _ _ _ _ _ => (fe_var (pv 27)))) (fe_lst fa_nil) (nomark _)))))))))))))))))))
end
end D67
/-! Ev: the functions' values -/
namespace Fx
open PySem PySem.Spec
open PyProof.Rows L2
theorem lockAll_at (G : Gm) (lk : List Nat) (i : Nat) : (lockAll G lk)[i]? = (G[i]?).map fun s => if lk.contains i then lockS s else s := by
  unfold lockAll
  rw [List.getElem?_mapIdx]
theorem unlk_lockS (s : Sl) : unlk s (lockS s) = s := by cases s <;> rfl
theorem unlk_self (s : Sl) : unlk s s = s := by cases s <;> rfl
theorem unlock_lock (G : Gm) (lk : List Nat) : unlockAll G (lockAll G lk) = G := by
  apply List.ext_getElem?
  intro i
  unfold unlockAll
  rw [List.getElem?_zipWith, lockAll_at]
  cases G[i]? with
  | none => rfl
  | some s =>
    show some (unlk s (if lk.contains i then lockS s else s)) = some s
    split
    · rw [unlk_lockS]
    · rw [unlk_self]
theorem unwipe_wipe (G : Gm) (vs : List Nat) : unwipe G (wipeG G vs) vs = G := by
  apply List.ext_getElem?
  intro i
  unfold unwipe wipeG
  rw [List.getElem?_mapIdx, List.getElem?_mapIdx]
  cases e : G[i]? with
  | none => rfl
  | some s =>
    show some (if vs.contains i then G.getD i .no else (if vs.contains i then .no else s)) = some s
    split
    · rw [List.getD_eq_getElem?_getD, e]; rfl
    · rfl
theorem wipe_set {G0 : Gm} {i : Nat} {s : Sl} (h : G0[i]? = some .no) : wipeG (G0.set i s) [i] = G0 := by
  apply List.ext_getElem?
  intro j
  unfold wipeG
  rw [List.getElem?_mapIdx]
  by_cases e : j = i
  · subst e
    have hl : j < G0.length := (List.getElem?_eq_some_iff.mp h).1
    rw [List.getElem?_set_self hl, h]
    simp
  · rw [List.getElem?_set_ne (Ne.symm e)]
    have : ([i].contains j) = false := by simp [e]
    cases G0[j]? with
    | none => rfl
    | some t => simp [this, e]
theorem gN_no {G0 : Gm} {i : Nat} {d : PyData} (h : G0[i]? = some .no) : gN i d G0 = some (G0.set i (.d d)) := by
  unfold gN setSl freeAt
  rw [h]
  rfl
/-- an answer that is kept as data, the state left alone -/
def Gives (f : Gm → Res Rv) (G : Gm) (x : PyData) : Prop := ∃ r, f G = .ok r G ∧ retain G r = some (x, G)
theorem Gives.d {f : Gm → Res Rv} {G : Gm} {x : PyData} (h : f G = .ok (.d x) G) : Gives f G x := ⟨_, h, rfl⟩
theorem Gives.l {f : Gm → Res Rv} {G : Gm} {x : List PyData} (h : f G = .ok (.new (.lst x)) G) : Gives f G (.list x) := ⟨_, h, rfl⟩
theorem compF_filter {i : Nat} {p : PyData → Bool} {e : PyData → PyData} {tst : Gm → Res Bool} {elt : Gm → Res Rv} {G0 : Gm} (h0 : G0[i]? = some .no) : ∀ (ds acc : List PyData), acc.length + ds.length ≤ 16777216 →
    (∀ d ∈ ds, tst (G0.set i (.d d)) = .ok (p d) (G0.set i (.d d))) → (∀ d ∈ ds, p d = true → Gives elt (G0.set i (.d d)) (e d)) → compF [i] (gN i) tst elt ds acc G0 = .ok (acc ++ (ds.filter p).map e) G0
  | [], acc, _, _, _ => by simp [compF]
  | d :: ds, acc, hl, ht, he => by
    rw [List.length_cons] at hl
    unfold compF
    rw [gN_no h0]
    dsimp only
    rw [ht d List.mem_cons_self]
    cases hp : p d with
    | true =>
      obtain ⟨r, e1, e2⟩ := he d List.mem_cons_self hp
      dsimp only
      rw [e1]
      dsimp only
      rw [e2]
      dsimp only
      rw [if_pos (by unfold lim; exact decide_eq_true (by omega)), wipe_set h0, compF_filter h0 ds (acc ++ [e d]) (by rw [List.length_append]; simp; omega) (fun x hx => ht x (List.mem_cons_of_mem _ hx)) fun x hx => he x (List.mem_cons_of_mem _ hx)]
      rw [List.filter_cons, if_pos hp, List.map_cons]
      simp
    | false =>
      dsimp only
      rw [wipe_set h0, compF_filter h0 ds acc (by omega) (fun x hx => ht x (List.mem_cons_of_mem _ hx)) fun x hx => he x (List.mem_cons_of_mem _ hx)]
      rw [List.filter_cons, if_neg (by rw [hp]; exact Bool.false_ne_true)]
theorem wipeNo {G : Gm} {i : Nat} (h : i < G.length) : (wipeG G [i])[i]? = some .no := by
  unfold wipeG
  rw [List.getElem?_mapIdx, List.getElem?_eq_getElem h]
  simp
theorem comp_ev {it : Gm → Res Itv} {i : Nat} {p : PyData → Bool} {e : PyData → PyData} {tst : Gm → Res Bool} {elt : Gm → Res Rv} {G : Gm} {ds : List PyData} {lk : List Nat} (hit : it G = .ok (ds, lk) G) (hpl : plainAt G [i] = true) (hi : (G[i]?).isSome = true) (hl : ds.length ≤ 16777216)
    (ht : ∀ d ∈ ds, tst ((wipeG (lockAll G lk) [i]).set i (.d d)) = .ok (p d) ((wipeG (lockAll G lk) [i]).set i (.d d))) (he : ∀ d ∈ ds, p d = true → Gives elt ((wipeG (lockAll G lk) [i]).set i (.d d)) (e d)) :
    fComp it [i] (gN i) tst elt G = .ok (.new (.lst ((ds.filter p).map e))) G := by
  have hl0 : i < (lockAll G lk).length := by
    unfold lockAll; rw [List.length_mapIdx]
    obtain ⟨s, h⟩ := Option.isSome_iff_exists.mp hi
    exact (List.getElem?_eq_some_iff.mp h).1
  unfold fComp
  rw [hit, Res.bind_ok, if_pos hpl, compF_filter (wipeNo hl0) ds [] (by simpa using hl) ht he]
  dsimp only
  rw [unwipe_wipe, unlock_lock]
  rfl
/-- without a test -/
theorem comp_ev0 {it : Gm → Res Itv} {i : Nat} {e : PyData → PyData} {elt : Gm → Res Rv} {G : Gm} {ds : List PyData} {lk : List Nat} (hit : it G = .ok (ds, lk) G) (hpl : plainAt G [i] = true) (hi : (G[i]?).isSome = true) (hl : ds.length ≤ 16777216)
    (he : ∀ d ∈ ds, Gives elt ((wipeG (lockAll G lk) [i]).set i (.d d)) (e d)) : fComp it [i] (gN i) tYesF elt G = .ok (.new (.lst (ds.map e))) G := by
  have := comp_ev (p := fun _ => true) (tst := tYesF) hit hpl hi hl (fun d _ => rfl) fun d hd _ => he d hd
  rw [this, List.filter_eq_self.mpr (fun _ _ => rfl)]
theorem boolsOfF {α : Type} (f : α → Bool) : ∀ l : List α, boolsOf (l.map fun x => .bool (f x)) = some (l.map f)
  | [] => rfl
  | x :: l => by
    rw [List.map_cons, boolsOf, boolsOfF f l]; rfl
theorem intsOfF {α : Type} (f : α → Int) : ∀ l : List α, intsOf (l.map fun x => .int (f x)) = some (l.map f)
  | [] => rfl
  | x :: l => by
    rw [List.map_cons, intsOf, intsOfF f l]; rfl
theorem bind_eq {α β : Type} {r : Res α} {a : α} {G : Gm} {k : α → Gm → Res β} (h : r = .ok a G) : r.bind k = k a G := by rw [h]; rfl
/-- all(..) of a comprehension -/
theorem all_ev {α : Type} {fc : Gm → Res Rv} {G : Gm} {l : List α} {f : α → Bool} (h : fc G = .ok (.new (.lst (l.map fun x => .bool (f x)))) G) : fCallK kAll (fCons fc fNil) G = .ok (.d (.bool (l.all f))) G := by
  unfold fCallK fCons
  rw [h]
  show kAll G [.new (.lst (l.map fun x => .bool (f x)))] = _
  unfold kAll kBools k1
  dsimp only [rd, aoD]
  rw [boolsOfF]
  dsimp only
  rw [List.all_map]
  rfl
theorem sum_ev {α : Type} {fc : Gm → Res Rv} {G : Gm} {l : List α} {f : α → Int} (h : fc G = .ok (.new (.lst (l.map fun x => .int (f x)))) G) : fCallK kSum (fCons fc fNil) G = .ok (.d (.int (l.map f).sum)) G := by
  unfold fCallK fCons
  rw [h]
  show kSum G [.new (.lst (l.map fun x => .int (f x)))] = _
  unfold kSum kInts k1
  dsimp only [rd, aoD]
  rw [intsOfF]
theorem kNe_int (G : Gm) (a b : Int) : kNe G (.d (.int a)) (.d (.int b)) = .ok (.d (.bool (!decide (a = b)))) G := by
  have : PyData.eqv (.int a) (.int b) = decide (a = b) := by
    rw [PyData.eqv]
    by_cases h : a = b <;> simp [h]
  show (match opNe (.int a) (.int b) with | some z => Res.ok (Rv.d z) G | none => .bad) = _
  simp [opNe, okD, flatS, this]
/-- a call with data -/
theorem argsOf_d (G : Gm) : ∀ ds : List PyData, argsOf G (ds.map Rv.d) = some (ds, false)
  | [] => rfl
  | d :: r => by simp [argsOf, argsOf_d G r, argOf]
theorem call_ev {F : Gm → Res Rv} {fs : Gm → Res (List Rv)} {G A : Gm} {x : PyData} (ds : List PyData) (hs : fs G = .ok (ds.map Rv.d) G) (hF : F (ds.map Sl.d) = .ok (.d x) A) : fCallK (kCall F) fs G = .ok (.d x) G := by
  unfold fCallK
  rw [hs, Res.bind_ok]
  unfold kCall
  rw [argsOf_d]
  dsimp only
  rw [hF]
  rfl
theorem run_d {n m : Nat} {f : Gm → Res Out} {As Bs : Gm} (G' : Gm) {x : PyData} (h : f (As ++ List.replicate m .no) = .ok (.rt (.d x)) G') (hA : (decide (As.length = n) && As.all argSl) = true := by rfl) (ho : outArgs As G' = Bs := by rfl) : runDef n m f As = .ok (.d x) Bs := by
  unfold runDef
  rw [if_pos hA, h]
  show Res.ok _ (outArgs As G') = _
  rw [ho]
theorem run_new {n m : Nat} {f : Gm → Res Out} {As Bs : Gm} (G' : Gm) {x : Ao} (h : f (As ++ List.replicate m .no) = .ok (.rt (.new x)) G') (hA : (decide (As.length = n) && As.all argSl) = true := by rfl) (ho : outArgs As G' = Bs := by rfl) : runDef n m f As = .ok (.new x) Bs := by
  unfold runDef
  rw [if_pos hA, h]
  show Res.ok _ (outArgs As G') = _
  rw [ho]
theorem run_own {n m i : Nat} {f : Gm → Res Out} {As Bs : Gm} (G' : Gm) {x : Ao} (h : f (As ++ List.replicate m .no) = .ok (.rt (.own i)) G') (hi : G'[i]? = some (.l x) := by rfl) (hA : (decide (As.length = n) && As.all argSl) = true := by rfl) (ho : outArgs As G' = Bs := by rfl) : runDef n m f As = .ok (.new x) Bs := by
  unfold runDef
  rw [if_pos hA, h]
  show (match fixR G' (.own i) with | some r' => Res.ok r' (outArgs As G') | none => .bad) = _
  have : fixR G' (.own i) = some (.new x) := by
    unfold fixR
    dsimp only
    rw [hi]
  rw [this, ← ho]
theorem run_nx {n m : Nat} {f : Gm → Res Out} {As Bs : Gm} (G' : Gm) (h : f (As ++ List.replicate m .no) = .ok .nx G') (hA : (decide (As.length = n) && As.all argSl) = true := by rfl) (ho : outArgs As G' = Bs := by rfl) : runDef n m f As = .ok (.d .none) Bs := by
  unfold runDef
  rw [if_pos hA, h]
  show Res.ok _ (outArgs As G') = _
  rw [ho]
theorem run_ex {n m : Nat} {f : Gm → Res Out} {As : Gm} {e : Exn} (h : f (As ++ List.replicate m .no) = .ex e) (hA : (decide (As.length = n) && As.all argSl) = true := by rfl) : runDef n m f As = .ex e := by
  unfold runDef
  rw [if_pos hA, h]
  rfl
theorem call_ex {F : Gm → Res Rv} {fs : Gm → Res (List Rv)} {G : Gm} {e : Exn} (ds : List PyData) (hs : fs G = .ok (ds.map Rv.d) G) (hF : F (ds.map Sl.d) = .ex e) : fCallK (kCall F) fs G = .ex e := by
  unfold fCallK
  rw [hs, Res.bind_ok]
  unfold kCall
  rw [argsOf_d]
  dsimp only
  rw [hF]
theorem call_new {F : Gm → Res Rv} {fs : Gm → Res (List Rv)} {G A : Gm} {o : Ao} (ds : List PyData) (hs : fs G = .ok (ds.map Rv.d) G) (hF : F (ds.map Sl.d) = .ok (.new o) A) : fCallK (kCall F) fs G = .ok (.new o) G := by
  unfold fCallK
  rw [hs, Res.bind_ok]
  unfold kCall
  rw [argsOf_d]
  dsimp only
  rw [hF]
  rfl
theorem expr_ev {f : Gm → Res Rv} {G G1 : Gm} {r : Rv} (h : f G = .ok r G1) : sExpr f G = .ok .nx G1 := by
  unfold sExpr; rw [h]; rfl
theorem expr_ex {f : Gm → Res Rv} {G : Gm} {e : Exn} (h : f G = .ex e) : sExpr f G = .ex e := by
  unfold sExpr; rw [h]; rfl
theorem seq_ex {f g : Gm → Res Out} {G : Gm} {e : Exn} (h : f G = .ex e) : sSeq f g G = .ex e := by
  unfold sSeq; rw [h]
theorem not_ev {t : Gm → Res Bool} {G G1 : Gm} {b : Bool} (h : t G = .ok b G1) : tNot' t G = .ok (!b) G1 := by
  unfold tNot'; rw [h]; rfl
theorem set_d {i : Nat} {f : Gm → Res Rv} {G G1 : Gm} {x : PyData} (h : f G = .ok (.d x) G1) (hf : freeAt G1 i = true := by rfl) : sSet i f G = .ok .nx (G1.set i (.d x)) := by
  unfold sSet; rw [h, Res.bind_ok]
  unfold stor setSl
  rw [if_pos hf]
theorem set_new {i : Nat} {f : Gm → Res Rv} {G G1 : Gm} {x : Ao} (h : f G = .ok (.new x) G1) (hf : freeAt G1 i = true := by rfl) : sSet i f G = .ok .nx (G1.set i (.l x)) := by
  unfold sSet; rw [h, Res.bind_ok]
  unfold stor setSl
  rw [if_pos hf]
theorem cons_ev {f : Gm → Res Rv} {fs : Gm → Res (List Rv)} {G G1 G2 : Gm} {r : Rv} {rs : List Rv} (h : f G = .ok r G1) (hs : fs G1 = .ok rs G2) : fCons f fs G = .ok (r :: rs) G2 := by
  unfold fCons; rw [h, Res.bind_ok, hs]; rfl
theorem seq_ev {f g : Gm → Res Out} {G G1 : Gm} (h : f G = .ok .nx G1) : sSeq f g G = g G1 := by
  unfold sSeq; rw [h]
theorem seq_rt {f g : Gm → Res Out} {G G1 : Gm} {r : Rv} (h : f G = .ok (.rt r) G1) : sSeq f g G = .ok (.rt r) G1 := by
  unfold sSeq; rw [h]
theorem if_ev {t : Gm → Res Bool} {f g : Gm → Res Out} {G G1 : Gm} {b : Bool} (h : t G = .ok b G1) : sIf t f g G = if b then f G1 else g G1 := by
  unfold sIf; rw [h]; rfl
theorem or_ev {t u : Gm → Res Bool} {G : Gm} {a b : Bool} (h : t G = .ok a G) (h2 : a = false → u G = .ok b G) : tOr' t u G = .ok (a || b) G := by
  unfold tOr'; rw [h]
  cases a with
  | true => rfl
  | false => exact h2 rfl
theorem and_ev {t u : Gm → Res Bool} {G : Gm} {a b : Bool} (h : t G = .ok a G) (h2 : a = true → u G = .ok b G) : tAnd' t u G = .ok (a && b) G := by
  unfold tAnd'; rw [h]
  cases a with
  | false => rfl
  | true => exact h2 rfl
theorem fand_ev {t u : Gm → Res Rv} {G : Gm} {a b : Bool} (h : t G = .ok (.d (.bool a)) G) (h2 : a = true → u G = .ok (.d (.bool b)) G) : fAnd t u G = .ok (.d (.bool (a && b))) G := by
  unfold fAnd; rw [h]
  cases a with
  | false => rfl
  | true => exact h2 rfl
theorem op_ev {k : Gm → Rv → Rv → Res Rv} {fa fb : Gm → Res Rv} {G G1 G2 : Gm} {a b : Rv} {R : Res Rv} (ha : fa G = .ok a G1) (hb : fb G1 = .ok b G2) (h : k G2 a b = R) : fOp2 k fa fb G = R := by
  unfold fOp2; rw [ha, Res.bind_ok, hb, Res.bind_ok, h]
theorem test_ev {f : Gm → Res Rv} {G G1 : Gm} {b : Bool} (h : f G = .ok (.d (.bool b)) G1) : fTest f G = .ok b G1 := by
  unfold fTest; rw [h]; rfl
theorem ret_ev {f : Gm → Res Rv} {G G1 : Gm} {r : Rv} (h : f G = .ok r G1) : sRet f G = .ok (.rt r) G1 := by
  unfold sRet; rw [h]; rfl
theorem seq_go {f g : Gm → Res Out} {G G1 : Gm} {R : Res Out} (h : f G = .ok .nx G1) (h2 : g G1 = R) : sSeq f g G = R := (seq_ev h).trans h2
theorem if_t {t : Gm → Res Bool} {f g : Gm → Res Out} {G G1 : Gm} {b : Bool} {R : Res Out} (h : t G = .ok b G1) (hb : b = true) (h2 : f G1 = R) : sIf t f g G = R := by
  rw [if_ev h, if_pos hb, h2]
theorem if_f {t : Gm → Res Bool} {f g : Gm → Res Out} {G G1 : Gm} {b : Bool} {R : Res Out} (h : t G = .ok b G1) (hb : b = false) (h2 : g G1 = R) : sIf t f g G = R := by
  rw [if_ev h, hb, if_neg Bool.false_ne_true, h2]
theorem run_gives {n m : Nat} {f : Gm → Res Out} {As : Gm} {x : PyData} {G' : Gm} (h : f (As ++ List.replicate m .no) = .ok (.rt (.d x)) G') (hA : (decide (As.length = n) && As.all argSl) = true) : runDef n m f As = .ok (.d x) (outArgs As G') := by
  unfold runDef
  rw [if_pos hA, h]
  rfl
theorem chn_ev {k k' : Gm → Rv → Rv → Res Rv} {fa fb fc : Gm → Res Rv} {G : Gm} {a b c : Rv} {p q : Bool} (ha : fa G = .ok a G) (hb : fb G = .ok b G) (hk : k G a b = .ok (.d (.bool p)) G) (hc : p = true → fc G = .ok c G) (hk' : p = true → k' G b c = .ok (.d (.bool q)) G) : fChn k k' fa fb fc G = .ok (.d (.bool (p && q))) G := by
  unfold fChn
  rw [ha, Res.bind_ok, hb, Res.bind_ok, hk, Res.bind_ok]
  cases p with
  | false => rfl
  | true =>
    show (fc G).bind (fun c G5 => k' G5 b c) = _
    rw [hc rfl]
    exact hk' rfl
theorem atI_natL {α : Type} {xs : List α} {j : Nat} {x : α} (h : xs[j]? = some x) : atI xs (j : Int) = some x := atI_nat h
theorem idx_ev {fa fb : Gm → Res Rv} {G G1 G2 : Gm} {a : Rv} {b : Rv} {ds : List PyData} {i : Int} {x : PyData} (ha : fa G = .ok a G1) (hb : fb G1 = .ok b G2) (hd : rd G2 a = some (.tuple ds) ∨ rd G2 a = some (.list ds)) (hi : rd G2 b = some (.int i)) (h : atI ds i = some x) : fOp2 kIdx fa fb G = .ok (.d x) G2 := by
  refine op_ev ha hb ?_
  unfold kIdx
  rw [hi]
  dsimp only
  rcases hd with hd | hd <;> (rw [hd]; dsimp only; rw [h])
/-- a slot that holds data or nothing -/
def Pl (s : Sl) : Prop := s = .no ∨ ∃ d, s = .d d
theorem Pl.no : Pl .no := .inl rfl
theorem Pl.dd (x : PyData) : Pl (.d x) := .inr ⟨x, rfl⟩
theorem gN_pl {G : Gm} {i : Nat} {d : PyData} {s : Sl} (h : G[i]? = some s) (p : Pl s) : gN i d G = some (G.set i (.d d)) := by
  unfold gN setSl freeAt
  rw [h]
  rcases p with rfl | ⟨x, rfl⟩ <;> rfl
/-- a walk by an invariant; what a return leaves -/
theorem loop_gen {tg : PyData → Gm → Option Gm} {body : Gm → Res Out} (I : Nat → Gm → Prop) (R : Rv → Gm → Prop) : ∀ (ds : List PyData) (k : Nat) (G : Gm), I k G →
    (∀ j d G, ds[j]? = some d → I (k + j) G → ∃ G1, tg d G = some G1 ∧ ((∃ G2, (body G1 = .ok .nx G2 ∨ body G1 = .ok .ct G2) ∧ I (k + j + 1) G2) ∨ ∃ r G2, body G1 = .ok (.rt r) G2 ∧ R r G2)) →
    (∃ G', loopF tg body ds G = .ok .nx G' ∧ I (k + ds.length) G') ∨ ∃ r G', loopF tg body ds G = .ok (.rt r) G' ∧ R r G'
  | [], k, G, h, _ => .inl ⟨G, rfl, h⟩
  | d :: ds, k, G, h, hs => by
    obtain ⟨G1, e1, h1⟩ := hs 0 d G rfl h
    have unf : loopF tg body (d :: ds) G = match body G1 with
      | .ok .nx G2 => loopF tg body ds G2
      | .ok .ct G2 => loopF tg body ds G2
      | .ok .bk G2 => .ok .nx G2
      | .ok (.rt r) G2 => .ok (.rt r) G2
      | .ex e => .ex e
      | .bad => .bad := by
      conv => lhs; unfold loopF
      rw [e1] <;> rfl
    rcases h1 with ⟨G2, e2, h2⟩ | ⟨r, G2, e2, h2⟩
    · have e3 : loopF tg body (d :: ds) G = loopF tg body ds G2 := by
        rw [unf]
        rcases e2 with e2 | e2 <;> rw [e2]
      rw [e3]
      have := loop_gen I R ds (k + 1) G2 h2 fun j x G' ej hj => by
        have e : k + 1 + j = k + (j + 1) := by omega
        rw [e] at hj ⊢
        exact hs (j + 1) x G' (by simpa using ej) hj
      rw [show k + (d :: ds).length = k + 1 + ds.length by rw [List.length_cons]; omega]
      exact this
    · exact .inr ⟨r, G2, by rw [unf, e2], h2⟩
theorem loop_all {tg : PyData → Gm → Option Gm} {body : Gm → Res Out} (I : Nat → Gm → Prop) {ds : List PyData} {G : Gm} (h0 : I 0 G) (hs : ∀ j d G, ds[j]? = some d → I j G → ∃ G1, tg d G = some G1 ∧ ∃ G2, (body G1 = .ok .nx G2 ∨ body G1 = .ok .ct G2) ∧ I (j + 1) G2) :
    ∃ G', loopF tg body ds G = .ok .nx G' ∧ I ds.length G' := by
  rcases loop_gen I (fun _ _ => False) ds 0 G h0 (fun j d G e h => by
    rw [Nat.zero_add] at h ⊢
    obtain ⟨G1, e1, G2, e2, h2⟩ := hs j d G e h
    exact ⟨G1, e1, .inl ⟨G2, e2, h2⟩⟩) with h | ⟨r, G', _, h⟩
  · rw [Nat.zero_add] at h; exact h
  · exact h.elim
theorem for_nx {it : Gm → Res Itv} {tg : PyData → Gm → Option Gm} {body : Gm → Res Out} {G G' : Gm} {ds : List PyData} {lk : List Nat} (hit : it G = .ok (ds, lk) G) (h : loopF tg body ds (lockAll G lk) = .ok .nx G') : sFor it tg body G = .ok .nx (unlockAll G G') := by
  unfold sFor
  rw [hit, Res.bind_ok]
  dsimp only
  rw [h]
  rfl
theorem for_rt {it : Gm → Res Itv} {tg : PyData → Gm → Option Gm} {body : Gm → Res Out} {G G' : Gm} {ds : List PyData} {lk : List Nat} {r : Rv} (hit : it G = .ok (ds, lk) G) (h : loopF tg body ds (lockAll G lk) = .ok (.rt r) G') : sFor it tg body G = .ok (.rt r) (unlockAll G G') := by
  unfold sFor
  rw [hit, Res.bind_ok]
  dsimp only
  rw [h]
  rfl
theorem rg_ev {f : Gm → Res Rv} {G : Gm} (n : Nat) (h : f G = .ok (.d (.int n)) G) (hn : n ≤ 100000) : iRg1 f G = .ok ((List.range n).map fun k => .int (k : Nat), []) G := by
  unfold iRg1
  rw [h, Res.bind_ok]
  show (if rgOk 0 n then Res.ok (rgD 0 n, []) G else .bad) = _
  rw [if_pos (by simp [rgOk]; omega)]
  unfold rgD
  simp
theorem setItem_ev {fe fo fi : Gm → Res Rv} {G : Gm} {j m : Nat} {k : Int} {d : PyData} {ds : List PyData} (he : fe G = .ok (.d d) G) (ho : fo G = .ok (.own j) G) (hi : fi G = .ok (.d (.int k)) G) (hm : mutAt G j = some (.lst ds)) (hk : ixN ds.length k = some m) : sSetItem fe fo fi G = .ok .nx (setOwn G j (.lst (ds.set m d))) := by
  unfold sSetItem
  rw [he, Res.bind_ok, ho, Res.bind_ok, hi, Res.bind_ok]
  dsimp only
  unfold kSetItem
  dsimp only [retain, rd]
  rw [hm]
  dsimp only
  rw [hk]
theorem ixN_nat {n j : Nat} (h : j < n) : ixN n (j : Int) = some j := by
  unfold ixN
  rw [if_pos (by omega), if_pos (by omega)]
  simp
/-- a walk that returns at the first place where f tells an answer -/
theorem loop_find {tg : PyData → Gm → Option Gm} {body : Gm → Res Out} (I : Nat → Gm → Prop) (J : Gm → Prop) (f : Nat → Option Rv) : ∀ (ds : List PyData) (k : Nat) (G : Gm), I k G →
    (∀ j d G, ds[j]? = some d → I (k + j) G → ∃ G1, tg d G = some G1 ∧ match f (k + j) with
      | none => ∃ G2, (body G1 = .ok .nx G2 ∨ body G1 = .ok .ct G2) ∧ I (k + j + 1) G2
      | some r => ∃ G2, body G1 = .ok (.rt r) G2 ∧ J G2) →
    match (List.range' k ds.length).findSome? f with
      | none => ∃ G', loopF tg body ds G = .ok .nx G' ∧ I (k + ds.length) G'
      | some r => ∃ G', loopF tg body ds G = .ok (.rt r) G' ∧ J G'
  | [], k, G, h, _ => ⟨G, rfl, h⟩
  | d :: ds, k, G, h, hs => by
    obtain ⟨G1, e1, h1⟩ := hs 0 d G rfl h
    rw [Nat.add_zero] at h1
    have unf : loopF tg body (d :: ds) G = match body G1 with
      | .ok .nx G2 => loopF tg body ds G2
      | .ok .ct G2 => loopF tg body ds G2
      | .ok .bk G2 => .ok .nx G2
      | .ok (.rt r) G2 => .ok (.rt r) G2
      | .ex e => .ex e
      | .bad => .bad := by
      conv => lhs; unfold loopF
      rw [e1] <;> rfl
    rw [List.length_cons, List.range'_succ, List.findSome?_cons]
    cases ef : f k with
    | some r =>
      rw [ef] at h1
      obtain ⟨G2, e2, h2⟩ := h1
      exact ⟨G2, by rw [unf, e2], h2⟩
    | none =>
      rw [ef] at h1
      obtain ⟨G2, e2, h2⟩ := h1
      have e3 : loopF tg body (d :: ds) G = loopF tg body ds G2 := by
        rw [unf]
        rcases e2 with e2 | e2 <;> rw [e2]
      have := loop_find I J f ds (k + 1) G2 h2 fun j x G' ej hj => by
        have e : k + 1 + j = k + (j + 1) := by omega
        rw [e] at hj ⊢
        exact hs (j + 1) x G' (by simpa using ej) hj
      dsimp only
      rw [e3, show k + (ds.length + 1) = k + 1 + ds.length by omega]
      exact this
theorem loop_find0 {tg : PyData → Gm → Option Gm} {body : Gm → Res Out} (I : Nat → Gm → Prop) (J : Gm → Prop) (f : Nat → Option Rv) {ds : List PyData} {G : Gm} (h0 : I 0 G)
    (hs : ∀ j d G, ds[j]? = some d → I j G → ∃ G1, tg d G = some G1 ∧ match f j with
      | none => ∃ G2, (body G1 = .ok .nx G2 ∨ body G1 = .ok .ct G2) ∧ I (j + 1) G2
      | some r => ∃ G2, body G1 = .ok (.rt r) G2 ∧ J G2) :
    match (List.range ds.length).findSome? f with
      | none => ∃ G', loopF tg body ds G = .ok .nx G' ∧ I ds.length G'
      | some r => ∃ G', loopF tg body ds G = .ok (.rt r) G' ∧ J G' := by
  have := loop_find I J f ds 0 G h0 fun j d G e h => by
    rw [Nat.zero_add] at h ⊢
    exact hs j d G e h
  rw [Nat.zero_add] at this
  rw [List.range_eq_range']
  exact this
theorem kAdd_t {G : Gm} {a b : Rv} {xs ys : List PyData} (ha : rd G a = some (.tuple xs)) (hb : rd G b = some (.tuple ys)) (hl : xs.length + ys.length ≤ 16777216) : kAdd G a b = .ok (.d (.tuple (xs ++ ys))) G := by
  unfold kAdd
  rw [ha, hb]
  show (if lim (xs.length + ys.length) then Res.ok (Rv.d (.tuple (xs ++ ys))) G else .bad) = _
  rw [if_pos (by unfold lim; exact decide_eq_true hl)]
theorem kAdd_l {G : Gm} {a b : Rv} {xs ys : List PyData} (ha : rd G a = some (.list xs)) (hb : rd G b = some (.list ys)) (hl : xs.length + ys.length ≤ 16777216) : kAdd G a b = .ok (.new (.lst (xs ++ ys))) G := by
  unfold kAdd
  rw [ha, hb]
  show (if lim (xs.length + ys.length) then Res.ok (Rv.new (.lst (xs ++ ys))) G else .bad) = _
  rw [if_pos (by unfold lim; exact decide_eq_true hl)]
theorem rg2_ev {fa fb : Gm → Res Rv} {G : Gm} {a b : Int} (ha : fa G = .ok (.d (.int a)) G) (hb : fb G = .ok (.d (.int b)) G) (h : rgOk a b = true) : iRg2 fa fb G = .ok (rgD a b, []) G := by
  unfold iRg2
  rw [ha, Res.bind_ok, hb, Res.bind_ok]
  show (if rgOk a b then Res.ok (rgD a b, []) G else .bad) = _
  rw [if_pos h]
theorem call_evA {F : Gm → Res Rv} {fs : Gm → Res (List Rv)} {G A : Gm} {x : PyData} {rs : List Rv} {ds : List PyData} (hs : fs G = .ok rs G) (ha : argsOf G rs = some (ds, false)) (hF : F (ds.map Sl.d) = .ok (.d x) A) : fCallK (kCall F) fs G = .ok (.d x) G := by
  unfold fCallK
  rw [hs, Res.bind_ok]
  unfold kCall
  rw [ha]
  dsimp only
  rw [hF]
  rfl
theorem call_evB {F : Gm → Res Rv} {fs : Gm → Res (List Rv)} {G A : Gm} {x : PyData} {rs : List Rv} {ds : List PyData} {b : Bool} (hs : fs G = .ok rs G) (ha : argsOf G rs = some (ds, b)) (hF : F (ds.map Sl.d) = .ok (.d x) A) (hx : flatD x = true) : fCallK (kCall F) fs G = .ok (.d x) G := by
  unfold fCallK
  rw [hs, Res.bind_ok]
  unfold kCall
  rw [ha]
  dsimp only
  rw [hF]
  dsimp only
  rw [hx]
  simp
theorem unlk_pl {t s : Sl} (h : Pl s) : unlk t s = s := by
  rcases h with rfl | ⟨x, rfl⟩ <;> cases t <;> rfl
theorem findSome_map {α β γ : Type} (f : α → Option β) (h : β → γ) : ∀ l : List α, l.findSome? (fun x => (f x).map h) = (l.findSome? f).map h
  | [] => rfl
  | x :: l => by
    rw [List.findSome?_cons, List.findSome?_cons]
    cases f x with
    | none => exact findSome_map f h l
    | some y => rfl
theorem enum_ev {f : Gm → Res Rv} {G : Gm} {r : Rv} {ds : List PyData} {lk : List Nat} (h : f G = .ok r G) (hk : kItems G r = .ok (ds, lk) G) : iEnum f G = .ok (enumD ds, lk) G := by
  unfold iEnum
  rw [h, Res.bind_ok, hk]
  rfl
theorem enumD_len (ds : List PyData) : (enumD ds).length = ds.length := by unfold enumD; simp
theorem wipe_no {G0 : Gm} {j : Nat} (h : G0[j]? = some .no) : wipeG G0 [j] = G0 := by
  have := wipe_set (s := .no) h
  rwa [show G0.set j .no = G0 from by
    apply List.ext_getElem?
    intro k
    by_cases e : k = j
    · subst e
      rw [List.getElem?_set_self (List.getElem?_eq_some_iff.mp h).1, h]
    · rw [List.getElem?_set_ne (Ne.symm e)]] at this
theorem wipe_set2 {G0 : Gm} {i j : Nat} {s : Sl} (hi : G0[i]? = some .no) (hj : G0[j]? = some .no) : wipeG (G0.set i s) [i, j] = G0 := by
  apply List.ext_getElem?
  intro k
  unfold wipeG
  rw [List.getElem?_mapIdx]
  by_cases e : k = i
  · subst e
    rw [List.getElem?_set_self (List.getElem?_eq_some_iff.mp hi).1, hi]
    simp
  · rw [List.getElem?_set_ne (Ne.symm e)]
    by_cases e2 : k = j
    · subst e2
      rw [hj]
      simp
    · cases G0[k]? with
      | none => rfl
      | some t => simp [e, e2]
/-- a comprehension over things that data tell of -/
theorem compFA {α : Type} {i : Nat} {enc : α → PyData} {p : α → Bool} {e : α → PyData} {tst : Gm → Res Bool} {elt : Gm → Res Rv} {G0 : Gm} (h0 : G0[i]? = some .no) : ∀ (l : List α) (acc : List PyData), acc.length + l.length ≤ 16777216 →
    (∀ a ∈ l, tst (G0.set i (.d (enc a))) = .ok (p a) (G0.set i (.d (enc a)))) → (∀ a ∈ l, p a = true → Gives elt (G0.set i (.d (enc a))) (e a)) → compF [i] (gN i) tst elt (l.map enc) acc G0 = .ok (acc ++ (l.filter p).map e) G0
  | [], acc, _, _, _ => by simp [compF]
  | a :: l, acc, hl, ht, he => by
    rw [List.length_cons] at hl
    rw [List.map_cons]
    unfold compF
    rw [gN_no h0]
    dsimp only
    rw [ht a List.mem_cons_self]
    cases hp : p a with
    | true =>
      obtain ⟨r, e1, e2⟩ := he a List.mem_cons_self hp
      dsimp only
      rw [e1]
      dsimp only
      rw [e2]
      dsimp only
      rw [if_pos (by unfold lim; exact decide_eq_true (by omega)), wipe_set h0, compFA h0 l (acc ++ [e a]) (by rw [List.length_append]; simp; omega) (fun x hx => ht x (List.mem_cons_of_mem _ hx)) fun x hx => he x (List.mem_cons_of_mem _ hx)]
      rw [List.filter_cons, if_pos hp, List.map_cons]
      simp
    | false =>
      dsimp only
      rw [wipe_set h0, compFA h0 l acc (by omega) (fun x hx => ht x (List.mem_cons_of_mem _ hx)) fun x hx => he x (List.mem_cons_of_mem _ hx)]
      rw [List.filter_cons, if_neg (by rw [hp]; exact Bool.false_ne_true)]
theorem comp_evA {α : Type} {it : Gm → Res Itv} {i : Nat} {enc : α → PyData} {p : α → Bool} {e : α → PyData} {tst : Gm → Res Bool} {elt : Gm → Res Rv} {G : Gm} {l : List α} {lk : List Nat} (hit : it G = .ok (l.map enc, lk) G) (hpl : plainAt G [i] = true) (hi : (G[i]?).isSome = true) (hl : l.length ≤ 16777216)
    (ht : ∀ a ∈ l, tst ((wipeG (lockAll G lk) [i]).set i (.d (enc a))) = .ok (p a) ((wipeG (lockAll G lk) [i]).set i (.d (enc a)))) (he : ∀ a ∈ l, p a = true → Gives elt ((wipeG (lockAll G lk) [i]).set i (.d (enc a))) (e a)) :
    fComp it [i] (gN i) tst elt G = .ok (.new (.lst ((l.filter p).map e))) G := by
  have hl0 : i < (lockAll G lk).length := by
    unfold lockAll; rw [List.length_mapIdx]
    obtain ⟨s, h⟩ := Option.isSome_iff_exists.mp hi
    exact (List.getElem?_eq_some_iff.mp h).1
  unfold fComp
  rw [hit, Res.bind_ok, if_pos hpl, compFA (wipeNo hl0) l [] (by simpa using hl) ht he]
  dsimp only
  rw [unwipe_wipe, unlock_lock]
  rfl
theorem comp_evA0 {α : Type} {it : Gm → Res Itv} {i : Nat} {enc : α → PyData} {e : α → PyData} {elt : Gm → Res Rv} {G : Gm} {l : List α} {lk : List Nat} (hit : it G = .ok (l.map enc, lk) G) (hpl : plainAt G [i] = true) (hi : (G[i]?).isSome = true) (hl : l.length ≤ 16777216)
    (he : ∀ a ∈ l, Gives elt ((wipeG (lockAll G lk) [i]).set i (.d (enc a))) (e a)) : fComp it [i] (gN i) tYesF elt G = .ok (.new (.lst (l.map e))) G := by
  have := comp_evA (p := fun _ => true) (tst := tYesF) hit hpl hi hl (fun d _ => rfl) fun d hd _ => he d hd
  rw [this, List.filter_eq_self.mpr (fun _ _ => rfl)]
theorem comp2F_ev {α β : Type} {i j : Nat} {it1 : Gm → Res Itv} {elt : Gm → Res Rv} {enc : α → PyData} {enc1 : β → PyData} {l1 : α → List β} {e : α → β → PyData} {G0 : Gm} (hij : i ≠ j) (hi : G0[i]? = some .no) (hj : G0[j]? = some .no) : ∀ (l : List α) (acc : List PyData), acc.length + (l.flatMap l1).length ≤ 16777216 →
    (∀ a ∈ l, it1 (G0.set i (.d (enc a))) = .ok ((l1 a).map enc1, []) (G0.set i (.d (enc a)))) → (∀ a ∈ l, ∀ b ∈ l1 a, Gives elt ((G0.set i (.d (enc a))).set j (.d (enc1 b))) (e a b)) →
    comp2F [i, j] [j] (gN i) tYesF it1 (gN j) tYesF elt (l.map enc) acc G0 = .ok (acc ++ l.flatMap fun a => (l1 a).map (e a)) G0
  | [], acc, _, _, _ => by simp [comp2F]
  | d :: ds, acc, hl, h1, h2 => by
    have hj' : (G0.set i (.d (enc d)))[j]? = some .no := by rw [List.getElem?_set_ne hij]; exact hj
    rw [List.flatMap_cons, List.length_append] at hl
    have q := compFA (p := fun _ => true) (tst := tYesF) (elt := elt) (enc := enc1) (e := e d) hj' (l1 d) acc (by omega) (fun _ _ => rfl) fun x hx _ => h2 d List.mem_cons_self x hx
    rw [List.filter_eq_self.mpr (fun _ _ => rfl)] at q
    have unf : comp2F [i, j] [j] (gN i) tYesF it1 (gN j) tYesF elt ((d :: ds).map enc) acc G0 = comp2F [i, j] [j] (gN i) tYesF it1 (gN j) tYesF elt (ds.map enc) (acc ++ (l1 d).map (e d)) G0 := by
      rw [List.map_cons]
      conv => lhs; unfold comp2F
      rw [gN_no hi]
      dsimp only [tYesF]
      rw [h1 d List.mem_cons_self]
      dsimp only
      rw [wipe_no hj']
      rw [q]
      dsimp only
      rw [wipe_set2 hi hj]
    rw [unf, comp2F_ev hij hi hj ds _ (by rw [List.length_append, List.length_map]; omega) (fun x hx => h1 x (List.mem_cons_of_mem _ hx)) fun x hx => h2 x (List.mem_cons_of_mem _ hx), List.flatMap_cons, List.append_assoc]
theorem comp2_ev {α β : Type} {it : Gm → Res Itv} {i j : Nat} {it1 : Gm → Res Itv} {elt : Gm → Res Rv} {enc : α → PyData} {enc1 : β → PyData} {l1 : α → List β} {e : α → β → PyData} {G : Gm} {l : List α} {lk : List Nat} (hij : i ≠ j) (hit : it G = .ok (l.map enc, lk) G) (hpl : plainAt G [i, j] = true) (hi : (wipeG (lockAll G lk) [i, j])[i]? = some .no) (hj : (wipeG (lockAll G lk) [i, j])[j]? = some .no) (hl : (l.flatMap l1).length ≤ 16777216)
    (h1 : ∀ a ∈ l, it1 ((wipeG (lockAll G lk) [i, j]).set i (.d (enc a))) = .ok ((l1 a).map enc1, []) ((wipeG (lockAll G lk) [i, j]).set i (.d (enc a)))) (h2 : ∀ a ∈ l, ∀ b ∈ l1 a, Gives elt (((wipeG (lockAll G lk) [i, j]).set i (.d (enc a))).set j (.d (enc1 b))) (e a b)) :
    fComp2 it [i, j] [j] (gN i) tYesF it1 (gN j) tYesF elt G = .ok (.new (.lst (l.flatMap fun a => (l1 a).map (e a)))) G := by
  unfold fComp2
  rw [hit, Res.bind_ok, if_pos hpl, comp2F_ev hij hi hj l [] (by simpa using hl) h1 h2]
  dsimp only
  rw [unwipe_wipe, unlock_lock]
  rfl
theorem if_evE {t : Gm → Res Bool} {fa fb : Gm → Res Rv} {G G1 : Gm} {b : Bool} (h : t G = .ok b G1) : fIf t fa fb G = if b then fa G1 else fb G1 := by
  unfold fIf; rw [h]; rfl
/-- a walk over things that data tell of, by an invariant without a count -/
theorem loop_findA {α : Type} {tg : PyData → Gm → Option Gm} {body : Gm → Res Out} (enc : α → PyData) (I J : Gm → Prop) (f : α → Option Rv) : ∀ (l : List α) (G : Gm), I G →
    (∀ a ∈ l, ∀ G, I G → ∃ G1, tg (enc a) G = some G1 ∧ match f a with
      | none => ∃ G2, (body G1 = .ok .nx G2 ∨ body G1 = .ok .ct G2) ∧ I G2
      | some r => ∃ G2, body G1 = .ok (.rt r) G2 ∧ J G2) →
    match l.findSome? f with
      | none => ∃ G', loopF tg body (l.map enc) G = .ok .nx G' ∧ I G'
      | some r => ∃ G', loopF tg body (l.map enc) G = .ok (.rt r) G' ∧ J G'
  | [], G, h, _ => ⟨G, rfl, h⟩
  | a :: l, G, h, hs => by
    obtain ⟨G1, e1, h1⟩ := hs a List.mem_cons_self G h
    have unf : loopF tg body ((a :: l).map enc) G = match body G1 with
      | .ok .nx G2 => loopF tg body (l.map enc) G2
      | .ok .ct G2 => loopF tg body (l.map enc) G2
      | .ok .bk G2 => .ok .nx G2
      | .ok (.rt r) G2 => .ok (.rt r) G2
      | .ex e => .ex e
      | .bad => .bad := by
      rw [List.map_cons]
      conv => lhs; unfold loopF
      rw [e1] <;> rfl
    rw [List.findSome?_cons]
    cases ef : f a with
    | some r =>
      rw [ef] at h1
      obtain ⟨G2, e2, h2⟩ := h1
      exact ⟨G2, by rw [unf, e2], h2⟩
    | none =>
      rw [ef] at h1
      obtain ⟨G2, e2, h2⟩ := h1
      have e3 : loopF tg body ((a :: l).map enc) G = loopF tg body (l.map enc) G2 := by
        rw [unf]
        rcases e2 with e2 | e2 <;> rw [e2]
      dsimp only
      rw [e3]
      exact loop_findA enc I J f l G2 h2 fun x hx => hs x (List.mem_cons_of_mem _ hx)
theorem seq_new {f : Gm → Res Rv} {G : Gm} {ds : List PyData} (h : f G = .ok (.new (.lst ds)) G) : iSeq f G = .ok (ds, []) G := by
  unfold iSeq
  rw [h]
  rfl
theorem app_ev {fo fe : Gm → Res Rv} {G G2 : Gm} {i : Nat} {d : PyData} {ds : List PyData} (ho : fo G = .ok (.own i) G) (hl : isLst G i = true) (he : fe G = .ok (.d d) G2) (hm : mutAt G2 i = some (.lst ds)) (hn : ds.length + 1 ≤ 16777216) : fMeth kAppend fo (fCons fe fNil) G = .ok (.d .none) (setOwn G2 i (.lst (ds ++ [d]))) := by
  unfold fMeth
  rw [ho, Res.bind_ok]
  dsimp only
  rw [if_pos hl]
  unfold fCons
  rw [he]
  show kAppend G2 i [.d d] = _
  unfold kAppend
  dsimp only [retain]
  rw [hm]
  dsimp only
  rw [if_pos (by unfold lim; exact decide_eq_true hn)]
theorem pop0_ev {fo fe : Gm → Res Rv} {G : Gm} {i : Nat} {d : PyData} {ds : List PyData} (ho : fo G = .ok (.own i) G) (hl : isLst G i = true) (he : fe G = .ok (.d (.int 0)) G) (hm : mutAt G i = some (.lst (d :: ds))) : fMeth kPopAt fo (fCons fe fNil) G = .ok (.d d) (setOwn G i (.lst ds)) := by
  unfold fMeth
  rw [ho, Res.bind_ok]
  dsimp only
  rw [if_pos hl]
  unfold fCons
  rw [he]
  show kPopAt G i [.d (.int 0)] = _
  unfold kPopAt
  dsimp only [rd]
  rw [hm]
  dsimp only
  rw [show ixN (d :: ds).length 0 = some 0 from ixN_nat (j := 0) (by simp)]
  rfl
end Fx
/-! Ew: comprehensions that change the state -/
namespace Fx
open PySem PySem.Spec
open PyProof.Rows L2
theorem compF_st {i : Nat} {elt : Gm → Res Rv} (S : Gm → Prop) (P : PyData → Prop) (hS : ∀ G, S G → G[i]? = some .no) : ∀ (ds acc : List PyData) (G : Gm), S G → acc.length + ds.length ≤ 16777216 →
    (∀ d ∈ ds, ∀ G, S G → ∃ x G', elt (G.set i (.d d)) = .ok (.d x) (G'.set i (.d d)) ∧ S G' ∧ P x) → ∃ xs G', compF [i] (gN i) tYesF elt ds acc G = .ok (acc ++ xs) G' ∧ S G' ∧ xs.length = ds.length ∧ ∀ x ∈ xs, P x
  | [], acc, G, h, _, _ => ⟨[], G, by simp [compF], h, rfl, fun _ z => by cases z⟩
  | d :: ds, acc, G, h, hl, he => by
    rw [List.length_cons] at hl
    obtain ⟨x, G', e1, h1, p1⟩ := he d List.mem_cons_self G h
    have unf : compF [i] (gN i) tYesF elt (d :: ds) acc G = compF [i] (gN i) tYesF elt ds (acc ++ [x]) G' := by
      conv => lhs; unfold compF
      rw [gN_no (hS G h)]
      dsimp only [tYesF]
      rw [e1]
      dsimp only [retain]
      rw [if_pos (by unfold lim; exact decide_eq_true (by omega)), wipe_set (hS G' h1)]
    obtain ⟨xs, G2, e2, h2, l2, p2⟩ := compF_st S P hS ds (acc ++ [x]) G' h1 (by rw [List.length_append]; simp; omega) fun y hy => he y (List.mem_cons_of_mem _ hy)
    refine ⟨x :: xs, G2, by rw [unf, e2]; simp, h2, by simp [l2], fun y hy => ?_⟩
    obtain rfl | hy := List.mem_cons.mp hy
    · exact p1
    · exact p2 y hy
theorem comp_st {it : Gm → Res Itv} {i : Nat} {elt : Gm → Res Rv} {G : Gm} {ds : List PyData} (S : Gm → Prop) (P : PyData → Prop) (hit : it G = .ok (ds, []) G) (hpl : plainAt G [i] = true) (hw : wipeG (lockAll G []) [i] = G) (h0 : S G) (hS : ∀ G, S G → G[i]? = some .no) (hU : ∀ G2, S G2 → unlockAll G (unwipe (lockAll G []) G2 [i]) = G2) (hl : ds.length ≤ 16777216)
    (he : ∀ d ∈ ds, ∀ G, S G → ∃ x G', elt (G.set i (.d d)) = .ok (.d x) (G'.set i (.d d)) ∧ S G' ∧ P x) : ∃ xs G', fComp it [i] (gN i) tYesF elt G = .ok (.new (.lst xs)) G' ∧ S G' ∧ xs.length = ds.length ∧ ∀ x ∈ xs, P x := by
  obtain ⟨xs, G2, e, h2, l2, p2⟩ := compF_st S P hS ds [] G h0 (by simpa using hl) he
  refine ⟨xs, G2, ?_, h2, l2, p2⟩
  unfold fComp
  rw [hit, Res.bind_ok, if_pos hpl, hw, e]
  dsimp only
  rw [hU G2 h2]
  rfl
end Fx
namespace C0
open PySem PySem.Spec PyProof.Rows L2 Fx
theorem whole_ev (d : PyData) : F_is_whole [.d d] = .ok (.d (.bool (isIntD d))) [.d d] := by cases d <;> rfl
def wishI : PyData → Bool
  | .int i => decide (1 ≤ i) && decide (i ≤ 1000)
  | _ => false
def wishB (n : Int) : PyData → Bool
  | .tuple ds => decide ((ds.length : Int) = n) && ds.all wishI
  | _ => false
theorem wishes_ev (d : PyData) (n : Int) (hn : n ≤ 1000) : F_is_wishes [.d d, .d (.int n)] = .ok (.d (.bool (wishB n d))) [.d d, .d (.int n)] := by
  cases d with
  | tuple ds =>
    refine run_d [.d (.tuple ds), .d (.int n), .no] ?_
    show f_is_wishes [.d (.tuple ds), .d (.int n), .no] = _
    have c : (tOr' (tNot' (fTest (fUn (kIsi "tuple") (fVar 0)))) (fTest (fOp2 kNe (fCallK kLen (fCons (fVar 0) fNil)) (fVar 1)))) [.d (.tuple ds), .d (.int n), .no] = .ok (false || !decide ((ds.length : Int) = n)) [.d (.tuple ds), .d (.int n), .no] :=
      or_ev rfl fun _ => test_ev (op_ev rfl rfl (kNe_int _ _ _))
    unfold f_is_wishes
    by_cases h : (ds.length : Int) = n
    · rw [decide_eq_true h] at c
      refine seq_go (if_f c rfl rfl) (ret_ev ?_)
      rw [show wishB n (.tuple ds) = ds.all wishI by simp [wishB, h]]
      refine all_ev (comp_ev0 (lk := []) rfl rfl rfl (by omega) fun d hd => .d ?_)
      show fAnd _ _ [.d (.tuple ds), .d (.int n), .d d] = _
      cases d with
      | int i => exact fand_ev (a := true) (call_ev [.int i] rfl (whole_ev (.int i))) fun _ => chn_ev rfl rfl rfl (fun _ => rfl) fun _ => rfl
      | _ => exact fand_ev (a := false) (b := false) (call_ev [_] rfl (whole_ev _)) fun h => by cases h
    · rw [decide_eq_false h] at c
      rw [show wishB n (.tuple ds) = false by simp [wishB, h]]
      exact seq_rt (if_t c rfl rfl)
  | _ => rfl
def gameB : PyData → Bool
  | .tuple (.tuple r0 :: rs) => decide (rs.length + 1 ≤ 6) && (decide (1 ≤ r0.length) && decide (r0.length ≤ 10) && (PyData.tuple r0 :: rs).all (wishB r0.length))
  | _ => false
theorem len1 (n : Nat) : decide ((1 : Int) ≤ ((n + 1 : Nat) : Int)) = true := decide_eq_true (by omega)
theorem game_ev (d : PyData) : F_is_game [.d d] = .ok (.d (.bool (gameB d))) [.d d] := by
  cases d with
  | tuple ds =>
    cases ds with
    | nil => rfl
    | cons x rs =>
      refine run_d [.d (.tuple (x :: rs)), .no] ?_
      show f_is_game [.d (.tuple (x :: rs)), .no] = _
      have i0 : (fOp2 kIdx (fVar 0) (fC (.int 0))) [.d (.tuple (x :: rs)), .no] = .ok (.d x) [.d (.tuple (x :: rs)), .no] := idx_ev rfl rfl (.inl rfl) rfl (atI_natL (j := 0) rfl)
      have c : (tOr' (tNot' (fTest (fUn (kIsi "tuple") (fVar 0)))) (tOr' (tNot' (fTest (fChn kLe kLe (fC (.int 1)) (fCallK kLen (fCons (fVar 0) fNil)) (fC (.int 6))))) (tNot' (fTest (fUn (kIsi "tuple") (fOp2 kIdx (fVar 0) (fC (.int 0)))))))) [.d (.tuple (x :: rs)), .no]
          = .ok (false || (!(decide ((1 : Int) ≤ ((rs.length + 1 : Nat) : Int)) && decide (((rs.length + 1 : Nat) : Int) ≤ 6)) || !isiD "tuple" x)) [.d (.tuple (x :: rs)), .no] :=
        or_ev rfl fun _ => or_ev (not_ev (test_ev (chn_ev rfl rfl rfl (fun _ => rfl) fun _ => rfl))) fun _ => not_ev (test_ev (by unfold fUn; rw [i0]; rfl))
      unfold f_is_game
      by_cases h6 : rs.length + 1 ≤ 6
      · cases x with
        | tuple r0 =>
          refine seq_go (if_f c (by rw [len1]; simp [isiD]; omega) rfl) (ret_ev ?_)
          have il : (fCallK kLen (fCons (fOp2 kIdx (fVar 0) (fC (.int 0))) fNil)) [.d (.tuple (.tuple r0 :: rs)), .no] = .ok (.d (.int r0.length)) [.d (.tuple (.tuple r0 :: rs)), .no] := by
            unfold fCallK fCons
            rw [i0]; rfl
          rw [show gameB (.tuple (.tuple r0 :: rs)) = ((decide ((1 : Int) ≤ r0.length) && decide ((r0.length : Int) ≤ 10)) && (PyData.tuple r0 :: rs).all (wishB r0.length)) by
            simp only [gameB, decide_eq_true h6, Bool.true_and]
            congr 1
            congr 1 <;> (apply decide_eq_decide.mpr; omega)]
          refine fand_ev (chn_ev rfl il rfl (fun _ => rfl) fun _ => rfl) fun hb => ?_
          have hr : (r0.length : Int) ≤ 1000 := by
            simp only [Bool.and_eq_true, decide_eq_true_eq] at hb
            omega
          refine all_ev (comp_ev0 (lk := []) rfl rfl rfl (by rw [List.length_cons]; omega) fun d hd => .d ?_)
          show (fCallK (kCall F_is_wishes) _) [.d (.tuple (.tuple r0 :: rs)), .d d] = _
          refine call_ev [d, .int r0.length] (cons_ev rfl (cons_ev ?_ rfl)) (wishes_ev d _ hr)
          unfold fCallK fCons
          rw [show (fOp2 kIdx (fVar 0) (fC (.int 0))) [.d (.tuple (.tuple r0 :: rs)), .d d] = .ok (.d (.tuple r0)) [.d (.tuple (.tuple r0 :: rs)), .d d] from idx_ev rfl rfl (.inl rfl) rfl (atI_natL (j := 0) rfl)]
          rfl
        | _ => exact seq_rt (if_t c (by simp [isiD]) rfl)
      · rw [show gameB (.tuple (x :: rs)) = false by cases x <;> simp [gameB] <;> omega]
        exact seq_rt (if_t c (by rw [decide_eq_false (show ¬ ((rs.length + 1 : Nat) : Int) ≤ 6 by omega)]; simp) rfl)
  | _ => rfl
theorem check_ok {d : PyData} (h : gameB d = true) : F_check_game [.d d] = .ok (.d .none) [.d d] :=
  run_nx [.d d] (if_f (not_ev (test_ev (call_ev [d] rfl (game_ev d)))) (by rw [h]; rfl) rfl)
theorem check_bad {d : PyData} (h : gameB d = false) : F_check_game [.d d] = .ex .mal :=
  run_ex (if_t (not_ev (test_ev (call_ev [d] rfl (game_ev d)))) (by rw [h]; rfl) rfl)
def ownI (n : Nat) : PyData → Bool
  | .int i => decide (0 ≤ i) && decide (i < n)
  | _ => false
def fitB (n m : Nat) : PyData → Bool
  | .tuple ds => decide (ds.length = m) && ds.all (ownI n)
  | _ => false
/-- the game of the rows g -/
def rowD (r : List Int) : PyData := .tuple (r.map .int)
def gameD (g : List (List Int)) : PyData := .tuple (g.map rowD)
/-- a game of n people and m goods, as the law draws it -/
structure Good (g : List (List Int)) (n m : Nat) : Prop where
  len : g.length = n
  n1 : 1 ≤ n
  n6 : n ≤ 6
  m1 : 1 ≤ m
  m10 : m ≤ 10
  row : ∀ r ∈ g, r.length = m ∧ ∀ x ∈ r, 1 ≤ x ∧ x ≤ 1000
theorem Good.first {g : List (List Int)} {n m : Nat} (h : Good g n m) : ∃ r rs, g = r :: rs ∧ r.length = m := by
  cases g with
  | nil => have := h.len; have := h.n1; simp at *; omega
  | cons r rs => exact ⟨r, rs, rfl, (h.row r List.mem_cons_self).1⟩
theorem wishB_row {r : List Int} {m : Nat} (hl : r.length = m) (h : ∀ x ∈ r, 1 ≤ x ∧ x ≤ 1000) : wishB m (rowD r) = true := by
  simp only [wishB, rowD, List.length_map, Bool.and_eq_true, decide_eq_true_eq, List.all_eq_true]
  refine ⟨by omega, fun d hd => ?_⟩
  obtain ⟨x, hx, rfl⟩ := List.mem_map.mp hd
  have := h x hx
  simp [wishI, this.1, this.2]
theorem Good.game {g : List (List Int)} {n m : Nat} (h : Good g n m) : gameB (gameD g) = true := by
  obtain ⟨r, rs, rfl, hr⟩ := h.first
  have hl := h.len
  have h6 := h.n6
  rw [List.length_cons] at hl
  show (decide ((rs.map rowD).length + 1 ≤ 6) && (decide (1 ≤ (r.map PyData.int).length) && decide ((r.map PyData.int).length ≤ 10) && (rowD r :: rs.map rowD).all (wishB (r.map PyData.int).length))) = true
  rw [List.length_map, List.length_map, hr]
  simp only [Bool.and_eq_true, decide_eq_true_eq, List.all_eq_true]
  refine ⟨by omega, ⟨h.m1, h.m10⟩, fun d hd => ?_⟩
  obtain ⟨x, hx, rfl⟩ := List.mem_map.mp (show d ∈ (r :: rs).map rowD from hd)
  exact wishB_row (h.row x hx).1 (h.row x hx).2
/-- g[0] -/
theorem g0_ev {g : List (List Int)} {n m : Nat} (h : Good g n m) {f : Gm → Res Rv} {G : Gm} (hf : f G = .ok (.d (gameD g)) G) : (fCallK kLen (fCons (fOp2 kIdx f (fC (.int 0))) fNil)) G = .ok (.d (.int m)) G := by
  obtain ⟨r, rs, rfl, hr⟩ := h.first
  unfold fCallK fCons
  rw [show fOp2 kIdx f (fC (.int 0)) G = .ok (.d (rowD r)) G from idx_ev hf rfl (.inl rfl) rfl (atI_natL (j := 0) rfl)]
  show Res.ok (Rv.d (.int ((r.map PyData.int).length : Nat))) G = _
  rw [List.length_map, hr]
theorem lenG_ev {g : List (List Int)} {n m : Nat} (h : Good g n m) {f : Gm → Res Rv} {G : Gm} (hf : f G = .ok (.d (gameD g)) G) : (fCallK kLen (fCons f fNil)) G = .ok (.d (.int n)) G := by
  unfold fCallK fCons
  rw [hf]
  show Res.ok (Rv.d (.int ((g.map rowD).length : Nat))) G = _
  rw [List.length_map, h.len]
theorem fits_ev {g : List (List Int)} {n m : Nat} (h : Good g n m) (v : PyData) : F_fits_owners [.d (gameD g), .d v] = .ok (.d (.bool (fitB n m v))) [.d (gameD g), .d v] := by
  cases v with
  | tuple ds =>
    refine run_d [.d (gameD g), .d (.tuple ds), .no] ?_
    show f_fits_owners [.d (gameD g), .d (.tuple ds), .no] = _
    have c : (tOr' (tNot' (fTest (fUn (kIsi "tuple") (fVar 1)))) (fTest (fOp2 kNe (fCallK kLen (fCons (fVar 1) fNil)) (fCallK kLen (fCons (fOp2 kIdx (fVar 0) (fC (.int 0))) fNil))))) [.d (gameD g), .d (.tuple ds), .no]
        = .ok (false || !decide ((ds.length : Int) = m)) [.d (gameD g), .d (.tuple ds), .no] := or_ev rfl fun _ => test_ev (op_ev rfl (g0_ev h rfl) (kNe_int _ _ _))
    unfold f_fits_owners
    by_cases hm : ds.length = m
    · rw [show fitB n m (.tuple ds) = ds.all (ownI n) by simp [fitB, hm]]
      refine seq_go (if_f c (by simp [hm]) rfl) (ret_ev ?_)
      refine all_ev (comp_ev0 (lk := []) rfl rfl rfl (by have := h.m10; omega) fun d hd => .d ?_)
      show fAnd _ _ [.d (gameD g), .d (.tuple ds), .d d] = _
      cases d with
      | int i => exact fand_ev (a := true) (call_ev [.int i] rfl (whole_ev (.int i))) fun _ => chn_ev rfl rfl rfl (fun _ => lenG_ev h rfl) fun _ => rfl
      | _ => exact fand_ev (a := false) (b := false) (call_ev [_] rfl (whole_ev _)) fun h => by cases h
    · rw [show fitB n m (.tuple ds) = false by simp [fitB, hm]]
      exact seq_rt (if_t c (by simp; omega) rfl)
  | _ => rfl
theorem share_ok {g : List (List Int)} {n m : Nat} (h : Good g n m) {v : PyData} (hv : fitB n m v = true) : F_check_share [.d (gameD g), .d v] = .ok (.d .none) [.d (gameD g), .d v] :=
  run_nx [.d (gameD g), .d v] (seq_go (expr_ev (call_ev [gameD g] rfl (check_ok h.game))) (if_f (not_ev (test_ev (call_ev [gameD g, v] rfl (fits_ev h v)))) (by rw [hv]; rfl) rfl))
theorem share_bad {g : List (List Int)} {n m : Nat} (h : Good g n m) {v : PyData} (hv : fitB n m v = false) : F_check_share [.d (gameD g), .d v] = .ex .mal :=
  run_ex (seq_go (expr_ev (call_ev [gameD g] rfl (check_ok h.game))) (if_t (not_ev (test_ev (call_ev [gameD g, v] rfl (fits_ev h v)))) (by rw [hv]; rfl) rfl))
theorem share_badG {d v : PyData} (h : gameB d = false) : F_check_share [.d d, .d v] = .ex .mal :=
  run_ex (seq_ex (expr_ex (call_ex [d] rfl (check_bad h))))
def natD (j : Nat) : PyData := .int (j : Int)
def osD (os : List Nat) : PyData := .tuple (os.map natD)
/-- who has the goods, among the first t -/
def gUp (os : List Nat) (t k : Nat) : List Nat := (List.range t).filter fun j => decide (os[j]? = some k)
def gOf (os : List Nat) (k : Nat) : List Nat := gUp os os.length k
theorem gUp_succ (os : List Nat) (t k : Nat) : gUp os (t + 1) k = gUp os t k ++ (if os[t]? = some k then [t] else []) := by
  unfold gUp
  rw [List.range_succ, List.filter_append]
  by_cases h : os[t]? = some k <;> simp [h]
theorem gUp_len (os : List Nat) (t k : Nat) : (gUp os t k).length ≤ t := by
  have := List.length_filter_le (fun j => decide (os[j]? = some k)) (List.range t)
  rw [List.length_range] at this
  exact this
theorem gUp_lt {os : List Nat} {t k j : Nat} (h : j ∈ gUp os t k) : j < t := List.mem_range.mp (List.mem_filter.mp h).1
def partsD (os : List Nat) (n t : Nat) : List PyData := (List.range n).map fun k => osD (gUp os t k)
theorem partsD_len (os : List Nat) (n t : Nat) : (partsD os n t).length = n := by unfold partsD; rw [List.length_map, List.length_range]
theorem partsD_at {os : List Nat} {n t k : Nat} (h : k < n) : (partsD os n t)[k]? = some (osD (gUp os t k)) := by
  unfold partsD
  rw [List.getElem?_map, List.getElem?_range h]
  rfl
theorem partsD_set {os : List Nat} {n t o : Nat} (h : os[t]? = some o) : (partsD os n t).set o (osD (gUp os t o ++ [t])) = partsD os n (t + 1) := by
  apply List.ext_getElem?
  intro k
  by_cases hk : k < n
  · rw [partsD_at hk, gUp_succ]
    by_cases e : k = o
    · subst e
      rw [List.getElem?_set_self (by rw [partsD_len]; exact hk), if_pos h]
    · rw [List.getElem?_set_ne (Ne.symm e), partsD_at hk, if_neg (by rw [h]; intro z; exact e (Option.some.inj z).symm), List.append_nil]
  · rw [List.getElem?_eq_none (by rw [List.length_set, partsD_len]; omega), List.getElem?_eq_none (by rw [partsD_len]; omega)]
theorem parts_ev (os : List Nat) (n : Nat) (hn : n ≤ 1000) (hm : os.length ≤ 1000) (ho : ∀ o ∈ os, o < n) : F_parts_of [.d (.int n), .d (osD os)] = .ok (.new (.lst (partsD os n os.length))) [.d (.int n), .d (osD os)] := by
  have c : (sSet 2 (fComp (iRg1 (fVar 0)) [3] (gN 3) tYesF (fTup fNil))) [.d (.int n), .d (osD os), .no, .no, .no, .no] = .ok .nx [.d (.int n), .d (osD os), .l (.lst (partsD os n 0)), .no, .no, .no] := by
    refine set_new (G1 := [.d (.int n), .d (osD os), .no, .no, .no, .no]) (i := 2) (x := .lst (partsD os n 0)) ?_
    refine Eq.trans (comp_ev0 (e := fun _ => .tuple []) (rg_ev n rfl (by omega)) rfl rfl (by simp; omega) fun d hd => .d rfl) ?_
    rw [List.map_map]
    rfl
  have hl : ∃ G', loopF (gT 2 (gsCons (gN 4) (gsCons (gN 5) gsNil))) (sSetItem (fOp2 kAdd (fOp2 kIdx (fVar 2) (fVar 5)) (fTup (fCons (fVar 4) fNil))) (fVar 2) (fVar 5)) (enumD (os.map natD)) [.d (.int n), .d (osD os), .l (.lst (partsD os n 0)), .no, .no, .no] = .ok .nx G' ∧
      ∃ s4 s5, Pl s4 ∧ Pl s5 ∧ G' = [.d (.int n), .d (osD os), .l (.lst (partsD os n (enumD (os.map natD)).length)), .no, s4, s5] := by
    refine loop_all (fun t G => ∃ s4 s5, Pl s4 ∧ Pl s5 ∧ G = [.d (.int n), .d (osD os), .l (.lst (partsD os n t)), .no, s4, s5]) ⟨.no, .no, .no, .no, rfl⟩ fun j d G ej hG => ?_
    obtain ⟨s4, s5, p4, p5, rfl⟩ := hG
    rw [enumD_at, List.getElem?_map] at ej
    cases eo : os[j]? with
    | none => rw [eo] at ej; cases ej
    | some o =>
      rw [eo] at ej
      cases ej
      have hon : o < n := ho o (List.mem_of_getElem? eo)
      have hj : j < os.length := (List.getElem?_eq_some_iff.mp eo).1
      refine ⟨[.d (.int n), .d (osD os), .l (.lst (partsD os n j)), .no, .d (natD j), .d (natD o)], ?_, _, .inl (setItem_ev (d := osD (gUp os j o ++ [j])) (m := o) (k := (o : Int)) ?_ rfl rfl rfl (by rw [partsD_len]; exact ixN_nat hon)), ?_⟩
      · rcases p4 with rfl | ⟨_, rfl⟩ <;> rcases p5 with rfl | ⟨_, rfl⟩ <;> rfl
      · refine op_ev (idx_ev rfl rfl (.inr rfl) rfl (atI_natL (partsD_at hon))) rfl ?_
        rw [kAdd_t (xs := (gUp os j o).map natD) (ys := [natD j]) rfl rfl (by have := gUp_len os j o; simp; omega)]
        unfold osD
        rw [List.map_append]
        rfl
      · rw [partsD_set eo]
        exact ⟨_, _, .dd _, .dd _, rfl⟩
  obtain ⟨G', h1, s4, s5, p4, p5, rfl⟩ := hl
  have e1 : (enumD (os.map natD)).length = os.length := by unfold enumD; simp
  rw [e1] at h1
  refine run_own (i := 2) [.d (.int n), .d (osD os), .l (.lst (partsD os n os.length)), .no, s4, s5] (seq_go c (seq_go (for_nx (lk := []) (ds := enumD (os.map natD)) rfl h1) ?_))
  rcases p4 with rfl | ⟨_, rfl⟩ <;> rcases p5 with rfl | ⟨_, rfl⟩ <;> rfl
end C0
namespace C0
open PySem PySem.Spec PyProof.Rows L2 Fx
def wth (r : List Int) (ps : List Nat) : Int := (ps.map fun j => r.getD j 0).sum
theorem row_at {r : List Int} {j : Nat} (h : j < r.length) : atI (r.map PyData.int) (j : Int) = some (.int (r.getD j 0)) := by
  apply atI_natL
  rw [List.getElem?_map, List.getD_eq_getElem?_getD, List.getElem?_eq_getElem h]
  rfl
theorem worth_comp {r : List Int} {ps : List Nat} {c : PyData} (hc : kItems [.d (rowD r), .d c, .no] (.d c) = .ok (ps.map natD, []) [.d (rowD r), .d c, .no]) (h : ∀ j ∈ ps, j < r.length) (hl : ps.length ≤ 1000) : F_worth [.d (rowD r), .d c] = .ok (.d (.int (wth r ps))) [.d (rowD r), .d c] := by
  refine run_d [.d (rowD r), .d c, .no] (ret_ev ?_)
  refine sum_ev (l := ps) ?_
  refine Eq.trans (comp_ev0 (ds := ps.map natD) (lk := []) (e := fun d => match d with | .int i => .int (r.getD i.toNat 0) | _ => .none) ?_ rfl rfl (by rw [List.length_map]; omega) fun d hd => .d ?_) ?_
  · exact hc
  · obtain ⟨j, hj, rfl⟩ := List.mem_map.mp hd
    exact idx_ev rfl rfl (.inl rfl) rfl (row_at (h j hj))
  · rw [List.map_map]
    rfl
theorem worth_t {r : List Int} {ps : List Nat} (h : ∀ j ∈ ps, j < r.length) (hl : ps.length ≤ 1000) : F_worth [.d (rowD r), .d (osD ps)] = .ok (.d (.int (wth r ps))) [.d (rowD r), .d (osD ps)] := worth_comp rfl h hl
theorem worth_l {r : List Int} {ps : List Nat} (h : ∀ j ∈ ps, j < r.length) (hl : ps.length ≤ 1000) : F_worth [.d (rowD r), .d (.list (ps.map natD))] = .ok (.d (.int (wth r ps))) [.d (rowD r), .d (.list (ps.map natD))] := worth_comp rfl h hl
theorem all_true {α : Type} (l : List α) : (l.all fun _ => true) = true := by simp
/-- the owners of m goods, of n people -/
structure Own (os : List Nat) (n m : Nat) : Prop where
  len : os.length = m
  lt : ∀ o ∈ os, o < n
theorem Own.fit {os : List Nat} {n m : Nat} (h : Own os n m) : fitB n m (osD os) = true := by
  show (decide ((os.map natD).length = m) && (os.map natD).all (ownI n)) = true
  rw [List.length_map, Bool.and_eq_true, List.all_eq_true]
  refine ⟨decide_eq_true h.len, fun d hd => ?_⟩
  obtain ⟨o, ho, rfl⟩ := List.mem_map.mp hd
  have := h.lt o ho
  simp [ownI, natD]; omega
theorem eqv_nat (x y : Nat) : PyData.eqv (natD x) (natD y) = decide (x = y) := by
  show PyData.eqv (.int x) (.int y) = _
  rw [PyData.eqv]
  by_cases h : x = y
  · subst h; simp
  · have : ¬ (x : Int) = (y : Int) := by omega
    simp [h, this]
theorem inD_nat (x : Nat) : ∀ hs : List Nat, inD (natD x) (hs.map natD) = hs.contains x
  | [] => rfl
  | h :: hs => by
    show (PyData.eqv (natD h) (natD x) || inD (natD x) (hs.map natD)) = _
    rw [eqv_nat, inD_nat x hs, List.contains_cons]
    by_cases e : h = x
    · subst e
      rw [decide_eq_true rfl, beq_self_eq_true]
    · rw [decide_eq_false e, show (x == h) = false from beq_eq_false_iff_ne.mpr (Ne.symm e)]
theorem nin_ev {G : Gm} {x : Nat} {hs : List Nat} : kNin G (.d (natD x)) (.d (osD hs)) = .ok (.d (.bool (!hs.contains x))) G := by
  show (match opIn true (natD x) (osD hs) with | some z => Res.ok (Rv.d z) G | none => .bad) = _
  have : opIn true (natD x) (osD hs) = some (.bool (!hs.contains x)) := by
    show opInL true (natD x) (hs.map natD) = _
    unfold opInL
    rw [if_pos (by
      rw [Bool.and_eq_true, List.all_eq_true]
      exact ⟨rfl, fun d hd => by obtain ⟨j, _, rfl⟩ := List.mem_map.mp hd; rfl⟩), inD_nat]
    rfl
  rw [this]
theorem kNe_nat (G : Gm) (a b : Nat) : kNe G (.d (natD a)) (.d (natD b)) = .ok (.d (.bool (!decide (a = b)))) G := by
  rw [show kNe G (.d (natD a)) (.d (natD b)) = _ from kNe_int G a b]
  congr 4
  apply decide_eq_decide.mpr
  omega
theorem gOf_lt {os : List Nat} {n m k j : Nat} (h : Own os n m) (hj : j ∈ gOf os k) : j < m := by
  have := gUp_lt hj
  rw [h.len] at this
  exact this
theorem row_of {g : List (List Int)} {n m i : Nat} (h : Good g n m) (hi : i < n) : ∃ r, g[i]? = some r ∧ g.getD i [] = r ∧ r.length = m := by
  have hl : i < g.length := by rw [h.len]; exact hi
  refine ⟨g[i], List.getElem?_eq_getElem hl, by rw [List.getD_eq_getElem?_getD, List.getElem?_eq_getElem hl]; rfl, (h.row _ (List.getElem_mem hl)).1⟩
theorem get_nonneg {g : List (List Int)} {n m : Nat} (h : Good g n m) {r : List Int} (hr : r ∈ g) (j : Nat) : 0 ≤ r.getD j 0 := by
  rw [List.getD_eq_getElem?_getD]
  cases e : r[j]? with
  | none => exact Int.le_refl _
  | some x =>
    have := ((h.row r hr).2 x (List.mem_of_getElem? e)).1
    show 0 ≤ x
    omega
theorem wth_nonneg {r : List Int} (h : ∀ j, 0 ≤ r.getD j 0) : ∀ ps : List Nat, 0 ≤ wth r ps
  | [] => Int.le_refl _
  | j :: ps => by
    have h1 := h j
    have h2 := wth_nonneg h ps
    show 0 ≤ ((j :: ps).map fun j => r.getD j 0).sum
    rw [List.map_cons, List.sum_cons]
    have : 0 ≤ (ps.map fun j => r.getD j 0).sum := h2
    omega
def rowOf (g : List (List Int)) (i : Nat) : List Int := g.getD i []
theorem gOf_len {os : List Nat} {n m : Nat} (ho : Own os n m) (k : Nat) : (gOf os k).length ≤ m := by
  have := gUp_len os os.length k
  unfold gOf
  rw [ho.len] at this ⊢
  exact this
def Fr (s : Sl) : Prop := Pl s ∨ ∃ o, s = .l o
theorem Fr.l (o : Ao) : Fr (.l o) := .inr ⟨o, rfl⟩
theorem unlk_fr {t s : Sl} (h : Fr s) : unlk t s = s := by
  rcases h with h | ⟨o, rfl⟩
  · exact unlk_pl h
  · cases t <;> rfl
theorem free_fr {G : Gm} {i : Nat} {s : Sl} (h : G[i]? = some s) (f : Fr s) : freeAt G i = true := by
  unfold freeAt
  rw [h]
  rcases f with (rfl | ⟨x, rfl⟩) | ⟨o, rfl⟩ <;> rfl
theorem kTuple_own {G : Gm} {i : Nat} {ds : List PyData} (h : ownAt G i = some (.lst ds)) : kTuple G [.own i] = .ok (.d (.tuple ds)) G := by
  unfold kTuple k1
  dsimp only [rd]
  rw [h]
  rfl
def drD (cs : List Int) (p v s : Int) : List PyData := [.list (cs.map .int), .int p, .int v, .int s]
/-- a draw's state -/
def Dr (D : List PyData) : Prop := ∃ cs p v s, D = drD cs p v s ∧ (∀ c ∈ cs, 0 ≤ c) ∧ -1 ≤ p ∧ 0 ≤ v ∧ 0 ≤ s
theorem mul_ok {i j : Int} (h : -(2 ^ 64) < j) (h2 : j < 2 ^ 64) : mulOk i j = true := by
  unfold mulOk
  rw [Bool.or_eq_true]
  right
  rw [Bool.and_eq_true]
  exact ⟨decide_eq_true h, decide_eq_true h2⟩
theorem kMul_i {G : Gm} {i j : Int} (h : mulOk i j = true) : kMul G (.d (.int i)) (.d (.int j)) = .ok (.d (.int (i * j))) G := by
  show (if mulOk i j then Res.ok (Rv.d (.int (i * j))) G else .bad) = _
  rw [if_pos h]
theorem kMod_i {G : Gm} {i j : Int} (h : j ≠ 0) : kMod G (.d (.int i)) (.d (.int j)) = .ok (.d (.int (i.fmod j))) G := by
  show (match (if j ≠ 0 then some (PyData.int (i.fmod j)) else none) with | some z => Res.ok (Rv.d z) G | none => .bad) = _
  rw [if_pos h]
theorem kDiv_i {G : Gm} {i j : Int} (h : divOk j = true) : kDiv G (.d (.int i)) (.d (.int j)) = .ok (.d (.int (i.fdiv j))) G := by
  show (match (if divOk j then some (PyData.int (i.fdiv j)) else none) with | some z => Res.ok (Rv.d z) G | none => .bad) = _
  rw [if_pos h]
theorem kEq_i (G : Gm) (a b : Int) : kEq G (.d (.int a)) (.d (.int b)) = .ok (.d (.bool (decide (a = b)))) G := by
  have : PyData.eqv (.int a) (.int b) = decide (a = b) := by
    rw [PyData.eqv]
    by_cases h : a = b <;> simp [h]
  show (match opEq (.int a) (.int b) with | some z => Res.ok (Rv.d z) G | none => .bad) = _
  simp [opEq, okD, flatS, this]
abbrev tkA : Gm → Res Out := sIf (fTest (fOp2 kEq (fOp2 kIdx (fVar 0) (fC (.int 2))) (fC (.int 0)))) (sSeq (sSetItem (fOp2 kAdd (fOp2 kIdx (fVar 0) (fC (.int 1))) (fC (.int 1))) (fVar 0) (fC (.int 1)))
  (sSeq (sIf (fTest (fOp2 kLt (fOp2 kIdx (fVar 0) (fC (.int 1))) (fCallK kLen (fCons (fOp2 kIdx (fVar 0) (fC (.int 0))) fNil)))) (sSetItem (fOp2 kIdx (fOp2 kIdx (fVar 0) (fC (.int 0))) (fOp2 kIdx (fVar 0) (fC (.int 1)))) (fVar 0) (fC (.int 2))) sNx)
  (sIf (fTest (fOp2 kEq (fOp2 kIdx (fVar 0) (fC (.int 2))) (fC (.int 0)))) (sSeq (sSetItem (fOp2 kMod (fCallK kInt (fCons (fOp2 kAdd (fOp2 kMul (fOp2 kIdx (fVar 0) (fC (.int 3))) (fC (.int 48271))) (fC (.int 11))) fNil)) (fC (.int 2147483647))) (fVar 0) (fC (.int 3)))
  (sSetItem (fOp2 kIdx (fVar 0) (fC (.int 3))) (fVar 0) (fC (.int 2)))) sNx))) sNx
theorem tk1 {cs : List Int} {p v s many : Int} : (sSetItem (fOp2 kAdd (fOp2 kIdx (fVar 0) (fC (.int 1))) (fC (.int 1))) (fVar 0) (fC (.int 1))) [.x (.lst (drD cs p v s)), .d (.int many), .no] = .ok .nx [.x (.lst (drD cs (p + 1) v s)), .d (.int many), .no] := rfl
theorem tk2 {cs : List Int} {p v s many : Int} (hc : ∀ c ∈ cs, 0 ≤ c) (hp : 0 ≤ p) (hv : v = 0) : ∃ v', 0 ≤ v' ∧ (sIf (fTest (fOp2 kLt (fOp2 kIdx (fVar 0) (fC (.int 1))) (fCallK kLen (fCons (fOp2 kIdx (fVar 0) (fC (.int 0))) fNil)))) (sSetItem (fOp2 kIdx (fOp2 kIdx (fVar 0) (fC (.int 0))) (fOp2 kIdx (fVar 0) (fC (.int 1)))) (fVar 0) (fC (.int 2))) sNx) [.x (.lst (drD cs p v s)), .d (.int many), .no]
    = .ok .nx [.x (.lst (drD cs p v' s)), .d (.int many), .no] := by
  have c : fTest (fOp2 kLt (fOp2 kIdx (fVar 0) (fC (.int 1))) (fCallK kLen (fCons (fOp2 kIdx (fVar 0) (fC (.int 0))) fNil))) [.x (.lst (drD cs p v s)), .d (.int many), .no] = .ok (decide (p < ((cs.map PyData.int).length : Nat))) [.x (.lst (drD cs p v s)), .d (.int many), .no] := rfl
  by_cases h : p < ((cs.map PyData.int).length : Nat)
  · obtain ⟨j, rfl⟩ := Int.eq_ofNat_of_zero_le hp
    have hj : j < cs.length := by rw [List.length_map] at h; exact Int.ofNat_lt.mp h
    refine ⟨cs[j], hc _ (List.getElem_mem hj), if_t c (decide_eq_true h) ?_⟩
    refine Eq.trans (setItem_ev (d := .int cs[j]) (m := 2) (k := 2) (idx_ev rfl rfl (.inr rfl) rfl (atI_natL (j := j) (by rw [List.getElem?_map, List.getElem?_eq_getElem hj]; rfl))) rfl rfl rfl rfl) rfl
  · exact ⟨0, Int.le_refl _, if_f c (decide_eq_false h) (by rw [hv]; rfl)⟩
theorem fmod_pos {a b : Int} (h : 0 < b) : 0 ≤ a.fmod b ∧ a.fmod b < b := by
  rw [Int.fmod_eq_emod_of_nonneg a (Int.le_of_lt h)]
  exact ⟨Int.emod_nonneg a (by omega), Int.emod_lt_of_pos a h⟩
theorem tk3 {cs : List Int} {p v s many : Int} (hv : 0 ≤ v) (hs : 0 ≤ s) : ∃ v' s', 0 ≤ v' ∧ 0 ≤ s' ∧ (sIf (fTest (fOp2 kEq (fOp2 kIdx (fVar 0) (fC (.int 2))) (fC (.int 0)))) (sSeq (sSetItem (fOp2 kMod (fCallK kInt (fCons (fOp2 kAdd (fOp2 kMul (fOp2 kIdx (fVar 0) (fC (.int 3))) (fC (.int 48271))) (fC (.int 11))) fNil)) (fC (.int 2147483647))) (fVar 0) (fC (.int 3)))
    (sSetItem (fOp2 kIdx (fVar 0) (fC (.int 3))) (fVar 0) (fC (.int 2)))) sNx) [.x (.lst (drD cs p v s)), .d (.int many), .no] = .ok .nx [.x (.lst (drD cs p v' s')), .d (.int many), .no] := by
  have c : fTest (fOp2 kEq (fOp2 kIdx (fVar 0) (fC (.int 2))) (fC (.int 0))) [.x (.lst (drD cs p v s)), .d (.int many), .no] = .ok (decide (v = 0)) [.x (.lst (drD cs p v s)), .d (.int many), .no] := test_ev (op_ev (a := .d (.int v)) rfl rfl (kEq_i _ _ _))
  by_cases h : v = 0
  · have hb := fmod_pos (a := s * 48271 + 11) (b := 2147483647) (by decide)
    refine ⟨_, _, hb.1, hb.1, if_t c (decide_eq_true h) (seq_go (G1 := [.x (.lst (drD cs p v ((s * 48271 + 11).fmod 2147483647))), .d (.int many), .no]) ?_ rfl)⟩
    refine Eq.trans (setItem_ev (d := .int ((s * 48271 + 11).fmod 2147483647)) (m := 3) (k := 3) ?_ rfl rfl rfl rfl) rfl
    refine op_ev (a := .d (.int (s * 48271 + 11))) ?_ rfl (kMod_i (by decide))
    unfold fCallK fCons
    rw [show (fOp2 kAdd (fOp2 kMul (fOp2 kIdx (fVar 0) (fC (.int 3))) (fC (.int 48271))) (fC (.int 11))) [.x (.lst (drD cs p v s)), .d (.int many), .no] = .ok (.d (.int (s * 48271 + 11))) [.x (.lst (drD cs p v s)), .d (.int many), .no] from op_ev (op_ev (a := .d (.int s)) rfl rfl (kMul_i (mul_ok (by decide) (by decide)))) rfl rfl]
    rfl
  · exact ⟨v, s, hv, hs, if_f c (decide_eq_false h) rfl⟩
theorem tkA_ev {cs : List Int} {p v s many : Int} (hc : ∀ c ∈ cs, 0 ≤ c) (hp : -1 ≤ p) (hv : 0 ≤ v) (hs : 0 ≤ s) : ∃ p' v' s', -1 ≤ p' ∧ 0 ≤ v' ∧ 0 ≤ s' ∧ tkA [.x (.lst (drD cs p v s)), .d (.int many), .no] = .ok .nx [.x (.lst (drD cs p' v' s')), .d (.int many), .no] := by
  have c : fTest (fOp2 kEq (fOp2 kIdx (fVar 0) (fC (.int 2))) (fC (.int 0))) [.x (.lst (drD cs p v s)), .d (.int many), .no] = .ok (decide (v = 0)) [.x (.lst (drD cs p v s)), .d (.int many), .no] := test_ev (op_ev (a := .d (.int v)) rfl rfl (kEq_i _ _ _))
  by_cases h : v = 0
  · obtain ⟨v1, h1, e1⟩ := tk2 (s := s) (many := many) hc (p := p + 1) (by omega) h
    obtain ⟨v2, s2, h2, h3, e2⟩ := tk3 (cs := cs) (p := p + 1) (many := many) h1 hs
    exact ⟨p + 1, v2, s2, by omega, h2, h3, if_t c (decide_eq_true h) (seq_go tk1 (seq_go e1 e2))⟩
  · exact ⟨p, v, s, hp, hv, hs, if_f c (decide_eq_false h) rfl⟩
theorem take_ev {D : List PyData} (hD : Dr D) {many : Nat} (h1 : 1 ≤ many) (h2 : many ≤ 1000000) : ∃ r D', Dr D' ∧ r < many ∧ F_law_take [.x (.lst D), .d (natD many)] = .ok (.d (natD r)) [.x (.lst D'), .d (natD many)] := by
  obtain ⟨cs, p, v, s, rfl, hc, hp, hv, hs⟩ := hD
  obtain ⟨p', v', s', hp', hv', hs', e⟩ := tkA_ev (many := many) hc hp hv hs
  have hm : (0 : Int) < many := by omega
  have hb := fmod_pos (a := v') hm
  have hq : 0 ≤ v'.fdiv many := Int.fdiv_nonneg hv' (by omega)
  obtain ⟨r, er⟩ := Int.eq_ofNat_of_zero_le hb.1
  refine ⟨r, drD cs p' (v'.fdiv many) s', ⟨cs, p', _, s', rfl, hc, hp', hq, hs'⟩, by have := hb.2; omega, ?_⟩
  refine run_d [.x (.lst (drD cs p' (v'.fdiv many) s')), .d (natD many), .d (natD r)] (seq_go e (seq_go (G1 := [.x (.lst (drD cs p' v' s')), .d (natD many), .d (natD r)]) ?_ (seq_go (G1 := [.x (.lst (drD cs p' (v'.fdiv many) s')), .d (natD many), .d (natD r)]) ?_ rfl)))
  · refine set_d (G1 := [.x (.lst (drD cs p' v' s')), .d (natD many), .no]) (x := natD r) ?_
    rw [show natD r = .int (v'.fmod many) by rw [er]; rfl]
    exact op_ev (a := .d (.int v')) rfl rfl (kMod_i (by omega))
  · refine Eq.trans (setItem_ev (d := .int (v'.fdiv many)) (m := 2) (k := 2) (op_ev (a := .d (.int v')) rfl rfl (kDiv_i ?_)) rfl rfl rfl rfl) rfl
    unfold divOk
    rw [Bool.and_eq_true, Bool.or_eq_true]
    exact ⟨decide_eq_true (by omega), .inl (decide_eq_true (by omega))⟩
theorem takeC {G : Gm} {i : Nat} {D : List PyData} {fm : Gm → Res Rv} {many : Nat} (hv : fVar i G = .ok (.own i) G) (hm : mutAt G i = some (.lst D)) (hf : fm G = .ok (.d (natD many)) G) (hD : Dr D) (h1 : 1 ≤ many) (h2 : many ≤ 1000000) :
    ∃ r D', Dr D' ∧ r < many ∧ fCallK (kCallM F_law_take) (fCons (fVar i) (fCons fm fNil)) G = .ok (.d (natD r)) (setOwn G i (.lst D')) := by
  obtain ⟨r, D', hD', hr, e⟩ := take_ev hD h1 h2
  refine ⟨r, D', hD', hr, ?_⟩
  unfold fCallK
  rw [show fCons (fVar i) (fCons fm fNil) G = .ok [.own i, .d (natD many)] G from cons_ev hv (cons_ev hf rfl), Res.bind_ok]
  unfold kCallM
  dsimp only
  rw [hm, show argsOf G [.d (natD many)] = some ([natD many], false) from rfl]
  dsimp only
  rw [show (Sl.x (.lst D) :: List.map Sl.d [natD many]) = [.x (.lst D), .d (natD many)] from rfl, e]
theorem kc_ev {k : Gm → List Rv → Res Rv} {fs : Gm → Res (List Rv)} {G G1 : Gm} {rs : List Rv} {R : Res Rv} (h : fs G = .ok rs G1) (hk : k G1 rs = R) : fCallK k fs G = R := by
  unfold fCallK
  rw [h]
  exact hk
theorem lst_ev {fs : Gm → Res (List Rv)} {G G1 : Gm} {rs : List Rv} {R : Res Rv} (h : fs G = .ok rs G1) (hk : kLst G1 rs = R) : fLst fs G = R := by
  unfold fLst
  rw [h]
  exact hk
theorem int_ev {fa : Gm → Res Rv} {G G1 : Gm} {i : Int} (h : fa G = .ok (.d (.int i)) G1) : fCallK kInt (fCons fa fNil) G = .ok (.d (.int i)) G1 := by
  unfold fCallK fCons
  rw [h]
  rfl
theorem draw_ev (ns : List Int) (h : ns.length ≤ 63) : ∃ D A, Dr D ∧ F_law_draw [.d (.dict [(.none, .list (ns.map .int))])] = .ok (.new (.lst D)) A := by
  have lp := loop_findA (tg := gN 2) (body := (sSet 1 (fOp2 kMod (fCallK kInt (fCons (fOp2 kAdd (fOp2 kAdd (fOp2 kMul (fVar 1) (fC (.int 48271))) (fOp2 kMod (fCallK kAbs (fCons (fCallK kInt (fCons (fVar 2) fNil)) fNil)) (fC (.int 65521)))) (fC (.int 1))) fNil)) (fC (.int 2147483647))))) PyData.int
    (fun G => ∃ s t2, 0 ≤ s ∧ Pl t2 ∧ G = [.d (.dict [(.none, .list (ns.map .int))]), .d (.int s), t2]) (fun _ => False) (fun _ => none) ns (lockAll [.d (.dict [(.none, .list (ns.map .int))]), .d (.int 7), .no] []) ⟨7, .no, by decide, .no, rfl⟩ fun x hx G hG => ?_
  · rw [List.findSome?_eq_none_iff.mpr fun _ _ => rfl] at lp
    obtain ⟨G', e, s, t2, hs, q2, rfl⟩ := lp
    refine ⟨drD (ns.map fun i => if i < 0 then -i else i) (-1) 0 s, [.d (.dict [(.none, .list (ns.map .int))])], ⟨_, -1, 0, s, rfl, fun c hc => ?_, by decide, by decide, hs⟩, ?_⟩
    · obtain ⟨i, _, rfl⟩ := List.mem_map.mp hc
      split <;> omega
    · refine run_new [.d (.dict [(.none, .list (ns.map .int))]), .d (.int s), t2] (seq_go (G1 := [.d (.dict [(.none, .list (ns.map .int))]), .d (.int 7), .no]) rfl (seq_go (for_nx (lk := []) (ds := ns.map .int) rfl e) (ret_ev ?_))) rfl rfl
      have u2 := unlk_pl (t := .no) q2
      show fLst _ [.d (.dict [(.none, .list (ns.map .int))]), .d (.int s), unlk .no t2] = _
      rw [u2]
      have ce : (fComp (iSeq (fVar 0)) [2] (gN 2) tYesF (fCallK kAbs (fCons (fCallK kInt (fCons (fVar 2) fNil)) fNil))) [.d (.dict [(.none, .list (ns.map .int))]), .d (.int s), t2] = .ok (.new (.lst (ns.map fun i => PyData.int (if i < 0 then -i else i)))) [.d (.dict [(.none, .list (ns.map .int))]), .d (.int s), t2] := by
        refine comp_evA0 (enc := PyData.int) (lk := []) rfl (by rcases q2 with rfl | ⟨_, rfl⟩ <;> rfl) rfl (by omega) fun a ha => .d ?_
        rcases q2 with rfl | ⟨_, rfl⟩ <;> rfl
      refine lst_ev (cons_ev ce rfl) ?_
      show Res.ok (Rv.new (.lst [.list (ns.map fun i => PyData.int (if i < 0 then -i else i)), .int (-1), .int 0, .int s])) _ = _
      unfold drD
      rw [List.map_map]
      rfl
  · obtain ⟨s, t2, hs, q2, rfl⟩ := hG
    refine ⟨[.d (.dict [(.none, .list (ns.map .int))]), .d (.int s), .d (.int x)], by rcases q2 with rfl | ⟨_, rfl⟩ <;> rfl, ?_⟩
    have hb := fmod_pos (a := s * 48271 + (if x < 0 then -x else x).fmod 65521 + 1) (b := 2147483647) (by decide)
    refine ⟨_, .inl (set_d (G1 := [.d (.dict [(.none, .list (ns.map .int))]), .d (.int s), .d (.int x)]) (x := .int ((s * 48271 + (if x < 0 then -x else x).fmod 65521 + 1).fmod 2147483647)) ?_), _, _, hb.1, .dd _, rfl⟩
    exact op_ev (a := .d (.int (s * 48271 + (if x < 0 then -x else x).fmod 65521 + 1))) (int_ev (op_ev (op_ev (op_ev (a := .d (.int s)) rfl rfl (kMul_i (mul_ok (by decide) (by decide)))) (op_ev (a := .d (.int (if x < 0 then -x else x))) rfl rfl (kMod_i (by decide))) rfl) rfl rfl)) rfl (kMod_i (by decide))
theorem natsOf {xs : List PyData} {n : Nat} (h : ∀ x ∈ xs, ∃ r, r < n ∧ x = natD r) : ∃ os : List Nat, xs = os.map natD ∧ ∀ o ∈ os, o < n := by
  induction xs with
  | nil => exact ⟨[], rfl, fun _ z => by cases z⟩
  | cons x xs ih =>
    obtain ⟨r, hr, rfl⟩ := h x List.mem_cons_self
    obtain ⟨os, rfl, ho⟩ := ih fun y hy => h y (List.mem_cons_of_mem _ hy)
    exact ⟨r :: os, rfl, fun o hm => by
      obtain rfl | hm := List.mem_cons.mp hm
      · exact hr
      · exact ho o hm⟩
theorem owners_ev {g : List (List Int)} {n m : Nat} {D : List PyData} (h : Good g n m) (hD : Dr D) : ∃ os D', Own os n m ∧ Dr D' ∧ F_law_owners [.x (.lst D), .d (gameD g)] = .ok (.d (osD os)) [.x (.lst D'), .d (gameD g)] := by
  obtain ⟨r, rs, hg, hr⟩ := h.first
  have n1 := h.n1
  have n6 := h.n6
  have m10 := h.m10
  have i0 : (fOp2 kIdx (fVar 1) (fC (.int 0))) [.x (.lst D), .d (gameD g), .no] = .ok (.d (rowD r)) [.x (.lst D), .d (gameD g), .no] := by
    subst hg
    exact idx_ev rfl rfl (.inl rfl) rfl (atI_natL (j := 0) rfl)
  obtain ⟨xs, G', e, ⟨D', hD', rfl⟩, hl, hx⟩ := comp_st (it := iSeq (fOp2 kIdx (fVar 1) (fC (.int 0)))) (i := 2) (elt := (fCallK (kCallM F_law_take) (fCons (fVar 0) (fCons (fCallK kLen (fCons (fVar 1) fNil)) fNil)))) (G := [.x (.lst D), .d (gameD g), .no]) (ds := r.map .int)
    (fun G => ∃ D', Dr D' ∧ G = [.x (.lst D'), .d (gameD g), .no]) (fun x => ∃ k, k < n ∧ x = natD k) (by unfold iSeq; rw [i0]; rfl) rfl rfl ⟨D, hD, rfl⟩ (fun G ⟨D', _, e⟩ => by rw [e]; rfl) (fun G ⟨D', _, e⟩ => by rw [e]; rfl) (by rw [List.length_map]; omega) fun d hd G hG => by
      obtain ⟨D1, hD1, rfl⟩ := hG
      obtain ⟨k, D2, hD2, hk, e⟩ := takeC (G := [.x (.lst D1), .d (gameD g), .d d]) (i := 0) (fm := fCallK kLen (fCons (fVar 1) fNil)) (many := n) rfl rfl (lenG_ev h rfl) hD1 n1 (by omega)
      exact ⟨natD k, [.x (.lst D2), .d (gameD g), .no], e, ⟨D2, hD2, rfl⟩, k, hk, rfl⟩
  obtain ⟨os, rfl, ho⟩ := natsOf hx
  refine ⟨os, D', ⟨?_, ho⟩, hD', run_d [.x (.lst D'), .d (gameD g), .no] (ret_ev ?_)⟩
  · rw [List.length_map, List.length_map] at hl
    omega
  · exact kc_ev (cons_ev e rfl) rfl
end C0
namespace C0
open PySem PySem.Spec PyProof.Rows L2 Fx
def RowOk (m : Nat) (r : List Int) : Prop := r.length = m ∧ ∀ x ∈ r, 1 ≤ x ∧ x ≤ 1000
theorem ok_rowD (k : Nat) (r : List Int) : okD (k + 1) (rowD r) = true := by
  show (r.map PyData.int).all (okD k) = true
  rw [List.all_eq_true]
  intro d hd
  obtain ⟨x, _, rfl⟩ := List.mem_map.mp hd
  cases k <;> rfl
theorem ne_nil_ev {G : Gm} {i : Nat} {gs : List (List Int)} (h : ownAt G i = some (.lst (gs.map rowD))) : kNe G (.own i) (.new (.lst [])) = .ok (.d (.bool (!decide (gs = [])))) G := by
  unfold kNe kF2
  dsimp only [rd]
  rw [h]
  show (match opNe (.list (gs.map rowD)) (.list []) with | some z => Res.ok (Rv.d z) G | none => .bad) = _
  have ho : okD 60 (.list (gs.map rowD)) = true := by
    show (gs.map rowD).all (okD 59) = true
    rw [List.all_eq_true]
    intro d hd
    obtain ⟨x, _, rfl⟩ := List.mem_map.mp hd
    exact ok_rowD 58 x
  unfold opNe
  rw [ho, show okD 60 (.list []) = true from rfl]
  have e : PyData.eqv (.list (gs.map rowD)) (.list []) = decide (gs = []) := by
    cases gs with
    | nil => simp [PyData.eqv, PyData.eqvAll]
    | cons a b => simp [PyData.eqv, PyData.eqvAll]
  rw [e]
  rfl
theorem pick_ev {gs : List (List Int)} {D : List PyData} {r : List Int} {mm : Nat} (hD : Dr D) (hg : ∀ x ∈ gs, RowOk mm x) (hr : RowOk mm r) (hl : gs.length ≤ 1000) : ∃ D' r', Dr D' ∧ RowOk mm r' ∧
    (fIf (tAnd' (fTest (fOp2 kNe (fVar 7) (fLst fNil))) (fTest (fOp2 kEq (fCallK (kCallM F_law_take) (fCons (fVar 0) (fCons (fC (.int 4)) fNil))) (fC (.int 0))))) (fOp2 kIdx (fVar 7) (fCallK (kCallM F_law_take) (fCons (fVar 0) (fCons (fCallK kLen (fCons (fVar 7) fNil)) fNil)))) (fVar 9))
      [.x (.lst D), .d people, .d goods, .d most, .d n, .d m, .d top, .l (.lst (gs.map rowD)), s8, .d (rowD r), .no] = .ok (.d (rowD r')) [.x (.lst D'), .d people, .d goods, .d most, .d n, .d m, .d top, .l (.lst (gs.map rowD)), s8, .d (rowD r), .no] := by
  have c1 : fTest (fOp2 kNe (fVar 7) (fLst fNil)) [.x (.lst D), .d people, .d goods, .d most, .d n, .d m, .d top, .l (.lst (gs.map rowD)), s8, .d (rowD r), .no] = .ok (!decide (gs = [])) [.x (.lst D), .d people, .d goods, .d most, .d n, .d m, .d top, .l (.lst (gs.map rowD)), s8, .d (rowD r), .no] := test_ev (op_ev (a := .own 7) rfl rfl (ne_nil_ev rfl))
  by_cases h : gs = []
  · refine ⟨D, r, hD, hr, ?_⟩
    subst h
    refine Eq.trans (if_evE (b := false) (by
      unfold tAnd'
      rw [c1]
      rfl)) rfl
  · obtain ⟨a, D1, hD1, ha, e1⟩ := takeC (G := [.x (.lst D), .d people, .d goods, .d most, .d n, .d m, .d top, .l (.lst (gs.map rowD)), s8, .d (rowD r), .no]) (i := 0) (fm := fC (.int 4)) (many := 4) rfl rfl rfl hD (by omega) (by omega)
    have c : (tAnd' (fTest (fOp2 kNe (fVar 7) (fLst fNil))) (fTest (fOp2 kEq (fCallK (kCallM F_law_take) (fCons (fVar 0) (fCons (fC (.int 4)) fNil))) (fC (.int 0))))) [.x (.lst D), .d people, .d goods, .d most, .d n, .d m, .d top, .l (.lst (gs.map rowD)), s8, .d (rowD r), .no]
        = .ok (decide ((a : Int) = 0)) [.x (.lst D1), .d people, .d goods, .d most, .d n, .d m, .d top, .l (.lst (gs.map rowD)), s8, .d (rowD r), .no] := by
      unfold tAnd'
      rw [c1, decide_eq_false h]
      exact test_ev (op_ev (a := .d (natD a)) e1 rfl (kEq_i _ _ _))
    rw [if_evE c]
    by_cases h0 : (a : Int) = 0
    · rw [if_pos (decide_eq_true h0)]
      have hp : 1 ≤ gs.length := List.length_pos_iff.mpr h
      obtain ⟨k, D2, hD2, hk, e2⟩ := takeC (G := [.x (.lst D1), .d people, .d goods, .d most, .d n, .d m, .d top, .l (.lst (gs.map rowD)), s8, .d (rowD r), .no]) (i := 0) (fm := fCallK kLen (fCons (fVar 7) fNil)) (many := gs.length) rfl rfl (by
        show Res.ok (Rv.d (.int ((gs.map rowD).length : Nat))) _ = _
        rw [List.length_map]; rfl) hD1 hp (by omega)
      exact ⟨D2, gs[k], hD2, hg _ (List.getElem_mem hk), idx_ev rfl e2 (.inr rfl) rfl (atI_natL (j := k) (by rw [List.getElem?_map, List.getElem?_eq_getElem hk]; rfl))⟩
    · rw [if_neg (by rw [decide_eq_false h0]; exact Bool.false_ne_true)]
      exact ⟨D1, r, hD1, hr, rfl⟩
theorem intsR {xs : List PyData} {lo hi : Int} (h : ∀ x ∈ xs, ∃ v : Int, (lo ≤ v ∧ v ≤ hi) ∧ x = .int v) : ∃ os : List Int, xs = os.map PyData.int ∧ ∀ o ∈ os, lo ≤ o ∧ o ≤ hi := by
  induction xs with
  | nil => exact ⟨[], rfl, fun _ z => by cases z⟩
  | cons x xs ih =>
    obtain ⟨r, hr, rfl⟩ := h x List.mem_cons_self
    obtain ⟨os, rfl, ho⟩ := ih fun y hy => h y (List.mem_cons_of_mem _ hy)
    exact ⟨r :: os, rfl, fun o hm => by
      obtain rfl | hm := List.mem_cons.mp hm
      · exact hr
      · exact ho o hm⟩
theorem newrow_ev {people goods most n : PyData} {s8 s9 : Sl} {gs : List (List Int)} {D : List PyData} {mm top : Nat} (hD : Dr D) (hm : mm ≤ 10) (ht : 1 ≤ top) (ht2 : top ≤ 1000) : ∃ D' r, Dr D' ∧ RowOk mm r ∧
    (fCallK kTuple (fCons (fComp (iRg1 (fVar 5)) [10] (gN 10) tYesF (fOp2 kAdd (fC (.int 1)) (fCallK (kCallM F_law_take) (fCons (fVar 0) (fCons (fVar 6) fNil))))) fNil)) [.x (.lst D), .d people, .d goods, .d most, .d n, .d (natD mm), .d (natD top), .l (.lst (gs.map rowD)), s8, s9, .no]
      = .ok (.d (rowD r)) [.x (.lst D'), .d people, .d goods, .d most, .d n, .d (natD mm), .d (natD top), .l (.lst (gs.map rowD)), s8, s9, .no] := by
  obtain ⟨xs, G', e, ⟨D', hD', rfl⟩, hl, hx⟩ := comp_st (it := iRg1 (fVar 5)) (i := 10) (elt := (fOp2 kAdd (fC (.int 1)) (fCallK (kCallM F_law_take) (fCons (fVar 0) (fCons (fVar 6) fNil))))) (G := [.x (.lst D), .d people, .d goods, .d most, .d n, .d (natD mm), .d (natD top), .l (.lst (gs.map rowD)), s8, s9, .no]) (ds := (List.range mm).map fun k => PyData.int (k : Nat))
    (fun G => ∃ D', Dr D' ∧ G = [.x (.lst D'), .d people, .d goods, .d most, .d n, .d (natD mm), .d (natD top), .l (.lst (gs.map rowD)), s8, s9, .no]) (fun x => ∃ v : Int, (1 ≤ v ∧ v ≤ 1000) ∧ x = .int v) (rg_ev mm rfl (by omega)) rfl rfl ⟨D, hD, rfl⟩ (fun G ⟨D', _, e⟩ => by rw [e]; rfl) (fun G ⟨D', _, e⟩ => by
      rw [e]
      show [_, _, _, _, _, _, _, _, unlk s8 s8, unlk s9 s9, _] = _
      rw [unlk_self, unlk_self]; rfl) (by simp; omega) fun d hd G hG => by
      obtain ⟨D1, hD1, rfl⟩ := hG
      obtain ⟨k, D2, hD2, hk, e⟩ := takeC (G := [.x (.lst D1), .d people, .d goods, .d most, .d n, .d (natD mm), .d (natD top), .l (.lst (gs.map rowD)), s8, s9, .d d]) (i := 0) (fm := fVar 6) (many := top) rfl rfl rfl hD1 ht (by omega)
      exact ⟨.int (1 + (k : Int)), [.x (.lst D2), .d people, .d goods, .d most, .d n, .d (natD mm), .d (natD top), .l (.lst (gs.map rowD)), s8, s9, .no], op_ev rfl e rfl, ⟨D2, hD2, rfl⟩, _, ⟨by omega, by omega⟩, rfl⟩
  obtain ⟨os, rfl, ho⟩ := intsR hx
  refine ⟨D', os, hD', ⟨?_, ho⟩, kc_ev (cons_ev e rfl) rfl⟩
  simpa using hl
theorem natD1 (a : Nat) : PyData.int (1 + (a : Int)) = natD (1 + a) := congrArg PyData.int (by omega)
theorem game_draw {D : List PyData} (hD : Dr D) {people goods most : Nat} (h1 : 1 ≤ people) (h2 : people ≤ 6) (h3 : 1 ≤ goods) (h4 : goods ≤ 10) (h5 : 1 ≤ most) (h6 : most ≤ 1000) : ∃ g n m D', Good g n m ∧ n ≤ people ∧ m ≤ goods ∧ Dr D' ∧
    F_law_game [.x (.lst D), .d (natD people), .d (natD goods), .d (natD most)] = .ok (.d (gameD g)) [.x (.lst D'), .d (natD people), .d (natD goods), .d (natD most)] := by
  obtain ⟨a, D1, hD1, ha, e1⟩ := takeC (G := [.x (.lst D), .d (natD people), .d (natD goods), .d (natD most), .no, .no, .no, .no, .no, .no, .no]) (i := 0) (fm := fVar 1) (many := people) rfl rfl rfl hD h1 (by omega)
  obtain ⟨b, D2, hD2, hb, e2⟩ := takeC (G := [.x (.lst D1), .d (natD people), .d (natD goods), .d (natD most), .no, .no, .no, .no, .no, .no, .no]) (i := 0) (fm := fVar 2) (many := goods) rfl rfl rfl hD1 h3 (by omega)
  have s1 : (sPar 4 5 (fCons (fOp2 kAdd (fC (.int 1)) (fCallK (kCallM F_law_take) (fCons (fVar 0) (fCons (fVar 1) fNil)))) (fCons (fOp2 kAdd (fC (.int 1)) (fCallK (kCallM F_law_take) (fCons (fVar 0) (fCons (fVar 2) fNil)))) fNil))) [.x (.lst D), .d (natD people), .d (natD goods), .d (natD most), .no, .no, .no, .no, .no, .no, .no]
      = .ok .nx [.x (.lst D2), .d (natD people), .d (natD goods), .d (natD most), .d (natD (1 + a)), .d (natD (1 + b)), .no, .no, .no, .no, .no] := by
    have : (fCons (fOp2 kAdd (fC (.int 1)) (fCallK (kCallM F_law_take) (fCons (fVar 0) (fCons (fVar 1) fNil)))) (fCons (fOp2 kAdd (fC (.int 1)) (fCallK (kCallM F_law_take) (fCons (fVar 0) (fCons (fVar 2) fNil)))) fNil)) [.x (.lst D), .d (natD people), .d (natD goods), .d (natD most), .no, .no, .no, .no, .no, .no, .no]
        = .ok [.d (natD (1 + a)), .d (natD (1 + b))] [.x (.lst D2), .d (natD people), .d (natD goods), .d (natD most), .no, .no, .no, .no, .no, .no, .no] :=
      cons_ev (G1 := [.x (.lst D1), .d (natD people), .d (natD goods), .d (natD most), .no, .no, .no, .no, .no, .no, .no]) (op_ev rfl e1 (by show Res.ok (Rv.d (.int (1 + (a : Int)))) _ = _; rw [natD1]; rfl)) (cons_ev (op_ev rfl e2 (by show Res.ok (Rv.d (.int (1 + (b : Int)))) _ = _; rw [natD1]; rfl)) rfl)
    unfold sPar
    rw [this]
    rfl
  obtain ⟨c, D3, hD3, hc, e3⟩ := takeC (G := [.x (.lst D2), .d (natD people), .d (natD goods), .d (natD most), .d (natD (1 + a)), .d (natD (1 + b)), .no, .no, .no, .no, .no]) (i := 0) (fm := fC (.int 3)) (many := 3) rfl rfl rfl hD2 (by omega) (by omega)
  obtain ⟨top, ht1, ht2, s2⟩ : ∃ top, 1 ≤ top ∧ top ≤ 1000 ∧ (sSet 6 (fOp2 kIdx (fLst (fCons (fC (.int 2)) (fCons (fC (.int 4)) (fCons (fVar 3) fNil)))) (fCallK (kCallM F_law_take) (fCons (fVar 0) (fCons (fC (.int 3)) fNil))))) [.x (.lst D2), .d (natD people), .d (natD goods), .d (natD most), .d (natD (1 + a)), .d (natD (1 + b)), .no, .no, .no, .no, .no]
      = .ok .nx [.x (.lst D3), .d (natD people), .d (natD goods), .d (natD most), .d (natD (1 + a)), .d (natD (1 + b)), .d (natD top), .no, .no, .no, .no] := by
    have hx : ∃ top, 1 ≤ top ∧ top ≤ 1000 ∧ [PyData.int 2, .int 4, natD most][c]? = some (natD top) := by
      match c, hc with
      | 0, _ => exact ⟨2, by omega, by omega, rfl⟩
      | 1, _ => exact ⟨4, by omega, by omega, rfl⟩
      | 2, _ => exact ⟨most, h5, h6, rfl⟩
    obtain ⟨top, t1, t2, et⟩ := hx
    refine ⟨top, t1, t2, ?_⟩
    exact set_d (G1 := [.x (.lst D3), .d (natD people), .d (natD goods), .d (natD most), .d (natD (1 + a)), .d (natD (1 + b)), .no, .no, .no, .no, .no]) (idx_ev (a := .new (.lst [.int 2, .int 4, natD most])) rfl e3 (.inr rfl) rfl (atI_natL et))
  have lp := loop_all (tg := gN 8) (body := (sSeq (sSet 9 (fCallK kTuple (fCons (fComp (iRg1 (fVar 5)) [10] (gN 10) tYesF (fOp2 kAdd (fC (.int 1)) (fCallK (kCallM F_law_take) (fCons (fVar 0) (fCons (fVar 6) fNil))))) fNil)))
    (sExpr (fMeth kAppend (fVar 7) (fCons (fIf (tAnd' (fTest (fOp2 kNe (fVar 7) (fLst fNil))) (fTest (fOp2 kEq (fCallK (kCallM F_law_take) (fCons (fVar 0) (fCons (fC (.int 4)) fNil))) (fC (.int 0))))) (fOp2 kIdx (fVar 7) (fCallK (kCallM F_law_take) (fCons (fVar 0) (fCons (fCallK kLen (fCons (fVar 7) fNil)) fNil)))) (fVar 9)) fNil)))))
    (fun t G => t ≤ 1000 → ∃ D gs s8 s9, Dr D ∧ gs.length = t ∧ (∀ r ∈ gs, RowOk (1 + b) r) ∧ Pl s8 ∧ Pl s9 ∧ G = [.x (.lst D), .d (natD people), .d (natD goods), .d (natD most), .d (natD (1 + a)), .d (natD (1 + b)), .d (natD top), .l (.lst (gs.map rowD)), s8, s9, .no])
    (ds := (List.range (1 + a)).map fun k => PyData.int (k : Nat)) (G := [.x (.lst D3), .d (natD people), .d (natD goods), .d (natD most), .d (natD (1 + a)), .d (natD (1 + b)), .d (natD top), .l (.lst []), .no, .no, .no]) (fun _ => ⟨D3, [], .no, .no, hD3, rfl, fun _ z => (by cases z), .no, .no, rfl⟩) fun t d G et hG => ?_
  · obtain ⟨G', e, hG⟩ := lp
    rw [List.length_map, List.length_range] at hG
    obtain ⟨D4, gs, s8, s9, hD4, hl, hg, q8, q9, rfl⟩ := hG (by omega)
    refine ⟨gs, 1 + a, 1 + b, D4, ⟨hl, by omega, by omega, by omega, by omega, hg⟩, by omega, by omega, hD4, ?_⟩
    refine run_d [.x (.lst D4), .d (natD people), .d (natD goods), .d (natD most), .d (natD (1 + a)), .d (natD (1 + b)), .d (natD top), .l (.lst (gs.map rowD)), s8, s9, .no] (seq_go s1 (seq_go s2 (seq_go (G1 := [.x (.lst D3), .d (natD people), .d (natD goods), .d (natD most), .d (natD (1 + a)), .d (natD (1 + b)), .d (natD top), .l (.lst []), .no, .no, .no]) rfl (seq_go (for_nx (lk := []) (rg_ev (1 + a) rfl (by omega)) e) ?_))))
    have u8 := unlk_pl (t := .no) q8
    have u9 := unlk_pl (t := .no) q9
    show sRet (fCallK kTuple (fCons (fVar 7) fNil)) [_, _, _, _, _, _, _, _, unlk .no s8, unlk .no s9, _] = _
    rw [u8, u9]
    rfl
  · have ht : t < 1 + a := by
      have := (List.getElem?_eq_some_iff.mp et).1
      rw [List.length_map, List.length_range] at this
      exact this
    obtain ⟨D4, gs, s8, s9, hD4, hl, hg, q8, q9, rfl⟩ := hG (by omega)
    obtain ⟨D5, r, hD5, hr, e5⟩ := newrow_ev (people := natD people) (goods := natD goods) (most := natD most) (n := natD (1 + a)) (s8 := .d d) (s9 := s9) (gs := gs) hD4 (mm := 1 + b) (by omega) ht1 ht2
    obtain ⟨D6, r', hD6, hr', e6⟩ := pick_ev (people := natD people) (goods := natD goods) (most := natD most) (n := natD (1 + a)) (m := natD (1 + b)) (top := natD top) (s8 := .d d) (gs := gs) hD5 hg hr (by omega)
    refine ⟨[.x (.lst D4), .d (natD people), .d (natD goods), .d (natD most), .d (natD (1 + a)), .d (natD (1 + b)), .d (natD top), .l (.lst (gs.map rowD)), .d d, s9, .no], by rcases q8 with rfl | ⟨_, rfl⟩ <;> rfl, [.x (.lst D6), .d (natD people), .d (natD goods), .d (natD most), .d (natD (1 + a)), .d (natD (1 + b)), .d (natD top), .l (.lst ((gs ++ [r']).map rowD)), .d d, .d (rowD r), .no], .inl (seq_go (set_d (G1 := [.x (.lst D5), .d (natD people), .d (natD goods), .d (natD most), .d (natD (1 + a)), .d (natD (1 + b)), .d (natD top), .l (.lst (gs.map rowD)), .d d, s9, .no]) e5 (free_fr rfl (.inl q9))) ?_), fun _ => ⟨D6, gs ++ [r'], .d d, .d (rowD r), hD6, by rw [List.length_append, hl]; rfl, fun x hx => ?_, .dd _, .dd _, rfl⟩⟩
    · refine Eq.trans (expr_ev (app_ev (i := 7) (ds := gs.map rowD) rfl rfl e6 rfl (by rw [List.length_map]; omega))) ?_
      rw [List.map_append]
      rfl
    · obtain hx | hx := List.mem_append.mp hx
      · exact hg x hx
      · rw [List.mem_singleton.mp hx]; exact hr'
theorem kEq_n (G : Gm) (a b : Nat) : kEq G (.d (natD a)) (.d (natD b)) = .ok (.d (.bool (decide (a = b)))) G := by
  rw [show kEq G (.d (natD a)) (.d (natD b)) = _ from kEq_i G a b]
  congr 3
  apply decide_eq_decide.mpr
  omega
theorem os_at {os : List Nat} {j : Nat} (h : j < os.length) : atI (os.map natD) (j : Int) = some (natD (os[j])) := by
  apply atI_natL
  rw [List.getElem?_map, List.getElem?_eq_getElem h]
  rfl
theorem row_ix {g : List (List Int)} {n m i : Nat} (h : Good g n m) (hi : i < n) : atI (g.map rowD) (i : Int) = some (rowD (rowOf g i)) ∧ (rowOf g i).length = m := by
  obtain ⟨r, er, er2, hrl⟩ := row_of h hi
  refine ⟨atI_natL ?_, by rw [show rowOf g i = r from er2]; exact hrl⟩
  rw [List.getElem?_map, er, show rowOf g i = r from er2]
  rfl
theorem lenO_ev {os : List Nat} {n m : Nat} (ho : Own os n m) {f : Gm → Res Rv} {G : Gm} (hf : f G = .ok (.d (osD os)) G) : (fCallK kLen (fCons f fNil)) G = .ok (.d (.int m)) G := by
  refine kc_ev (cons_ev hf rfl) ?_
  show Res.ok (Rv.d (.int ((os.map natD).length : Nat))) G = _
  rw [List.length_map, ho.len]
theorem lworth_ev {g : List (List Int)} {os : List Nat} {n m i k : Nat} (h : Good g n m) (ho : Own os n m) (hi : i < n) : F_law_worth [.d (gameD g), .d (osD os), .d (natD i), .d (natD k)] = .ok (.d (.int (wth (rowOf g i) (gOf os k)))) [.d (gameD g), .d (osD os), .d (natD i), .d (natD k)] := by
  have m10 := h.m10
  obtain ⟨er, hrl⟩ := row_ix h hi
  refine run_d [.d (gameD g), .d (osD os), .d (natD i), .d (natD k), .no] (ret_ev (sum_ev (l := gOf os k) ?_))
  refine Eq.trans (comp_evA (enc := natD) (l := List.range m) (lk := []) (p := fun j => decide (os[j]? = some k)) (e := fun j => PyData.int ((rowOf g i).getD j 0)) (rg_ev m (lenO_ev ho rfl) (by omega)) rfl rfl (by rw [List.length_range]; omega) (fun j hj => ?_) fun j hj _ => .d ?_) ?_
  · have hj : j < os.length := by rw [ho.len]; exact List.mem_range.mp hj
    refine test_ev (op_ev (idx_ev rfl rfl (.inl rfl) rfl (os_at hj)) rfl ?_)
    rw [kEq_n, List.getElem?_eq_getElem hj]
    congr 3
    apply decide_eq_decide.mpr
    exact ⟨fun e => by rw [e], fun e => Option.some.inj e⟩
  · exact idx_ev (idx_ev rfl rfl (.inl rfl) rfl er) rfl (.inl rfl) rfl (row_at (by rw [hrl]; exact List.mem_range.mp hj))
  · unfold gOf gUp
    rw [ho.len]
theorem ne_dec (i k : Nat) : decide (k ≠ i) = !decide (i = k) := by
  by_cases e : i = k
  · subst e; simp
  · have e2 : ¬ k = i := fun z => e z.symm
    simp [e, e2]
end C0
namespace C0
open PySem PySem.Spec PyProof.Rows L2 Fx
theorem wishB_mem {n : Int} {ds : List PyData} {x : PyData} (hx : x ∈ ds) (hb : wishI x = false) : wishB n (.tuple ds) = false := by
  unfold wishB
  dsimp only
  rw [show ds.all wishI = false from Bool.eq_false_iff.mpr fun h => by rw [List.all_eq_true.mp h x hx] at hb; cases hb]
  exact Bool.and_false _
theorem gameB_mem {ds : List PyData} {x : PyData} (hx : x ∈ ds) (hb : ∀ n, wishB n x = false) : gameB (.tuple ds) = false := by
  unfold gameB
  split
  · rename_i r0 rs e
    cases e
    rw [show (PyData.tuple r0 :: rs).all (wishB r0.length) = false from Bool.eq_false_iff.mpr fun h => by
      have := List.all_eq_true.mp h x hx
      rw [hb] at this; cases this]
    simp
  · rfl
theorem gameB_wide {g : List (List Int)} {n m : Nat} (h : Good g n m) {r : List PyData} (hr : r.length ≠ m) : gameB (.tuple (g.map rowD ++ [.tuple r])) = false := by
  obtain ⟨r0, rs, rfl, h0⟩ := h.first
  show gameB (.tuple (.tuple (r0.map .int) :: (rs.map rowD ++ [.tuple r]))) = false
  unfold gameB
  dsimp only
  rw [show (PyData.tuple (r0.map PyData.int) :: (rs.map rowD ++ [.tuple r])).all (wishB (r0.map PyData.int).length) = false from Bool.eq_false_iff.mpr fun e => by
    have := List.all_eq_true.mp e (.tuple r) (by simp)
    unfold wishB at this
    dsimp only at this
    rw [decide_eq_false (by rw [List.length_map]; omega), Bool.false_and] at this
    cases this]
  simp
theorem fitB_mem {n m : Nat} {ds : List PyData} {x : PyData} (hx : x ∈ ds) (hb : ownI n x = false) : fitB n m (.tuple ds) = false := by
  unfold fitB
  dsimp only
  rw [show ds.all (ownI n) = false from Bool.eq_false_iff.mpr fun h => by rw [List.all_eq_true.mp h x hx] at hb; cases hb]
  exact Bool.and_false _
theorem fitB_len {n m : Nat} {ds : List PyData} (h : ds.length ≠ m) : fitB n m (.tuple ds) = false := by
  unfold fitB
  dsimp only
  rw [decide_eq_false h, Bool.false_and]
theorem cutA_len {α : Type} (xs : List α) (a b : Option Int) : (cutA xs a b).length ≤ xs.length := by
  unfold cutA
  rw [List.length_take, List.length_drop]
  omega
theorem rep_one (x : PyData) (k : Nat) : rep [x] k = List.replicate k x := by
  unfold rep
  rw [Int.toNat_natCast]
  induction k with
  | zero => rfl
  | succ k ih => rw [List.replicate_succ, List.flatten_cons, ih, List.replicate_succ]; rfl
theorem mulT {G : Gm} {x : PyData} {f : Gm → Res Rv} {k : Nat} (hf : f G = .ok (.d (natD k)) G) (h1 : 1 ≤ k) (h2 : k ≤ 1000) : fOp2 kMul (fTup (fCons (fC x) fNil)) f G = .ok (.d (.tuple (List.replicate k x))) G := by
  refine op_ev (G1 := G) (a := .d (.tuple [x])) rfl hf ?_
  show (if decide ([x].length ≤ 1000) && decide ((1 : Int) ≤ (k : Int)) && decide ((k : Int) ≤ 1000) && decide ([x] ≠ []) then Res.ok (Rv.d (.tuple (rep [x] k))) G else .bad) = _
  rw [if_pos (by simp; omega), rep_one]
theorem mulL {G : Gm} {x : PyData} {f : Gm → Res Rv} {k : Nat} (hf : f G = .ok (.d (natD k)) G) (h2 : k ≤ 1000) : fOp2 kMul (fLst (fCons (fC x) fNil)) f G = .ok (.new (.lst (List.replicate k x))) G := by
  refine op_ev (G1 := G) (a := .new (.lst [x])) rfl hf ?_
  show (if decide ([x].length ≤ 1000) && decide ((0 : Int) ≤ (k : Int)) && decide ((k : Int) ≤ 1000) then Res.ok (Rv.new (.lst (rep [x] k))) G else .bad) = _
  rw [if_pos (by simp; omega), rep_one]
/-- all but the last, and another -/
theorem cutAdd {G : Gm} {f fx : Gm → Res Rv} {ds : List PyData} {r : Rv} {d : PyData} (hf : f G = .ok (.d (.tuple ds)) G) (hl : ds.length ≤ 1000) (hx : fx G = .ok r G) (hr : retain G r = some (d, G)) :
    fOp2 kAdd (fSlice f fNoPart (fPart (fUn kNeg (fC (.int 1))))) (fTup (fCons fx fNil)) G = .ok (.d (.tuple (cutA ds none (some (-1)) ++ [d]))) G := by
  have hs : fSlice f fNoPart (fPart (fUn kNeg (fC (.int 1)))) G = .ok (.d (.tuple (cutA ds none (some (-1))))) G := by
    unfold fSlice
    rw [hf]; rfl
  have ht : fTup (fCons fx fNil) G = .ok (.d (.tuple [d])) G := by
    unfold fTup
    rw [show fCons fx fNil G = .ok [r] G from cons_ev hx rfl, Res.bind_ok]
    unfold Fx.kTup retainAll
    rw [hr]
    rfl
  refine op_ev hs ht (kAdd_t rfl rfl ?_)
  have := cutA_len ds none (some (-1))
  show _ + 1 ≤ _
  omega
theorem allAdd {G : Gm} {f fx : Gm → Res Rv} {ds : List PyData} {r : Rv} {d : PyData} (hf : f G = .ok (.d (.tuple ds)) G) (hl : ds.length ≤ 1000) (hx : fx G = .ok r G) (hr : retain G r = some (d, G)) :
    fOp2 kAdd f (fTup (fCons fx fNil)) G = .ok (.d (.tuple (ds ++ [d]))) G := by
  have ht : fTup (fCons fx fNil) G = .ok (.d (.tuple [d])) G := by
    unfold fTup
    rw [show fCons fx fNil G = .ok [r] G from cons_ev hx rfl, Res.bind_ok]
    unfold Fx.kTup retainAll
    rw [hr]
    rfl
  refine op_ev hf ht (kAdd_t rfl rfl ?_)
  show _ + 1 ≤ _
  omega
theorem mem_rep {k : Nat} (h : 1 ≤ k) (x : PyData) : x ∈ List.replicate k x := List.mem_replicate.mpr ⟨by omega, rfl⟩
theorem pickAll {p : PyData → Prop} {ds : List PyData} {r : Nat} (h : ∀ d ∈ ds, p d) (hr : r < ds.length) : ∃ d, p d ∧ atI ds (r : Int) = some d :=
  ⟨ds[r], h _ (List.getElem_mem hr), atI_natL (List.getElem?_eq_getElem hr)⟩
theorem badgame_ev {g : List (List Int)} {n m : Nat} {D : List PyData} (h : Good g n m) (hD : Dr D) : ∃ d D', gameB d = false ∧ Dr D' ∧ F_law_bad_game [.x (.lst D), .d (gameD g)] = .ok (.d d) [.x (.lst D'), .d (gameD g)] := by
  have m10 := h.m10
  have m1 := h.m1
  have n6 := h.n6
  have gl : (g.map rowD).length ≤ 1000 := by rw [List.length_map, h.len]; omega
  have len0 : ∀ s, (fCallK kLen (fCons (fOp2 kIdx (fVar 1) (fC (.int 0))) fNil)) [.x (.lst D), .d (gameD g), s] = .ok (.d (natD m)) [.x (.lst D), .d (gameD g), s] := fun s => g0_ev h (f := fVar 1) rfl
  have len1 : (fOp2 kAdd (fCallK kLen (fCons (fOp2 kIdx (fVar 1) (fC (.int 0))) fNil)) (fC (.int 1))) [.x (.lst D), .d (gameD g), .no] = .ok (.d (natD (m + 1))) [.x (.lst D), .d (gameD g), .no] := op_ev (len0 _) rfl rfl
  have e1 : (sSet 2 (fLst (fCons (fC .none) (fCons (fTup fNil) (fCons (fC (.int 5)) (fCons (fCallK kList (fCons (fVar 1) fNil)) (fCons (fTup (fCons (fTup fNil) fNil)) (fCons (fOp2 kAdd (fVar 1) (fTup (fCons (fOp2 kMul (fTup (fCons (fC (.int 1)) fNil)) (fOp2 kAdd (fCallK kLen (fCons (fOp2 kIdx (fVar 1) (fC (.int 0))) fNil)) (fC (.int 1)))) fNil))) (fCons (fOp2 kAdd (fSlice (fVar 1) fNoPart (fPart (fUn kNeg (fC (.int 1))))) (fTup (fCons (fOp2 kMul (fTup (fCons (fC (.int 0)) fNil)) (fCallK kLen (fCons (fOp2 kIdx (fVar 1) (fC (.int 0))) fNil))) fNil))) (fCons (fOp2 kAdd (fSlice (fVar 1) fNoPart (fPart (fUn kNeg (fC (.int 1))))) (fTup (fCons (fOp2 kMul (fTup (fCons (fC (.int 1001)) fNil)) (fCallK kLen (fCons (fOp2 kIdx (fVar 1) (fC (.int 0))) fNil))) fNil))) fNil))))))))))
      [.x (.lst D), .d (gameD g), .no] = .ok .nx [.x (.lst D), .d (gameD g), .l (.lst [.none, .tuple [], .int 5, .list (g.map rowD), .tuple [.tuple []], .tuple (g.map rowD ++ [.tuple (List.replicate (m + 1) (.int 1))]), .tuple (cutA (g.map rowD) none (some (-1)) ++ [.tuple (List.replicate m (.int 0))]), .tuple (cutA (g.map rowD) none (some (-1)) ++ [.tuple (List.replicate m (.int 1001))])])] := by
    refine set_new (G1 := [.x (.lst D), .d (gameD g), .no]) (lst_ev (cons_ev rfl (cons_ev rfl (cons_ev rfl (cons_ev rfl (cons_ev rfl (cons_ev (allAdd rfl gl (mulT len1 (by omega) (by omega)) rfl) (cons_ev (cutAdd rfl gl (mulT (len0 _) (by omega) (by omega)) rfl) (cons_ev (cutAdd rfl gl (mulT (len0 _) (by omega) (by omega)) rfl) rfl)))))))) rfl)
  have e2 : (sSet 2 (fOp2 kAdd (fVar 2) (fLst (fCons (fOp2 kMul (fTup (fCons (fTup (fCons (fC (.int 1)) fNil)) fNil)) (fC (.int 7))) (fCons (fTup (fCons (fOp2 kMul (fTup (fCons (fC (.int 1)) fNil)) (fC (.int 11))) fNil)) (fCons (fOp2 kAdd (fSlice (fVar 1) fNoPart (fPart (fUn kNeg (fC (.int 1))))) (fTup (fCons (fOp2 kMul (fLst (fCons (fC (.int 1)) fNil)) (fCallK kLen (fCons (fOp2 kIdx (fVar 1) (fC (.int 0))) fNil))) fNil))) (fCons (fOp2 kAdd (fSlice (fVar 1) fNoPart (fPart (fUn kNeg (fC (.int 1))))) (fTup (fCons (fOp2 kMul (fTup (fCons (fC (.bool true)) fNil)) (fCallK kLen (fCons (fOp2 kIdx (fVar 1) (fC (.int 0))) fNil))) fNil))) (fCons (fC (.str (Str.ofString "game"))) fNil))))))))
      [.x (.lst D), .d (gameD g), .l (.lst [.none, .tuple [], .int 5, .list (g.map rowD), .tuple [.tuple []], .tuple (g.map rowD ++ [.tuple (List.replicate (m + 1) (.int 1))]), .tuple (cutA (g.map rowD) none (some (-1)) ++ [.tuple (List.replicate m (.int 0))]), .tuple (cutA (g.map rowD) none (some (-1)) ++ [.tuple (List.replicate m (.int 1001))])])]
      = .ok .nx [.x (.lst D), .d (gameD g), .l (.lst [.none, .tuple [], .int 5, .list (g.map rowD), .tuple [.tuple []], .tuple (g.map rowD ++ [.tuple (List.replicate (m + 1) (.int 1))]), .tuple (cutA (g.map rowD) none (some (-1)) ++ [.tuple (List.replicate m (.int 0))]), .tuple (cutA (g.map rowD) none (some (-1)) ++ [.tuple (List.replicate m (.int 1001))]),
        .tuple (List.replicate 7 (.tuple [.int 1])), .tuple [.tuple (List.replicate 11 (.int 1))], .tuple (cutA (g.map rowD) none (some (-1)) ++ [.list (List.replicate m (.int 1))]), .tuple (cutA (g.map rowD) none (some (-1)) ++ [.tuple (List.replicate m (.bool true))]), .str (Str.ofString "game")])] := by
    refine set_new (G1 := [.x (.lst D), .d (gameD g), .l (.lst [.none, .tuple [], .int 5, .list (g.map rowD), .tuple [.tuple []], .tuple (g.map rowD ++ [.tuple (List.replicate (m + 1) (.int 1))]), .tuple (cutA (g.map rowD) none (some (-1)) ++ [.tuple (List.replicate m (.int 0))]), .tuple (cutA (g.map rowD) none (some (-1)) ++ [.tuple (List.replicate m (.int 1001))])])]) (op_ev rfl (lst_ev (cons_ev rfl (cons_ev rfl (cons_ev (cutAdd rfl gl (mulL (len0 _) (by omega)) rfl) (cons_ev (cutAdd rfl gl (mulT (len0 _) (by omega) (by omega)) rfl) (cons_ev rfl rfl))))) rfl) ?_)
    refine Eq.trans (kAdd_l rfl rfl ?_) rfl
    show 8 + 5 ≤ 16777216
    omega
  obtain ⟨r, D', hD', hr, e3⟩ := takeC (G := [.x (.lst D), .d (gameD g), .l (.lst [.none, .tuple [], .int 5, .list (g.map rowD), .tuple [.tuple []], .tuple (g.map rowD ++ [.tuple (List.replicate (m + 1) (.int 1))]), .tuple (cutA (g.map rowD) none (some (-1)) ++ [.tuple (List.replicate m (.int 0))]), .tuple (cutA (g.map rowD) none (some (-1)) ++ [.tuple (List.replicate m (.int 1001))]),
        .tuple (List.replicate 7 (.tuple [.int 1])), .tuple [.tuple (List.replicate 11 (.int 1))], .tuple (cutA (g.map rowD) none (some (-1)) ++ [.list (List.replicate m (.int 1))]), .tuple (cutA (g.map rowD) none (some (-1)) ++ [.tuple (List.replicate m (.bool true))]), .str (Str.ofString "game")])]) (i := 0) (fm := fC (.int 13)) (many := 13) rfl rfl rfl hD (by omega) (by omega)
  obtain ⟨d, hd, e4⟩ := pickAll (p := fun d => gameB d = false) (ds := [.none, .tuple [], .int 5, .list (g.map rowD), .tuple [.tuple []], .tuple (g.map rowD ++ [.tuple (List.replicate (m + 1) (.int 1))]), .tuple (cutA (g.map rowD) none (some (-1)) ++ [.tuple (List.replicate m (.int 0))]), .tuple (cutA (g.map rowD) none (some (-1)) ++ [.tuple (List.replicate m (.int 1001))]),
        .tuple (List.replicate 7 (.tuple [.int 1])), .tuple [.tuple (List.replicate 11 (.int 1))], .tuple (cutA (g.map rowD) none (some (-1)) ++ [.list (List.replicate m (.int 1))]), .tuple (cutA (g.map rowD) none (some (-1)) ++ [.tuple (List.replicate m (.bool true))]), .str (Str.ofString "game")]) (r := r) (fun d hd => by
    simp only [List.mem_cons, List.not_mem_nil, or_false] at hd
    rcases hd with rfl | rfl | rfl | rfl | rfl | rfl | rfl | rfl | rfl | rfl | rfl | rfl | rfl
    · rfl
    · rfl
    · rfl
    · rfl
    · rfl
    · exact gameB_wide h (by rw [List.length_replicate]; omega)
    · exact gameB_mem (List.mem_append_right _ List.mem_cons_self) fun _ => wishB_mem (mem_rep m1 _) rfl
    · exact gameB_mem (List.mem_append_right _ List.mem_cons_self) fun _ => wishB_mem (mem_rep m1 _) rfl
    · rfl
    · rfl
    · exact gameB_mem (List.mem_append_right _ List.mem_cons_self) fun _ => rfl
    · exact gameB_mem (List.mem_append_right _ List.mem_cons_self) fun _ => wishB_mem (mem_rep m1 _) rfl
    · rfl) hr
  refine ⟨d, D', hd, hD', ?_⟩
  exact run_d _ (seq_go e1 (seq_go e2 (ret_ev (idx_ev rfl e3 (.inr rfl) rfl e4))))
theorem badown_ev {g : List (List Int)} {os : List Nat} {n m : Nat} {D : List PyData} (h : Good g n m) (ho : Own os n m) (hD : Dr D) : ∃ d D', fitB n m d = false ∧ Dr D' ∧ F_law_bad_owners [.x (.lst D), .d (gameD g), .d (osD os)] = .ok (.d d) [.x (.lst D'), .d (gameD g), .d (osD os)] := by
  have m10 := h.m10
  have m1 := h.m1
  have n6 := h.n6
  have ol : (os.map natD).length ≤ 1000 := by rw [List.length_map, ho.len]; omega
  have e1 : (fLst (fCons (fC .none) (fCons (fTup fNil) (fCons (fOp2 kAdd (fVar 2) (fTup (fCons (fC (.int 0)) fNil))) (fCons (fCallK kList (fCons (fVar 2) fNil)) (fCons (fOp2 kAdd (fSlice (fVar 2) fNoPart (fPart (fUn kNeg (fC (.int 1))))) (fTup (fCons (fCallK kLen (fCons (fVar 1) fNil)) fNil))) (fCons (fOp2 kAdd (fSlice (fVar 2) fNoPart (fPart (fUn kNeg (fC (.int 1))))) (fTup (fCons (fUn kNeg (fC (.int 1))) fNil))) (fCons (fOp2 kMul (fTup (fCons (fC .none) fNil)) (fCallK kLen (fCons (fVar 2) fNil))) (fCons (fC (.str (Str.ofString "0"))) fNil)))))))))
      [.x (.lst D), .d (gameD g), .d (osD os)] = .ok (.new (.lst [.none, .tuple [], .tuple (os.map natD ++ [.int 0]), .list (os.map natD), .tuple (cutA (os.map natD) none (some (-1)) ++ [natD n]), .tuple (cutA (os.map natD) none (some (-1)) ++ [.int (-1)]), .tuple (List.replicate m .none), .str (Str.ofString "0")])) [.x (.lst D), .d (gameD g), .d (osD os)] :=
    lst_ev (cons_ev rfl (cons_ev rfl (cons_ev (allAdd rfl ol rfl rfl) (cons_ev rfl (cons_ev (cutAdd rfl ol (lenG_ev h (f := fVar 1) rfl) rfl) (cons_ev (cutAdd rfl ol rfl rfl) (cons_ev (mulT (lenO_ev ho (f := fVar 2) rfl) m1 (by omega)) (cons_ev rfl rfl)))))))) rfl
  obtain ⟨r, D', hD', hr, e3⟩ := takeC (G := [.x (.lst D), .d (gameD g), .d (osD os)]) (i := 0) (fm := fC (.int 8)) (many := 8) rfl rfl rfl hD (by omega) (by omega)
  obtain ⟨d, hd, e4⟩ := pickAll (p := fun d => fitB n m d = false) (ds := [.none, .tuple [], .tuple (os.map natD ++ [.int 0]), .list (os.map natD), .tuple (cutA (os.map natD) none (some (-1)) ++ [natD n]), .tuple (cutA (os.map natD) none (some (-1)) ++ [.int (-1)]), .tuple (List.replicate m .none), .str (Str.ofString "0")]) (r := r) (fun d hd => by
    simp only [List.mem_cons, List.not_mem_nil, or_false] at hd
    rcases hd with rfl | rfl | rfl | rfl | rfl | rfl | rfl | rfl
    · rfl
    · exact fitB_len (by show 0 ≠ m; omega)
    · exact fitB_len (by rw [List.length_append, List.length_map, ho.len]; show m + 1 ≠ m; omega)
    · rfl
    · exact fitB_mem (List.mem_append_right _ List.mem_cons_self) (by
        show (decide ((0 : Int) ≤ (n : Int)) && decide ((n : Int) < n)) = false
        rw [decide_eq_false (p := (n : Int) < n) (by omega), Bool.and_false])
    · exact fitB_mem (List.mem_append_right _ List.mem_cons_self) rfl
    · exact fitB_mem (mem_rep m1 _) rfl
    · rfl) hr
  exact ⟨d, D', hd, hD', run_d _ (ret_ev (idx_ev e1 e3 (.inr rfl) rfl e4))⟩
theorem op_ex {k : Gm → Rv → Rv → Res Rv} {fa fb : Gm → Res Rv} {G : Gm} {e : Exn} (h : fa G = .ex e) : fOp2 k fa fb G = .ex e := by
  unfold fOp2; rw [h]; rfl
theorem ret_ex {f : Gm → Res Rv} {G : Gm} {e : Exn} (h : f G = .ex e) : sRet f G = .ex e := by
  unfold sRet; rw [h]; rfl
def noK : Sl → Bool
  | .k _ => false
  | _ => true
theorem unlk_noK {t s : Sl} (h : noK s = true) : unlk t s = s := by
  cases s with
  | k o => cases h
  | _ => cases t <;> rfl
theorem unlock_noK : ∀ {G0 G : Gm}, G0.length = G.length → (∀ s ∈ G, noK s = true) → unlockAll G0 G = G
  | [], [], _, _ => rfl
  | [], _ :: _, e, _ => by cases e
  | _ :: _, [], e, _ => by cases e
  | a :: as, b :: bs, e, h => by
    show unlk a b :: unlockAll as bs = b :: bs
    rw [unlk_noK (h b List.mem_cons_self), unlock_noK (by simpa using e) fun s hs => h s (List.mem_cons_of_mem _ hs)]
theorem lock_nil (G : Gm) : lockAll G [] = G := by
  unfold lockAll
  refine List.ext_getElem? fun i => ?_
  rw [List.getElem?_mapIdx]
  cases G[i]? <;> rfl
/-- a loop over a range, no list held -/
theorem forRg {f : Gm → Res Rv} {body : Gm → Res Out} {v : Nat} (I : Nat → Gm → Prop) {G : Gm} (n : Nat) (hn : n ≤ 100000) (hf : f G = .ok (.d (natD n)) G) (h0 : I 0 G) (hI : ∀ G', I n G' → G.length = G'.length ∧ ∀ s ∈ G', noK s = true)
    (hs : ∀ j, j < n → ∀ G, I j G → ∃ G1, gN v (natD j) G = some G1 ∧ ∃ G2, body G1 = .ok .nx G2 ∧ I (j + 1) G2) : ∃ G', sFor (iRg1 f) (gN v) body G = .ok .nx G' ∧ I n G' := by
  have lp := loop_all (tg := gN v) (body := body) I (ds := (List.range n).map natD) (G := lockAll G []) (by rw [lock_nil]; exact h0) fun j d G ej hG => by
    rw [List.getElem?_map] at ej
    cases e : (List.range n)[j]? with
    | none => rw [e] at ej; cases ej
    | some k =>
      rw [e] at ej
      cases ej
      obtain ⟨hj, ek⟩ := List.getElem?_eq_some_iff.mp e
      rw [List.getElem_range] at ek
      subst ek
      obtain ⟨G1, e1, G2, e2, h2⟩ := hs _ (by simpa using hj) G hG
      exact ⟨G1, e1, G2, .inl e2, h2⟩
  rw [List.length_map, List.length_range] at lp
  obtain ⟨G', e, h'⟩ := lp
  refine ⟨G', (for_nx (rg_ev n hf hn) e).trans ?_, h'⟩
  obtain ⟨l, q⟩ := hI G' h'
  rw [unlock_noK l q]
theorem wipe_then (G : Gm) (i : Nat) (s : Sl) : (wipeG (lockAll G []) [i]).set i s = G.set i s := by
  rw [lock_nil]
  refine List.ext_getElem? fun j => ?_
  unfold wipeG
  by_cases h : i = j
  · subst h
    rw [List.getElem?_set_self', List.getElem?_set_self', List.getElem?_mapIdx]
    cases G[i]? <;> rfl
  · rw [List.getElem?_set_ne h, List.getElem?_set_ne h, List.getElem?_mapIdx]
    cases G[j]? with
    | none => rfl
    | some x =>
      show some (if [i].contains j then Sl.no else x) = some x
      rw [if_neg (by simpa using fun e => h e.symm)]
theorem comp_evR {α : Type} {it : Gm → Res Itv} {i : Nat} {enc : α → PyData} {p : α → Bool} {e : α → PyData} {tst : Gm → Res Bool} {elt : Gm → Res Rv} {G : Gm} {l : List α} (hit : it G = .ok (l.map enc, []) G) (hpl : plainAt G [i] = true) (hi : (G[i]?).isSome = true) (hl : l.length ≤ 16777216)
    (ht : ∀ a ∈ l, tst (G.set i (.d (enc a))) = .ok (p a) (G.set i (.d (enc a)))) (he : ∀ a ∈ l, p a = true → Gives elt (G.set i (.d (enc a))) (e a)) : fComp it [i] (gN i) tst elt G = .ok (.new (.lst ((l.filter p).map e))) G :=
  comp_evA hit hpl hi hl (fun a ha => by rw [wipe_then]; exact ht a ha) fun a ha hp => by rw [wipe_then]; exact he a ha hp
theorem wipe_lock (G : Gm) (i j : Nat) (s : Sl) (o : Ao) (hij : j ≠ i) (h : G[j]? = some (.l o)) : (wipeG (lockAll G [j]) [i]).set i s = (G.set j (.k o)).set i s := by
  refine List.ext_getElem? fun t => ?_
  unfold wipeG lockAll
  by_cases e : i = t
  · subst e
    rw [List.getElem?_set_self', List.getElem?_set_self', List.getElem?_mapIdx, List.getElem?_mapIdx, List.getElem?_set_ne hij]
    cases G[i]? <;> rfl
  · rw [List.getElem?_set_ne e, List.getElem?_set_ne e, List.getElem?_mapIdx, List.getElem?_mapIdx]
    by_cases f : j = t
    · subst f
      rw [h, List.getElem?_set_self (List.getElem?_eq_some_iff.mp h).1]
      show some (if [i].contains j then Sl.no else (if [j].contains j then lockS (.l o) else .l o)) = _
      rw [if_neg (by simpa using hij), if_pos (by simp)]
      rfl
    · rw [List.getElem?_set_ne f]
      cases G[t]? with
      | none => rfl
      | some x =>
        show some (if [i].contains t then Sl.no else (if [j].contains t then lockS x else x)) = some x
        rw [if_neg (by simpa using fun q => e q.symm), if_neg (by simpa using fun q => f q.symm)]
theorem cutA_take {α : Type} (xs : List α) (s : Nat) : cutA xs none (some (s : Int)) = xs.take s := by
  unfold cutA
  rw [HT.sIx_none, HT.sIx_nat, List.drop_zero, Nat.sub_zero]
  by_cases h : s ≤ xs.length
  · rw [Nat.min_eq_left h]
  · rw [Nat.min_eq_right (by omega), List.take_of_length_le (Nat.le_refl _), List.take_of_length_le (by omega)]
theorem cutO_ev {ls : List Nat} {s : Nat} {f : Gm → Res Rv} {G : Gm} {v : Nat} (hv : fVar v G = .ok (.own v) G) (ho : ownAt G v = some (.lst (ls.map natD))) (hf : f G = .ok (.d (natD s)) G) : fSlice (fVar v) fNoPart (fPart f) G = .ok (.new (.lst ((ls.take s).map natD))) G := by
  unfold fSlice
  rw [hv, Res.bind_ok]
  unfold fNoPart fPart
  rw [Res.bind_ok, hf]
  show kSl G (.own v) none (some (s : Int)) = _
  unfold kSl
  rw [show rd G (.own v) = some (.list (ls.map natD)) by show (ownAt G v).bind aoD = _; rw [ho]; rfl]
  dsimp only
  rw [cutA_take, List.map_take]
theorem noK_pl {s : Sl} (h : Pl s) : noK s = true := by rcases h with rfl | ⟨_, rfl⟩ <;> rfl
theorem noK_fr {s : Sl} (h : Fr s) : noK s = true := by rcases h with h | ⟨_, rfl⟩; exact noK_pl h; rfl
theorem eqvAll_nat : ∀ a b : List Nat, PyData.eqvAll (a.map natD) (b.map natD) = decide (a = b)
  | [], [] => by simp [PyData.eqvAll]
  | [], _ :: _ => by simp [PyData.eqvAll]
  | _ :: _, [] => by simp [PyData.eqvAll]
  | x :: a, y :: b => by
    rw [List.map_cons, List.map_cons, PyData.eqvAll, eqv_nat, eqvAll_nat a b]
    rw [Bool.eq_iff_iff]
    simp
theorem okD_osD (k : Nat) (a : List Nat) : okD (k + 1) (osD a) = true := by
  show (a.map natD).all (okD k) = true
  rw [List.all_eq_true]
  intro d hd
  obtain ⟨x, _, rfl⟩ := List.mem_map.mp hd
  cases k <;> rfl
theorem okD_lsD (k : Nat) (a : List Nat) : okD (k + 1) (.list (a.map natD)) = true := okD_osD k a
theorem ne_osD (G : Gm) (a b : List Nat) : kNe G (.d (osD a)) (.d (osD b)) = .ok (.d (.bool (!decide (a = b)))) G := by
  show (match Fx.opNe (osD a) (osD b) with | some z => Res.ok (Rv.d z) G | none => .bad) = _
  unfold Fx.opNe
  rw [okD_osD 59, okD_osD 59]
  have e : PyData.eqv (osD a) (osD b) = decide (a = b) := by
    unfold osD
    rw [PyData.eqv]
    exact eqvAll_nat a b
  rw [e]
  rfl
theorem eq_nil (G : Gm) (a : List Nat) : kEq G (.new (.lst (a.map natD))) (.new (.lst [])) = .ok (.d (.bool (decide (a = [])))) G := by
  show (match Fx.opEq (.list (a.map natD)) (.list []) with | some z => Res.ok (Rv.d z) G | none => .bad) = _
  unfold Fx.opEq
  rw [okD_lsD 59, show okD 60 (.list []) = true from rfl]
  have e : PyData.eqv (.list (a.map natD)) (.list []) = decide (a = []) := by
    rw [PyData.eqv]
    exact eqvAll_nat a []
  rw [e]
  rfl
theorem ne_nil0 (G : Gm) (a : List Nat) : kNe G (.new (.lst (a.map natD))) (.new (.lst [])) = .ok (.d (.bool (!decide (a = [])))) G := by
  show (match Fx.opNe (.list (a.map natD)) (.list []) with | some z => Res.ok (Rv.d z) G | none => .bad) = _
  unfold Fx.opNe
  rw [okD_lsD 59, show okD 60 (.list []) = true from rfl]
  have e : PyData.eqv (.list (a.map natD)) (.list []) = decide (a = []) := by
    rw [PyData.eqv]
    exact eqvAll_nat a []
  rw [e]
  rfl
/-- a loop over a list that is held -/
theorem forOw {α : Type} {body : Gm → Res Out} {v i : Nat} (enc : α → PyData) (I : Gm → Prop) {G : Gm} (l : List α) (hit : iSeq (fVar i) G = .ok (l.map enc, [i]) G) (h0 : I (lockAll G [i]))
    (hs : ∀ a ∈ l, ∀ G, I G → ∃ G1, gN v (enc a) G = some G1 ∧ ∃ G2, body G1 = .ok .nx G2 ∧ I G2) : ∃ G', sFor (iSeq (fVar i)) (gN v) body G = .ok .nx (unlockAll G G') ∧ I G' := by
  have lp := loop_findA (tg := gN v) (body := body) enc I (fun _ => False) (fun _ => none) l (lockAll G [i]) h0 fun a ha G hG => by
    obtain ⟨G1, e1, G2, e2, h2⟩ := hs a ha G hG
    exact ⟨G1, e1, G2, .inl e2, h2⟩
  rw [List.findSome?_eq_none_iff.mpr fun _ _ => rfl] at lp
  obtain ⟨G', e, h'⟩ := lp
  exact ⟨G', for_nx hit e, h'⟩
theorem lock_one (G : Gm) (j : Nat) (o : Ao) (h : G[j]? = some (.l o)) : lockAll G [j] = G.set j (.k o) := by
  refine List.ext_getElem? fun t => ?_
  unfold lockAll
  rw [List.getElem?_mapIdx]
  by_cases f : j = t
  · subst f
    rw [h, List.getElem?_set_self (List.getElem?_eq_some_iff.mp h).1]
    show some (if [j].contains j then lockS (.l o) else .l o) = _
    rw [if_pos (by simp)]
    rfl
  · rw [List.getElem?_set_ne f]
    cases G[t]? with
    | none => rfl
    | some x =>
      show some (if [j].contains t then lockS x else x) = some x
      rw [if_neg (by simpa using fun q => f q.symm)]
theorem callM_ev {F : Gm → Res Rv} {fs : Gm → Res (List Rv)} {G A : Gm} {i : Nat} {D D' : List PyData} {x : PyData} (ds : List PyData) (hv : fVar i G = .ok (.own i) G) (hm : mutAt G i = some (.lst D)) (hs : fs G = .ok (ds.map Rv.d) G) (hF : F (.x (.lst D) :: ds.map Sl.d) = .ok (.d x) (.x (.lst D') :: A)) :
    fCallK (kCallM F) (fCons (fVar i) fs) G = .ok (.d x) (setOwn G i (.lst D')) := by
  unfold fCallK
  rw [cons_ev hv hs, Res.bind_ok]
  unfold kCallM
  dsimp only
  rw [hm, argsOf_d]
  dsimp only
  rw [hF]
theorem retAll_d (G : Gm) : ∀ ds : List PyData, retainAll G (ds.map Rv.d) = some (ds, G)
  | [] => rfl
  | d :: r => by
    show (match retain G (.d d) with | some (d, G1) => (match retainAll G1 (r.map Rv.d) with | some (ds, G2) => some (d :: ds, G2) | none => none) | none => none) = _
    show (match retainAll G (r.map Rv.d) with | some (ds, G2) => some (d :: ds, G2) | none => none) = _
    rw [retAll_d G r]
theorem ne_str (G : Gm) (x : Str) (hx : PyData.strOk x = true) : kNe G (.d (.str x)) (.d (.str x)) = .ok (.d (.bool false)) G := by
  show (match Fx.opNe (.str x) (.str x) with | some z => Res.ok (Rv.d z) G | none => .bad) = _
  unfold Fx.opNe
  have e : PyData.eqv (.str x) (.str x) = true := by
    rw [PyData.eqv]
    simp
  rw [e, show okD 60 (.str x) = true from hx]
  rfl
theorem tup_ev {fs : Gm → Res (List Rv)} {G G1 : Gm} (ds : List PyData) (h : fs G = .ok (ds.map Rv.d) G1) (hl : ds.length ≤ 16777216 := by decide) : fTup fs G = .ok (.d (.tuple ds)) G1 := by
  unfold fTup
  rw [h, Res.bind_ok]
  unfold Fx.kTup
  rw [retAll_d]
  dsimp only
  rw [if_pos (by unfold lim; exact decide_eq_true hl)]
theorem asg_ev {f : Gm → Res Rv} {tg : PyData → Gm → Option Gm} {G G1 G2 : Gm} {x : PyData} (h : f G = .ok (.d x) G1) (ht : tg x G1 = some G2) : sAsg tg f G = .ok .nx G2 := by
  unfold sAsg
  rw [h, Res.bind_ok]
  unfold kAsg
  dsimp only [retain]
  rw [ht]
def callD (f : Nat → PyData) (k : Nat) : List PyData := (List.range k).map f
theorem callD_mem {f : Nat → PyData} {k : Nat} {d : PyData} (h : d ∈ callD f k) : ∃ j, j < k ∧ d = f j := by
  obtain ⟨j, hj, rfl⟩ := List.mem_map.mp h
  exact ⟨j, List.mem_range.mp hj, rfl⟩
theorem par_ev {fs : Gm → Res (List Rv)} {G G1 : Gm} {i j : Nat} {a b : PyData} (hs : fs G = .ok [.d a, .d b] G1) (h1 : freeAt G1 i = true := by rfl) (h2 : freeAt (G1.set i (.d a)) j = true := by rfl) : sPar i j fs G = .ok .nx ((G1.set i (.d a)).set j (.d b)) := by
  unfold sPar
  rw [hs, Res.bind_ok]
  dsimp only [plainR, Bool.and_self, if_true]
  unfold setSl
  rw [if_pos h1]
  dsimp only
  rw [if_pos h2]
  rfl
end C0
namespace C0
open PySem PySem.Spec PyProof.Rows L2 Fx
/-! ### operators at values -/
section
variable (G : Gm) (a b : Int) (i j : Nat)
theorem vAdd : kAdd G (.d (.int a)) (.d (.int b)) = .ok (.d (.int (a + b))) G := rfl
theorem vSub : kSub G (.d (.int a)) (.d (.int b)) = .ok (.d (.int (a - b))) G := rfl
theorem vLt : kLt G (.d (.int a)) (.d (.int b)) = .ok (.d (.bool (decide (a < b)))) G := rfl
theorem vLe : kLe G (.d (.int a)) (.d (.int b)) = .ok (.d (.bool (decide (a ≤ b)))) G := rfl
theorem vGt : kGt G (.d (.int a)) (.d (.int b)) = .ok (.d (.bool (decide (b < a)))) G := rfl
theorem vGe : kGe G (.d (.int a)) (.d (.int b)) = .ok (.d (.bool (decide (b ≤ a)))) G := rfl
theorem vEq : kEq G (.d (.int a)) (.d (.int b)) = .ok (.d (.bool (decide (a = b)))) G := kEq_i G a b
theorem vNe : kNe G (.d (.int a)) (.d (.int b)) = .ok (.d (.bool (!decide (a = b)))) G := kNe_int G a b
theorem vNeg : kNeg G (.d (.int a)) = .ok (.d (.int (-a))) G := rfl
theorem vAbs : kAbs G [.d (.int a)] = .ok (.d (.int (if a < 0 then -a else a))) G := rfl
theorem vInt : kInt G [.d (.int a)] = .ok (.d (.int a)) G := rfl
theorem vIsInt (d : PyData) : kIsi "int" G (.d d) = .ok (.d (.bool (isiD "int" d))) G := rfl
theorem vIsBool (d : PyData) : kIsi "bool" G (.d d) = .ok (.d (.bool (isiD "bool" d))) G := rfl
theorem vIsTup (d : PyData) : kIsi "tuple" G (.d d) = .ok (.d (.bool (isiD "tuple" d))) G := rfl
theorem vIsStr (d : PyData) : kIsi "str" G (.d d) = .ok (.d (.bool (isiD "str" d))) G := rfl
theorem vLenT (ds : List PyData) : kLen G [.d (.tuple ds)] = .ok (.d (.int ds.length)) G := rfl
theorem vLenL (ds : List PyData) : kLen G [.d (.list ds)] = .ok (.d (.int ds.length)) G := rfl
theorem vLenO (ds : List PyData) (h : ownAt G i = some (.lst ds)) : kLen G [.own i] = .ok (.d (.int ds.length)) G := by
  unfold kLen k1
  dsimp only [rd]
  rw [h]
  rfl
theorem vIdx {r s : Rv} {ds : List PyData} {k : Int} {x : PyData} (hd : rd G r = some (.tuple ds) ∨ rd G r = some (.list ds)) (hi : rd G s = some (.int k)) (h : atI ds k = some x) : kIdx G r s = .ok (.d x) G := by
  unfold kIdx
  rw [hi]
  dsimp only
  rcases hd with hd | hd <;> rw [hd] <;> dsimp only <;> rw [h]
theorem at0 (x : PyData) (ds : List PyData) : atI (x :: ds) 0 = some x := atI_natL (j := 0) rfl
theorem at1 (x y : PyData) (ds : List PyData) : atI (x :: y :: ds) 1 = some y := atI_natL (j := 1) rfl
theorem at2 (x y z : PyData) (ds : List PyData) : atI (x :: y :: z :: ds) 2 = some z := atI_natL (j := 2) rfl
theorem atMap {α : Type} (e : α → PyData) (xs : List α) (j : Nat) (h : j < xs.length) : atI (xs.map e) (j : Int) = some (e (xs[j])) := atI_natL (by rw [List.getElem?_map, List.getElem?_eq_getElem h]; rfl)
theorem vIdxT0 (x : PyData) (ds : List PyData) : kIdx G (.d (.tuple (x :: ds))) (.d (.int 0)) = .ok (.d x) G := vIdx G (.inl rfl) rfl (at0 _ _)
theorem vIdxT1 (x y : PyData) (ds : List PyData) : kIdx G (.d (.tuple (x :: y :: ds))) (.d (.int 1)) = .ok (.d y) G := vIdx G (.inl rfl) rfl (at1 _ _ _)
theorem vIdxT2 (x y z : PyData) (ds : List PyData) : kIdx G (.d (.tuple (x :: y :: z :: ds))) (.d (.int 2)) = .ok (.d z) G := vIdx G (.inl rfl) rfl (at2 _ _ _ _)
theorem vIdxT {ds : List PyData} {k : Int} {x : PyData} (h : atI ds k = some x) : kIdx G (.d (.tuple ds)) (.d (.int k)) = .ok (.d x) G := vIdx G (.inl rfl) rfl h
theorem vIdxL {ds : List PyData} {k : Int} {x : PyData} (h : atI ds k = some x) : kIdx G (.d (.list ds)) (.d (.int k)) = .ok (.d x) G := vIdx G (.inr rfl) rfl h
theorem vIdxO {ds : List PyData} {k : Int} {x : PyData} (ho : ownAt G i = some (.lst ds)) (h : atI ds k = some x) : kIdx G (.own i) (.d (.int k)) = .ok (.d x) G := vIdx G (.inr (by show (ownAt G i).bind aoD = _; rw [ho]; rfl)) rfl h
theorem vIsN (d : PyData) : kIsN G (.d d) (.d .none) = .ok (.d (.bool (isNoneD d))) G := by cases d <;> rfl
theorem vNotN (d : PyData) : kNotN G (.d d) (.d .none) = .ok (.d (.bool (!isNoneD d))) G := by cases d <;> rfl
end
theorem isN_none : isNoneD .none = true := rfl
theorem isN_int (a : Int) : isNoneD (.int a) = false := rfl
theorem isN_tup (ds : List PyData) : isNoneD (.tuple ds) = false := rfl
theorem isN_lst (ds : List PyData) : isNoneD (.list ds) = false := rfl
theorem isN_str (z : Str) : isNoneD (.str z) = false := rfl
/-! ### what is small enough for any product -/
def Sm (a : Int) : Prop := -(2 ^ 64) < a ∧ a < 2 ^ 64
theorem Sm.mul {a b : Int} (h : Sm b) : mulOk a b = true := mul_ok h.1 h.2
theorem vMul (G : Gm) {a b : Int} (h : Sm b) : kMul G (.d (.int a)) (.d (.int b)) = .ok (.d (.int (a * b))) G := kMul_i h.mul
theorem Sm.of {a : Int} (h1 : -1000000000000000000 ≤ a) (h2 : a ≤ 1000000000000000000) : Sm a := ⟨by omega, by omega⟩
theorem divOk_of {j : Int} (h : j ≠ 0) (h2 : -1000000000 ≤ j) (h3 : j ≤ 1000000000) : divOk j = true := by
  unfold divOk
  rw [Bool.and_eq_true, Bool.or_eq_true]
  exact ⟨decide_eq_true h, .inl (decide_eq_true (by omega))⟩
/-! ### walks that fold -/
section
variable {β : Type} {tg : PyData → Gm → Option Gm} {body : Gm → Res Out}
theorem loop_fold {α : Type} (S : β → Gm) (Iv : β → Prop) (enc : α → PyData) (step : β → α → β) : ∀ (l : List α) (b : β), Iv b → (∀ a ∈ l, ∀ b, Iv b → Iv (step b a) ∧ ∃ G1, tg (enc a) (S b) = some G1 ∧ (body G1 = .ok .nx (S (step b a)) ∨ body G1 = .ok .ct (S (step b a)))) →
    loopF tg body (l.map enc) (S b) = .ok .nx (S (l.foldl step b)) ∧ Iv (l.foldl step b)
  | [], b, h, _ => ⟨rfl, h⟩
  | a :: l, b, h, hs => by
    obtain ⟨h1, G1, e1, e2⟩ := hs a List.mem_cons_self b h
    obtain ⟨r1, r2⟩ := loop_fold S Iv enc step l (step b a) h1 fun x hx => hs x (List.mem_cons_of_mem _ hx)
    refine ⟨?_, r2⟩
    rw [List.foldl_cons, ← r1, List.map_cons]
    conv => lhs; unfold loopF
    rw [e1]
    rcases e2 with e2 | e2 <;> (dsimp only; rw [e2])
theorem for_fold {α : Type} {it : Gm → Res Itv} {G : Gm} {lk : List Nat} (S : β → Gm) (Iv : β → Prop) (enc : α → PyData) (step : β → α → β) (l : List α) (b : β) (hit : it G = .ok (l.map enc, lk) G) (hS : lockAll G lk = S b) (h0 : Iv b)
    (hs : ∀ a ∈ l, ∀ b, Iv b → Iv (step b a) ∧ ∃ G1, tg (enc a) (S b) = some G1 ∧ (body G1 = .ok .nx (S (step b a)) ∨ body G1 = .ok .ct (S (step b a)))) :
    sFor it tg body G = .ok .nx (unlockAll G (S (l.foldl step b))) ∧ Iv (l.foldl step b) := by
  have h := loop_fold S Iv enc step l b h0 hs
  refine ⟨for_nx hit ?_, h.2⟩
  rw [hS]
  exact h.1
/-- a walk that may end with an answer; the slots come back to the same at each turn -/
theorem for_seek {α : Type} {it : Gm → Res Itv} {G S : Gm} {lk : List Nat} (enc : α → PyData) (f : α → Option Rv) (l : List α) (hit : it G = .ok (l.map enc, lk) G) (hS : lockAll G lk = S) (hU : unlockAll G S = G)
    (hs : ∀ a ∈ l, ∃ G1, tg (enc a) S = some G1 ∧ match f a with
      | none => body G1 = .ok .nx S ∨ body G1 = .ok .ct S
      | some r => ∃ G2, body G1 = .ok (.rt r) G2) :
    match l.findSome? f with
      | none => sFor it tg body G = .ok .nx G
      | some r => ∃ G', sFor it tg body G = .ok (.rt r) G' := by
  have h := loop_findA (tg := tg) (body := body) enc (fun X => X = S) (fun _ => True) f l S rfl fun a ha X hX => by
    subst hX
    obtain ⟨G1, e1, h1⟩ := hs a ha
    refine ⟨G1, e1, ?_⟩
    cases ef : f a with
    | none =>
      rw [ef] at h1
      rcases h1 with h1 | h1
      · exact ⟨_, .inl h1, rfl⟩
      · exact ⟨_, .inr h1, rfl⟩
    | some r =>
      rw [ef] at h1
      obtain ⟨G2, h1⟩ := h1
      exact ⟨G2, h1, True.intro⟩
  cases e : l.findSome? f with
  | none =>
    rw [e] at h
    obtain ⟨G', e1, rfl⟩ := h
    have := for_nx (body := body) (tg := tg) hit (by rw [hS]; exact e1)
    rw [hU] at this
    exact this
  | some r =>
    rw [e] at h
    obtain ⟨G', e1, _⟩ := h
    exact ⟨_, for_rt hit (by rw [hS]; exact e1)⟩
end
/-- a while by a measure; J: what it leaves -/
theorem while_ok {t : Gm → Res Bool} {body : Gm → Res Out} (I : Nat → Gm → Prop) (J : Gm → Prop) : ∀ (fu m : Nat) (G : Gm), I m G → m < fu → (∀ m G, I m G → (∃ G1, t G = .ok false G1 ∧ J G1) ∨ ∃ G1 G2 m', t G = .ok true G1 ∧ (body G1 = .ok .nx G2 ∨ body G1 = .ok .ct G2) ∧ I m' G2 ∧ m' < m) → ∃ G', whileF t body fu G = .ok .nx G' ∧ J G'
  | 0, m, G, _, h, _ => absurd h (Nat.not_lt_zero _)
  | fu + 1, m, G, h, hm, hs => by
    unfold whileF
    rcases hs m G h with ⟨G1, e1, h1⟩ | ⟨G1, G2, m', e1, e2, h2, h3⟩
    · rw [e1, Res.bind_ok, if_neg Bool.false_ne_true]
      exact ⟨G1, rfl, h1⟩
    · rw [e1, Res.bind_ok, if_pos rfl]
      obtain ⟨G', e3, h4⟩ := while_ok I J fu m' G2 h2 (by omega) hs
      rcases e2 with e2 | e2 <;> rw [e2] <;> exact ⟨G', e3, h4⟩
/-! ### steps -/
theorem kl_step {G G1 G2 : Gm} {i : Nat} {r : List Nat} (h : freeAt G i = true) (hs : G.set i .no = G1) (ht : killG G1 r = G2) : killG G (i :: r) = G2 := by
  rw [← ht, ← hs]
  show killG (kil G i) r = _
  unfold kil
  rw [if_pos h]
theorem kl_nx {f : Gm → Res Out} {G G1 G2 : Gm} {vs : List Nat} (h : f G = .ok .nx G1) (hk : killG G1 vs = G2 := by rfl) : sKl vs f G = .ok .nx G2 := by
  unfold sKl; rw [h, ← hk]
theorem kl_ct {f : Gm → Res Out} {G G1 G2 : Gm} {vs : List Nat} (h : f G = .ok .ct G1) (hk : killG G1 vs = G2 := by rfl) : sKl vs f G = .ok .ct G2 := by
  unfold sKl; rw [h, ← hk]
theorem kl_rt {f : Gm → Res Out} {G G1 : Gm} {r : Rv} {vs : List Nat} (h : f G = .ok (.rt r) G1) : sKl vs f G = .ok (.rt r) G1 := by
  unfold sKl; rw [h]
theorem call_l {F : Gm → Res Rv} {fs : Gm → Res (List Rv)} {G G1 A : Gm} {r : Rv} {rs : List Rv} {ds : List PyData} (hs : fs G = .ok rs G1) (ha : argsOf G1 rs = some (ds, false) := by rfl) (hF : F (ds.map Sl.d) = .ok r A) (hr : (∀ i, r ≠ .own i) := by intro _ z; cases z) : fCallK (kCall F) fs G = .ok r G1 := by
  unfold fCallK
  rw [hs, Res.bind_ok]
  unfold kCall
  rw [ha]
  dsimp only
  rw [hF]
  cases r with
  | d x => rfl
  | own i => exact absurd rfl (hr i)
  | new o => rfl
theorem un_ev {k : Gm → Rv → Res Rv} {fa : Gm → Res Rv} {G G1 : Gm} {a : Rv} {R : Res Rv} (ha : fa G = .ok a G1) (h : k G1 a = R) : fUn k fa G = R := by
  unfold fUn; rw [ha, Res.bind_ok, h]
theorem fnot_ev {fa : Gm → Res Rv} {G G1 : Gm} {b : Bool} (h : fa G = .ok (.d (.bool b)) G1) : fNot fa G = .ok (.d (.bool (!b))) G1 := by
  unfold fNot; rw [h]; rfl
theorem for_ev {α : Type} {it : Gm → Res Itv} : True := trivial
end C0
namespace C0
open PySem PySem.Spec PyProof.Rows L2 Fx
local macro_rules | `(tactic| walk_at "ev") => `(tactic| simp only [sRet, sExpr, fCallK, kCall, fCons, fNil, fOp2, fVar, fC, fTup, fUn, fTest, asB, Res.bind_ok, Res.bind_ex, List.getElem?_cons_zero, List.getElem?_cons_succ, vAdd, vSub, vLt, vLe, vGt, vGe, vEq, vNe, vNeg, vAbs, vInt, vIsInt, vIsBool, vIsTup, vIsStr, vLenT, vLenL, vIdxT0, vIdxT1, vIdxT2, argsOf, argOf, List.map_cons, List.map_nil, Bool.false_and, Bool.or_false, Bool.false_or, Bool.true_and, Bool.not_true, Bool.not_false, if_true, if_false, Bool.false_eq_true, *])
/-! ### fractions -/
def frD (a : Int × Int) : PyData := .tuple [.int a.1, .int a.2]
/-- in lowest terms, d above 0 -/
def red (n d : Int) : Int × Int := (n / (Int.gcd n d : Int), d / (Int.gcd n d : Int))
theorem gcd_pos {n d : Int} (h : 0 < d) : 0 < Int.gcd n d := Int.gcd_pos_of_ne_zero_right n (by omega)
theorem red_pos {n d : Int} (h : 0 < d) : 0 < (red n d).2 := by
  have h1 := gcd_pos (n := n) h
  exact Int.ediv_pos_of_pos_of_dvd h (by omega) (Int.gcd_dvd_right _ _)
theorem red_num (n d : Int) : (red n d).1 * (Int.gcd n d : Int) = n := Int.ediv_mul_cancel (Int.gcd_dvd_left _ _)
theorem red_den (n d : Int) : (red n d).2 * (Int.gcd n d : Int) = d := Int.ediv_mul_cancel (Int.gcd_dvd_right _ _)
theorem red_eq (n d : Int) : (red n d).1 * d = n * (red n d).2 := by
  have h1 := red_num n d
  have h2 := red_den n d
  calc (red n d).1 * d = (red n d).1 * ((red n d).2 * (Int.gcd n d : Int)) := by rw [h2]
    _ = ((red n d).1 * (Int.gcd n d : Int)) * (red n d).2 := by rw [Int.mul_comm (red n d).2, Int.mul_assoc]
    _ = n * (red n d).2 := by rw [h1]
theorem red_le {n d : Int} (h : 0 < d) : (red n d).2 ≤ d := by
  have h1 := gcd_pos (n := n) h
  exact Int.ediv_le_self _ (by omega)
theorem red_cop {n d : Int} (h : 0 < d) : Int.gcd (red n d).1 (red n d).2 = 1 := by
  have h1 := gcd_pos (n := n) h
  exact Int.gcd_ediv_gcd_ediv_gcd h1
theorem red_of {n d : Int} (h : Int.gcd n d = 1) : red n d = (n, d) := by
  unfold red
  rw [h]
  simp
theorem cop_dvd {n d k : Int} (h : Int.gcd n d = 1) (hd : d ∣ n * k) : d ∣ k := by
  rw [← Int.natAbs_dvd_natAbs] at hd ⊢
  rw [Int.natAbs_mul] at hd
  exact Nat.Coprime.dvd_of_dvd_mul_left (Nat.Coprime.symm h) hd
/-- two fractions of one worth are one -/
theorem red_same {n d k e : Int} (hd : 0 < d) (he : 0 < e) (h : n * e = k * d) : red n d = red k e := by
  have c1 := red_cop (n := n) hd
  have c2 := red_cop (n := k) he
  have p1 := red_pos (n := n) hd
  have p2 := red_pos (n := k) he
  have e1 := red_eq n d
  have e2 := red_eq k e
  generalize red n d = a at *
  generalize red k e = b at *
  have key : a.1 * b.2 = b.1 * a.2 := by
    have q : (a.1 * b.2) * (d * e) = (b.1 * a.2) * (d * e) := by
      calc (a.1 * b.2) * (d * e) = (a.1 * d) * (b.2 * e) := by ac_rfl
        _ = (n * a.2) * (b.2 * e) := by rw [e1]
        _ = (n * e) * (a.2 * b.2) := by ac_rfl
        _ = (k * d) * (a.2 * b.2) := by rw [h]
        _ = (k * b.2) * (a.2 * d) := by ac_rfl
        _ = (b.1 * e) * (a.2 * d) := by rw [e2]
        _ = (b.1 * a.2) * (d * e) := by ac_rfl
    exact Int.eq_of_mul_eq_mul_right (Int.ne_of_gt (Int.mul_pos hd he)) q
  have d1 : a.2 ∣ b.2 := by
    have : a.2 ∣ a.1 * b.2 := ⟨b.1, by rw [key, Int.mul_comm]⟩
    exact cop_dvd c1 this
  have d2 : b.2 ∣ a.2 := by
    have : b.2 ∣ b.1 * a.2 := ⟨a.1, by rw [← key, Int.mul_comm]⟩
    exact cop_dvd c2 this
  have e3 : a.2 = b.2 := Int.dvd_antisymm (Int.le_of_lt p1) (Int.le_of_lt p2) d1 d2
  have e4 : a.1 = b.1 := by
    rw [e3] at key
    exact Int.eq_of_mul_eq_mul_right (Int.ne_of_gt p2) key
  exact Prod.ext e4 e3
/-! ### Euclid -/
theorem euclid {t : Gm → Res Bool} {b : Gm → Res Out} (S : Nat → Nat → Gm) (ht : ∀ x y, t (S x y) = .ok (!decide (y = 0)) (S x y)) (hb : ∀ x y, y ≠ 0 → b (S x y) = .ok .nx (S y (x % y))) : ∀ (k fu x y : Nat), y < 2 ^ k → 2 * k < fu → whileF t b fu (S x y) = .ok .nx (S (Nat.gcd x y) 0) := by
  have z : ∀ fu x, 0 < fu → whileF t b fu (S x 0) = .ok .nx (S x 0) := fun fu x h => by
    obtain ⟨f, rfl⟩ : ∃ f, fu = f + 1 := ⟨fu - 1, by omega⟩
    unfold whileF
    rw [ht]
    rfl
  have st : ∀ fu x y, y ≠ 0 → whileF t b (fu + 1) (S x y) = whileF t b fu (S y (x % y)) := fun fu x y h => by
    conv => lhs; unfold whileF
    rw [ht, decide_eq_false h]
    show (match b (S x y) with | .ok .nx G2 => _ | .ok .ct G2 => _ | .ok .bk G2 => _ | .ok (.rt r) G2 => _ | .ex e => _ | .bad => _) = _
    rw [hb x y h]
  intro k
  induction k with
  | zero =>
    intro fu x y hy hf
    obtain rfl : y = 0 := by omega
    rw [z fu x (by omega), Nat.gcd_zero_right]
  | succ k ih =>
    intro fu x y hy hf
    by_cases h0 : y = 0
    · subst h0
      rw [z fu x (by omega), Nat.gcd_zero_right]
    · obtain ⟨f, rfl⟩ : ∃ f, fu = f + 2 := ⟨fu - 2, by omega⟩
      rw [st (f + 1) x y h0]
      have hlt : x % y < y := Nat.mod_lt _ (by omega)
      by_cases h1 : x % y = 0
      · rw [h1, z (f + 1) y (by omega), Nat.gcd_comm, Nat.gcd_rec, h1, Nat.gcd_zero_left]
      · rw [st f y (x % y) h1]
        have h2 : y % (x % y) < 2 ^ k := by
          have q1 : y % (x % y) < x % y := Nat.mod_lt _ (by omega)
          have q2 := Nat.div_add_mod y (x % y)
          have q3 : 1 ≤ y / (x % y) := (Nat.one_le_div_iff (by omega)).mpr (by omega)
          have q4 : x % y ≤ (x % y) * (y / (x % y)) := Nat.le_mul_of_pos_right _ (by omega)
          rw [Nat.pow_succ] at hy
          omega
        rw [ih f (x % y) (y % (x % y)) h2 (by omega)]
        rw [Nat.gcd_comm x y, Nat.gcd_rec y x, Nat.gcd_rec (x % y) y, Nat.gcd_comm (x % y)]
theorem fmod_nat (x y : Nat) : Int.fmod (x : Int) (y : Int) = ((x % y : Nat) : Int) := by
  rw [Int.fmod_eq_emod_of_nonneg _ (by omega)]
  rfl
theorem abs_nat (a : Int) : (if a < 0 then -a else a) = (a.natAbs : Int) := by split <;> omega
theorem nat0 (y : Nat) : decide ((y : Int) = 0) = decide (y = 0) := decide_eq_decide.mpr (by omega)
theorem parI {fs : Gm → Res (List Rv)} {G G1 : Gm} {i j : Nat} {a b : PyData} (hs : fs G = .ok [.d a, .d b] G1) (h1 : freeAt G1 i = true := by rfl) (h2 : freeAt (G1.set i (.d a)) j = true := by rfl) : sPar i j fs G = .ok .nx ((G1.set i (.d a)).set j (.d b)) := par_ev hs h1 h2
theorem common_ev (a b : Int) (h : b.natAbs < 2 ^ 400) : F_common [.d (.int a), .d (.int b)] = .ok (.d (.int (Int.gcd a b : Int))) [.d (.int a), .d (.int b)] := by
  have e1 : common_s1 [.d (.int a), .d (.int b)] = .ok .nx [.d (.int (a.natAbs : Int)), .d (.int (b.natAbs : Int))] := by
    refine parI (G1 := [.d (.int a), .d (.int b)]) ?_
    walk_at "ev"
    rw [abs_nat, abs_nat]
  have e2 := euclid (t := common_t1) (b := common_b1) (fun x y => [.d (.int (x : Int)), .d (.int (y : Int))]) (fun x y => by
    unfold common_t1
    walk_at "ev"
    rw [nat0]) (fun x y hy => by
    refine parI (G1 := [.d (.int (x : Int)), .d (.int (y : Int))]) ?_
    have := fun G => kMod_i (G := G) (i := (x : Int)) (j := (y : Int)) (by omega)
    walk_at "ev"
    rw [fmod_nat]) 400 wfuel a.natAbs b.natAbs h (by decide)
  refine run_d [.d (.int (Nat.gcd a.natAbs b.natAbs : Nat)), .d (.int (0 : Nat))] (seq_go e1 (seq_go e2 ?_))
  rfl
theorem fdiv_pos (n : Int) {g : Int} (h : 0 ≤ g) : Int.fdiv n g = n / g := Int.fdiv_eq_ediv_of_nonneg _ h
theorem gcd_le {n d : Int} (h : 0 < d) : (Int.gcd n d : Int) ≤ d := Int.le_of_dvd h (Int.gcd_dvd_right _ _)
theorem div_log {j : Int} (h : 0 < j) (h2 : j < 2 ^ 400) : divOk j = true := by
  unfold divOk
  rw [Bool.and_eq_true, Bool.or_eq_true]
  refine ⟨decide_eq_true (by omega), .inr ?_⟩
  rw [Bool.and_eq_true]
  refine ⟨decide_eq_true h, decide_eq_true ?_⟩
  have h3 : j.natAbs ≠ 0 := by omega
  have : j.natAbs.log2 < 400 := (Nat.log2_lt h3).mpr (by omega)
  omega
theorem lowest_ev (n d : Int) (h : 0 < d) (h2 : d < 2 ^ 400) : F_lowest [.d (.int n), .d (.int d)] = .ok (.d (frD (red n d))) [.d (.int n), .d (.int d)] := by
  have hg := gcd_pos (n := n) h
  have hl := gcd_le (n := n) h
  have hk := div_log (j := (Int.gcd n d : Int)) (by omega) (by omega)
  have e1 : lowest_s1 [.d (.int n), .d (.int d), .no] = .ok .nx [.d (.int n), .d (.int d), .d (.int (Int.gcd n d : Int))] :=
    set_d (G1 := [.d (.int n), .d (.int d), .no]) (call_ev [.int n, .int d] rfl (common_ev n d (by omega)))
  have e2 : lowest_s2 [.d (.int n), .d (.int d), .d (.int (Int.gcd n d : Int))] = .ok .nx [.d (.int n), .d (.int d), .d (.int (Int.gcd n d : Int))] := if_f (b := decide (d < 0)) rfl (decide_eq_false (by omega)) rfl
  refine run_d [.d (.int n), .d (.int d), .d (.int (Int.gcd n d : Int))] (seq_go e1 (seq_go e2 (ret_ev (tup_ev (ds := [.int (red n d).1, .int (red n d).2]) (hl := by show 2 ≤ 16777216; omega) ?_))))
  have q := fun (G : Gm) (x : Int) => kDiv_i (G := G) (i := x) (j := (Int.gcd n d : Int)) hk
  walk_at "ev"
  rw [fdiv_pos _ (by omega), fdiv_pos _ (by omega)]
  rfl
theorem lfrac_ev (n d : Int) (h : 0 < d) (h2 : d < 2 ^ 400) : F_law_fraction [.d (.int n), .d (.int d)] = .ok (.d (frD (red n d))) [.d (.int n), .d (.int d)] := by
  have hg := gcd_pos (n := n) h
  have hl := gcd_le (n := n) h
  have hk := div_log (j := (Int.gcd n d : Int)) (by omega) (by omega)
  have e1 : law_fraction_s1 [.d (.int n), .d (.int d), .no, .no] = .ok .nx [.d (.int n), .d (.int d), .d (.int (n.natAbs : Int)), .d (.int (d.natAbs : Int))] := by
    refine parI (G1 := [.d (.int n), .d (.int d), .no, .no]) ?_
    walk_at "ev"
    rw [abs_nat, abs_nat]
  have e2 := euclid (t := law_fraction_t1) (b := law_fraction_b1) (fun x y => [.d (.int n), .d (.int d), .d (.int (x : Int)), .d (.int (y : Int))]) (fun x y => by
    unfold law_fraction_t1
    walk_at "ev"
    rw [nat0]) (fun x y hy => by
    refine parI (G1 := [.d (.int n), .d (.int d), .d (.int (x : Int)), .d (.int (y : Int))]) ?_
    have := fun G => kMod_i (G := G) (i := (x : Int)) (j := (y : Int)) (by omega)
    walk_at "ev"
    rw [fmod_nat]) 400 wfuel n.natAbs d.natAbs (by omega) (by decide)
  refine run_d [.d (.int n), .d (.int d), .d (.int (Nat.gcd n.natAbs d.natAbs : Nat)), .d (.int (0 : Nat))] (seq_go e1 (seq_go e2 (ret_ev ?_)))
  refine (if_evE (b := decide (0 < d)) (G1 := [.d (.int n), .d (.int d), .d (.int (Nat.gcd n.natAbs d.natAbs : Nat)), .d (.int (0 : Nat))]) rfl).trans ?_
  rw [if_pos (decide_eq_true h)]
  refine tup_ev (ds := [.int (red n d).1, .int (red n d).2]) (hl := by show 2 ≤ 16777216; omega) ?_
  have q := fun (G : Gm) (x : Int) => kDiv_i (G := G) (i := x) (j := (Int.gcd n d : Int)) hk
  show (fCons (fOp2 kDiv (fVar 0) (fVar 2)) (fCons (fOp2 kDiv (fVar 1) (fVar 2)) fNil)) [.d (.int n), .d (.int d), .d (.int (Int.gcd n d : Int)), .d (.int (0 : Nat))] = _
  walk_at "ev"
  rw [fdiv_pos _ (by omega), fdiv_pos _ (by omega)]
  rfl
/-- a denominator that is told -/
def Fp (a : Int × Int) : Prop := 0 < a.2 ∧ a.2 < 2 ^ 40
theorem Fp.sm {a : Int × Int} (h : Fp a) : Sm a.2 := ⟨by have := h.1; omega, by have := h.2; omega⟩
theorem den_mul {a b : Int × Int} (ha : Fp a) (hb : Fp b) : 0 < a.2 * b.2 ∧ a.2 * b.2 < 2 ^ 400 := by
  refine ⟨Int.mul_pos ha.1 hb.1, ?_⟩
  have h1 : a.2 * b.2 ≤ 2 ^ 40 * 2 ^ 40 := Int.mul_le_mul (Int.le_of_lt ha.2) (Int.le_of_lt hb.2) (Int.le_of_lt hb.1) (by decide)
  omega
def addF (a b : Int × Int) : Int × Int := red (a.1 * b.2 + b.1 * a.2) (a.2 * b.2)
def subF (a b : Int × Int) : Int × Int := red (a.1 * b.2 - b.1 * a.2) (a.2 * b.2)
theorem plus_ev {a b : Int × Int} (ha : Fp a) (hb : Fp b) : F_plus [.d (frD a), .d (frD b)] = .ok (.d (frD (addF a b))) [.d (frD a), .d (frD b)] := by
  refine run_d [.d (frD a), .d (frD b)] ?_
  obtain ⟨h1, h2⟩ := den_mul ha hb
  have := lowest_ev (a.1 * b.2 + b.1 * a.2) _ h1 h2
  have m1 := fun G x => vMul G (a := x) ha.sm
  have m2 := fun G x => vMul G (a := x) hb.sm
  show f_plus [.d (frD a), .d (frD b)] = _
  simp only [f_plus, frD, addF] at *
  walk_at "ev"
theorem minus_ev {a b : Int × Int} (ha : Fp a) (hb : Fp b) : F_minus [.d (frD a), .d (frD b)] = .ok (.d (frD (subF a b))) [.d (frD a), .d (frD b)] := by
  refine run_d [.d (frD a), .d (frD b)] ?_
  obtain ⟨h1, h2⟩ := den_mul ha hb
  have := lowest_ev (a.1 * b.2 - b.1 * a.2) _ h1 h2
  have m1 := fun G x => vMul G (a := x) ha.sm
  have m2 := fun G x => vMul G (a := x) hb.sm
  show f_minus [.d (frD a), .d (frD b)] = _
  simp only [f_minus, frD, subF] at *
  walk_at "ev"
theorem lplus_ev {a b : Int × Int} (ha : Fp a) (hb : Fp b) : F_law_plus [.d (frD a), .d (frD b)] = .ok (.d (frD (addF a b))) [.d (frD a), .d (frD b)] := by
  refine run_d [.d (frD a), .d (frD b)] ?_
  obtain ⟨h1, h2⟩ := den_mul ha hb
  have := lfrac_ev (a.1 * b.2 + b.1 * a.2) _ h1 h2
  have m1 := fun G x => vMul G (a := x) ha.sm
  have m2 := fun G x => vMul G (a := x) hb.sm
  show f_law_plus [.d (frD a), .d (frD b)] = _
  simp only [f_law_plus, frD, addF] at *
  walk_at "ev"
theorem lminus_ev {a b : Int × Int} (ha : Fp a) (hb : Fp b) : F_law_minus [.d (frD a), .d (frD b)] = .ok (.d (frD (subF a b))) [.d (frD a), .d (frD b)] := by
  refine run_d [.d (frD a), .d (frD b)] ?_
  obtain ⟨h1, h2⟩ := den_mul ha hb
  have := lfrac_ev (a.1 * b.2 - b.1 * a.2) _ h1 h2
  have m1 := fun G x => vMul G (a := x) ha.sm
  have m2 := fun G x => vMul G (a := x) hb.sm
  show f_law_minus [.d (frD a), .d (frD b)] = _
  simp only [f_law_minus, frD, subF] at *
  walk_at "ev"
def lessF (a b : Int × Int) : Bool := decide (a.1 * b.2 < b.1 * a.2)
theorem lless_ev {a b : Int × Int} (ha : Fp a) (hb : Fp b) : F_law_less [.d (frD a), .d (frD b)] = .ok (.d (.bool (lessF a b))) [.d (frD a), .d (frD b)] := by
  refine run_d [.d (frD a), .d (frD b)] ?_
  have m1 := fun G x => vMul G (a := x) ha.sm
  have m2 := fun G x => vMul G (a := x) hb.sm
  show f_law_less [.d (frD a), .d (frD b)] = _
  simp only [f_law_less, frD, lessF] at *
  walk_at "ev"
def overF (a b : Int × Int) : Int × Int := red (a.1 * b.2) (a.2 * b.1)
theorem lover_ev {a b : Int × Int} (ha : Fp a) (hb : Fp b) (h1 : 0 < b.1) (h2 : b.1 < 2 ^ 40) : F_law_over [.d (frD a), .d (frD b)] = .ok (.d (frD (overF a b))) [.d (frD a), .d (frD b)] := by
  refine run_d [.d (frD a), .d (frD b)] ?_
  obtain ⟨h1, h2⟩ := den_mul (b := (b.2, b.1)) ha ⟨h1, h2⟩
  have := lfrac_ev (a.1 * b.2) _ h1 h2
  have m1 := fun G x => vMul G (a := x) (b := b.1) ⟨by omega, by omega⟩
  have m2 := fun G x => vMul G (a := x) hb.sm
  show f_law_over [.d (frD a), .d (frD b)] = _
  simp only [f_law_over, frD, overF] at *
  walk_at "ev"
def sumF (l : List (Int × Int)) : Int × Int := l.foldl addF (0, 1)
theorem Fp.red {n d : Int} (h : 0 < d) (h2 : d < 2 ^ 40) : Fp (red n d) := ⟨red_pos h, Int.lt_of_le_of_lt (red_le h) h2⟩
end C0
namespace C0
open PySem PySem.Spec PyProof.Rows L2 Fx
local macro_rules | `(tactic| walk_at "ev") => `(tactic| simp only [sRet, sExpr, fCallK, kCall, fCons, fNil, fOp2, fVar, fC, fTup, fUn, fTest, asB, Res.bind_ok, Res.bind_ex, List.getElem?_cons_zero, List.getElem?_cons_succ, vAdd, vSub, vLt, vLe, vGt, vGe, vEq, vNe, vNeg, vAbs, vInt, vIsInt, vIsBool, vIsTup, vIsStr, vLenT, vLenL, vIdxT0, vIdxT1, vIdxT2, argsOf, argOf, List.map_cons, List.map_nil, Bool.false_and, Bool.or_false, Bool.false_or, Bool.true_and, Bool.not_true, Bool.not_false, if_true, if_false, Bool.false_eq_true, *])
/-! ### a comprehension with any target -/
theorem compFG {α : Type} {vs : List Nat} {tg : PyData → Gm → Option Gm} {enc : α → PyData} {p : α → Bool} {e : α → PyData} {tst : Gm → Res Bool} {elt : Gm → Res Rv} {G0 : Gm} (S : α → Gm) : ∀ (l : List α) (acc : List PyData), acc.length + l.length ≤ 16777216 →
    (∀ a ∈ l, tg (enc a) G0 = some (S a) ∧ wipeG (S a) vs = G0 ∧ tst (S a) = .ok (p a) (S a) ∧ (p a = true → Gives elt (S a) (e a))) → compF vs tg tst elt (l.map enc) acc G0 = .ok (acc ++ (l.filter p).map e) G0
  | [], acc, _, _ => by simp [compF]
  | a :: l, acc, hl, h => by
    rw [List.length_cons] at hl
    obtain ⟨h1, h2, h3, h4⟩ := h a List.mem_cons_self
    rw [List.map_cons]
    unfold compF
    rw [h1]
    dsimp only
    rw [h3]
    cases hp : p a with
    | true =>
      obtain ⟨r, e1, e2⟩ := h4 hp
      dsimp only
      rw [e1]
      dsimp only
      rw [e2]
      dsimp only
      rw [if_pos (by unfold lim; exact decide_eq_true (by omega)), h2, compFG S l (acc ++ [e a]) (by rw [List.length_append]; simp; omega) fun x hx => h x (List.mem_cons_of_mem _ hx)]
      rw [List.filter_cons, if_pos hp, List.map_cons]
      simp
    | false =>
      dsimp only
      rw [h2, compFG S l acc (by omega) fun x hx => h x (List.mem_cons_of_mem _ hx)]
      rw [List.filter_cons, if_neg (by rw [hp]; exact Bool.false_ne_true)]
theorem comp_evG {α : Type} {it : Gm → Res Itv} {vs : List Nat} {tg : PyData → Gm → Option Gm} {enc : α → PyData} {p : α → Bool} {e : α → PyData} {tst : Gm → Res Bool} {elt : Gm → Res Rv} {G : Gm} {lk : List Nat} (S : α → Gm) (l : List α) (hit : it G = .ok (l.map enc, lk) G) (hpl : plainAt G vs = true) (hl : l.length ≤ 16777216)
    (h : ∀ a ∈ l, tg (enc a) (wipeG (lockAll G lk) vs) = some (S a) ∧ wipeG (S a) vs = wipeG (lockAll G lk) vs ∧ tst (S a) = .ok (p a) (S a) ∧ (p a = true → Gives elt (S a) (e a))) : fComp it vs tg tst elt G = .ok (.new (.lst ((l.filter p).map e))) G := by
  unfold fComp
  rw [hit, Res.bind_ok, if_pos hpl, compFG S l [] (by simpa using hl) h]
  dsimp only
  rw [unwipe_wipe, unlock_lock]
  rfl
theorem filter_yes {α : Type} (l : List α) : l.filter (fun _ => true) = l := List.filter_eq_self.mpr fun _ _ => rfl
theorem comp_evG0 {α : Type} {it : Gm → Res Itv} {vs : List Nat} {tg : PyData → Gm → Option Gm} {enc : α → PyData} {e : α → PyData} {elt : Gm → Res Rv} {G : Gm} {lk : List Nat} (S : α → Gm) (l : List α) (hit : it G = .ok (l.map enc, lk) G) (hpl : plainAt G vs = true) (hl : l.length ≤ 16777216)
    (h : ∀ a ∈ l, tg (enc a) (wipeG (lockAll G lk) vs) = some (S a) ∧ wipeG (S a) vs = wipeG (lockAll G lk) vs ∧ Gives elt (S a) (e a)) : fComp it vs tg tYesF elt G = .ok (.new (.lst (l.map e))) G := by
  have := comp_evG (p := fun _ => true) (tst := tYesF) S l hit hpl hl fun a ha => ⟨(h a ha).1, (h a ha).2.1, rfl, fun _ => (h a ha).2.2⟩
  rw [filter_yes] at this
  exact this
/-! ### tables -/
def lrow (r : List Int) : PyData := .list (r.map .int)
def tab (n : Nat) (f : Nat → Nat → Int) : List PyData := (List.range n).map fun i => lrow ((List.range n).map (f i))
def inZ (n : Nat) (s : Nat → Int) : List PyData := (List.range n).map fun j => .int (s j)
theorem lrow_inZ (n : Nat) (s : Nat → Int) : lrow ((List.range n).map s) = .list (inZ n s) := by
  unfold lrow inZ
  rw [List.map_map]
  rfl
theorem inZ_len (n : Nat) (s : Nat → Int) : (inZ n s).length = n := by unfold inZ; simp
theorem tab_len (n : Nat) (f : Nat → Nat → Int) : (tab n f).length = n := by unfold tab; simp
theorem inZ_at {n j : Nat} (s : Nat → Int) (h : j < n) : atI (inZ n s) (j : Int) = some (.int (s j)) := atI_natL (by unfold inZ; rw [List.getElem?_map, List.getElem?_range h]; rfl)
theorem inZ_get {n j : Nat} (s : Nat → Int) (h : j < n) : (inZ n s)[j]? = some (.int (s j)) := by unfold inZ; rw [List.getElem?_map, List.getElem?_range h]; rfl
theorem tab_at {n i : Nat} (f : Nat → Nat → Int) (h : i < n) : atI (tab n f) (i : Int) = some (.list (inZ n (f i))) := by
  rw [← lrow_inZ]
  exact atI_natL (by unfold tab; rw [List.getElem?_map, List.getElem?_range h]; rfl)
theorem tab_get {n i : Nat} (f : Nat → Nat → Int) (h : i < n) : (tab n f)[i]? = some (.list (inZ n (f i))) := by
  rw [← lrow_inZ]
  unfold tab; rw [List.getElem?_map, List.getElem?_range h]; rfl
theorem tab_map (n : Nat) (f : Nat → Nat → Int) : tab n f = (List.range n).map fun i => .list (inZ n (f i)) := by
  unfold tab
  exact List.map_congr_left fun i _ => lrow_inZ n (f i)
theorem g_range {g : List (List Int)} {n : Nat} (h : g.length = n) : g.map rowD = (List.range n).map fun i => rowD (rowOf g i) := by
  apply List.ext_getElem?
  intro i
  rw [List.getElem?_map, List.getElem?_map]
  by_cases hi : i < n
  · rw [List.getElem?_range hi, List.getElem?_eq_getElem (by omega)]
    show some (rowD g[i]) = some (rowD (g.getD i []))
    rw [List.getD_eq_getElem?_getD, List.getElem?_eq_getElem (by omega)]
    rfl
  · rw [List.getElem?_eq_none (by omega), List.getElem?_eq_none (by simp; omega)]
    rfl
theorem enum_range {α : Type} (n : Nat) (e : Nat → PyData) : enumD ((List.range n).map e) = (List.range n).map fun i => .tuple [natD i, e i] := by
  apply List.ext_getElem?
  intro i
  rw [enumD_at, List.getElem?_map, List.getElem?_map]
  by_cases hi : i < n
  · rw [List.getElem?_range hi]; rfl
  · rw [List.getElem?_eq_none (by simp; omega)]; rfl
/-- what the part of k is worth to i -/
def wt (g : List (List Int)) (os : List Nat) (i k : Nat) : Int := wth (rowOf g i) (gOf os k)
theorem table_ev {g : List (List Int)} {os : List Nat} {n m : Nat} (h : Good g n m) (ho : Own os n m) : F_worth_table [.d (gameD g), .d (osD os)] = .ok (.new (.lst (tab n (wt g os)))) [.d (gameD g), .d (osD os)] := by
  have n6 := h.n6
  have m10 := h.m10
  have e1 : worth_table_s1 [.d (gameD g), .d (osD os), .no, .no, .no] = .ok .nx [.d (gameD g), .d (osD os), .l (.lst (partsD os n m)), .no, .no] := by
    have := parts_ev os n (by omega) (by rw [ho.len]; omega) ho.lt
    rw [ho.len] at this
    exact set_new (G1 := [.d (gameD g), .d (osD os), .no, .no, .no]) (call_new [.int n, osD os] (cons_ev (lenG_ev h rfl) rfl) this)
  have e2 : ∀ i < n, worth_table_c1 [.d (gameD g), .d (osD os), .l (.lst (partsD os n m)), .no, .d (rowD (rowOf g i))] = .ok (.new (.lst (inZ n (wt g os i)))) [.d (gameD g), .d (osD os), .l (.lst (partsD os n m)), .no, .d (rowD (rowOf g i))] := fun i hi => by
    obtain ⟨er, hrl⟩ := row_ix h hi
    refine comp_evG0 (enc := fun k => osD (gUp os m k)) (lk := [2]) (fun k => [.d (gameD g), .d (osD os), .k (.lst (partsD os n m)), .d (osD (gUp os m k)), .d (rowD (rowOf g i))]) (List.range n) rfl rfl (by simp; omega) fun k hk => ⟨rfl, rfl, .d ?_⟩
    have em : gUp os m k = gOf os k := by unfold gOf; rw [ho.len]
    rw [em]
    exact call_ev [rowD (rowOf g i), osD (gOf os k)] rfl (worth_t (fun j hj => by rw [hrl]; exact gOf_lt ho hj) (by have := gOf_len ho k; omega))
  have e3 : worth_table_c2 [.d (gameD g), .d (osD os), .l (.lst (partsD os n m)), .no, .no] = .ok (.new (.lst (tab n (wt g os)))) [.d (gameD g), .d (osD os), .l (.lst (partsD os n m)), .no, .no] := by
    rw [tab_map]
    exact comp_evG0 (enc := fun i => rowD (rowOf g i)) (lk := []) (fun i => [.d (gameD g), .d (osD os), .l (.lst (partsD os n m)), .no, .d (rowD (rowOf g i))]) (List.range n) (by rw [← g_range h.len]; rfl) rfl (by simp; omega) fun i hi => ⟨rfl, rfl, .l (e2 i (List.mem_range.mp hi))⟩
  exact run_new [.d (gameD g), .d (osD os), .l (.lst (partsD os n m)), .no, .no] (seq_go e1 (ret_ev e3))
/-! ### gaps -/
def gp (w : Nat → Nat → Int) (i k : Nat) : Int := w i k - w i i
theorem gaps_ev (n : Nat) (hn : n ≤ 1000) (w : Nat → Nat → Int) : F_gaps_of [.d (.list (tab n w))] = .ok (.new (.lst (tab n (gp w)))) [.d (.list (tab n w))] := by
  have e1 : ∀ i < n, gaps_of_c1 [.d (.list (tab n w)), .no, .d (natD i), .d (.list (inZ n (w i)))] = .ok (.new (.lst (inZ n (gp w i)))) [.d (.list (tab n w)), .no, .d (natD i), .d (.list (inZ n (w i)))] := fun i hi => by
    refine comp_evG0 (enc := fun k => .int (w i k)) (lk := []) (fun k => [.d (.list (tab n w)), .d (.int (w i k)), .d (natD i), .d (.list (inZ n (w i)))]) (List.range n) rfl rfl (by simp; omega) fun k _ => ⟨rfl, rfl, .d ?_⟩
    exact op_ev rfl (idx_ev rfl rfl (.inr rfl) rfl (inZ_at _ hi)) rfl
  refine run_new [.d (.list (tab n w)), .no, .no, .no] (ret_ev ?_)
  rw [tab_map n (gp w)]
  refine comp_evG0 (enc := fun i => .tuple [natD i, .list (inZ n (w i))]) (lk := []) (fun i => [.d (.list (tab n w)), .no, .d (natD i), .d (.list (inZ n (w i)))]) (List.range n) ?_ rfl (by simp; omega) fun i hi => ⟨rfl, rfl, .l (e1 i (List.mem_range.mp hi))⟩
  have := enum_ev (f := fVar 0) (G := [.d (.list (tab n w)), .no, .no, .no]) (r := .d (.list (tab n w))) (ds := tab n w) (lk := []) rfl rfl
  rw [tab_map, enum_range (α := Nat)] at this
  rw [tab_map]
  exact this
end C0
namespace C0
open PySem PySem.Spec PyProof.Rows L2 Fx
/-! ### walks by place -/
section
variable {tg : PyData → Gm → Option Gm} {body : Gm → Res Out}
theorem loop_ix (S : Nat → Gm) (stop : Nat → Bool) (J : Nat → Rv → Gm → Prop) : ∀ (ds : List PyData) (k : Nat), (∀ j d, ds[j]? = some d → ∃ G1, tg d (S (k + j)) = some G1 ∧ (stop (k + j) = false → body G1 = .ok .nx (S (k + j + 1)) ∨ body G1 = .ok .ct (S (k + j + 1))) ∧ (stop (k + j) = true → ∃ r G2, body G1 = .ok (.rt r) G2 ∧ J (k + j) r G2)) →
    ((∀ j < ds.length, stop (k + j) = false) ∧ loopF tg body ds (S k) = .ok .nx (S (k + ds.length))) ∨ ∃ j < ds.length, stop (k + j) = true ∧ (∀ i < j, stop (k + i) = false) ∧ ∃ r G2, loopF tg body ds (S k) = .ok (.rt r) G2 ∧ J (k + j) r G2
  | [], k, _ => .inl ⟨fun j hj => absurd hj (Nat.not_lt_zero _), rfl⟩
  | d :: ds, k, h => by
    obtain ⟨G1, e1, h1, h2⟩ := h 0 d rfl
    rw [Nat.add_zero] at e1 h1 h2
    have unf : loopF tg body (d :: ds) (S k) = match body G1 with
      | .ok .nx G2 => loopF tg body ds G2
      | .ok .ct G2 => loopF tg body ds G2
      | .ok .bk G2 => .ok .nx G2
      | .ok (.rt r) G2 => .ok (.rt r) G2
      | .ex e => .ex e
      | .bad => .bad := by
      conv => lhs; unfold loopF
      rw [e1] <;> rfl
    cases hk : stop k with
    | true =>
      obtain ⟨r, G2, e2, j2⟩ := h2 hk
      exact .inr ⟨0, by simp, hk, fun i hi => absurd hi (Nat.not_lt_zero _), r, G2, by rw [unf, e2], j2⟩
    | false =>
      have e3 : loopF tg body (d :: ds) (S k) = loopF tg body ds (S (k + 1)) := by
        rw [unf]
        rcases h1 hk with e2 | e2 <;> rw [e2]
      have ih := loop_ix S stop J ds (k + 1) fun j x hj => by
        have q := h (j + 1) x (by simpa using hj)
        have e : k + (j + 1) = k + 1 + j := by omega
        rw [e] at q
        exact q
      rw [e3]
      have len : (d :: ds).length = ds.length + 1 := rfl
      rcases ih with ⟨q1, q2⟩ | ⟨j, hj, q1, q2, r, G2, q3, q4⟩
      · refine .inl ⟨fun j hj => ?_, by rw [q2, len]; congr 2; omega⟩
        cases j with
        | zero => exact hk
        | succ j =>
          have := q1 j (by omega)
          rwa [show k + (j + 1) = k + 1 + j by omega]
      · refine .inr ⟨j + 1, by omega, by rwa [show k + (j + 1) = k + 1 + j by omega], fun i hi => ?_, r, G2, q3, by rwa [show k + (j + 1) = k + 1 + j by omega]⟩
        cases i with
        | zero => exact hk
        | succ i =>
          have := q2 i (by omega)
          rwa [show k + (i + 1) = k + 1 + i by omega]
/-- a walk, no answer within -/
theorem for_ix {it : Gm → Res Itv} {G : Gm} {lk : List Nat} {ds : List PyData} (S : Nat → Gm) (hit : it G = .ok (ds, lk) G) (h0 : lockAll G lk = S 0) (hs : ∀ j d, ds[j]? = some d → ∃ G1, tg d (S j) = some G1 ∧ (body G1 = .ok .nx (S (j + 1)) ∨ body G1 = .ok .ct (S (j + 1)))) :
    sFor it tg body G = .ok .nx (unlockAll G (S ds.length)) := by
  have h := loop_ix (tg := tg) (body := body) S (fun _ => false) (fun _ _ _ => False) ds 0 fun j d hj => by
    rw [Nat.zero_add]
    obtain ⟨G1, e1, e2⟩ := hs j d hj
    exact ⟨G1, e1, fun _ => e2, fun z => by cases z⟩
  rw [Nat.zero_add] at h
  rcases h with ⟨_, h⟩ | ⟨_, _, z, _⟩
  · exact for_nx hit (by rw [h0]; exact h)
  · cases z
/-- a walk that may end with an answer -/
theorem for_ixJ {it : Gm → Res Itv} {G : Gm} {lk : List Nat} {ds : List PyData} (S : Nat → Gm) (stop : Nat → Bool) (J : Nat → Rv → Gm → Prop) (hit : it G = .ok (ds, lk) G) (h0 : lockAll G lk = S 0)
    (hs : ∀ j d, ds[j]? = some d → ∃ G1, tg d (S j) = some G1 ∧ (stop j = false → body G1 = .ok .nx (S (j + 1)) ∨ body G1 = .ok .ct (S (j + 1))) ∧ (stop j = true → ∃ r G2, body G1 = .ok (.rt r) G2 ∧ J j r (unlockAll G G2))) :
    ((∀ j < ds.length, stop j = false) ∧ sFor it tg body G = .ok .nx (unlockAll G (S ds.length))) ∨ ∃ j < ds.length, stop j = true ∧ (∀ i < j, stop i = false) ∧ ∃ r G2, sFor it tg body G = .ok (.rt r) G2 ∧ J j r G2 := by
  have h := loop_ix (tg := tg) (body := body) S stop (fun j r G2 => J j r (unlockAll G G2)) ds 0 fun j d hj => by
    rw [Nat.zero_add]
    exact hs j d hj
  simp only [Nat.zero_add] at h
  rcases h with ⟨h1, h⟩ | ⟨j, hj, h1, h2, r, G2, h3, h4⟩
  · exact .inl ⟨h1, for_nx hit (by rw [h0]; exact h)⟩
  · exact .inr ⟨j, hj, h1, h2, r, _, for_rt hit (by rw [h0]; exact h3), h4⟩
end
theorem at_range {α : Type} {n j : Nat} {e : Nat → α} {d : α} (h : ((List.range n).map e)[j]? = some d) : j < n ∧ d = e j := by
  rw [List.getElem?_map] at h
  by_cases hj : j < n
  · rw [List.getElem?_range hj] at h
    cases h
    exact ⟨hj, rfl⟩
  · rw [List.getElem?_eq_none (by simp; omega)] at h
    cases h
/-- over range(n) -/
theorem rg_ix {f : Gm → Res Rv} {body : Gm → Res Out} {v n : Nat} {G : Gm} (S : Nat → Gm) (hf : f G = .ok (.d (natD n)) G) (hn : n ≤ 100000) (h0 : G = S 0) (hs : ∀ j < n, ∃ G1, gN v (natD j) (S j) = some G1 ∧ (body G1 = .ok .nx (S (j + 1)) ∨ body G1 = .ok .ct (S (j + 1)))) :
    sFor (iRg1 f) (gN v) body G = .ok .nx (unlockAll G (S n)) := by
  have := for_ix (tg := gN v) (body := body) (lk := []) S (rg_ev n hf hn) (by rw [lock_nil]; exact h0) fun j d hj => by
    obtain ⟨h1, rfl⟩ := at_range hj
    exact hs j h1
  rw [List.length_map, List.length_range] at this
  exact this
theorem rg_ixJ {f : Gm → Res Rv} {body : Gm → Res Out} {v n : Nat} {G : Gm} (S : Nat → Gm) (stop : Nat → Bool) (J : Nat → Rv → Gm → Prop) (hf : f G = .ok (.d (natD n)) G) (hn : n ≤ 100000) (h0 : G = S 0)
    (hs : ∀ j < n, ∃ G1, gN v (natD j) (S j) = some G1 ∧ (stop j = false → body G1 = .ok .nx (S (j + 1)) ∨ body G1 = .ok .ct (S (j + 1))) ∧ (stop j = true → ∃ r G2, body G1 = .ok (.rt r) G2 ∧ J j r (unlockAll G G2))) :
    ((∀ j < n, stop j = false) ∧ sFor (iRg1 f) (gN v) body G = .ok .nx (unlockAll G (S n))) ∨ ∃ j < n, stop j = true ∧ (∀ i < j, stop i = false) ∧ ∃ r G2, sFor (iRg1 f) (gN v) body G = .ok (.rt r) G2 ∧ J j r G2 := by
  have := for_ixJ (tg := gN v) (body := body) (lk := []) S stop J (rg_ev n hf hn) (by rw [lock_nil]; exact h0) fun j d hj => by
    obtain ⟨h1, rfl⟩ := at_range hj
    exact hs j h1
  rw [List.length_map, List.length_range] at this
  exact this
/-- a fold over range(n), by place -/
theorem foldl_range_succ {β : Type} (f : β → Nat → β) (b : β) (n : Nat) : (List.range (n + 1)).foldl f b = f ((List.range n).foldl f b) n := by
  rw [List.range_succ, List.foldl_append]; rfl
/-! ### lists of ints changed by place -/
def updF (s : Nat → Int) (i : Nat) (v : Int) : Nat → Int := fun j => if j = i then v else s j
theorem inZ_set {n i : Nat} (s : Nat → Int) (v : Int) : (inZ n s).set i (.int v) = inZ n (updF s i v) := by
  apply List.ext_getElem?
  intro j
  by_cases hj : j < n
  · rw [inZ_get _ hj]
    unfold updF
    by_cases e : j = i
    · subst e
      rw [List.getElem?_set_self (by rw [inZ_len]; exact hj), if_pos rfl]
    · rw [List.getElem?_set_ne (Ne.symm e), inZ_get _ hj, if_neg e]
  · rw [List.getElem?_eq_none (by rw [List.length_set, inZ_len]; omega), List.getElem?_eq_none (by rw [inZ_len]; omega)]
theorem inZ_congr {n : Nat} {s t : Nat → Int} (h : ∀ j < n, s j = t j) : inZ n s = inZ n t := List.map_congr_left fun j hj => by rw [h j (List.mem_range.mp hj)]
theorem inZ_rep (n : Nat) : List.replicate n (PyData.int 0) = inZ n fun _ => 0 := by
  unfold inZ
  rw [List.map_const', List.length_range]
theorem eqvAll_inZ (s t : Nat → Int) : ∀ l : List Nat, PyData.eqvAll (l.map fun j => PyData.int (s j)) (l.map fun j => PyData.int (t j)) = l.all fun j => decide (s j = t j)
  | [] => by simp [PyData.eqvAll]
  | x :: l => by
    rw [List.map_cons, List.map_cons, PyData.eqvAll, eqvAll_inZ s t l, List.all_cons]
    have e : PyData.eqv (.int (s x)) (.int (t x)) = decide (s x = t x) := by
      rw [PyData.eqv]
      by_cases h : s x = t x <;> simp [h]
    rw [e]
def sameB (n : Nat) (s t : Nat → Int) : Bool := (List.range n).all fun j => decide (s j = t j)
theorem okD_inZ (k n : Nat) (s : Nat → Int) : okD (k + 1) (.list (inZ n s)) = true := by
  show (inZ n s).all (okD k) = true
  rw [List.all_eq_true]
  intro d hd
  obtain ⟨x, _, rfl⟩ := List.mem_map.mp hd
  cases k <;> rfl
theorem eq_inZ {G : Gm} {i j n : Nat} {s t : Nat → Int} (h1 : ownAt G i = some (.lst (inZ n s))) (h2 : ownAt G j = some (.lst (inZ n t))) : kEq G (.own i) (.own j) = .ok (.d (.bool (sameB n s t))) G := by
  show (match rd G (.own i), rd G (.own j) with | some x, some y => (match Fx.opEq x y with | some z => Res.ok (Rv.d z) G | none => .bad) | _, _ => .bad) = _
  rw [show rd G (.own i) = some (.list (inZ n s)) by show (ownAt G i).bind aoD = _; rw [h1]; rfl, show rd G (.own j) = some (.list (inZ n t)) by show (ownAt G j).bind aoD = _; rw [h2]; rfl]
  dsimp only
  unfold Fx.opEq
  rw [okD_inZ 59, okD_inZ 59]
  have e : PyData.eqv (.list (inZ n s)) (.list (inZ n t)) = sameB n s t := by
    rw [PyData.eqv]
    exact eqvAll_inZ s t (List.range n)
  rw [e]
  rfl
theorem vLenG {G : Gm} {f : Gm → Res Rv} {ds : List PyData} (hf : f G = .ok (.d (.list ds)) G) : (fCallK kLen (fCons f fNil)) G = .ok (.d (.int ds.length)) G := by
  unfold fCallK fCons
  rw [hf]
  rfl
end C0
namespace C0
open PySem PySem.Spec PyProof.Rows L2 Fx
/-! ### the greatest sums of walks -/
def rlx (f : Nat → Nat → Int) (s : Nat → Int) (i : Nat) (m : Int) (k : Nat) : Int := if i ≠ k ∧ m < f i k + s k then f i k + s k else m
/-- one round at i, over the first t -/
def bfT (f : Nat → Nat → Int) (s : Nat → Int) (i t : Nat) : Int := (List.range t).foldl (rlx f s i) (s i)
def bf (f : Nat → Nat → Int) (n : Nat) (s : Nat → Int) : Nat → Int := fun i => bfT f s i n
def seqS (f : Nat → Nat → Int) (n : Nat) : Nat → Nat → Int
  | 0 => fun _ => 0
  | t + 1 => bf f n (seqS f n t)
/-- the list after the first i rows -/
def half (f : Nat → Nat → Int) (n : Nat) (s : Nat → Int) (i : Nat) : Nat → Int := fun j => if j < i then bf f n s j else s j
theorem ne_natI (i k : Nat) : (!decide ((i : Int) = (k : Int))) = decide (i ≠ k) := by
  by_cases h : i = k
  · subst h; simp
  · rw [decide_eq_false (by omega), decide_eq_true h]; rfl
section
variable {n : Nat} {f : Nat → Nat → Int} {s : Nat → Int}
abbrev LS (n : Nat) (f : Nat → Nat → Int) (s : Nat → Int) (a b c d : Sl) : Gm := [.d (.list (tab n f)), .d (natD n), .l (.lst (inZ n s)), a, b, c, d]
theorem longest_in {i k t : Nat} (hi : i < n) (hk : k < n) (a : Sl) :
    longest_b1 (LS n f s a (.l (.lst (inZ n (updF (half f n s i) i (bfT f s i k))))) (.d (natD i)) (.d (natD k))) = .ok .nx (LS n f s a (.l (.lst (inZ n (updF (half f n s i) i (bfT f s i (k + 1)))))) (.d (natD i)) .no) := by
  have g1 : fOp2 kIdx (fOp2 kIdx (fVar 0) (fVar 5)) (fVar 6) (LS n f s a (.l (.lst (inZ n (updF (half f n s i) i (bfT f s i k))))) (.d (natD i)) (.d (natD k))) = .ok (.d (.int (f i k))) (LS n f s a (.l (.lst (inZ n (updF (half f n s i) i (bfT f s i k))))) (.d (natD i)) (.d (natD k))) :=
    idx_ev (idx_ev rfl rfl (.inr rfl) rfl (tab_at f hi)) rfl (.inr rfl) rfl (inZ_at _ hk)
  have g2 : fOp2 kIdx (fVar 2) (fVar 6) (LS n f s a (.l (.lst (inZ n (updF (half f n s i) i (bfT f s i k))))) (.d (natD i)) (.d (natD k))) = .ok (.d (.int (s k))) (LS n f s a (.l (.lst (inZ n (updF (half f n s i) i (bfT f s i k))))) (.d (natD i)) (.d (natD k))) :=
    idx_ev rfl rfl (.inr rfl) rfl (inZ_at _ hk)
  have g3 : fOp2 kIdx (fVar 4) (fVar 5) (LS n f s a (.l (.lst (inZ n (updF (half f n s i) i (bfT f s i k))))) (.d (natD i)) (.d (natD k))) = .ok (.d (.int (bfT f s i k))) (LS n f s a (.l (.lst (inZ n (updF (half f n s i) i (bfT f s i k))))) (.d (natD i)) (.d (natD k))) :=
    idx_ev rfl rfl (.inr rfl) rfl ((inZ_at _ hi).trans (by unfold updF; rw [if_pos rfl]))
  have g4 := op_ev (k := kAdd) (R := .ok (.d (.int (f i k + s k))) (LS n f s a (.l (.lst (inZ n (updF (half f n s i) i (bfT f s i k))))) (.d (natD i)) (.d (natD k)))) g1 g2 rfl
  have c : (tAnd' (fTest (fOp2 kNe (fVar 5) (fVar 6))) (fTest (fOp2 kGt (fOp2 kAdd (fOp2 kIdx (fOp2 kIdx (fVar 0) (fVar 5)) (fVar 6)) (fOp2 kIdx (fVar 2) (fVar 6))) (fOp2 kIdx (fVar 4) (fVar 5))))) (LS n f s a (.l (.lst (inZ n (updF (half f n s i) i (bfT f s i k))))) (.d (natD i)) (.d (natD k)))
      = .ok (decide (i ≠ k) && decide (bfT f s i k < f i k + s k)) (LS n f s a (.l (.lst (inZ n (updF (half f n s i) i (bfT f s i k))))) (.d (natD i)) (.d (natD k))) := by
    refine and_ev (test_ev (op_ev rfl rfl ?_)) fun _ => test_ev (op_ev g4 g3 rfl)
    rw [kNe_nat, ← decide_not]
  have st : bfT f s i (k + 1) = rlx f s i (bfT f s i k) k := foldl_range_succ _ _ _
  by_cases hc : i ≠ k ∧ bfT f s i k < f i k + s k
  · refine kl_nx (G1 := LS n f s a (.l (.lst (inZ n (updF (half f n s i) i (bfT f s i (k + 1)))))) (.d (natD i)) (.d (natD k))) (if_t c (by rw [decide_eq_true hc.1, decide_eq_true hc.2]; rfl) ?_)
    refine (setItem_ev (fo := fVar 4) (fi := fVar 5) (j := 4) (m := i) (ds := inZ n (updF (half f n s i) i (bfT f s i k))) g4 rfl rfl rfl (by rw [inZ_len]; exact ixN_nat hi)).trans ?_
    rw [inZ_set, st]
    have : updF (updF (half f n s i) i (bfT f s i k)) i (f i k + s k) = updF (half f n s i) i (rlx f s i (bfT f s i k) k) := by
      funext j
      unfold updF rlx
      rw [if_pos hc]
      split <;> rfl
    rw [this]
    rfl
  · refine kl_nx (G1 := LS n f s a (.l (.lst (inZ n (updF (half f n s i) i (bfT f s i (k + 1)))))) (.d (natD i)) (.d (natD k))) (if_f c (by
      rw [← Bool.not_eq_true, Bool.and_eq_true, decide_eq_true_eq, decide_eq_true_eq]
      exact hc) ?_)
    rw [st]
    unfold rlx
    rw [if_neg hc]
    rfl
theorem half_zero : updF (half f n s 0) 0 (s 0) = half f n s 0 := by
  funext j
  unfold updF half
  split
  · rename_i h; rw [if_neg (by omega), h]
  · rfl
theorem half_start (i : Nat) : updF (half f n s i) i (bfT f s i 0) = half f n s i := by
  funext j
  unfold updF half
  split
  · rename_i h; rw [if_neg (by omega), h]; rfl
  · rfl
theorem half_next (i : Nat) : updF (half f n s i) i (bfT f s i n) = half f n s (i + 1) := by
  funext j
  unfold updF half
  split
  · rename_i h; rw [if_pos (by omega), h]; rfl
  · rename_i h
    by_cases hj : j < i
    · rw [if_pos hj, if_pos (by omega)]
    · rw [if_neg hj, if_neg (by omega)]
theorem longest_row {i : Nat} (hn : n ≤ 1000) (hi : i < n) (a : Sl) (t : Nat) (ha : a = .d (natD t)) :
    longest_b2 (LS n f s a (.l (.lst (inZ n (half f n s i)))) (.d (natD i)) .no) = .ok .nx (LS n f s a (.l (.lst (inZ n (half f n s (i + 1))))) .no .no) := by
  subst ha
  have lp := rg_ix (f := fVar 1) (body := longest_b1) (v := 6) (n := n) (G := LS n f s (.d (natD t)) (.l (.lst (inZ n (half f n s i)))) (.d (natD i)) .no) (fun k => LS n f s (.d (natD t)) (.l (.lst (inZ n (updF (half f n s i) i (bfT f s i k))))) (.d (natD i)) .no) rfl (by omega) (by rw [half_start]) fun k hk => ⟨_, rfl, .inl (longest_in (t := t) hi hk _)⟩
  rw [half_next] at lp
  exact kl_nx (G1 := LS n f s (.d (natD t)) (.l (.lst (inZ n (half f n s (i + 1))))) (.d (natD i)) .no) lp
theorem longest_rows (hn : n ≤ 1000) (t : Nat) :
    longest_s4 (LS n f s (.d (natD t)) (.l (.lst (inZ n s))) .no .no) = .ok .nx (LS n f s (.d (natD t)) (.l (.lst (inZ n (bf f n s)))) .no .no) := by
  have lp := rg_ix (f := fVar 1) (body := longest_b2) (v := 5) (n := n) (G := LS n f s (.d (natD t)) (.l (.lst (inZ n s))) .no .no) (fun i => LS n f s (.d (natD t)) (.l (.lst (inZ n (half f n s i)))) .no .no) rfl (by omega) (by
    rw [show half f n s 0 = s from funext fun j => if_neg (Nat.not_lt_zero _)]) fun i hi => ⟨_, rfl, .inl (longest_row hn hi _ t rfl)⟩
  rw [show inZ n (half f n s n) = inZ n (bf f n s) from inZ_congr fun j hj => if_pos hj] at lp
  exact lp
theorem longest_turn (hn : n ≤ 1000) (t : Nat) : (sameB n (bf f n s) s = false → longest_b3 (LS n f s (.d (natD t)) .no .no .no) = .ok .nx (LS n f (bf f n s) .no .no .no .no)) ∧
    (sameB n (bf f n s) s = true → ∃ G2, longest_b3 (LS n f s (.d (natD t)) .no .no .no) = .ok (.rt (.own 2)) G2 ∧ G2 = LS n f s (.d (natD t)) (.l (.lst (inZ n (bf f n s)))) .no .no) := by
  have e1 : longest_s3 (LS n f s (.d (natD t)) .no .no .no) = .ok .nx (LS n f s (.d (natD t)) (.l (.lst (inZ n s))) .no .no) := rfl
  have e2 := longest_rows (f := f) (s := s) hn t
  have c : (fTest (fOp2 kEq (fVar 4) (fVar 2))) (LS n f s (.d (natD t)) (.l (.lst (inZ n (bf f n s)))) .no .no) = .ok (sameB n (bf f n s) s) (LS n f s (.d (natD t)) (.l (.lst (inZ n (bf f n s)))) .no .no) := test_ev (op_ev rfl rfl (eq_inZ rfl rfl))
  constructor
  · intro h
    exact kl_nx (G1 := LS n f (bf f n s) (.d (natD t)) .no .no .no) (seq_go e1 (seq_go e2 (seq_go (if_f c h rfl) rfl)))
  · intro h
    exact ⟨_, kl_rt (seq_go e1 (seq_go e2 (seq_rt (if_t c h rfl)))), rfl⟩
end
/-- the first round that changes nothing -/
def firstS (f : Nat → Nat → Int) (n N : Nat) : Option Nat := (List.range N).find? fun t => sameB n (seqS f n (t + 1)) (seqS f n t)
def walkS (f : Nat → Nat → Int) (n : Nat) : Option (Nat → Int) := (firstS f n n).map (seqS f n)
theorem find_none {N : Nat} {p : Nat → Bool} (h : ∀ j < N, p j = false) : (List.range N).find? p = none := by
  rw [List.find?_eq_none]
  intro x hx
  rw [h x (List.mem_range.mp hx)]
  exact Bool.false_ne_true
theorem find_at {N j : Nat} {p : Nat → Bool} (hj : j < N) (h : p j = true) (h0 : ∀ i < j, p i = false) : (List.range N).find? p = some j := by
  rw [List.find?_range_eq_some]
  exact ⟨h, List.mem_range.mpr hj, fun i hi => by rw [h0 i hi]; rfl⟩
def lstO (n : Nat) : Option (Nat → Int) → Rv
  | none => .d .none
  | some s => .new (.lst (inZ n s))
theorem longest_ev {n : Nat} (hn : n ≤ 1000) (f : Nat → Nat → Int) : F_longest [.d (.list (tab n f))] = .ok (lstO n (walkS f n)) [.d (.list (tab n f))] := by
  have e1 : longest_s1 [.d (.list (tab n f)), .no, .no, .no, .no, .no, .no] = .ok .nx [.d (.list (tab n f)), .d (natD n), .no, .no, .no, .no, .no] := by
    refine set_d (G1 := [.d (.list (tab n f)), .no, .no, .no, .no, .no, .no]) ((vLenG rfl).trans ?_)
    rw [tab_len]
    rfl
  have e2 : longest_s2 [.d (.list (tab n f)), .d (natD n), .no, .no, .no, .no, .no] = .ok .nx (LS n f (seqS f n 0) .no .no .no .no) := by
    refine set_new (G1 := [.d (.list (tab n f)), .d (natD n), .no, .no, .no, .no, .no]) ((mulL (k := n) rfl hn).trans ?_)
    rw [inZ_rep]
    rfl
  rcases rg_ixJ (f := fVar 1) (body := longest_b3) (v := 3) (n := n) (G := LS n f (seqS f n 0) .no .no .no .no) (fun t => LS n f (seqS f n t) .no .no .no .no) (fun t => sameB n (seqS f n (t + 1)) (seqS f n t)) (fun t r G2 => r = .own 2 ∧ G2 = LS n f (seqS f n t) (.d (natD t)) (.l (.lst (inZ n (seqS f n (t + 1))))) .no .no) rfl (by omega) rfl (fun t ht => ⟨_, rfl, fun h => .inl ((longest_turn hn t).1 h), fun h => by
      obtain ⟨G2, h1, rfl⟩ := (longest_turn hn t).2 h
      exact ⟨_, _, h1, rfl, rfl⟩⟩) with ⟨h1, h2⟩ | ⟨t, ht, h1, h2, r, G2, h3, rfl, rfl⟩
  · unfold walkS firstS
    rw [find_none h1]
    exact run_d (LS n f (seqS f n n) .no .no .no .no) (seq_go e1 (seq_go e2 (seq_go h2 rfl)))
  · unfold walkS firstS
    rw [find_at ht h1 h2]
    exact run_own (i := 2) (LS n f (seqS f n t) (.d (natD t)) (.l (.lst (inZ n (seqS f n (t + 1))))) .no .no) (seq_go e1 (seq_go e2 (seq_rt h3)))
def tupO (n : Nat) : Option (Nat → Int) → PyData
  | none => .none
  | some s => .tuple (inZ n s)
theorem leastp_ev {g : List (List Int)} {os : List Nat} {n m : Nat} (h : Good g n m) (ho : Own os n m) : F_least_payments [.d (gameD g), .d (osD os)] = .ok (.d (tupO n (walkS (gp (wt g os)) n))) [.d (gameD g), .d (osD os)] := by
  have n6 := h.n6
  have e1 : least_payments_s1 [.d (gameD g), .d (osD os), .no] = .ok .nx [.d (gameD g), .d (osD os), .no] := expr_ev (call_ev [gameD g, osD os] rfl (share_ok h ho.fit))
  have e2 : (fCallK (kCall F_longest) (fCons (fCallK (kCall F_gaps_of) (fCons (fCallK (kCall F_worth_table) (fCons (fVar 0) (fCons (fVar 1) fNil))) fNil)) fNil)) [.d (gameD g), .d (osD os), .no] = .ok (lstO n (walkS (gp (wt g os)) n)) [.d (gameD g), .d (osD os), .no] :=
    call_l (cons_ev (call_l (cons_ev (call_new [gameD g, osD os] rfl (table_ev h ho)) rfl) rfl (gaps_ev n (by omega) _)) rfl) rfl (longest_ev (by omega) _) (by
      intro i z
      cases e : walkS (gp (wt g os)) n with
      | none => rw [e] at z; cases z
      | some s => rw [e] at z; cases z)
  cases e : walkS (gp (wt g os)) n with
  | none =>
    rw [e] at e2
    exact run_d [.d (gameD g), .d (osD os), .d .none] (seq_go e1 (seq_go (set_d (G1 := [.d (gameD g), .d (osD os), .no]) e2) (ret_ev rfl)))
  | some s =>
    rw [e] at e2
    refine run_d [.d (gameD g), .d (osD os), .l (.lst (inZ n s))] (seq_go e1 (seq_go (set_new (G1 := [.d (gameD g), .d (osD os), .no]) e2) (ret_ev ?_)))
    rfl
end C0
namespace C0
open PySem PySem.Spec PyProof.Rows L2 Fx
local macro_rules | `(tactic| walk_at "ev") => `(tactic| simp only [sRet, sExpr, fCallK, kCall, fCons, fNil, fOp2, fVar, fC, fTup, fUn, fTest, asB, Res.bind_ok, Res.bind_ex, List.getElem?_cons_zero, List.getElem?_cons_succ, vAdd, vSub, vLt, vLe, vGt, vGe, vEq, vNe, vNeg, vAbs, vInt, vIsInt, vIsBool, vIsTup, vIsStr, vLenT, vLenL, vIdxT0, vIdxT1, vIdxT2, argsOf, argOf, List.map_cons, List.map_nil, Bool.false_and, Bool.or_false, Bool.false_or, Bool.true_and, Bool.not_true, Bool.not_false, if_true, if_false, Bool.false_eq_true, *])
/-! ### what is a fraction -/
def ratioB : PyData → Bool
  | .tuple [.int n, .int d] => decide (0 < d) && decide ((Int.gcd n d : Int) = 1)
  | _ => false
/-- a value whose second item is not too wide -/
def thin : PyData → Prop
  | .tuple [_, .int d] => d.natAbs < 2 ^ 400
  | _ => True
theorem is_ratio_ev (v : PyData) (hv : thin v) : F_is_ratio [.d v] = .ok (.d (.bool (ratioB v))) [.d v] := by
  cases v with
  | tuple ds =>
    refine run_d [.d (.tuple ds)] ?_
    by_cases hl : ds.length = 2
    · match ds, hl, hv with
      | [x, y], _, hv =>
        have c : (tOr' (tNot' (fTest (fUn (kIsi "tuple") (fVar 0)))) (tOr' (fTest (fOp2 kNe (fCallK kLen (fCons (fVar 0) fNil)) (fC (.int 2)))) (tOr' (tNot' (fTest (fCallK (kCall F_is_whole) (fCons (fOp2 kIdx (fVar 0) (fC (.int 0))) fNil)))) (tNot' (fTest (fCallK (kCall F_is_whole) (fCons (fOp2 kIdx (fVar 0) (fC (.int 1))) fNil))))))) [.d (.tuple [x, y])]
            = .ok (false || (false || (!isIntD x || !isIntD y))) [.d (.tuple [x, y])] :=
          or_ev rfl fun _ => or_ev rfl fun _ => or_ev (not_ev (test_ev (call_ev [x] (cons_ev (idx_ev rfl rfl (.inl rfl) rfl (at0 _ _)) rfl) (whole_ev x)))) fun _ => not_ev (test_ev (call_ev [y] (cons_ev (idx_ev rfl rfl (.inl rfl) rfl (at1 _ _ _)) rfl) (whole_ev y)))
        cases hx : isIntD x with
        | false =>
          rw [hx] at c
          have : ratioB (.tuple [x, y]) = false := by cases x <;> first | rfl | cases hx
          rw [this]
          exact seq_rt (if_t c rfl rfl)
        | true =>
          cases hy : isIntD y with
          | false =>
            rw [hx, hy] at c
            have : ratioB (.tuple [x, y]) = false := by cases x <;> cases y <;> first | rfl | cases hy
            rw [this]
            exact seq_rt (if_t c rfl rfl)
          | true =>
            rw [hx, hy] at c
            obtain ⟨a, rfl⟩ : ∃ a, x = .int a := by cases x <;> first | exact ⟨_, rfl⟩ | cases hx
            obtain ⟨b, rfl⟩ : ∃ b, y = .int b := by cases y <;> first | exact ⟨_, rfl⟩ | cases hy
            refine seq_go (if_f c rfl rfl) (ret_ev ?_)
            refine fand_ev (G := [.d (.tuple [.int a, .int b])]) (op_ev (idx_ev rfl rfl (.inl rfl) rfl (at1 _ _ _)) rfl (vGt _ _ _)) fun _ => op_ev (call_ev [.int a, .int b] (cons_ev (idx_ev rfl rfl (.inl rfl) rfl (at0 _ _)) (cons_ev (idx_ev rfl rfl (.inl rfl) rfl (at1 _ _ _)) rfl)) (common_ev a b hv)) rfl (vEq _ _ _)
    · have c : (tOr' (tNot' (fTest (fUn (kIsi "tuple") (fVar 0)))) (tOr' (fTest (fOp2 kNe (fCallK kLen (fCons (fVar 0) fNil)) (fC (.int 2)))) (tOr' (tNot' (fTest (fCallK (kCall F_is_whole) (fCons (fOp2 kIdx (fVar 0) (fC (.int 0))) fNil)))) (tNot' (fTest (fCallK (kCall F_is_whole) (fCons (fOp2 kIdx (fVar 0) (fC (.int 1))) fNil))))))) [.d (.tuple ds)]
          = .ok (false || (true || false)) [.d (.tuple ds)] := by
        refine or_ev rfl fun _ => or_ev (test_ev (op_ev rfl rfl ?_)) fun z => by cases z
        rw [show (true : Bool) = !decide (((ds.length : Nat) : Int) = 2) by rw [decide_eq_false (by omega)]; rfl]
        exact vNe _ _ _
      have : ratioB (.tuple ds) = false := by
        match ds, hl with
        | [], _ => rfl
        | [x], _ => cases x <;> rfl
        | [_, _], h => exact absurd rfl h
        | x :: y :: _ :: _, _ => cases x <;> first | rfl | (cases y <;> rfl)
      rw [this]
      exact seq_rt (if_t c rfl rfl)
  | _ => rfl
/-! ### payments -/
def pay1 : PyData → Bool
  | .tuple [.int n, .int d] => decide (0 < d) && decide ((Int.gcd n d : Int) = 1) && decide (0 ≤ n)
  | _ => false
def payB (n : Nat) : PyData → Bool
  | .tuple ds => decide (ds.length = n) && ds.all pay1
  | _ => false
def thinA : PyData → Prop
  | .tuple ds => ds.length ≤ 1000 → ∀ d ∈ ds, thin d
  | _ => True
theorem arepay_ev {g : List (List Int)} {n m : Nat} (h : Good g n m) (v : PyData) (hv : thinA v) : F_are_payments [.d (gameD g), .d v] = .ok (.d (.bool (payB n v))) [.d (gameD g), .d v] := by
  have n6 := h.n6
  cases v with
  | tuple ds =>
    refine run_d [.d (gameD g), .d (.tuple ds), .no] ?_
    have c : (tOr' (tNot' (fTest (fUn (kIsi "tuple") (fVar 1)))) (fTest (fOp2 kNe (fCallK kLen (fCons (fVar 1) fNil)) (fCallK kLen (fCons (fVar 0) fNil))))) [.d (gameD g), .d (.tuple ds), .no] = .ok (false || !decide ((ds.length : Int) = n)) [.d (gameD g), .d (.tuple ds), .no] :=
      or_ev rfl fun _ => test_ev (op_ev rfl (lenG_ev h rfl) (vNe _ _ _))
    by_cases hl : ds.length = n
    · rw [show payB n (.tuple ds) = ds.all pay1 by simp [payB, hl]]
      refine seq_go (if_f c (by simp [hl]) rfl) (ret_ev ?_)
      refine all_ev (comp_ev0 (lk := []) rfl rfl rfl (by omega) fun d hd => .d ?_)
      have ir := is_ratio_ev d (hv (by omega) d hd)
      show fAnd _ _ [.d (gameD g), .d (.tuple ds), .d d] = _
      cases hr : ratioB d with
      | false =>
        rw [hr] at ir
        rw [show pay1 d = (false && false) by
          unfold ratioB at hr
          unfold pay1
          split at hr
          · simp only [hr, Bool.false_and]
          · rfl]
        exact fand_ev (call_ev [d] rfl ir) fun z => by cases z
      | true =>
        rw [hr] at ir
        unfold ratioB at hr
        split at hr
        · rename_i a b
          rw [show pay1 (.tuple [.int a, .int b]) = (true && decide (0 ≤ a)) by unfold pay1; dsimp only; rw [hr]]
          exact fand_ev (call_ev [.tuple [.int a, .int b]] rfl ir) fun _ => op_ev (idx_ev rfl rfl (.inl rfl) rfl (at0 _ _)) rfl (vGe _ _ _)
        · cases hr
    · rw [show payB n (.tuple ds) = false by simp [payB, hl]]
      exact seq_rt (if_t c (by simp; omega) rfl)
  | _ => rfl
def payD (ps : List (Int × Int)) : PyData := .tuple (ps.map frD)
def pk (ps : List (Int × Int)) (i : Nat) : Int × Int := ps.getD i (0, 1)
theorem pay_at {ps : List (Int × Int)} {i : Nat} (h : i < ps.length) : atI (ps.map frD) (i : Int) = some (frD (pk ps i)) := atI_natL (by
  rw [List.getElem?_map, List.getElem?_eq_getElem h]
  unfold pk
  rw [List.getD_eq_getElem?_getD, List.getElem?_eq_getElem h]
  rfl)
/-- i envies k -/
def envP (w : Nat → Nat → Int) (ps : List (Int × Int)) (i k : Nat) : Bool := decide ((subF (addF (w i i, 1) (pk ps i)) (addF (w i k, 1) (pk ps k))).1 < 0)
def calmB (n : Nat) (w : Nat → Nat → Int) (ps : List (Int × Int)) : Bool := (List.range n).all fun i => (List.range n).all fun k => !envP w ps i k
/-- a denominator that is told, and small -/
def Fq (a : Int × Int) : Prop := 0 < a.2 ∧ a.2 < 2 ^ 20
theorem Fq.fp {a : Int × Int} (h : Fq a) : Fp a := ⟨h.1, by have := h.2; omega⟩
theorem one_fp (x : Int) : Fp (x, 1) := ⟨by show (0 : Int) < 1; decide, by show (1 : Int) < 2 ^ 40; decide⟩
theorem Fq.add1 {a : Int × Int} (x : Int) (h : Fq a) : Fq (addF (x, 1) a) := by
  unfold addF
  have e : (1 : Int) * a.2 = a.2 := Int.one_mul _
  show Fq (red _ ((1 : Int) * a.2))
  rw [e]
  exact ⟨red_pos h.1, Int.lt_of_le_of_lt (red_le h.1) h.2⟩
theorem seek_all {n : Nat} {p : Nat → Bool} {r : Rv} (h : (List.range n).all p = true) : (List.range n).findSome? (fun i => if p i then none else some r) = none := by
  rw [List.findSome?_eq_none_iff]
  intro i hi
  rw [if_pos (List.all_eq_true.mp h i hi)]
theorem seek_not {n : Nat} {p : Nat → Bool} {r : Rv} (h : (List.range n).all p = false) : (List.range n).findSome? (fun i => if p i then none else some r) = some r := by
  cases e : (List.range n).findSome? (fun i => if p i then none else some r) with
  | none =>
    exfalso
    rw [List.findSome?_eq_none_iff] at e
    have : (List.range n).all p = true := List.all_eq_true.mpr fun i hi => by
      have := e i hi
      cases hp : p i with
      | true => rfl
      | false => rw [hp] at this; cases this
    rw [this] at h; cases h
  | some r' =>
    obtain ⟨i, _, hi⟩ := List.exists_of_findSome?_eq_some e
    split at hi
    · cases hi
    · exact hi.symm
theorem calm_ev {n : Nat} (hn : n ≤ 1000) (w : Nat → Nat → Int) (ps : List (Int × Int)) (hl : ps.length = n) (hp : ∀ i < n, Fq (pk ps i)) : ∃ A, F_calm_table [.d (.list (tab n w)), .d (payD ps)] = .ok (.d (.bool (calmB n w ps))) A := by
  have s1 : ∀ i < n, calm_table_s1 [.d (.list (tab n w)), .d (payD ps), .d (natD i), .d (.list (inZ n (w i))), .no, .no, .no] = .ok .nx [.d (.list (tab n w)), .d (payD ps), .d (natD i), .d (.list (inZ n (w i))), .d (frD (addF (w i i, 1) (pk ps i))), .no, .no] := fun i hi =>
    set_d (G1 := [.d (.list (tab n w)), .d (payD ps), .d (natD i), .d (.list (inZ n (w i))), .no, .no, .no]) (call_ev [frD (w i i, 1), frD (pk ps i)] (cons_ev (tup_ev (ds := [.int (w i i), .int 1]) (hl := by show 2 ≤ 16777216; omega) (cons_ev (idx_ev rfl rfl (.inr rfl) rfl (inZ_at _ hi)) rfl)) (cons_ev (idx_ev rfl rfl (.inl rfl) rfl (pay_at (by omega))) rfl)) (plus_ev (one_fp _) (hp i hi).fp))
  have s2 : ∀ i < n, ((List.range n).all (fun k => !envP w ps i k) = true → calm_table_s2 [.d (.list (tab n w)), .d (payD ps), .d (natD i), .d (.list (inZ n (w i))), .d (frD (addF (w i i, 1) (pk ps i))), .no, .no] = .ok .nx [.d (.list (tab n w)), .d (payD ps), .d (natD i), .d (.list (inZ n (w i))), .d (frD (addF (w i i, 1) (pk ps i))), .no, .no]) ∧
      ((List.range n).all (fun k => !envP w ps i k) = false → ∃ G', calm_table_s2 [.d (.list (tab n w)), .d (payD ps), .d (natD i), .d (.list (inZ n (w i))), .d (frD (addF (w i i, 1) (pk ps i))), .no, .no] = .ok (.rt (.d (.bool false))) G') := fun i hi => by
    have lp := for_seek (body := calm_table_b1) (tg := gT 2 (gsCons (gN 5) (gsCons (gN 6) gsNil))) (it := iEnum (fVar 3)) (G := [.d (.list (tab n w)), .d (payD ps), .d (natD i), .d (.list (inZ n (w i))), .d (frD (addF (w i i, 1) (pk ps i))), .no, .no]) (S := [.d (.list (tab n w)), .d (payD ps), .d (natD i), .d (.list (inZ n (w i))), .d (frD (addF (w i i, 1) (pk ps i))), .no, .no]) (lk := [])
      (fun k => .tuple [natD k, .int (w i k)]) (fun k => if !envP w ps i k then none else some (.d (.bool false))) (List.range n) (by
        rw [← enum_range (α := Nat)]
        exact enum_ev rfl rfl) rfl rfl fun k hk => by
        have hk := List.mem_range.mp hk
        refine ⟨[.d (.list (tab n w)), .d (payD ps), .d (natD i), .d (.list (inZ n (w i))), .d (frD (addF (w i i, 1) (pk ps i))), .d (natD k), .d (.int (w i k))], rfl, ?_⟩
        have a1 := (hp i hi).add1 (w i i)
        have a2 := (hp k hk).add1 (w i k)
        have c : (fTest (fOp2 kLt (fOp2 kIdx (fCallK (kCall F_minus) (fCons (fVar 4) (fCons (fCallK (kCall F_plus) (fCons (fTup (fCons (fVar 6) (fCons (fC (.int 1)) fNil))) (fCons (fOp2 kIdx (fVar 1) (fVar 5)) fNil))) fNil))) (fC (.int 0))) (fC (.int 0)))) [.d (.list (tab n w)), .d (payD ps), .d (natD i), .d (.list (inZ n (w i))), .d (frD (addF (w i i, 1) (pk ps i))), .d (natD k), .d (.int (w i k))]
            = .ok (envP w ps i k) [.d (.list (tab n w)), .d (payD ps), .d (natD i), .d (.list (inZ n (w i))), .d (frD (addF (w i i, 1) (pk ps i))), .d (natD k), .d (.int (w i k))] := by
          refine test_ev (op_ev (idx_ev (ds := [.int (subF (addF (w i i, 1) (pk ps i)) (addF (w i k, 1) (pk ps k))).1, .int (subF (addF (w i i, 1) (pk ps i)) (addF (w i k, 1) (pk ps k))).2]) (call_ev [frD (addF (w i i, 1) (pk ps i)), frD (addF (w i k, 1) (pk ps k))] (cons_ev rfl (cons_ev (call_ev [frD (w i k, 1), frD (pk ps k)] (cons_ev rfl (cons_ev (idx_ev rfl rfl (.inl rfl) rfl (pay_at (by omega))) rfl)) (plus_ev (one_fp _) (hp k hk).fp)) rfl)) (minus_ev a1.fp a2.fp)) rfl (.inl rfl) rfl (at0 _ _)) rfl (vLt _ _ _))
        cases he : envP w ps i k with
        | false =>
          rw [he] at c
          exact .inl (kl_nx (G1 := [.d (.list (tab n w)), .d (payD ps), .d (natD i), .d (.list (inZ n (w i))), .d (frD (addF (w i i, 1) (pk ps i))), .d (natD k), .d (.int (w i k))]) (if_f c rfl rfl))
        | true =>
          rw [he] at c
          exact ⟨_, kl_rt (if_t c rfl rfl)⟩
    constructor
    · intro ha
      rw [seek_all ha] at lp
      exact lp
    · intro ha
      rw [seek_not ha] at lp
      exact lp
  have lp := for_seek (body := calm_table_b2) (tg := gT 2 (gsCons (gN 2) (gsCons (gN 3) gsNil))) (it := iEnum (fVar 0)) (G := [.d (.list (tab n w)), .d (payD ps), .no, .no, .no, .no, .no]) (S := [.d (.list (tab n w)), .d (payD ps), .no, .no, .no, .no, .no]) (lk := [])
    (fun i => .tuple [natD i, .list (inZ n (w i))]) (fun i => if (List.range n).all (fun k => !envP w ps i k) then none else some (.d (.bool false))) (List.range n) (by
      rw [← enum_range (α := Nat), ← tab_map]
      exact enum_ev rfl rfl) rfl rfl fun i hi => by
      have hi := List.mem_range.mp hi
      refine ⟨[.d (.list (tab n w)), .d (payD ps), .d (natD i), .d (.list (inZ n (w i))), .no, .no, .no], rfl, ?_⟩
      cases ha : (List.range n).all (fun k => !envP w ps i k) with
      | true => exact .inl (kl_nx (seq_go (s1 i hi) ((s2 i hi).1 ha)))
      | false =>
        obtain ⟨G', e⟩ := (s2 i hi).2 ha
        exact ⟨_, kl_rt (seq_go (s1 i hi) e)⟩
  cases hc : calmB n w ps with
  | true =>
    rw [seek_all (p := fun i => (List.range n).all fun k => !envP w ps i k) hc] at lp
    exact ⟨_, run_gives (seq_go lp rfl) rfl⟩
  | false =>
    rw [seek_not (p := fun i => (List.range n).all fun k => !envP w ps i k) hc] at lp
    obtain ⟨G', e⟩ := lp
    exact ⟨_, run_gives (seq_rt e) rfl⟩
theorem pay1_of {p : Int × Int} (h : 0 < p.2) (h1 : Int.gcd p.1 p.2 = 1) (h2 : 0 ≤ p.1) : pay1 (frD p) = true := by
  show (decide (0 < p.2) && decide ((Int.gcd p.1 p.2 : Int) = 1) && decide (0 ≤ p.1)) = true
  rw [decide_eq_true h, h1, decide_eq_true h2]
  rfl
theorem thinA_pay {ps : List (Int × Int)} (h : ∀ p ∈ ps, Fq p) : thinA (payD ps) := fun _ d hd => by
  obtain ⟨p, hp, rfl⟩ := List.mem_map.mp hd
  have := h p hp
  show p.2.natAbs < 2 ^ 400
  have h1 := this.1
  have h2 := this.2
  omega
theorem pk_mem {ps : List (Int × Int)} {i : Nat} (h : i < ps.length) : pk ps i ∈ ps := by
  unfold pk
  rw [List.getD_eq_getElem?_getD, List.getElem?_eq_getElem h]
  exact List.getElem_mem h
theorem iscalm_ev {g : List (List Int)} {os : List Nat} {n m : Nat} (h : Good g n m) (ho : Own os n m) (ps : List (Int × Int)) (hl : ps.length = n) (hp : ∀ p ∈ ps, Fq p) (hb : payB n (payD ps) = true) : ∃ A, F_is_calm [.d (gameD g), .d (osD os), .d (payD ps)] = .ok (.d (.bool (calmB n (wt g os) ps))) A := by
  have n6 := h.n6
  have e1 : is_calm_s1 [.d (gameD g), .d (osD os), .d (payD ps)] = .ok .nx [.d (gameD g), .d (osD os), .d (payD ps)] := expr_ev (call_ev [gameD g, osD os] rfl (share_ok h ho.fit))
  have e2 : is_calm_s2 [.d (gameD g), .d (osD os), .d (payD ps)] = .ok .nx [.d (gameD g), .d (osD os), .d (payD ps)] := if_f (not_ev (test_ev (call_ev [gameD g, payD ps] rfl (arepay_ev h (payD ps) (thinA_pay hp))))) (by rw [hb]; rfl) rfl
  obtain ⟨A, e3⟩ := calm_ev (n := n) (by omega) (wt g os) ps hl fun i hi => hp _ (pk_mem (by omega))
  have e4 := table_ev h ho
  exact ⟨_, run_gives (seq_go e1 (seq_go e2 (ret_ev (call_l (cons_ev (call_new [gameD g, osD os] rfl e4) (cons_ev rfl rfl)) rfl e3)))) rfl⟩
end C0
namespace C0
open PySem PySem.Spec PyProof.Rows L2 Fx
/-! ### the mathematics of walks -/
section
variable {n : Nat} {f : Nat → Nat → Int} {s : Nat → Int} {i : Nat}
theorem bfT_self : ∀ t, s i ≤ bfT f s i t
  | 0 => Int.le_refl _
  | t + 1 => by
    have e : bfT f s i (t + 1) = rlx f s i (bfT f s i t) t := foldl_range_succ _ _ _
    have h := bfT_self t
    rw [e]
    unfold rlx
    split <;> omega
theorem bfT_ge : ∀ t k, k < t → i ≠ k → f i k + s k ≤ bfT f s i t
  | t + 1, k, hk, hi => by
    have e : bfT f s i (t + 1) = rlx f s i (bfT f s i t) t := foldl_range_succ _ _ _
    rw [e]
    by_cases h : k = t
    · subst h
      unfold rlx
      split
      · exact Int.le_refl _
      · rename_i c
        have : ¬ bfT f s i k < f i k + s k := fun z => c ⟨hi, z⟩
        omega
    · have := bfT_ge t k (by omega) hi
      unfold rlx
      split <;> omega
theorem bfT_le {u : Int} (h0 : s i ≤ u) : ∀ t, (∀ k, k < t → i ≠ k → f i k + s k ≤ u) → bfT f s i t ≤ u
  | 0, _ => h0
  | t + 1, h => by
    have e : bfT f s i (t + 1) = rlx f s i (bfT f s i t) t := foldl_range_succ _ _ _
    rw [e]
    have h1 := bfT_le h0 t fun k hk => h k (by omega)
    unfold rlx
    split
    · rename_i c; exact h t (by omega) c.1
    · exact h1
theorem bf_self : s i ≤ bf f n s i := bfT_self n
theorem bf_ge {k : Nat} (hk : k < n) (h : i ≠ k) : f i k + s k ≤ bf f n s i := bfT_ge n k hk h
theorem bf_le {u : Int} (h0 : s i ≤ u) (h : ∀ k, k < n → i ≠ k → f i k + s k ≤ u) : bf f n s i ≤ u := bfT_le h0 n h
theorem bf_congr {s' : Nat → Int} (hi : i < n) (h : ∀ j < n, s j = s' j) : bf f n s i = bf f n s' i := by
  apply Int.le_antisymm
  · refine bf_le (by rw [h i hi]; exact bf_self) fun k hk hne => ?_
    rw [h k hk]
    exact bf_ge hk hne
  · refine bf_le (by rw [← h i hi]; exact bf_self) fun k hk hne => ?_
    rw [← h k hk]
    exact bf_ge hk hne
end
/-- payments by which nobody gains -/
structure Pot (f : Nat → Nat → Int) (n : Nat) (p : Nat → Int) : Prop where
  pos : ∀ i < n, 0 ≤ p i
  fix : ∀ i < n, ∀ k < n, i ≠ k → f i k + p k ≤ p i
section
variable {n : Nat} {f : Nat → Nat → Int}
theorem seq_pos : ∀ t i, 0 ≤ seqS f n t i
  | 0, _ => Int.le_refl _
  | t + 1, i => Int.le_trans (seq_pos t i) bf_self
theorem seq_inc (t i : Nat) : seqS f n t i ≤ seqS f n (t + 1) i := bf_self
theorem seq_le {p : Nat → Int} (h : Pot f n p) : ∀ t i, i < n → seqS f n t i ≤ p i
  | 0, i, hi => h.pos i hi
  | t + 1, i, hi => bf_le (seq_le h t i hi) fun k hk hne => by
    have h1 := seq_le h t k hk
    have h2 := h.fix i hi k hk hne
    omega
/-- .. and so do twice as great ones -/
theorem seq_le2 {x : Nat → Int} (h0 : ∀ i < n, 0 ≤ x i) (h : ∀ i < n, ∀ k < n, i ≠ k → 2 * f i k + x k ≤ x i) : ∀ t i, i < n → 2 * seqS f n t i ≤ x i
  | 0, i, hi => h0 i hi
  | t + 1, i, hi => by
    have h1 : ∀ u, 2 * u ≤ x i ↔ u ≤ x i / 2 := fun u => by omega
    rw [h1]
    refine bf_le ((h1 _).mp (seq_le2 h0 h t i hi)) fun k hk hne => (h1 _).mp ?_
    have h2 := seq_le2 h0 h t k hk
    have h3 := h i hi k hk hne
    omega
theorem same_iff {s t : Nat → Int} : sameB n s t = true ↔ ∀ j < n, s j = t j := by
  unfold sameB
  rw [List.all_eq_true]
  constructor
  · intro h j hj
    exact of_decide_eq_true (h j (List.mem_range.mpr hj))
  · intro h j hj
    exact decide_eq_true (h j (List.mem_range.mp hj))
/-- a round that changes nothing -/
def Stab (f : Nat → Nat → Int) (n t : Nat) : Prop := ∀ j < n, seqS f n (t + 1) j = seqS f n t j
theorem Stab.pot {t : Nat} (h : Stab f n t) : Pot f n (seqS f n t) := ⟨fun i _ => seq_pos t i, fun i hi k hk hne => by
  rw [← h i hi]
  exact bf_ge hk hne⟩
theorem Stab.of {t : Nat} (h : Pot f n (seqS f n t)) : Stab f n t := fun j hj =>
  Int.le_antisymm (bf_le (Int.le_refl _) fun k hk hne => h.fix j hj k hk hne) bf_self
theorem count_lt {α : Type} {p q : α → Bool} : ∀ {l : List α}, (∀ x ∈ l, p x = true → q x = true) → (∃ x ∈ l, q x = true ∧ p x = false) → l.countP p < l.countP q
  | [], _, ⟨_, hx, _⟩ => by cases hx
  | a :: l, h, ⟨x, hx, hq, hp⟩ => by
    rw [List.countP_cons, List.countP_cons]
    have hle : l.countP p ≤ l.countP q := List.countP_mono_left fun y hy => h y (List.mem_cons_of_mem _ hy)
    have ha := h a List.mem_cons_self
    by_cases e : x = a
    · subst e
      rw [hq, hp]
      simp
      omega
    · have hx' : x ∈ l := (List.mem_cons.mp hx).resolve_left e
      have := count_lt (fun y hy => h y (List.mem_cons_of_mem _ hy)) ⟨x, hx', hq, hp⟩
      cases hpa : p a with
      | true => rw [ha hpa]; simp; omega
      | false => cases q a <;> simp <;> omega
/-- the least ones: the sums where they change no more -/
theorem least_step {T t : Nat} (hT : Stab f n T) (hne : ∃ i < n, seqS f n t i ≠ seqS f n T i) : ∃ i < n, seqS f n t i ≠ seqS f n T i ∧ seqS f n (t + 1) i = seqS f n T i := by
  refine Classical.byContradiction fun hno => ?_
  have P := hT.pot
  have le : ∀ u i, i < n → seqS f n u i ≤ seqS f n T i := fun u i hi => seq_le P u i hi
  have hlt : ∀ i < n, seqS f n t i ≠ seqS f n T i → seqS f n (t + 1) i < seqS f n T i := fun i hi hd => by
    have h1 := le (t + 1) i hi
    have h2 : seqS f n (t + 1) i ≠ seqS f n T i := fun z => hno ⟨i, hi, hd, z⟩
    omega
  have Q : Pot f n fun i => if seqS f n t i = seqS f n T i then seqS f n T i else seqS f n T i - 1 := by
    refine ⟨fun i hi => ?_, fun i hi k hk hne => ?_⟩
    · split
      · exact P.pos i hi
      · rename_i c
        have h1 := le t i hi
        have h2 := seq_pos (n := n) (f := f) t i
        omega
    · have hf := P.fix i hi k hk hne
      by_cases c : seqS f n t i = seqS f n T i
      · rw [if_pos c]
        split <;> omega
      · rw [if_neg c]
        by_cases c2 : seqS f n t k = seqS f n T k
        · rw [if_pos c2]
          have h1 := hlt i hi c
          have h2 : f i k + seqS f n t k ≤ seqS f n (t + 1) i := bf_ge hk hne
          omega
        · rw [if_neg c2]
          omega
  obtain ⟨i, hi, hd⟩ := hne
  have := seq_le Q T i hi
  rw [if_neg hd] at this
  omega
theorem least_zero {T : Nat} (hn : 1 ≤ n) (hT : Stab f n T) : ∃ i < n, seqS f n T i = 0 := by
  refine Classical.byContradiction fun hno => ?_
  have P := hT.pot
  have Q : Pot f n fun i => seqS f n T i - 1 := by
    refine ⟨fun i hi => ?_, fun i hi k hk hne => ?_⟩
    · have h1 := P.pos i hi
      have h2 : seqS f n T i ≠ 0 := fun z => hno ⟨i, hi, z⟩
      omega
    · have := P.fix i hi k hk hne
      omega
  have := seq_le Q T 0 (by omega)
  omega
theorem count_all {l : List Nat} {p : Nat → Bool} (h : l.countP p = l.length) : ∀ x ∈ l, p x = true := List.countP_eq_length.mp h
theorem grow {T : Nat} (hn : 1 ≤ n) (hT : Stab f n T) : ∀ t, min n (t + 1) ≤ (List.range n).countP fun i => decide (seqS f n t i = seqS f n T i)
  | 0 => by
    obtain ⟨i, hi, h0⟩ := least_zero hn hT
    have : 0 < (List.range n).countP fun i => decide (seqS f n 0 i = seqS f n T i) := by
      rw [List.countP_pos_iff]
      exact ⟨i, List.mem_range.mpr hi, decide_eq_true (by rw [h0]; rfl)⟩
    omega
  | t + 1 => by
    have ih := grow hn hT t
    have P := hT.pot
    have mono : ∀ x ∈ List.range n, decide (seqS f n t x = seqS f n T x) = true → decide (seqS f n (t + 1) x = seqS f n T x) = true := fun x hx hd => by
      have hd := of_decide_eq_true hd
      have h1 := seq_le P (t + 1) x (List.mem_range.mp hx)
      have h2 := seq_inc (n := n) (f := f) t x
      exact decide_eq_true (by omega)
    by_cases c : ∃ i < n, seqS f n t i ≠ seqS f n T i
    · obtain ⟨i, hi, h1, h2⟩ := least_step hT c
      have := count_lt mono ⟨i, List.mem_range.mpr hi, decide_eq_true h2, decide_eq_false h1⟩
      omega
    · have e : (List.range n).countP (fun i => decide (seqS f n (t + 1) i = seqS f n T i)) = (List.range n).length := by
        rw [List.countP_eq_length]
        intro x hx
        refine mono x hx (decide_eq_true ?_)
        exact Classical.byContradiction fun z => c ⟨x, List.mem_range.mp hx, z⟩
      rw [e, List.length_range]
      omega
/-- if they ever stand still, they do at the last but one round -/
theorem conv {T : Nat} (hn : 1 ≤ n) (hT : Stab f n T) : Stab f n (n - 1) := by
  have g := grow hn hT (n - 1)
  have le := List.countP_le_length (p := fun i => decide (seqS f n (n - 1) i = seqS f n T i)) (l := List.range n)
  rw [List.length_range] at le
  have all := count_all (l := List.range n) (p := fun i => decide (seqS f n (n - 1) i = seqS f n T i)) (by rw [List.length_range]; omega)
  have e : ∀ j < n, seqS f n (n - 1) j = seqS f n T j := fun j hj => of_decide_eq_true (all j (List.mem_range.mpr hj))
  intro j hj
  show bf f n (seqS f n (n - 1)) j = _
  rw [bf_congr hj e, e j hj]
  exact hT j hj
theorem first_some {N t : Nat} (h : firstS f n N = some t) : t < N ∧ Stab f n t := by
  unfold firstS at h
  rw [List.find?_range_eq_some] at h
  exact ⟨List.mem_range.mp h.2.1, same_iff.mp h.1⟩
theorem first_none {N t : Nat} (h : firstS f n N = none) (ht : t < N) : ¬ Stab f n t := fun z => by
  unfold firstS at h
  rw [List.find?_eq_none] at h
  exact h t (List.mem_range.mpr ht) (same_iff.mpr z)
/-- one round more tells nothing new -/
theorem first_more (hn : 1 ≤ n) : firstS f n (n + 1) = firstS f n n := by
  cases e : firstS f n n with
  | none =>
    cases e2 : firstS f n (n + 1) with
    | none => rfl
    | some t =>
      obtain ⟨_, h2⟩ := first_some e2
      exact absurd (conv hn h2) (first_none e (by omega))
  | some t =>
    unfold firstS at e ⊢
    rw [List.find?_range_eq_some] at e ⊢
    exact ⟨e.1, List.mem_range.mpr (by have := List.mem_range.mp e.2.1; omega), e.2.2⟩
theorem walk_some {s : Nat → Int} (h : walkS f n = some s) : ∃ t, Stab f n t ∧ s = seqS f n t := by
  unfold walkS at h
  cases e : firstS f n n with
  | none => rw [e] at h; cases h
  | some t =>
    rw [e] at h
    exact ⟨t, (first_some e).2, (Option.some.inj h).symm⟩
theorem walk_pot {s : Nat → Int} (h : walkS f n = some s) : Pot f n s := by
  obtain ⟨t, h1, rfl⟩ := walk_some h
  exact h1.pot
theorem walk_zero {s : Nat → Int} (hn : 1 ≤ n) (h : walkS f n = some s) : ∃ i < n, s i = 0 := by
  obtain ⟨t, h1, rfl⟩ := walk_some h
  exact least_zero hn h1
theorem walk_least2 {s x : Nat → Int} (h : walkS f n = some s) (h0 : ∀ i < n, 0 ≤ x i) (hx : ∀ i < n, ∀ k < n, i ≠ k → 2 * f i k + x k ≤ x i) : ∀ i < n, 2 * s i ≤ x i := by
  obtain ⟨t, h1, rfl⟩ := walk_some h
  exact fun i hi => seq_le2 h0 hx t i hi
end
/-! ### comparing fractions -/
theorem red_neg {u d : Int} (h : 0 < d) : (red u d).1 < 0 ↔ u < 0 := by
  have h1 := red_num u d
  have h2 := gcd_pos (n := u) h
  constructor
  · intro h3
    rw [← h1]
    exact Int.mul_neg_of_neg_of_pos h3 (by omega)
  · intro h3
    refine Classical.byContradiction fun z => ?_
    have : 0 ≤ (red u d).1 * (Int.gcd u d : Int) := Int.mul_nonneg (by omega) (by omega)
    omega
theorem red_cmp {u v x y : Int} (hv : 0 < v) (hy : 0 < y) : (red u v).1 * (red x y).2 < (red x y).1 * (red u v).2 ↔ u * y < x * v := by
  have g1 := gcd_pos (n := u) hv
  have g2 := gcd_pos (n := x) hy
  have e1 := red_num u v
  have e2 := red_den u v
  have e3 := red_num x y
  have e4 := red_den x y
  have k : 0 < (Int.gcd u v : Int) * (Int.gcd x y : Int) := Int.mul_pos (by omega) (by omega)
  have l : u * y = ((red u v).1 * (red x y).2) * ((Int.gcd u v : Int) * (Int.gcd x y : Int)) := by
    calc u * y = ((red u v).1 * (Int.gcd u v : Int)) * ((red x y).2 * (Int.gcd x y : Int)) := by rw [e1, e4]
      _ = _ := by ac_rfl
  have r : x * v = ((red x y).1 * (red u v).2) * ((Int.gcd u v : Int) * (Int.gcd x y : Int)) := by
    calc x * v = ((red x y).1 * (Int.gcd x y : Int)) * ((red u v).2 * (Int.gcd u v : Int)) := by rw [e3, e2]
      _ = _ := by ac_rfl
  rw [l, r]
  exact (Int.mul_lt_mul_right k).symm
theorem envP_iff {w : Nat → Nat → Int} {ps : List (Int × Int)} {i k : Nat} (hi : 0 < (pk ps i).2) (hk : 0 < (pk ps k).2) : envP w ps i k = true ↔ (w i i * (pk ps i).2 + (pk ps i).1) * (pk ps k).2 < (w i k * (pk ps k).2 + (pk ps k).1) * (pk ps i).2 := by
  unfold envP
  rw [decide_eq_true_eq]
  have e : ∀ (x : Int) (p : Int × Int), addF (x, 1) p = red (x * p.2 + p.1) p.2 := fun x p => by
    unfold addF
    show red (x * p.2 + p.1 * 1) (1 * p.2) = _
    rw [Int.mul_one, Int.one_mul]
  rw [e, e]
  unfold subF
  have p1 := red_pos (n := w i i * (pk ps i).2 + (pk ps i).1) hi
  have p2 := red_pos (n := w i k * (pk ps k).2 + (pk ps k).1) hk
  rw [red_neg (Int.mul_pos p1 p2), ← red_cmp hi hk]
  omega
theorem calm_iff {n : Nat} {w : Nat → Nat → Int} {ps : List (Int × Int)} : calmB n w ps = true ↔ ∀ i < n, ∀ k < n, envP w ps i k = false := by
  unfold calmB
  simp only [List.all_eq_true, List.mem_range, Bool.not_eq_true']
end C0
namespace D67
open PySem PySem.Spec PyProof.Rows L2 Fx C0
/-! ### all shares -/
def shS (n : Nat) : Nat → List (List Nat)
  | 0 => [[]]
  | t + 1 => (shS n t).flatMap fun r => (List.range n).map fun i => r ++ [i]
theorem flat_len {α β : Type} (n : Nat) (e : α → Nat → β) : ∀ l : List α, (l.flatMap fun a => (List.range n).map (e a)).length = l.length * n
  | [] => by simp
  | a :: l => by
    rw [List.flatMap_cons, List.length_append, flat_len n e l, List.length_map, List.length_range, List.length_cons, Nat.succ_mul]
    omega
theorem shS_len (n : Nat) : ∀ t, (shS n t).length = n ^ t
  | 0 => rfl
  | t + 1 => by
    show ((shS n t).flatMap fun r => (List.range n).map fun i => r ++ [i]).length = _
    rw [flat_len, shS_len n t, Nat.pow_succ]
theorem shS_own (n : Nat) : ∀ t, ∀ r ∈ shS n t, r.length = t ∧ ∀ o ∈ r, o < n
  | 0, r, h => by
    cases List.mem_singleton.mp h
    exact ⟨rfl, fun _ z => by cases z⟩
  | t + 1, r, h => by
    obtain ⟨q, hq, hr⟩ := List.mem_flatMap.mp h
    obtain ⟨i, hi, rfl⟩ := List.mem_map.mp hr
    obtain ⟨h1, h2⟩ := shS_own n t q hq
    refine ⟨by rw [List.length_append, h1]; rfl, fun o ho => ?_⟩
    obtain ho | ho := List.mem_append.mp ho
    · exact h2 o ho
    · cases List.mem_singleton.mp ho
      exact List.mem_range.mp hi
theorem g0_row {g : List (List Int)} {n m : Nat} (h : Good g n m) {f : Gm → Res Rv} {G : Gm} (hf : f G = .ok (.d (gameD g)) G) : ∃ r : List Int, r.length = m ∧ fOp2 kIdx f (fC (.int 0)) G = .ok (.d (rowD r)) G := by
  obtain ⟨r, rs, rfl, hr⟩ := h.first
  exact ⟨r, hr, idx_ev hf rfl (.inl rfl) rfl (atI_natL (j := 0) rfl)⟩
theorem row_items {f : Gm → Res Rv} {G : Gm} {r : List Int} (h : f G = .ok (.d (rowD r)) G) : iSeq f G = .ok (r.map .int, []) G := by
  unfold iSeq
  rw [h]
  rfl
theorem pow_mono {n t m : Nat} (hn : 1 ≤ n) (h : t ≤ m) : n ^ t ≤ n ^ m := Nat.pow_le_pow_right hn h
theorem every_ev {g : List (List Int)} {n m : Nat} (h : Good g n m) (hb : n ^ m ≤ 60000) : F_every_share [.d (gameD g)] = .ok (.new (.lst ((shS n m).map osD))) [.d (gameD g)] := by
  have n1 := h.n1
  have n6 := h.n6
  have m10 := h.m10
  obtain ⟨r, hr, er⟩ := g0_row h (f := fVar 0) (G := [.d (gameD g), .l (.lst [osD []]), .no, .no, .no]) rfl
  have st : ∀ t < m, ∀ x : Int, every_share_b1 [.d (gameD g), .l (.lst ((shS n t).map osD)), .d (.int x), .no, .no] = .ok .nx [.d (gameD g), .l (.lst ((shS n (t + 1)).map osD)), .no, .no, .no] := fun t ht x => by
    have hle : n ^ t * n ≤ 60000 := by
      rw [← Nat.pow_succ]
      exact Nat.le_trans (pow_mono n1 ht) hb
    have c : every_share_c1 [.d (gameD g), .l (.lst ((shS n t).map osD)), .d (.int x), .no, .no] = .ok (.new (.lst ((shS n (t + 1)).map osD))) [.d (gameD g), .l (.lst ((shS n t).map osD)), .d (.int x), .no, .no] := by
      refine Eq.trans (comp2_ev (lk := [1]) (enc := osD) (enc1 := natD) (l := shS n t) (l1 := fun _ => List.range n) (e := fun r i => osD (r ++ [i])) (by decide) rfl rfl rfl rfl ?_ (fun a ha => ?_) fun a ha b hb => .d ?_) ?_
      · have q := flat_len n (fun (a : List Nat) i => i) (shS n t)
        simp only [List.map_id'] at q
        rw [q, shS_len]
        omega
      · exact rg_ev n (lenG_ev h rfl) (by omega)
      · refine op_ev rfl (tup_ev (ds := [natD b]) (hl := by show 1 ≤ 16777216; omega) rfl) ?_
        have q := (shS_own n t a ha).1
        refine (kAdd_t rfl rfl (by rw [List.length_map]; show a.length + 1 ≤ _; omega)).trans ?_
        show _ = Res.ok (Rv.d (.tuple ((a ++ [b]).map natD))) _
        rw [List.map_append]
        rfl
      · show _ = Res.ok (Rv.new (.lst (((shS n t).flatMap fun r => (List.range n).map fun i => r ++ [i]).map osD))) _
        rw [List.map_flatMap]
        simp only [List.map_map]
        rfl
    exact kl_nx (G1 := [.d (gameD g), .l (.lst ((shS n (t + 1)).map osD)), .d (.int x), .no, .no]) (set_new (G1 := [.d (gameD g), .l (.lst ((shS n t).map osD)), .d (.int x), .no, .no]) c)
  have lp := for_ix (tg := gN 2) (body := every_share_b1) (it := iSeq (fOp2 kIdx (fVar 0) (fC (.int 0)))) (G := [.d (gameD g), .l (.lst [osD []]), .no, .no, .no]) (lk := []) (ds := r.map .int) (fun t => [.d (gameD g), .l (.lst ((shS n t).map osD)), .no, .no, .no]) (row_items er) rfl fun t d ht => by
    have hm : t < m := by
      have := (List.getElem?_eq_some_iff.mp ht).1
      rw [List.length_map, hr] at this
      exact this
    rw [List.getElem?_map] at ht
    obtain ⟨x, _, rfl⟩ := Option.map_eq_some_iff.mp ht
    exact ⟨_, rfl, .inl (st t hm x)⟩
  rw [List.length_map, hr] at lp
  exact run_own (i := 1) [.d (gameD g), .l (.lst ((shS n m).map osD)), .no, .no, .no] (seq_go (G1 := [.d (gameD g), .l (.lst [osD []]), .no, .no, .no]) rfl (seq_go lp rfl))
theorem aug_ev {i : Nat} {f : Gm → Res Rv} {G G2 : Gm} {a b : Int} (ha : intAt G i = some a) (hf : f G = .ok (.d (.int b)) G) (hm : mulOk a b = true) (hs : setSl G i (.d (.int (a * b))) = some G2) : sAugM i f G = .ok .nx G2 := by
  unfold sAugM
  rw [ha]
  dsimp only
  rw [hf, Res.bind_ok]
  dsimp only [rd]
  rw [if_pos hm]
  unfold stor
  rw [hs]
theorem few_loop {g : List (List Int)} {n m : Nat} (h : Good g n m) : check_few_s2 [.d (gameD g), .d (.int 1), .no] = .ok .nx [.d (gameD g), .d (natD (n ^ m)), .no] := by
  have n6 := h.n6
  obtain ⟨r, hr, er⟩ := g0_row h (f := fVar 0) (G := [.d (gameD g), .d (.int 1), .no]) rfl
  have lp := for_ix (tg := gN 2) (body := check_few_b1) (it := iSeq (fOp2 kIdx (fVar 0) (fC (.int 0)))) (G := [.d (gameD g), .d (.int 1), .no]) (lk := []) (ds := r.map .int) (fun t => [.d (gameD g), .d (natD (n ^ t)), .no]) (row_items er) rfl fun t d ht => by
    refine ⟨[.d (gameD g), .d (natD (n ^ t)), .d d], rfl, .inl (kl_nx (G1 := [.d (gameD g), .d (natD (n ^ (t + 1))), .d d]) (aug_ev (a := ((n ^ t : Nat) : Int)) (b := (n : Int)) rfl (lenG_ev h rfl) (Sm.mul ⟨by omega, by omega⟩) ?_))⟩
    rw [Nat.pow_succ, show ((n ^ t : Nat) : Int) * (n : Int) = ((n ^ t * n : Nat) : Int) by rw [Int.natCast_mul]]
    rfl
  rw [List.length_map, hr] at lp
  exact lp
theorem few_ok {g : List (List Int)} {n m : Nat} (h : Good g n m) (hb : n ^ m ≤ 60000) : F_check_few [.d (gameD g)] = .ok (.d .none) [.d (gameD g)] := by
  refine run_nx [.d (gameD g), .d (natD (n ^ m)), .no] (seq_go (G1 := [.d (gameD g), .d (.int 1), .no]) rfl (seq_go (few_loop h) (if_f (b := decide ((60000 : Int) < ((n ^ m : Nat) : Int))) rfl (decide_eq_false (by omega)) rfl)))
theorem few_ex {g : List (List Int)} {n m : Nat} (h : Good g n m) (hb : 60000 < n ^ m) : F_check_few [.d (gameD g)] = .ex (.rf "large") := by
  refine run_ex (seq_go (G1 := [.d (gameD g), .d (.int 1), .no]) rfl (seq_go (few_loop h) (if_t (b := decide ((60000 : Int) < ((n ^ m : Nat) : Int))) rfl (decide_eq_true (by omega)) rfl)))
/-! ### the least sum -/
def sumS (n : Nat) (s : Nat → Int) : Int := ((List.range n).map s).sum
def stepC (g : List (List Int)) (n : Nat) (a : Option (Int × List Nat)) (os : List Nat) : Option (Int × List Nat) := match walkS (gp (wt g os)) n with
  | none => a
  | some s => match a with
    | none => some (sumS n s, os)
    | some b => if sumS n s < b.1 then some (sumS n s, os) else a
def bstD : Option (Int × List Nat) → PyData
  | none => .none
  | some b => .int b.1
def fndD : Option (Int × List Nat) → PyData
  | none => .none
  | some b => osD b.2
theorem sum_own {G : Gm} {i n : Nat} {s : Nat → Int} (h : ownAt G i = some (.lst (inZ n s))) : kSum G [.own i] = .ok (.d (.int (sumS n s))) G := by
  have e : rd G (.own i) = some (.list (inZ n s)) := by
    show (ownAt G i).bind aoD = _
    rw [h]; rfl
  unfold kSum kInts k1
  dsimp only
  rw [e]
  dsimp only
  rw [show intsOf (inZ n s) = some ((List.range n).map s) from intsOfF s _]
  rfl
theorem sum_tup {G : Gm} {n : Nat} {s : Nat → Int} : kSum G [.d (.tuple (inZ n s))] = .ok (.d (.int (sumS n s))) G := by
  unfold kSum kInts k1
  dsimp only [rd]
  rw [show intsOf (inZ n s) = some ((List.range n).map s) from intsOfF s _]
  rfl
/-- the found one against the best so far -/
def bestT (n : Nat) (w : Option (Nat → Int)) (a : Option (Int × List Nat)) : Bool := match w with
  | none => false
  | some s => match a with
    | none => true
    | some b => decide (sumS n s < b.1)
theorem stepC_eq (g : List (List Int)) (n : Nat) (a : Option (Int × List Nat)) (os : List Nat) : stepC g n a os = match walkS (gp (wt g os)) n with
    | none => a
    | some s => if bestT n (some s) a then some (sumS n s, os) else a := by
  unfold stepC bestT
  cases walkS (gp (wt g os)) n with
  | none => rfl
  | some s =>
    cases a with
    | none => rfl
    | some b =>
      by_cases h : sumS n s < b.1
      · simp [h]
      · simp [h]
theorem cheap_turn {g : List (List Int)} {n m : Nat} (h : Good g n m) {os : List Nat} (ho : Own os n m) (a : Option (Int × List Nat)) :
    cheapest_b1 [.d (gameD g), .d (bstD a), .d (fndD a), .d (osD os), .no] = .ok .nx [.d (gameD g), .d (bstD (stepC g n a os)), .d (fndD (stepC g n a os)), .no, .no] := by
  have n6 := h.n6
  rw [stepC_eq]
  have e2 : (fCallK (kCall F_longest) (fCons (fCallK (kCall F_gaps_of) (fCons (fCallK (kCall F_worth_table) (fCons (fVar 0) (fCons (fVar 3) fNil))) fNil)) fNil)) [.d (gameD g), .d (bstD a), .d (fndD a), .d (osD os), .no] = .ok (lstO n (walkS (gp (wt g os)) n)) [.d (gameD g), .d (bstD a), .d (fndD a), .d (osD os), .no] :=
    call_l (cons_ev (call_l (cons_ev (call_new [gameD g, osD os] rfl (table_ev h ho)) rfl) rfl (gaps_ev n (by omega) _)) rfl) rfl (longest_ev (by omega) _) (by
      intro i z
      cases e : walkS (gp (wt g os)) n with
      | none => rw [e] at z; cases z
      | some s => rw [e] at z; cases z)
  cases ew : walkS (gp (wt g os)) n with
  | none =>
    rw [ew] at e2
    exact kl_nx (G1 := [.d (gameD g), .d (bstD a), .d (fndD a), .d (osD os), .d .none]) (seq_go (set_d (G1 := [.d (gameD g), .d (bstD a), .d (fndD a), .d (osD os), .no]) e2) (if_f (b := false && false) (and_ev rfl fun z => by cases z) rfl rfl))
  | some s =>
    rw [ew] at e2
    have c : (tAnd' (fTest (fOp2 kNotN (fVar 4) (fC .none))) (tOr' (fTest (fOp2 kIsN (fVar 1) (fC .none))) (fTest (fOp2 kLt (fCallK kSum (fCons (fVar 4) fNil)) (fVar 1))))) [.d (gameD g), .d (bstD a), .d (fndD a), .d (osD os), .l (.lst (inZ n s))]
        = .ok (true && bestT n (some s) a) [.d (gameD g), .d (bstD a), .d (fndD a), .d (osD os), .l (.lst (inZ n s))] := by
      refine and_ev rfl fun _ => ?_
      cases a with
      | none => exact or_ev (a := true) (b := false) rfl fun z => by cases z
      | some b => exact or_ev (a := false) rfl fun _ => test_ev (op_ev (kc_ev (cons_ev rfl rfl) (sum_own rfl)) rfl rfl)
    have e3 : cheapest_s4 [.d (gameD g), .d (bstD a), .d (fndD a), .d (osD os), .no] = .ok .nx [.d (gameD g), .d (bstD a), .d (fndD a), .d (osD os), .l (.lst (inZ n s))] := set_new (G1 := [.d (gameD g), .d (bstD a), .d (fndD a), .d (osD os), .no]) e2
    dsimp only
    by_cases hb : bestT n (some s) a = true
    · rw [if_pos hb]
      refine kl_nx (G1 := [.d (gameD g), .d (.int (sumS n s)), .d (osD os), .d (osD os), .l (.lst (inZ n s))]) (seq_go e3 (if_t c (by rw [hb]; rfl) ?_))
      exact par_ev (G1 := [.d (gameD g), .d (bstD a), .d (fndD a), .d (osD os), .l (.lst (inZ n s))]) (cons_ev (kc_ev (cons_ev rfl rfl) (sum_own rfl)) rfl)
    · rw [if_neg hb]
      exact kl_nx (G1 := [.d (gameD g), .d (bstD a), .d (fndD a), .d (osD os), .l (.lst (inZ n s))]) (seq_go e3 (if_f c (by rw [Bool.not_eq_true] at hb; rw [hb]; rfl) rfl))
def leastC (g : List (List Int)) (n m : Nat) : Option (Int × List Nat) := (shS n m).foldl (stepC g n) none
theorem shS_Own {n m : Nat} {os : List Nat} (h : os ∈ shS n m) : Own os n m := ⟨(shS_own n m os h).1, (shS_own n m os h).2⟩
theorem cheapest_ev {g : List (List Int)} {n m : Nat} (h : Good g n m) (hb : n ^ m ≤ 60000) : F_cheapest [.d (gameD g)] = .ok (.d (.tuple [bstD (leastC g n m), fndD (leastC g n m)])) [.d (gameD g)] := by
  have e1 : cheapest_s1 [.d (gameD g), .no, .no, .no, .no] = .ok .nx [.d (gameD g), .no, .no, .no, .no] := expr_ev (call_ev [gameD g] rfl (check_ok h.game))
  have e2 : cheapest_s2 [.d (gameD g), .no, .no, .no, .no] = .ok .nx [.d (gameD g), .no, .no, .no, .no] := expr_ev (call_ev [gameD g] rfl (few_ok h hb))
  have lp := for_fold (tg := gN 3) (body := cheapest_b1) (it := iSeq (fCallK (kCall F_every_share) (fCons (fVar 0) fNil))) (G := [.d (gameD g), .d .none, .d .none, .no, .no]) (lk := []) (fun a => [.d (gameD g), .d (bstD a), .d (fndD a), .no, .no]) (fun _ => True) osD (stepC g n) (shS n m) none
    (seq_new (call_new [gameD g] rfl (every_ev h hb))) rfl True.intro fun os hos a _ => ⟨True.intro, _, rfl, .inl (cheap_turn h (shS_Own hos) a)⟩
  refine run_d [.d (gameD g), .d (bstD (leastC g n m)), .d (fndD (leastC g n m)), .no, .no] (seq_go e1 (seq_go e2 (seq_go (G1 := [.d (gameD g), .d .none, .d .none, .no, .no]) rfl (seq_go lp.1 (ret_ev ?_)))))
  exact tup_ev (G1 := [.d (gameD g), .d (bstD (leastC g n m)), .d (fndD (leastC g n m)), .no, .no]) (ds := [bstD (leastC g n m), fndD (leastC g n m)]) (hl := by show 2 ≤ 16777216; omega) rfl
end D67
namespace D67
open PySem PySem.Spec PyProof.Rows L2 Fx C0
def ext1 (n : Nat) (r : List Nat) : List (List Nat) := (List.range n).map fun i => r ++ [i]
theorem ext1_len (n : Nat) (l : List (List Nat)) : (l.flatMap (ext1 n)).length = l.length * n := flat_len n (fun r i => r ++ [i]) l
theorem lshares_row {n m t : Nat} (hb : n ^ (t + 1) ≤ 60000) (hn : n ≤ 1000) (ht : t ≤ 1000) (x : PyData) : law_shares_s3 [.d (natD n), .d (natD m), .l (.lst ((shS n t).map osD)), .d x, .l (.lst []), .no, .no] = .ok .nx [.d (natD n), .d (natD m), .l (.lst ((shS n t).map osD)), .d x, .l (.lst ((shS n (t + 1)).map osD)), .no, .no] := by
  have lp := for_ix (tg := gN 5) (body := law_shares_b1) (it := iSeq (fVar 2)) (G := [.d (natD n), .d (natD m), .l (.lst ((shS n t).map osD)), .d x, .l (.lst []), .no, .no]) (lk := [2]) (ds := (shS n t).map osD)
    (fun j => [.d (natD n), .d (natD m), .k (.lst ((shS n t).map osD)), .d x, .l (.lst ((((shS n t).take j).flatMap (ext1 n)).map osD)), .no, .no]) rfl rfl fun j d hj => by
      rw [List.getElem?_map] at hj
      obtain ⟨r, er, rfl⟩ := Option.map_eq_some_iff.mp hj
      have hr := shS_own n t r (List.mem_of_getElem? er)
      refine ⟨[.d (natD n), .d (natD m), .k (.lst ((shS n t).map osD)), .d x, .l (.lst ((((shS n t).take j).flatMap (ext1 n)).map osD)), .d (osD r), .no], rfl, .inl ?_⟩
      have c : law_shares_c1 [.d (natD n), .d (natD m), .k (.lst ((shS n t).map osD)), .d x, .l (.lst ((((shS n t).take j).flatMap (ext1 n)).map osD)), .d (osD r), .no] = .ok (.new (.lst ((ext1 n r).map osD))) [.d (natD n), .d (natD m), .k (.lst ((shS n t).map osD)), .d x, .l (.lst ((((shS n t).take j).flatMap (ext1 n)).map osD)), .d (osD r), .no] := by
        refine Eq.trans (comp_evR (enc := natD) (p := fun _ => true) (tst := tYesF) (e := fun i => osD (r ++ [i])) (l := List.range n) (rg_ev n rfl (by omega)) rfl rfl (by rw [List.length_range]; omega) (fun _ _ => rfl) fun i hi _ => .d ?_) ?_
        · refine op_ev rfl (tup_ev (ds := [natD i]) (hl := by show 1 ≤ 16777216; omega) rfl) ?_
          refine (kAdd_t rfl rfl ?_).trans (by
            show _ = Res.ok (Rv.d (.tuple ((r ++ [i]).map natD))) _
            rw [List.map_append]
            rfl)
          rw [List.length_map, hr.1]
          show t + 1 ≤ 16777216
          omega
        · rw [filter_yes]
          unfold ext1
          rw [List.map_map]
          rfl
      refine kl_nx (G1 := [.d (natD n), .d (natD m), .k (.lst ((shS n t).map osD)), .d x, .l (.lst ((((shS n t).take (j + 1)).flatMap (ext1 n)).map osD)), .d (osD r), .no]) ?_
      have e : ((shS n t).take (j + 1)).flatMap (ext1 n) = ((shS n t).take j).flatMap (ext1 n) ++ ext1 n r := by
        rw [List.take_succ, er, List.flatMap_append]
        simp
      rw [e, List.map_append]
      refine set_new (G1 := [.d (natD n), .d (natD m), .k (.lst ((shS n t).map osD)), .d x, .l (.lst ((((shS n t).take j).flatMap (ext1 n)).map osD)), .d (osD r), .no]) (op_ev rfl c (kAdd_l rfl rfl ?_))
      have q1 : (((shS n t).take j).flatMap (ext1 n)).length ≤ 60000 := by
        rw [ext1_len]
        have q2 : ((shS n t).take j).length ≤ n ^ t := by rw [← shS_len n t]; exact List.length_take_le' _ _
        have q3 := Nat.mul_le_mul_right n q2
        rw [Nat.pow_succ] at hb
        omega
      rw [List.length_map, List.length_map]
      unfold ext1 at q1 ⊢
      rw [List.length_map, List.length_range]
      omega
  rw [List.length_map, List.take_of_length_le (Nat.le_refl _)] at lp
  exact lp
theorem lshares_ev {n m : Nat} (h1 : 1 ≤ n) (hn : n ≤ 1000) (hm : m ≤ 1000) (hb : n ^ m ≤ 60000) : F_law_shares [.d (natD n), .d (natD m)] = .ok (.new (.lst ((shS n m).map osD))) [.d (natD n), .d (natD m)] := by
  have lp := rg_ix (f := fVar 1) (body := law_shares_b2) (v := 3) (n := m) (G := [.d (natD n), .d (natD m), .l (.lst [osD []]), .no, .no, .no, .no]) (fun t => [.d (natD n), .d (natD m), .l (.lst ((shS n t).map osD)), .no, .no, .no, .no]) rfl (by omega) rfl fun t ht => by
    refine ⟨[.d (natD n), .d (natD m), .l (.lst ((shS n t).map osD)), .d (natD t), .no, .no, .no], rfl, .inl ?_⟩
    refine kl_nx (G1 := [.d (natD n), .d (natD m), .l (.lst ((shS n (t + 1)).map osD)), .d (natD t), .no, .no, .no]) (seq_go (G1 := [.d (natD n), .d (natD m), .l (.lst ((shS n t).map osD)), .d (natD t), .l (.lst []), .no, .no]) rfl (seq_go (lshares_row (Nat.le_trans (pow_mono h1 ht) hb) hn (by omega) _) ?_))
    rfl
  exact run_own (i := 2) [.d (natD n), .d (natD m), .l (.lst ((shS n m).map osD)), .no, .no, .no, .no] (seq_go (G1 := [.d (natD n), .d (natD m), .l (.lst [osD []]), .no, .no, .no, .no]) rfl (seq_go lp rfl))
/-! ### the law's own walks -/
theorem max_ev {α : Type} {fc : Gm → Res Rv} {G : Gm} {l : List α} {f : α → Int} (hl : l ≠ []) (h : fc G = .ok (.new (.lst (l.map fun x => .int (f x)))) G) : fCallK kMax (fCons fc fNil) G = .ok (.d (.int (mxI (l.map f)))) G := by
  unfold fCallK fCons
  rw [h]
  show kMax G [.new (.lst (l.map fun x => .int (f x)))] = _
  unfold kMax kInts k1
  dsimp only [rd, aoD]
  rw [intsOfF]
  dsimp only
  rw [if_neg (by simpa using hl)]
theorem mx_bf {n i : Nat} {f : Nat → Nat → Int} {s : Nat → Int} (hi : i < n) (h0 : f i i = 0) : mxI ((s i) :: (List.range n).map fun k => f i k + s k) = bf f n s i := by
  obtain ⟨h1, h2⟩ := mxI_mem (ns := (s i) :: (List.range n).map fun k => f i k + s k) (by simp)
  apply Int.le_antisymm
  · rcases List.mem_cons.mp h1 with h | h
    · rw [h]; exact bf_self
    · obtain ⟨k, hk, hv⟩ := List.mem_map.mp h
      rw [← hv]
      by_cases e : i = k
      · subst e
        rw [h0, Int.zero_add]
        exact bf_self
      · exact bf_ge (List.mem_range.mp hk) e
  · exact bf_le (h2 _ List.mem_cons_self) fun k hk _ => h2 _ (List.mem_cons_of_mem _ (List.mem_map.mpr ⟨k, List.mem_range.mpr hk, rfl⟩))
section
variable {g : List (List Int)} {os : List Nat} {n m : Nat}
abbrev LW (g : List (List Int)) (os : List Nat) (n : Nat) (s : Nat → Int) (a b c d : Sl) : Gm := [.d (gameD g), .d (osD os), .d (natD n), .l (.lst (tab n (gp (wt g os)))), a, b, .l (.lst (inZ n s)), c, d]
theorem lleast_row (h : Good g n m) (s : Nat → Int) (i : Nat) (hi : i < n) (c : Sl) :
    law_least_c3 (LW g os n s .no (.d (natD i)) c .no) = .ok (.new (.lst ((List.range n).map fun k => .int (gp (wt g os) i k + s k)))) (LW g os n s .no (.d (natD i)) c .no) := by
  have n6 := h.n6
  have q := comp_evR (it := iRg1 (fVar 2)) (i := 4) (tst := tYesF) (elt := fOp2 kAdd (fOp2 kIdx (fOp2 kIdx (fVar 3) (fVar 5)) (fVar 4)) (fOp2 kIdx (fVar 6) (fVar 4))) (G := LW g os n s .no (.d (natD i)) c .no) (enc := natD) (p := fun _ => true) (e := fun k => .int (gp (wt g os) i k + s k)) (l := List.range n) (rg_ev n rfl (by omega)) rfl rfl (by rw [List.length_range]; omega) (fun _ _ => rfl) fun k hk _ => .d (by
    have hk := List.mem_range.mp hk
    exact op_ev (idx_ev (idx_ev rfl rfl (.inr rfl) rfl (tab_at _ hi)) rfl (.inr rfl) rfl (inZ_at _ hk)) (idx_ev rfl rfl (.inr rfl) rfl (inZ_at _ hk)) rfl)
  rw [filter_yes] at q
  exact q
theorem lleast_round (h : Good g n m) (s : Nat → Int) (t : Nat) :
    law_least_s4 (LW g os n s .no .no (.d (natD t)) .no) = .ok .nx (LW g os n s .no .no (.d (natD t)) (.l (.lst (inZ n (bf (gp (wt g os)) n s))))) := by
  have n6 := h.n6
  have q := comp_evR (it := iRg1 (fVar 2)) (i := 5) (tst := tYesF) (elt := fCallK kMax (fCons (fOp2 kAdd (fLst (fCons (fOp2 kIdx (fVar 6) (fVar 5)) fNil)) law_least_c3) fNil)) (G := LW g os n s .no .no (.d (natD t)) .no) (enc := natD) (p := fun _ => true) (e := fun i => .int (bf (gp (wt g os)) n s i)) (l := List.range n) (rg_ev n rfl (by omega)) rfl rfl (by rw [List.length_range]; omega) (fun _ _ => rfl) fun i hi _ => .d (by
    have hi := List.mem_range.mp hi
    have z : gp (wt g os) i i = 0 := Int.sub_self _
    rw [← mx_bf hi z]
    have e1 : fLst (fCons (fOp2 kIdx (fVar 6) (fVar 5)) fNil) (LW g os n s .no (.d (natD i)) (.d (natD t)) .no) = .ok (.new (.lst [.int (s i)])) (LW g os n s .no (.d (natD i)) (.d (natD t)) .no) := lst_ev (cons_ev (idx_ev rfl rfl (.inr rfl) rfl (inZ_at _ hi)) rfl) rfl
    have e2 : fOp2 kAdd (fLst (fCons (fOp2 kIdx (fVar 6) (fVar 5)) fNil)) law_least_c3 (LW g os n s .no (.d (natD i)) (.d (natD t)) .no) = .ok (.new (.lst ([.int (s i)] ++ (List.range n).map fun k => .int (gp (wt g os) i k + s k)))) (LW g os n s .no (.d (natD i)) (.d (natD t)) .no) :=
      op_ev e1 (lleast_row h s i hi _) (kAdd_l rfl rfl (by rw [List.length_map, List.length_range]; show 1 + n ≤ _; omega))
    have e3 := max_ev (l := (s i) :: (List.range n).map fun k => gp (wt g os) i k + s k) (f := fun x => x) (by simp) (e2.trans (by
      rw [List.map_cons, List.map_map]
      rfl))
    rw [List.map_id'] at e3
    exact e3)
  rw [filter_yes] at q
  exact set_new (G1 := LW g os n s .no .no (.d (natD t)) .no) q
theorem lleast_ev (h : Good g n m) (ho : Own os n m) : ∃ A, F_law_least [.d (gameD g), .d (osD os)] = .ok (.d (tupO n (walkS (gp (wt g os)) n))) A := by
  have n6 := h.n6
  have n1 := h.n1
  have e1 : law_least_s1 [.d (gameD g), .d (osD os), .no, .no, .no, .no, .no, .no, .no] = .ok .nx [.d (gameD g), .d (osD os), .d (natD n), .no, .no, .no, .no, .no, .no] := set_d (G1 := [.d (gameD g), .d (osD os), .no, .no, .no, .no, .no, .no, .no]) (lenG_ev h rfl)
  have c1 : ∀ i < n, law_least_c1 [.d (gameD g), .d (osD os), .d (natD n), .no, .no, .d (natD i), .no, .no, .no] = .ok (.new (.lst (inZ n (gp (wt g os) i)))) [.d (gameD g), .d (osD os), .d (natD n), .no, .no, .d (natD i), .no, .no, .no] := fun i hi => by
    have q := comp_evR (it := iRg1 (fVar 2)) (i := 4) (tst := tYesF) (elt := (fOp2 kSub (fCallK (kCall F_law_worth) (fCons (fVar 0) (fCons (fVar 1) (fCons (fVar 5) (fCons (fVar 4) fNil))))) (fCallK (kCall F_law_worth) (fCons (fVar 0) (fCons (fVar 1) (fCons (fVar 5) (fCons (fVar 5) fNil))))))) (G := [.d (gameD g), .d (osD os), .d (natD n), .no, .no, .d (natD i), .no, .no, .no]) (enc := natD) (p := fun _ => true) (e := fun k => .int (gp (wt g os) i k)) (l := List.range n) (rg_ev n rfl (by omega)) rfl rfl (by rw [List.length_range]; omega) (fun _ _ => rfl) fun k hk _ => .d
      (op_ev (call_ev [gameD g, osD os, natD i, natD k] rfl (lworth_ev h ho hi)) (call_ev [gameD g, osD os, natD i, natD i] rfl (lworth_ev h ho hi)) rfl)
    rw [filter_yes] at q
    exact q
  have c2 : law_least_c2 [.d (gameD g), .d (osD os), .d (natD n), .no, .no, .no, .no, .no, .no] = .ok (.new (.lst (tab n (gp (wt g os))))) [.d (gameD g), .d (osD os), .d (natD n), .no, .no, .no, .no, .no, .no] := by
    have q := comp_evR (it := iRg1 (fVar 2)) (i := 5) (tst := tYesF) (elt := law_least_c1) (G := [.d (gameD g), .d (osD os), .d (natD n), .no, .no, .no, .no, .no, .no]) (enc := natD) (p := fun _ => true) (e := fun i => .list (inZ n (gp (wt g os) i))) (l := List.range n) (rg_ev n rfl (by omega)) rfl rfl (by rw [List.length_range]; omega) (fun _ _ => rfl) fun i hi _ => .l (c1 i (List.mem_range.mp hi))
    rw [filter_yes, ← tab_map] at q
    exact q
  have e2 : law_least_s2 [.d (gameD g), .d (osD os), .d (natD n), .no, .no, .no, .no, .no, .no] = .ok .nx [.d (gameD g), .d (osD os), .d (natD n), .l (.lst (tab n (gp (wt g os)))), .no, .no, .no, .no, .no] := set_new (G1 := [.d (gameD g), .d (osD os), .d (natD n), .no, .no, .no, .no, .no, .no]) c2
  have e3 : law_least_s3 [.d (gameD g), .d (osD os), .d (natD n), .l (.lst (tab n (gp (wt g os)))), .no, .no, .no, .no, .no] = .ok .nx (LW g os n (seqS (gp (wt g os)) n 0) .no .no .no .no) := by
    refine set_new (G1 := [.d (gameD g), .d (osD os), .d (natD n), .l (.lst (tab n (gp (wt g os)))), .no, .no, .no, .no, .no]) ((mulL (k := n) rfl (by omega)).trans ?_)
    rw [inZ_rep]
    rfl
  have tn : ∀ t, (sameB n (bf (gp (wt g os)) n (seqS (gp (wt g os)) n t)) (seqS (gp (wt g os)) n t) = false → law_least_b1 (LW g os n (seqS (gp (wt g os)) n t) .no .no (.d (natD t)) .no) = .ok .nx (LW g os n (seqS (gp (wt g os)) n (t + 1)) .no .no .no .no)) ∧
      (sameB n (bf (gp (wt g os)) n (seqS (gp (wt g os)) n t)) (seqS (gp (wt g os)) n t) = true → ∃ G2, law_least_b1 (LW g os n (seqS (gp (wt g os)) n t) .no .no (.d (natD t)) .no) = .ok (.rt (.d (.tuple (inZ n (seqS (gp (wt g os)) n t))))) G2) := fun t => by
    have r := lleast_round h (os := os) (seqS (gp (wt g os)) n t) t
    have c : (fTest (fOp2 kEq (fVar 8) (fVar 6))) (LW g os n (seqS (gp (wt g os)) n t) .no .no (.d (natD t)) (.l (.lst (inZ n (bf (gp (wt g os)) n (seqS (gp (wt g os)) n t)))))) = .ok (sameB n (bf (gp (wt g os)) n (seqS (gp (wt g os)) n t)) (seqS (gp (wt g os)) n t)) (LW g os n (seqS (gp (wt g os)) n t) .no .no (.d (natD t)) (.l (.lst (inZ n (bf (gp (wt g os)) n (seqS (gp (wt g os)) n t)))))) := test_ev (op_ev rfl rfl (eq_inZ rfl rfl))
    constructor
    · intro hs
      exact kl_nx (G1 := LW g os n (seqS (gp (wt g os)) n (t + 1)) .no .no (.d (natD t)) .no) (seq_go r (seq_go (if_f c hs rfl) rfl))
    · intro hs
      exact ⟨_, kl_rt (seq_go r (seq_rt (if_t c hs rfl)))⟩
  have hf : (fOp2 kAdd (fVar 2) (fC (.int 1))) (LW g os n (seqS (gp (wt g os)) n 0) .no .no .no .no) = .ok (.d (natD (n + 1))) (LW g os n (seqS (gp (wt g os)) n 0) .no .no .no .no) := rfl
  have fm := first_more (f := gp (wt g os)) (n := n) n1
  rcases rg_ixJ (body := law_least_b1) (v := 7) (n := n + 1) (G := LW g os n (seqS (gp (wt g os)) n 0) .no .no .no .no) (fun t => LW g os n (seqS (gp (wt g os)) n t) .no .no .no .no) (fun t => sameB n (seqS (gp (wt g os)) n (t + 1)) (seqS (gp (wt g os)) n t)) (fun t r _ => r = .d (.tuple (inZ n (seqS (gp (wt g os)) n t)))) hf (by omega) rfl (fun t ht => ⟨_, rfl, fun hs => .inl ((tn t).1 hs), fun hs => by
      obtain ⟨G2, h1⟩ := (tn t).2 hs
      exact ⟨_, _, h1, rfl⟩⟩) with ⟨h1, h2⟩ | ⟨t, ht, h1, h2, r, G2, h3, rfl⟩
  · unfold walkS
    rw [← fm]
    unfold firstS
    rw [find_none h1]
    exact ⟨_, run_d (LW g os n (seqS (gp (wt g os)) n (n + 1)) .no .no .no .no) (seq_go e1 (seq_go e2 (seq_go e3 (seq_go h2 rfl))))⟩
  · unfold walkS
    rw [← fm]
    unfold firstS
    rw [find_at ht h1 h2]
    exact ⟨_, run_gives (seq_go e1 (seq_go e2 (seq_go e3 (seq_rt h3)))) rfl⟩
end
end D67
namespace D67
open PySem PySem.Spec PyProof.Rows L2 Fx C0
/-! ### what is left -/
/-- money from 0 on, in lowest terms -/
structure Mon (a : Int × Int) : Prop where
  num : 0 ≤ a.1
  den : 0 < a.2
  few : a.2 ≤ 1000
  low : Int.gcd a.1 a.2 = 1
theorem Mon.fq {a : Int × Int} (h : Mon a) : Fq a := ⟨h.den, by have := h.few; omega⟩
theorem Mon.ratio {a : Int × Int} (h : Mon a) : ratioB (frD a) = true := by
  show (decide (0 < a.2) && decide ((Int.gcd a.1 a.2 : Int) = 1)) = true
  rw [decide_eq_true h.den, h.low]
  rfl
def restF (mo : Int × Int) (n : Nat) (s : Nat → Int) : Int × Int := subF mo (sumS n s, 1)
def eachF (mo : Int × Int) (n : Nat) (s : Nat → Int) : Int × Int := red (restF mo n s).1 ((restF mo n s).2 * n)
theorem restF_eq (mo : Int × Int) (n : Nat) (s : Nat → Int) : restF mo n s = red (mo.1 - sumS n s * mo.2) mo.2 := by
  unfold restF subF
  show red (mo.1 * 1 - sumS n s * mo.2) (mo.2 * 1) = _
  rw [Int.mul_one, Int.mul_one]
theorem rest_den {mo : Int × Int} (h : Mon mo) (n : Nat) (s : Nat → Int) : 0 < (restF mo n s).2 ∧ (restF mo n s).2 ≤ 1000 := by
  rw [restF_eq]
  exact ⟨red_pos h.den, Int.le_trans (red_le h.den) h.few⟩
theorem rest_n {mo : Int × Int} (h : Mon mo) {n : Nat} (h1 : 1 ≤ n) (h6 : n ≤ 6) (s : Nat → Int) : 0 < (restF mo n s).2 * (n : Int) ∧ (restF mo n s).2 * (n : Int) ≤ 6000 := by
  obtain ⟨q1, q2⟩ := rest_den h n s
  refine ⟨Int.mul_pos q1 (by omega), ?_⟩
  have := Int.mul_le_mul q2 (show (n : Int) ≤ 6 by omega) (by omega) (by omega)
  omega
theorem each_fq {mo : Int × Int} (h : Mon mo) {n : Nat} (h1 : 1 ≤ n) (h6 : n ≤ 6) (s : Nat → Int) : Fq (eachF mo n s) := by
  obtain ⟨q1, q2⟩ := rest_n h h1 h6 s
  refine ⟨red_pos q1, ?_⟩
  have := red_le (n := (restF mo n s).1) q1
  unfold eachF
  omega
def leftD (g : List (List Int)) (os : List Nat) (n : Nat) (mo : Int × Int) (s : Nat → Int) : PyData := .tuple ((List.range n).map fun i => frD (addF (wt g os i i + s i, 1) (eachF mo n s)))
def payLeft (g : List (List Int)) (os : List Nat) (n : Nat) (mo : Int × Int) : PyData := match walkS (gp (wt g os)) n with
  | none => .none
  | some s => if (restF mo n s).1 < 0 then .none else leftD g os n mo s
theorem ratio_ev (a b : Int) (h : 0 < b) (h2 : b < 2 ^ 400) : F_ratio [.d (.int a), .d (.int b)] = .ok (.d (frD (red a b))) [.d (.int a), .d (.int b)] := by
  have c : (tOr' (tNot' (fTest (fCallK (kCall F_is_whole) (fCons (fVar 0) fNil)))) (tOr' (tNot' (fTest (fCallK (kCall F_is_whole) (fCons (fVar 1) fNil)))) (fTest (fOp2 kEq (fVar 1) (fC (.int 0)))))) [.d (.int a), .d (.int b)] = .ok (false || (false || decide (b = 0))) [.d (.int a), .d (.int b)] :=
    or_ev (not_ev (test_ev (call_ev [.int a] rfl (whole_ev (.int a))))) fun _ => or_ev (not_ev (test_ev (call_ev [.int b] rfl (whole_ev (.int b))))) fun _ => test_ev (op_ev rfl rfl (vEq _ _ _))
  exact run_d [.d (.int a), .d (.int b)] (seq_go (if_f c (by rw [decide_eq_false (by omega)]; rfl) rfl) (ret_ev (call_ev [.int a, .int b] rfl (lowest_ev a b h h2))))
theorem tuple_new {G : Gm} {fc : Gm → Res Rv} {ds : List PyData} (h : fc G = .ok (.new (.lst ds)) G) : fCallK kTuple (fCons fc fNil) G = .ok (.d (.tuple ds)) G := by
  unfold fCallK fCons
  rw [h]
  rfl
section
variable {g : List (List Int)} {os : List Nat} {n m : Nat} {mo : Int × Int}
theorem payleft_ev (h : Good g n m) (ho : Own os n m) (hM : Mon mo) : ∃ A, F_pay_left [.d (gameD g), .d (osD os), .d (frD mo)] = .ok (.d (payLeft g os n mo)) A := by
  have n6 := h.n6
  have n1 := h.n1
  have e1 : pay_left_s1 [.d (gameD g), .d (osD os), .d (frD mo), .no, .no, .no, .no, .no, .no] = .ok .nx [.d (gameD g), .d (osD os), .d (frD mo), .d (tupO n (walkS (gp (wt g os)) n)), .no, .no, .no, .no, .no] :=
    set_d (G1 := [.d (gameD g), .d (osD os), .d (frD mo), .no, .no, .no, .no, .no, .no]) (call_ev [gameD g, osD os] rfl (leastp_ev h ho))
  have e2 : pay_left_s2 [.d (gameD g), .d (osD os), .d (frD mo), .d (tupO n (walkS (gp (wt g os)) n)), .no, .no, .no, .no, .no] = .ok .nx [.d (gameD g), .d (osD os), .d (frD mo), .d (tupO n (walkS (gp (wt g os)) n)), .no, .no, .no, .no, .no] := by
    have r := is_ratio_ev (frD mo) (by show mo.2.natAbs < 2 ^ 400; obtain ⟨q1, q2⟩ := hM.fq; omega)
    rw [hM.ratio] at r
    have c : (tOr' (tNot' (fTest (fCallK (kCall F_is_ratio) (fCons (fVar 2) fNil)))) (fTest (fOp2 kLt (fOp2 kIdx (fVar 2) (fC (.int 0))) (fC (.int 0))))) [.d (gameD g), .d (osD os), .d (frD mo), .d (tupO n (walkS (gp (wt g os)) n)), .no, .no, .no, .no, .no] = .ok (false || decide (mo.1 < 0)) [.d (gameD g), .d (osD os), .d (frD mo), .d (tupO n (walkS (gp (wt g os)) n)), .no, .no, .no, .no, .no] :=
      or_ev (not_ev (test_ev (call_ev [frD mo] rfl r))) fun _ => test_ev (op_ev (idx_ev rfl rfl (.inl rfl) rfl (at0 _ _)) rfl (vLt _ _ _))
    exact if_f c (by rw [decide_eq_false (by have := hM.num; omega)]; rfl) rfl
  unfold payLeft
  cases ew : walkS (gp (wt g os)) n with
  | none =>
    rw [ew] at e1 e2
    exact ⟨_, run_gives (seq_go e1 (seq_go e2 (seq_rt (if_t (b := true) rfl rfl (ret_ev rfl))))) rfl⟩
  | some s =>
    rw [ew] at e1 e2
    have e3 : pay_left_s3 [.d (gameD g), .d (osD os), .d (frD mo), .d (.tuple (inZ n s)), .no, .no, .no, .no, .no] = .ok .nx [.d (gameD g), .d (osD os), .d (frD mo), .d (.tuple (inZ n s)), .no, .no, .no, .no, .no] := if_f (b := false) rfl rfl rfl
    have e4 : pay_left_s4 [.d (gameD g), .d (osD os), .d (frD mo), .d (.tuple (inZ n s)), .no, .no, .no, .no, .no] = .ok .nx [.d (gameD g), .d (osD os), .d (frD mo), .d (.tuple (inZ n s)), .d (frD (restF mo n s)), .no, .no, .no, .no] :=
      set_d (G1 := [.d (gameD g), .d (osD os), .d (frD mo), .d (.tuple (inZ n s)), .no, .no, .no, .no, .no]) (call_ev [frD mo, frD (sumS n s, 1)] (cons_ev rfl (cons_ev (tup_ev (ds := [.int (sumS n s), .int 1]) (hl := by show 2 ≤ 16777216; omega) (cons_ev (kc_ev (cons_ev rfl rfl) sum_tup) rfl)) rfl)) (minus_ev hM.fq.fp (one_fp _)))
    have c5 : (fTest (fOp2 kLt (fOp2 kIdx (fVar 4) (fC (.int 0))) (fC (.int 0)))) [.d (gameD g), .d (osD os), .d (frD mo), .d (.tuple (inZ n s)), .d (frD (restF mo n s)), .no, .no, .no, .no] = .ok (decide ((restF mo n s).1 < 0)) [.d (gameD g), .d (osD os), .d (frD mo), .d (.tuple (inZ n s)), .d (frD (restF mo n s)), .no, .no, .no, .no] :=
      test_ev (op_ev (idx_ev rfl rfl (.inl rfl) rfl (at0 _ _)) rfl (vLt _ _ _))
    dsimp only
    by_cases hr : (restF mo n s).1 < 0
    · rw [if_pos hr]
      exact ⟨_, run_gives (seq_go e1 (seq_go e2 (seq_go e3 (seq_go e4 (seq_rt (if_t c5 (decide_eq_true hr) (ret_ev rfl))))))) rfl⟩
    · rw [if_neg hr]
      obtain ⟨q1, q2⟩ := rest_n hM n1 n6 s
      have e6 : pay_left_s6 [.d (gameD g), .d (osD os), .d (frD mo), .d (.tuple (inZ n s)), .d (frD (restF mo n s)), .no, .no, .no, .no] = .ok .nx [.d (gameD g), .d (osD os), .d (frD mo), .d (.tuple (inZ n s)), .d (frD (restF mo n s)), .d (frD (eachF mo n s)), .no, .no, .no] :=
        set_d (G1 := [.d (gameD g), .d (osD os), .d (frD mo), .d (.tuple (inZ n s)), .d (frD (restF mo n s)), .no, .no, .no, .no]) (call_ev [.int (restF mo n s).1, .int ((restF mo n s).2 * n)] (cons_ev (idx_ev rfl rfl (.inl rfl) rfl (at0 _ _)) (cons_ev (op_ev (idx_ev rfl rfl (.inl rfl) rfl (at1 _ _ _)) (lenG_ev h rfl) (vMul _ ⟨by omega, by omega⟩)) rfl)) (ratio_ev _ _ q1 (by omega)))
      have e7 : pay_left_s7 [.d (gameD g), .d (osD os), .d (frD mo), .d (.tuple (inZ n s)), .d (frD (restF mo n s)), .d (frD (eachF mo n s)), .no, .no, .no] = .ok .nx [.d (gameD g), .d (osD os), .d (frD mo), .d (.tuple (inZ n s)), .d (frD (restF mo n s)), .d (frD (eachF mo n s)), .l (.lst (tab n (wt g os))), .no, .no] :=
        set_new (G1 := [.d (gameD g), .d (osD os), .d (frD mo), .d (.tuple (inZ n s)), .d (frD (restF mo n s)), .d (frD (eachF mo n s)), .no, .no, .no]) (call_new [gameD g, osD os] rfl (table_ev h ho))
      have c8 : pay_left_c1 [.d (gameD g), .d (osD os), .d (frD mo), .d (.tuple (inZ n s)), .d (frD (restF mo n s)), .d (frD (eachF mo n s)), .l (.lst (tab n (wt g os))), .no, .no] = .ok (.new (.lst ((List.range n).map fun i => frD (addF (wt g os i i + s i, 1) (eachF mo n s))))) [.d (gameD g), .d (osD os), .d (frD mo), .d (.tuple (inZ n s)), .d (frD (restF mo n s)), .d (frD (eachF mo n s)), .l (.lst (tab n (wt g os))), .no, .no] := by
        refine comp_evG0 (enc := fun i => .tuple [natD i, .int (s i)]) (lk := []) (fun i => [.d (gameD g), .d (osD os), .d (frD mo), .d (.tuple (inZ n s)), .d (frD (restF mo n s)), .d (frD (eachF mo n s)), .l (.lst (tab n (wt g os))), .d (natD i), .d (.int (s i))]) (List.range n) (by
          rw [← enum_range (α := Nat)]
          exact enum_ev rfl rfl) rfl (by rw [List.length_range]; omega) fun i hi => ⟨rfl, rfl, .d ?_⟩
        have hi := List.mem_range.mp hi
        exact call_ev [frD (wt g os i i + s i, 1), frD (eachF mo n s)] (cons_ev (tup_ev (ds := [.int (wt g os i i + s i), .int 1]) (hl := by show 2 ≤ 16777216; omega) (cons_ev (op_ev (idx_ev (idx_ev rfl rfl (.inr rfl) rfl (tab_at _ hi)) rfl (.inr rfl) rfl (inZ_at _ hi)) rfl (vAdd _ _ _)) rfl)) (cons_ev rfl rfl)) (plus_ev (one_fp _) (each_fq hM n1 n6 s).fp)
      exact ⟨_, run_gives (seq_go e1 (seq_go e2 (seq_go e3 (seq_go e4 (seq_go (if_f c5 (decide_eq_false hr) rfl) (seq_go e6 (seq_go e7 (ret_ev (tuple_new c8))))))))) rfl⟩
/-- other money -/
theorem payleft_bad (h : Good g n m) (ho : Own os n m) {v : PyData} (hv : thin v) (hb : ratioB v = false ∨ ∃ a b r, v = .tuple (.int a :: .int b :: r) ∧ a < 0) : F_pay_left [.d (gameD g), .d (osD os), .d v] = .ex .mal := by
  have e1 : pay_left_s1 [.d (gameD g), .d (osD os), .d v, .no, .no, .no, .no, .no, .no] = .ok .nx [.d (gameD g), .d (osD os), .d v, .d (tupO n (walkS (gp (wt g os)) n)), .no, .no, .no, .no, .no] :=
    set_d (G1 := [.d (gameD g), .d (osD os), .d v, .no, .no, .no, .no, .no, .no]) (call_ev [gameD g, osD os] rfl (leastp_ev h ho))
  have r := is_ratio_ev v hv
  have c : ∃ b, (tOr' (tNot' (fTest (fCallK (kCall F_is_ratio) (fCons (fVar 2) fNil)))) (fTest (fOp2 kLt (fOp2 kIdx (fVar 2) (fC (.int 0))) (fC (.int 0))))) [.d (gameD g), .d (osD os), .d v, .d (tupO n (walkS (gp (wt g os)) n)), .no, .no, .no, .no, .no] = .ok b [.d (gameD g), .d (osD os), .d v, .d (tupO n (walkS (gp (wt g os)) n)), .no, .no, .no, .no, .no] ∧ b = true := by
    cases hr : ratioB v with
    | false =>
      rw [hr] at r
      refine ⟨!false || false, ?_, rfl⟩
      exact or_ev (not_ev (test_ev (call_ev [v] rfl r))) fun z => nomatch z
    | true =>
      rw [hr] at r
      obtain ⟨a, b, q, rfl, ha⟩ := hb.resolve_left (by rw [hr]; exact fun z => by cases z)
      refine ⟨!true || decide (a < 0), ?_, by rw [decide_eq_true ha]; rfl⟩
      exact or_ev (not_ev (test_ev (call_ev [_] rfl r))) fun _ => test_ev (op_ev (idx_ev rfl rfl (.inl rfl) rfl (at0 _ _)) rfl (vLt _ _ _))
  obtain ⟨b, c, hbt⟩ := c
  exact run_ex (seq_go e1 (seq_ex (if_t c hbt rfl)))
end
theorem leastp_bad {d v : PyData} (h : F_check_share [.d d, .d v] = .ex .mal) : F_least_payments [.d d, .d v] = .ex .mal := run_ex (seq_ex (expr_ex (call_ex [d, v] rfl h)))
theorem set_ex {i : Nat} {f : Gm → Res Rv} {G : Gm} {e : Exn} (h : f G = .ex e) : sSet i f G = .ex e := by
  unfold sSet; rw [h]; rfl
theorem payleft_badS {d v w : PyData} (h : F_check_share [.d d, .d v] = .ex .mal) : F_pay_left [.d d, .d v, .d w] = .ex .mal := run_ex (seq_ex (set_ex (call_ex [d, v] rfl (leastp_bad h))))
theorem cheapest_bad {d : PyData} (h : gameB d = false) : F_cheapest [.d d] = .ex .mal := run_ex (seq_ex (expr_ex (call_ex [d] rfl (check_bad h))))
theorem cheapest_many {g : List (List Int)} {n m : Nat} (h : Good g n m) (hb : 60000 < n ^ m) : F_cheapest [.d (gameD g)] = .ex (.rf "large") :=
  run_ex (seq_go (G1 := [.d (gameD g), .no, .no, .no, .no]) (expr_ev (call_ev [gameD g] rfl (check_ok h.game))) (seq_ex (expr_ex (call_ex [gameD g] rfl (few_ex h hb)))))
/-! ### the sum of what is left -/
/-- the fraction a is x over d -/
def IsF (a : Int × Int) (x d : Int) : Prop := 0 < a.2 ∧ 0 < d ∧ a.1 * d = x * a.2
theorem IsF.red {x d : Int} (h : 0 < d) : IsF (red x d) x d := ⟨red_pos h, h, red_eq x d⟩
theorem IsF.add {a b : Int × Int} {x y d : Int} (ha : IsF a x d) (hb : IsF b y d) : IsF (addF a b) (x + y) d := by
  obtain ⟨a1, a2, a3⟩ := ha
  obtain ⟨b1, b2, b3⟩ := hb
  have p := Int.mul_pos a1 b1
  refine ⟨red_pos p, a2, ?_⟩
  have e := red_eq (a.1 * b.2 + b.1 * a.2) (a.2 * b.2)
  have k : (a.1 * b.2 + b.1 * a.2) * d = (x + y) * (a.2 * b.2) := by
    calc (a.1 * b.2 + b.1 * a.2) * d = (a.1 * d) * b.2 + (b.1 * d) * a.2 := by rw [Int.add_mul]; congr 1 <;> ac_rfl
      _ = (x * a.2) * b.2 + (y * b.2) * a.2 := by rw [a3, b3]
      _ = (x + y) * (a.2 * b.2) := by rw [Int.add_mul]; congr 1 <;> ac_rfl
  have q : ((addF a b).1 * d) * (a.2 * b.2) = ((x + y) * (addF a b).2) * (a.2 * b.2) := by
    calc ((addF a b).1 * d) * (a.2 * b.2) = ((addF a b).1 * (a.2 * b.2)) * d := by ac_rfl
      _ = ((a.1 * b.2 + b.1 * a.2) * (addF a b).2) * d := by unfold addF; rw [e]
      _ = ((a.1 * b.2 + b.1 * a.2) * d) * (addF a b).2 := by ac_rfl
      _ = ((x + y) * (a.2 * b.2)) * (addF a b).2 := by rw [k]
      _ = _ := by ac_rfl
  exact Int.eq_of_mul_eq_mul_right (Int.ne_of_gt p) q
theorem IsF.wider {a : Int × Int} {x d k : Int} (h : IsF a x d) (hk : 0 < k) : IsF a (x * k) (d * k) := ⟨h.1, Int.mul_pos h.2.1 hk, by
  calc a.1 * (d * k) = (a.1 * d) * k := by ac_rfl
    _ = (x * a.2) * k := by rw [h.2.2]
    _ = _ := by ac_rfl⟩
theorem IsF.one {x d : Int} (h : 0 < d) : IsF (x, 1) (x * d) d := ⟨by show (0 : Int) < 1; decide, h, by show x * d = x * d * 1; rw [Int.mul_one]⟩
theorem IsF.eq {a b : Int × Int} {x d : Int} (ha : IsF a x d) (hb : IsF b x d) (ca : Int.gcd a.1 a.2 = 1) (cb : Int.gcd b.1 b.2 = 1) : a = b := by
  have q : a.1 * b.2 = b.1 * a.2 := by
    have e : (a.1 * b.2) * d = (b.1 * a.2) * d := by
      calc (a.1 * b.2) * d = (a.1 * d) * b.2 := by ac_rfl
        _ = (x * a.2) * b.2 := by rw [ha.2.2]
        _ = (x * b.2) * a.2 := by ac_rfl
        _ = (b.1 * d) * a.2 := by rw [hb.2.2]
        _ = _ := by ac_rfl
    exact Int.eq_of_mul_eq_mul_right (Int.ne_of_gt ha.2.1) e
  have := red_same ha.1 hb.1 q
  rw [red_of ca, red_of cb] at this
  exact this
theorem add_cop {a b : Int × Int} (ha : 0 < a.2) (hb : 0 < b.2) : Int.gcd (addF a b).1 (addF a b).2 = 1 := red_cop (Int.mul_pos ha hb)
theorem add_den {a b : Int × Int} (ha : 0 < a.2) (hb : 0 < b.2) : 0 < (addF a b).2 ∧ (addF a b).2 ≤ a.2 * b.2 := ⟨red_pos (Int.mul_pos ha hb), red_le (Int.mul_pos ha hb)⟩
end D67
namespace D67
open PySem PySem.Spec PyProof.Rows L2 Fx C0
/-! ### data that are equal to themselves -/
theorem ne_same (G : Gm) {d : PyData} (h : okD 60 d = true) : kNe G (.d d) (.d d) = .ok (.d (.bool false)) G := by
  show (match Fx.opNe d d with | some z => Res.ok (Rv.d z) G | none => .bad) = _
  unfold Fx.opNe
  rw [h, PySem.SeqAt.eqv_refl d (okD_shaped 60 d h).1]
  rfl
theorem okD_tup {k : Nat} {ds : List PyData} (h : ∀ d ∈ ds, okD k d = true) : okD (k + 1) (.tuple ds) = true := List.all_eq_true.mpr h
theorem okD_int (k : Nat) (a : Int) : okD k (.int a) = true := by cases k <;> rfl
theorem okD_none (k : Nat) : okD k .none = true := by cases k <;> rfl
theorem okD_fr (k : Nat) (a : Int × Int) : okD (k + 1) (frD a) = true := okD_tup fun d hd => by
  simp only [List.mem_cons, List.not_mem_nil, or_false] at hd
  rcases hd with rfl | rfl <;> exact okD_int _ _
theorem okD_inZt (k n : Nat) (s : Nat → Int) : okD (k + 1) (.tuple (inZ n s)) = true := okD_tup fun d hd => by
  obtain ⟨x, _, rfl⟩ := List.mem_map.mp hd
  exact okD_int _ _
theorem okD_tupO (k n : Nat) (w : Option (Nat → Int)) : okD (k + 1) (tupO n w) = true := by
  cases w with
  | none => rfl
  | some s => exact okD_inZt k n s
theorem okD_nats (k : Nat) (l : List Nat) : okD (k + 1) (osD l) = true := okD_tup fun d hd => by
  obtain ⟨x, _, rfl⟩ := List.mem_map.mp hd
  exact okD_int _ _
theorem okD_left (g : List (List Int)) (os : List Nat) (n : Nat) (mo : Int × Int) (s : Nat → Int) : okD 60 (leftD g os n mo s) = true := okD_tup fun d hd => by
  obtain ⟨x, _, rfl⟩ := List.mem_map.mp hd
  exact okD_fr _ _
theorem filter_no {α : Type} (l : List α) : l.filter (fun _ => false) = [] := by simp
/-! ### the slots of the law -/
abbrev WS (sc : PyData) (D : List PyData) (g : List (List Int)) (n m : Nat) (sh s6 bst s10 s11 s12 s14 s15 s16 s17 s18 : Sl) : Gm :=
  [.d sc, .l (.lst D), .d (gameD g), .d (natD n), .d (natD m), sh, s6, bst, .no, .no, s10, s11, s12, .no, s14, s15, s16, s17, s18, .no, .no, .no, .no, .no, .no, .no, .no, .no]
section
variable {sc : PyData} {D : List PyData} {g : List (List Int)} {n m : Nat} {sh bst : Sl} {os : List Nat}
theorem st7 (h : Good g n m) (ho : Own os n m) : law_s7 (WS sc D g n m sh .no bst (.d (osD os)) .no .no .no .no .no .no .no) = .ok .nx (WS sc D g n m sh .no bst (.d (osD os)) (.d (tupO n (walkS (gp (wt g os)) n))) (.d (tupO n (walkS (gp (wt g os)) n))) .no .no .no .no .no) := by
  obtain ⟨A, e⟩ := lleast_ev h ho
  exact asg_ev (G1 := WS sc D g n m sh .no bst (.d (osD os)) .no .no .no .no .no .no .no) (tup_ev (ds := [tupO n (walkS (gp (wt g os)) n), tupO n (walkS (gp (wt g os)) n)]) (hl := by show 2 ≤ 16777216; omega) (cons_ev (call_ev [gameD g, osD os] rfl e) (cons_ev (call_ev [gameD g, osD os] rfl (leastp_ev h ho)) rfl))) rfl
theorem st8 (h : Good g n m) : law_s8 (WS sc D g n m sh .no bst (.d (osD os)) (.d (tupO n (walkS (gp (wt g os)) n))) (.d (tupO n (walkS (gp (wt g os)) n))) .no .no .no .no .no) = .ok .nx (WS sc D g n m sh .no bst (.d (osD os)) (.d (tupO n (walkS (gp (wt g os)) n))) (.d (tupO n (walkS (gp (wt g os)) n))) .no .no .no .no .no) := by
  have n6 := h.n6
  have e1 := ne_same (WS sc D g n m sh .no bst (.d (osD os)) (.d (tupO n (walkS (gp (wt g os)) n))) (.d (tupO n (walkS (gp (wt g os)) n))) .no .no .no .no .no) (okD_tupO 59 n (walkS (gp (wt g os)) n))
  cases ew : walkS (gp (wt g os)) n with
  | none =>
    rw [ew] at e1
    exact if_f (b := false || (false && false)) (or_ev (test_ev (op_ev rfl rfl e1)) fun _ => and_ev rfl fun z => nomatch z) rfl rfl
  | some s =>
    rw [ew] at e1
    have c : law_c6 (WS sc D g n m sh .no bst (.d (osD os)) (.d (.tuple (inZ n s))) (.d (.tuple (inZ n s))) .no .no .no .no .no) = .ok (.new (.lst (((List.range n).filter fun _ => false).map fun j => PyData.int (s j)))) (WS sc D g n m sh .no bst (.d (osD os)) (.d (.tuple (inZ n s))) (.d (.tuple (inZ n s))) .no .no .no .no .no) :=
      comp_evR (i := 13) (enc := fun j => .int (s j)) (p := fun _ => false) (e := fun j => .int (s j)) (l := List.range n) rfl rfl rfl (by rw [List.length_range]; omega) (fun j _ => or_ev (a := false) (b := false) rfl fun _ => rfl) fun j _ z => nomatch z
    rw [filter_no] at c
    exact if_f (b := false || (true && false)) (or_ev (test_ev (op_ev rfl rfl e1)) fun _ => and_ev rfl fun _ => test_ev (op_ev c rfl rfl)) rfl rfl
theorem st9 (hD : Dr D) (a b : Sl) : ∃ mo D', Mon mo ∧ mo.2 ≤ 3 ∧ Dr D' ∧ law_s9 (WS sc D g n m sh .no bst (.d (osD os)) a b .no .no .no .no .no) = .ok .nx (WS sc D' g n m sh .no bst (.d (osD os)) a b (.d (frD mo)) .no .no .no .no) := by
  obtain ⟨r, D1, hD1, hr, e1⟩ := takeC (G := WS sc D g n m sh .no bst (.d (osD os)) a b .no .no .no .no .no) (i := 1) (fm := fC (.int 80)) (many := 80) rfl rfl rfl hD (by omega) (by omega)
  obtain ⟨q, D2, hD2, hq, e2⟩ := takeC (G := WS sc D1 g n m sh .no bst (.d (osD os)) a b .no .no .no .no .no) (i := 1) (fm := fC (.int 3)) (many := 3) rfl rfl rfl hD1 (by omega) (by omega)
  have hd : 0 < (1 + (q : Int)) := by omega
  refine ⟨red (r : Int) (1 + (q : Int)), D2, ⟨?_, red_pos hd, ?_, red_cop hd⟩, ?_, hD2, ?_⟩
  · have := red_neg (u := (r : Int)) hd
    omega
  · have := red_le (n := (r : Int)) hd
    omega
  · have := red_le (n := (r : Int)) hd
    omega
  · refine set_d (G1 := WS sc D2 g n m sh .no bst (.d (osD os)) a b .no .no .no .no .no) (call_l (ds := [.int r, .int (1 + q)]) (cons_ev (G1 := WS sc D1 g n m sh .no bst (.d (osD os)) a b .no .no .no .no .no) e1 (cons_ev (G1 := WS sc D2 g n m sh .no bst (.d (osD os)) a b .no .no .no .no .no) (op_ev (k := kAdd) (fb := (fCallK (kCallM F_law_take) (fCons (fVar 1) (fCons (fC (.int 3)) fNil)))) (a := .d (.int 1)) (b := .d (natD q)) (G2 := WS sc D2 g n m sh .no bst (.d (osD os)) a b .no .no .no .no .no) rfl e2 rfl) rfl)) rfl (lfrac_ev _ _ hd (by omega)))
theorem st10 (h : Good g n m) (ho : Own os n m) {mo : Int × Int} (hM : Mon mo) (a b : Sl) : law_s10 (WS sc D g n m sh .no bst (.d (osD os)) a b (.d (frD mo)) .no .no .no .no) = .ok .nx (WS sc D g n m sh .no bst (.d (osD os)) a b (.d (frD mo)) (.d (payLeft g os n mo)) .no .no .no) := by
  obtain ⟨A, e⟩ := payleft_ev h ho hM
  exact set_d (G1 := WS sc D g n m sh .no bst (.d (osD os)) a b (.d (frD mo)) .no .no .no .no) (call_ev [gameD g, osD os, frD mo] rfl e)
end
end D67
namespace D67
open PySem PySem.Spec PyProof.Rows L2 Fx C0
/-! ### sums of fractions -/
theorem foldl_take {β α : Type} (f : β → α → β) (b : β) {l : List α} {j : Nat} {a : α} (h : l[j]? = some a) : (l.take (j + 1)).foldl f b = f ((l.take j).foldl f b) a := by
  rw [List.take_succ, h, List.foldl_append]
  rfl
theorem acc_den {L : List (Int × Int)} (h : ∀ a ∈ L, 0 < a.2 ∧ a.2 ≤ 18) : ∀ j, 0 < ((L.take j).foldl addF (0, 1)).2 ∧ ((L.take j).foldl addF (0, 1)).2 ≤ 18 ^ j
  | 0 => ⟨by show (0 : Int) < 1; decide, by show (1 : Int) ≤ 1; decide⟩
  | j + 1 => by
    obtain ⟨h1, h2⟩ := acc_den h j
    cases e : L[j]? with
    | none =>
      have e1 : L.take (j + 1) = L.take j := by rw [List.take_succ, e]; simp
      rw [e1]
      have e2 : (18 : Int) ^ (j + 1) = 18 ^ j * 18 := Int.pow_succ _ _
      omega
    | some a =>
      rw [foldl_take _ _ e]
      obtain ⟨a1, a2⟩ := h a (List.mem_of_getElem? e)
      obtain ⟨q1, q2⟩ := add_den h1 a1
      refine ⟨q1, Int.le_trans q2 ?_⟩
      rw [Int.pow_succ]
      exact Int.mul_le_mul h2 a2 (Int.le_of_lt a1) (Int.le_of_lt (Int.lt_of_lt_of_le h1 h2))
theorem lsum_ev {L : List (Int × Int)} (hl : L.length ≤ 6) (h : ∀ a ∈ L, 0 < a.2 ∧ a.2 ≤ 18) : F_law_sum [.d (.tuple (L.map frD))] = .ok (.d (frD (L.foldl addF (0, 1)))) [.d (.tuple (L.map frD))] := by
  have fp : ∀ j, j ≤ 6 → Fp ((L.take j).foldl addF (0, 1)) := fun j hj => by
    obtain ⟨q1, q2⟩ := acc_den h j
    refine ⟨q1, ?_⟩
    have : (18 : Int) ^ j ≤ 18 ^ 6 := by
      have := Nat.pow_le_pow_right (show 0 < 18 by omega) hj
      exact_mod_cast this
    omega
  have lp := for_ix (tg := gN 2) (body := law_sum_b1) (it := iSeq (fVar 0)) (G := [.d (.tuple (L.map frD)), .d (frD (0, 1)), .no]) (lk := []) (ds := L.map frD) (fun j => [.d (.tuple (L.map frD)), .d (frD ((L.take j).foldl addF (0, 1))), .no]) rfl rfl fun j d hj => by
    rw [List.getElem?_map] at hj
    obtain ⟨a, ea, rfl⟩ := Option.map_eq_some_iff.mp hj
    have hlt : j < 6 := by have := (List.getElem?_eq_some_iff.mp ea).1; omega
    refine ⟨[.d (.tuple (L.map frD)), .d (frD ((L.take j).foldl addF (0, 1))), .d (frD a)], rfl, .inl ?_⟩
    rw [foldl_take _ _ ea]
    obtain ⟨a1, a2⟩ := h a (List.mem_of_getElem? ea)
    exact kl_nx (G1 := [.d (.tuple (L.map frD)), .d (frD (addF ((L.take j).foldl addF (0, 1)) a)), .d (frD a)]) (set_d (G1 := [.d (.tuple (L.map frD)), .d (frD ((L.take j).foldl addF (0, 1))), .d (frD a)]) (call_ev [frD ((L.take j).foldl addF (0, 1)), frD a] rfl (lplus_ev (fp j (by omega)) ⟨a1, by omega⟩)))
  rw [List.length_map, List.take_of_length_le (Nat.le_refl _)] at lp
  exact run_d [.d (.tuple (L.map frD)), .d (frD (L.foldl addF (0, 1))), .no] (seq_go (G1 := [.d (.tuple (L.map frD)), .d (frD (0, 1)), .no]) rfl (seq_go lp rfl))
/-- the values of the items over one denominator -/
theorem fold_IsF {D : Int} (x : Nat → Int) (a : Nat → Int × Int) : ∀ (l : List Nat) (b : Int × Int) (X : Int), IsF b X D → (∀ i ∈ l, IsF (a i) (x i) D) → IsF ((l.map a).foldl addF b) (X + (l.map x).sum) D
  | [], b, X, h, _ => by simpa using h
  | i :: l, b, X, h, hs => by
    have := fold_IsF x a l (addF b (a i)) (X + x i) (h.add (hs i List.mem_cons_self)) fun j hj => hs j (List.mem_cons_of_mem _ hj)
    rw [List.map_cons, List.map_cons, List.foldl_cons, List.sum_cons]
    rw [show X + (x i + (l.map x).sum) = X + x i + (l.map x).sum by omega]
    exact this
theorem fold_cop (a : Nat → Int × Int) : ∀ (l : List Nat) (b : Int × Int), 0 < b.2 → Int.gcd b.1 b.2 = 1 → (∀ i ∈ l, 0 < (a i).2) → Int.gcd ((l.map a).foldl addF b).1 ((l.map a).foldl addF b).2 = 1
  | [], b, _, h, _ => h
  | i :: l, b, hb, _, hs => by
    rw [List.map_cons, List.foldl_cons]
    exact fold_cop a l (addF b (a i)) (add_den hb (hs i List.mem_cons_self)).1 (add_cop hb (hs i List.mem_cons_self)) fun j hj => hs j (List.mem_cons_of_mem _ hj)
theorem sum_lin (D E : Int) (x : Nat → Int) : ∀ l : List Nat, (l.map fun i => x i * D + E).sum = (l.map x).sum * D + (l.length : Int) * E
  | [] => by simp
  | i :: l => by
    rw [List.map_cons, List.map_cons, List.sum_cons, List.sum_cons, sum_lin D E x l, List.length_cons]
    rw [Int.add_mul, Int.natCast_succ, Int.add_mul, Int.one_mul]
    omega
theorem sum_two (x y : Nat → Int) : ∀ l : List Nat, (l.map fun i => x i + y i).sum = (l.map x).sum + (l.map y).sum
  | [] => rfl
  | i :: l => by
    rw [List.map_cons, List.map_cons, List.map_cons, List.sum_cons, List.sum_cons, List.sum_cons, sum_two x y l]
    omega
/-- all that is left and the payments is what there was -/
theorem left_sum {n : Nat} {mo : Int × Int} (hM : Mon mo) (h1 : 1 ≤ n) (h6 : n ≤ 6) (w s : Nat → Int) :
    ((List.range n).map fun i => addF (w i + s i, 1) (eachF mo n s)).foldl addF (0, 1) = addF mo (sumS n w, 1) := by
  obtain ⟨r1, _⟩ := rest_den hM n s
  obtain ⟨q1, _⟩ := rest_n hM h1 h6 s
  have eE : IsF (eachF mo n s) (restF mo n s).1 ((restF mo n s).2 * n) := IsF.red q1
  have items : ∀ i ∈ List.range n, IsF (addF (w i + s i, 1) (eachF mo n s)) ((w i + s i) * ((restF mo n s).2 * n) + (restF mo n s).1) ((restF mo n s).2 * n) := fun i _ => (IsF.one q1).add eE
  have z : IsF (0, 1) 0 ((restF mo n s).2 * n) := ⟨by show (0 : Int) < 1; decide, q1, by show (0 : Int) * _ = 0 * 1; rw [Int.zero_mul, Int.zero_mul]⟩
  have L := fold_IsF (fun i => (w i + s i) * ((restF mo n s).2 * n) + (restF mo n s).1) (fun i => addF (w i + s i, 1) (eachF mo n s)) (List.range n) (0, 1) 0 z items
  have R : IsF (addF mo (sumS n w, 1)) (mo.1 + sumS n w * mo.2) mo.2 := IsF.add ⟨hM.den, hM.den, rfl⟩ (IsF.one hM.den)
  have L2 := L.wider hM.den
  have R2 := R.wider q1
  have e : (0 + ((List.range n).map fun i => (w i + s i) * ((restF mo n s).2 * n) + (restF mo n s).1).sum) * mo.2 = (mo.1 + sumS n w * mo.2) * ((restF mo n s).2 * n) := by
    rw [Int.zero_add, sum_lin _ _ (fun i => w i + s i), sum_two, List.length_range]
    have er : (restF mo n s).1 * mo.2 = (mo.1 - sumS n s * mo.2) * (restF mo n s).2 := by
      have := red_eq (mo.1 - sumS n s * mo.2) mo.2
      rw [← restF_eq] at this
      exact this
    show ((sumS n w + sumS n s) * ((restF mo n s).2 * n) + (n : Int) * (restF mo n s).1) * mo.2 = _
    have e1 : (n : Int) * (restF mo n s).1 * mo.2 = (mo.1 - sumS n s * mo.2) * ((restF mo n s).2 * n) := by
      calc (n : Int) * (restF mo n s).1 * mo.2 = (n : Int) * ((restF mo n s).1 * mo.2) := by ac_rfl
        _ = (n : Int) * ((mo.1 - sumS n s * mo.2) * (restF mo n s).2) := by rw [er]
        _ = _ := by ac_rfl
    rw [Int.add_mul, e1]
    have e2 : (sumS n w + sumS n s) * ((restF mo n s).2 * n) * mo.2 = (sumS n w * mo.2 + sumS n s * mo.2) * ((restF mo n s).2 * n) := by
      calc (sumS n w + sumS n s) * ((restF mo n s).2 * n) * mo.2 = ((sumS n w + sumS n s) * mo.2) * ((restF mo n s).2 * n) := by ac_rfl
        _ = _ := by rw [Int.add_mul]
    rw [e2, ← Int.add_mul]
    congr 1
    omega
  rw [e, Int.mul_comm ((restF mo n s).2 * ↑n) mo.2] at L2
  exact L2.eq R2 (fold_cop _ _ _ (by show (0 : Int) < 1; decide) rfl fun i _ => (add_den (by show (0 : Int) < 1; decide) eE.1).1) (add_cop hM.den (by show (0 : Int) < 1; decide))
end D67
namespace D67
open PySem PySem.Spec PyProof.Rows L2 Fx C0
/-! ### the slots put back -/
theorem unwipe_no {G0 G2 : Gm} {j : Nat} (h0 : G0[j]? = some .no) (h2 : G2[j]? = some .no) : unwipe G0 G2 [j] = G2 := by
  apply List.ext_getElem?
  intro k
  unfold unwipe
  rw [List.getElem?_mapIdx]
  by_cases e : k = j
  · subst e
    rw [h2]
    show some (if [k].contains k then G0.getD k .no else .no) = some .no
    rw [if_pos (by simp), List.getD_eq_getElem?_getD, h0]
    rfl
  · cases G2[k]? with
    | none => rfl
    | some t =>
      show some (if [j].contains k then _ else t) = some t
      rw [if_neg (by simpa using e)]
/-- a comprehension with draws: the slots come back, but for what is drawn from -/
theorem comp_draw {it : Gm → Res Itv} {i : Nat} {elt : Gm → Res Rv} {ds : List PyData} {D : List PyData} (S : List PyData → Gm) (P : PyData → Prop) (hD : Dr D) (hit : it (S D) = .ok (ds, []) (S D)) (hpl : plainAt (S D) [i] = true) (hS : ∀ D, (S D)[i]? = some .no) (hU : ∀ D', unlockAll (S D) (S D') = S D') (hl : ds.length ≤ 16777216)
    (he : ∀ d ∈ ds, ∀ D, Dr D → ∃ x D', elt ((S D).set i (.d d)) = .ok (.d x) ((S D').set i (.d d)) ∧ Dr D' ∧ P x) : ∃ xs D', fComp it [i] (gN i) tYesF elt (S D) = .ok (.new (.lst xs)) (S D') ∧ Dr D' ∧ xs.length = ds.length ∧ ∀ x ∈ xs, P x := by
  obtain ⟨xs, G', e, ⟨D', hD', rfl⟩, h1, h2⟩ := comp_st (it := it) (i := i) (elt := elt) (G := S D) (ds := ds) (fun G => ∃ D, Dr D ∧ G = S D) P hit hpl (by rw [lock_nil]; exact wipe_no (hS D)) ⟨D, hD, rfl⟩ (fun G ⟨D', _, e⟩ => by rw [e]; exact hS D') (fun G ⟨D', _, e⟩ => by
    rw [e, lock_nil, unwipe_no (hS D) (hS D')]
    exact hU D') hl (fun d hd G ⟨D1, hD1, e⟩ => by
    subst e
    obtain ⟨x, D2, e1, hD2, p⟩ := he d hd D1 hD1
    exact ⟨x, S D2, e1, ⟨D2, hD2, rfl⟩, p⟩)
  exact ⟨xs, D', e, hD', h1, h2⟩
theorem min_ev {α : Type} {fc : Gm → Res Rv} {G : Gm} {l : List α} {f : α → Int} (hl : l ≠ []) (h : fc G = .ok (.new (.lst (l.map fun x => .int (f x)))) G) : fCallK kMin (fCons fc fNil) G = .ok (.d (.int (mnI (l.map f)))) G := by
  unfold fCallK fCons
  rw [h]
  show kMin G [.new (.lst (l.map fun x => .int (f x)))] = _
  unfold kMin kInts k1
  dsimp only [rd, aoD]
  rw [intsOfF]
  dsimp only
  rw [if_neg (by simpa using hl)]
theorem min_tup {G : Gm} {n : Nat} {s : Nat → Int} (hn : 1 ≤ n) : kMin G [.d (.tuple (inZ n s))] = .ok (.d (.int (mnI ((List.range n).map s)))) G := by
  unfold kMin kInts k1
  dsimp only [rd]
  rw [show intsOf (inZ n s) = some ((List.range n).map s) from intsOfF s _]
  dsimp only
  rw [if_neg (by
    rw [List.isEmpty_iff, List.map_eq_nil_iff]
    intro z
    have := congrArg List.length z
    rw [List.length_range] at this
    simp at this
    omega)]
theorem range_ne {n : Nat} (h : 1 ≤ n) : List.range n ≠ [] := fun z => by
  have := congrArg List.length z
  rw [List.length_range] at this
  simp at this
  omega
/-- payments told as whole numbers -/
def told1 (n : Nat) (s : Nat → Int) : List (Int × Int) := (List.range n).map fun j => (s j, 1)
theorem told1_len (n : Nat) (s : Nat → Int) : (told1 n s).length = n := by unfold told1; simp
theorem pk_range {n i : Nat} (a : Nat → Int × Int) (h : i < n) : pk ((List.range n).map a) i = a i := by
  unfold pk
  rw [List.getD_eq_getElem?_getD, List.getElem?_map, List.getElem?_range h]
  rfl
theorem told1_calm {n : Nat} {w : Nat → Nat → Int} {s : Nat → Int} (h : walkS (gp w) n = some s) : calmB n w (told1 n s) = true := by
  have P := walk_pot h
  rw [calm_iff]
  intro i hi k hk
  have e1 : pk (told1 n s) i = (s i, 1) := pk_range _ hi
  have e2 : pk (told1 n s) k = (s k, 1) := pk_range _ hk
  cases he : envP w (told1 n s) i k with
  | false => rfl
  | true =>
    have q := (envP_iff (by rw [e1]; show (0 : Int) < 1; decide) (by rw [e2]; show (0 : Int) < 1; decide)).mp he
    rw [e1, e2] at q
    simp only [Int.mul_one] at q
    by_cases hne : i = k
    · subst hne; omega
    · have := P.fix i hi k hk hne
      unfold gp at this
      omega
theorem told1_pay {n : Nat} {w : Nat → Nat → Int} {s : Nat → Int} (h : walkS (gp w) n = some s) : payB n (payD (told1 n s)) = true := by
  have P := walk_pot h
  show (decide (((told1 n s).map frD).length = n) && ((told1 n s).map frD).all pay1) = true
  rw [List.length_map, told1_len, decide_eq_true rfl, Bool.true_and, List.all_eq_true]
  intro d hd
  obtain ⟨p, hp, rfl⟩ := List.mem_map.mp hd
  obtain ⟨j, hj, rfl⟩ := List.mem_map.mp hp
  exact pay1_of (by show (0 : Int) < 1; decide) (by show Int.gcd (s j) 1 = 1; simp) (P.pos j (List.mem_range.mp hj))
section
variable {sc : PyData} {D : List PyData} {g : List (List Int)} {n m : Nat} {sh bst : Sl} {os : List Nat} {s : Nat → Int}
theorem st14 (h : Good g n m) (ho : Own os n m) (hw : walkS (gp (wt g os)) n = some s) (a c d : Sl) :
    law_s14 (WS sc D g n m sh .no bst (.d (osD os)) a (.d (.tuple (inZ n s))) c d .no .no .no) = .ok .nx (WS sc D g n m sh .no bst (.d (osD os)) a (.d (.tuple (inZ n s))) c d .no .no .no) := by
  have n6 := h.n6
  have n1 := h.n1
  have P := walk_pot hw
  have hmin : mnI ((List.range n).map s) = 0 := by
    obtain ⟨q1, q2⟩ := mnI_mem (ns := (List.range n).map s) (by
      rw [Ne, List.map_eq_nil_iff]
      exact range_ne n1)
    obtain ⟨j, hj, hv⟩ := List.mem_map.mp q1
    have hp := P.pos j (List.mem_range.mp hj)
    obtain ⟨i, hi, h0⟩ := walk_zero n1 hw
    have := q2 (s i) (List.mem_map.mpr ⟨i, List.mem_range.mpr hi, rfl⟩)
    omega
  have c7 : law_c7 (WS sc D g n m sh .no bst (.d (osD os)) a (.d (.tuple (inZ n s))) c d .no .no .no) = .ok (.new (.lst ((told1 n s).map frD))) (WS sc D g n m sh .no bst (.d (osD os)) a (.d (.tuple (inZ n s))) c d .no .no .no) := by
    have q := comp_evR (it := iSeq (fVar 12)) (i := 13) (tst := tYesF) (elt := fTup (fCons (fVar 13) (fCons (fC (.int 1)) fNil))) (G := WS sc D g n m sh .no bst (.d (osD os)) a (.d (.tuple (inZ n s))) c d .no .no .no) (enc := fun j => .int (s j)) (p := fun _ => true) (e := fun j => frD (s j, 1)) (l := List.range n) rfl rfl rfl (by rw [List.length_range]; omega) (fun _ _ => rfl) fun j _ _ => .d rfl
    rw [filter_yes] at q
    refine Eq.trans q ?_
    unfold told1
    rw [List.map_map]
    rfl
  obtain ⟨A, e⟩ := iscalm_ev h ho (told1 n s) (told1_len n s) (fun p hp => by
    obtain ⟨j, _, rfl⟩ := List.mem_map.mp hp
    exact ⟨by show (0 : Int) < 1; decide, by show (1 : Int) < 2 ^ 20; decide⟩) (told1_pay hw)
  rw [told1_calm hw] at e
  have c1 := vNe (WS sc D g n m sh .no bst (.d (osD os)) a (.d (.tuple (inZ n s))) c d .no .no .no) (mnI ((List.range n).map s)) 0
  rw [hmin, decide_eq_true rfl] at c1
  have m1 := min_tup (G := WS sc D g n m sh .no bst (.d (osD os)) a (.d (.tuple (inZ n s))) c d .no .no .no) (s := s) n1
  rw [hmin] at m1
  exact if_f (b := false || false) (or_ev (test_ev (op_ev (kc_ev (cons_ev rfl rfl) m1) rfl c1)) fun _ => test_ev (op_ev (call_ev [gameD g, osD os, payD (told1 n s)] (cons_ev rfl (cons_ev rfl (cons_ev (tuple_new c7) rfl))) e) rfl rfl)) rfl rfl
/-- the drawn payments: halves -/
def half2 (X : List Int) : List (Int × Int) := X.map fun x => red x 2
theorem halves {xs : List PyData} (h : ∀ x ∈ xs, ∃ v : Int, x = frD (red v 2)) : ∃ X : List Int, xs = (half2 X).map frD := by
  induction xs with
  | nil => exact ⟨[], rfl⟩
  | cons x xs ih =>
    obtain ⟨v, rfl⟩ := h x List.mem_cons_self
    obtain ⟨X, rfl⟩ := ih fun y hy => h y (List.mem_cons_of_mem _ hy)
    exact ⟨v :: X, rfl⟩
theorem half2_fq {X : List Int} : ∀ p ∈ half2 X, Fq p := fun p hp => by
  obtain ⟨x, _, rfl⟩ := List.mem_map.mp hp
  have := red_le (n := x) (show (0 : Int) < 2 by decide)
  exact ⟨red_pos (by decide), by omega⟩
theorem pk_half {X : List Int} {i : Nat} (h : i < X.length) : pk (half2 X) i = red (X.getD i 0) 2 := by
  unfold pk half2
  rw [List.getD_eq_getElem?_getD, List.getElem?_map, List.getD_eq_getElem?_getD, List.getElem?_eq_getElem h]
  rfl
theorem st15 (h : Good g n m) (hD : Dr D) (a c d : Sl) (t : Nat) :
    ∃ X D', X.length = n ∧ Dr D' ∧ law_s15 (WS sc D g n m sh (.d (natD t)) bst (.d (osD os)) a (.d (.tuple (inZ n s))) c d .no .no .no) = .ok .nx (WS sc D' g n m sh (.d (natD t)) bst (.d (osD os)) a (.d (.tuple (inZ n s))) c d (.d (payD (half2 X))) .no .no) := by
  have n6 := h.n6
  obtain ⟨xs, D', e, hD', hl, hp⟩ := comp_draw (it := iSeq (fVar 12)) (i := 13) (elt := (fCallK (kCall F_law_fraction) (fCons (fOp2 kSub (fOp2 kAdd (fOp2 kMul (fC (.int 2)) (fVar 13)) (fCallK (kCallM F_law_take) (fCons (fVar 1) (fCons (fC (.int 7)) fNil)))) (fCallK (kCallM F_law_take) (fCons (fVar 1) (fCons (fC (.int 3)) fNil)))) (fCons (fC (.int 2)) fNil)))) (ds := inZ n s) (D := D)
    (fun D => WS sc D g n m sh (.d (natD t)) bst (.d (osD os)) a (.d (.tuple (inZ n s))) c d .no .no .no) (fun x => ∃ v : Int, x = frD (red v 2)) hD rfl rfl (fun _ => rfl) (fun D' => by
      show [_, _, _, _, _, unlk sh sh, _, unlk bst bst, _, _, _, unlk a a, _, _, unlk c c, unlk d d, _, _, _, _, _, _, _, _, _, _, _, _] = _
      rw [unlk_self sh, unlk_self bst, unlk_self a, unlk_self c, unlk_self d]
      rfl) (by rw [inZ_len]; omega) fun x hx D hD => by
      obtain ⟨j, _, rfl⟩ := List.mem_map.mp hx
      obtain ⟨r, D1, hD1, hr, e1⟩ := takeC (G := (WS sc D g n m sh (.d (natD t)) bst (.d (osD os)) a (.d (.tuple (inZ n s))) c d .no .no .no).set 13 (.d (.int (s j)))) (i := 1) (fm := fC (.int 7)) (many := 7) rfl rfl rfl hD (by omega) (by omega)
      obtain ⟨q, D2, hD2, hq, e2⟩ := takeC (G := (WS sc D1 g n m sh (.d (natD t)) bst (.d (osD os)) a (.d (.tuple (inZ n s))) c d .no .no .no).set 13 (.d (.int (s j)))) (i := 1) (fm := fC (.int 3)) (many := 3) rfl rfl rfl hD1 (by omega) (by omega)
      have m0 : kMul ((WS sc D g n m sh (.d (natD t)) bst (.d (osD os)) a (.d (.tuple (inZ n s))) c d .no .no .no).set 13 (.d (.int (s j)))) (.d (.int 2)) (.d (.int (s j))) = .ok (.d (.int (2 * s j))) _ := kMul_i (show mulOk 2 (s j) = true by unfold mulOk; rfl)
      have a1 : fOp2 kAdd (fOp2 kMul (fC (.int 2)) (fVar 13)) (fCallK (kCallM F_law_take) (fCons (fVar 1) (fCons (fC (.int 7)) fNil))) ((WS sc D g n m sh (.d (natD t)) bst (.d (osD os)) a (.d (.tuple (inZ n s))) c d .no .no .no).set 13 (.d (.int (s j)))) = .ok (.d (.int (2 * s j + r))) ((WS sc D1 g n m sh (.d (natD t)) bst (.d (osD os)) a (.d (.tuple (inZ n s))) c d .no .no .no).set 13 (.d (.int (s j)))) :=
        op_ev (a := .d (.int (2 * s j))) (b := .d (natD r)) (G2 := (WS sc D1 g n m sh (.d (natD t)) bst (.d (osD os)) a (.d (.tuple (inZ n s))) c d .no .no .no).set 13 (.d (.int (s j)))) (op_ev rfl rfl m0) e1 rfl
      have ar : (fCons (fOp2 kSub (fOp2 kAdd (fOp2 kMul (fC (.int 2)) (fVar 13)) (fCallK (kCallM F_law_take) (fCons (fVar 1) (fCons (fC (.int 7)) fNil)))) (fCallK (kCallM F_law_take) (fCons (fVar 1) (fCons (fC (.int 3)) fNil)))) (fCons (fC (.int 2)) fNil)) ((WS sc D g n m sh (.d (natD t)) bst (.d (osD os)) a (.d (.tuple (inZ n s))) c d .no .no .no).set 13 (.d (.int (s j)))) = .ok [.d (.int (2 * s j + r - q)), .d (.int 2)] ((WS sc D2 g n m sh (.d (natD t)) bst (.d (osD os)) a (.d (.tuple (inZ n s))) c d .no .no .no).set 13 (.d (.int (s j)))) := cons_ev (G1 := (WS sc D2 g n m sh (.d (natD t)) bst (.d (osD os)) a (.d (.tuple (inZ n s))) c d .no .no .no).set 13 (.d (.int (s j)))) (op_ev (k := kSub) (a := .d (.int (2 * s j + r))) (b := .d (natD q)) (G2 := (WS sc D2 g n m sh (.d (natD t)) bst (.d (osD os)) a (.d (.tuple (inZ n s))) c d .no .no .no).set 13 (.d (.int (s j)))) a1 e2 rfl) rfl
      exact ⟨_, D2, call_l ar rfl (lfrac_ev _ _ (by decide) (by omega)), hD2, _, rfl⟩
  obtain ⟨X, rfl⟩ := halves hp
  refine ⟨X, D', ?_, hD', ?_⟩
  · rw [List.length_map, inZ_len] at hl
    unfold half2 at hl
    rw [List.length_map] at hl
    exact hl
  · refine set_d (G1 := WS sc D' g n m sh (.d (natD t)) bst (.d (osD os)) a (.d (.tuple (inZ n s))) c d .no .no .no) (kc_ev (cons_ev (r := .new (.lst ((half2 X).map frD))) (G1 := WS sc D' g n m sh (.d (natD t)) bst (.d (osD os)) a (.d (.tuple (inZ n s))) c d .no .no .no) e rfl) rfl)
theorem half_least {X : List Int} (hX : X.length = n) (h0 : ∀ x ∈ X, 0 ≤ (red x 2).1) {w : Nat → Nat → Int} (hw : walkS (gp w) n = some s) (hc : calmB n w (half2 X) = true) : ∀ i < n, 2 * s i ≤ X.getD i 0 := by
  refine walk_least2 hw (fun i hi => ?_) fun i hi k hk hne => ?_
  · have := h0 (X.getD i 0) (by rw [List.getD_eq_getElem?_getD, List.getElem?_eq_getElem (by omega)]; exact List.getElem_mem _)
    have q := red_neg (u := X.getD i 0) (show (0 : Int) < 2 by decide)
    omega
  · have hf := calm_iff.mp hc i hi k hk
    have e1 := pk_half (X := X) (i := i) (by omega)
    have e2 := pk_half (X := X) (i := k) (by omega)
    have p1 : 0 < (pk (half2 X) i).2 := by rw [e1]; exact red_pos (by decide)
    have p2 : 0 < (pk (half2 X) k).2 := by rw [e2]; exact red_pos (by decide)
    have q : ¬ ((w i i * (pk (half2 X) i).2 + (pk (half2 X) i).1) * (pk (half2 X) k).2 < (w i k * (pk (half2 X) k).2 + (pk (half2 X) k).1) * (pk (half2 X) i).2) := fun z => by
      rw [(envP_iff p1 p2).mpr z] at hf
      cases hf
    have r1 := red_eq (X.getD i 0) 2
    have r2 := red_eq (X.getD k 0) 2
    rw [← e1] at r1
    rw [← e2] at r2
    generalize pk (half2 X) i = p at *
    generalize pk (half2 X) k = r at *
    generalize X.getD i 0 = x at *
    generalize X.getD k 0 = y at *
    unfold gp
    have k1 : 2 * ((w i i * p.2 + p.1) * r.2) = (2 * w i i + x) * (p.2 * r.2) := by
      calc 2 * ((w i i * p.2 + p.1) * r.2) = (2 * w i i * p.2 + p.1 * 2) * r.2 := by
            rw [← Int.mul_assoc, Int.mul_add, Int.mul_comm p.1 2, Int.mul_assoc]
        _ = (2 * w i i * p.2 + x * p.2) * r.2 := by rw [r1]
        _ = _ := by rw [← Int.add_mul, Int.mul_assoc]
    have k2 : 2 * ((w i k * r.2 + r.1) * p.2) = (2 * w i k + y) * (p.2 * r.2) := by
      calc 2 * ((w i k * r.2 + r.1) * p.2) = (2 * w i k * r.2 + r.1 * 2) * p.2 := by
            rw [← Int.mul_assoc, Int.mul_add, Int.mul_comm r.1 2, Int.mul_assoc]
        _ = (2 * w i k * r.2 + y * r.2) * p.2 := by rw [r2]
        _ = _ := by rw [← Int.add_mul, Int.mul_assoc, Int.mul_comm r.2 p.2]
    have pos : 0 < p.2 * r.2 := Int.mul_pos p1 p2
    have : (2 * w i k + y) * (p.2 * r.2) ≤ (2 * w i i + x) * (p.2 * r.2) := by omega
    have := Int.le_of_mul_le_mul_right this pos
    omega
theorem half_pay {X : List Int} (hX : X.length = n) (h0 : ∀ x ∈ X, 0 ≤ (red x 2).1) : payB n (payD (half2 X)) = true := by
  show (decide (((half2 X).map frD).length = n) && ((half2 X).map frD).all pay1) = true
  unfold half2
  rw [List.length_map, List.length_map, decide_eq_true hX, Bool.true_and, List.all_eq_true]
  intro d hd
  obtain ⟨p, hp, rfl⟩ := List.mem_map.mp hd
  obtain ⟨x, hx, rfl⟩ := List.mem_map.mp hp
  exact pay1_of (red_pos (by decide)) (red_cop (by decide)) (h0 x hx)
theorem st16 (h : Good g n m) (ho : Own os n m) (hw : walkS (gp (wt g os)) n = some s) {X : List Int} (hX : X.length = n) (a c d : Sl) (t : Nat) :
    law_s16 (WS sc D g n m sh (.d (natD t)) bst (.d (osD os)) a (.d (.tuple (inZ n s))) c d (.d (payD (half2 X))) .no .no) = .ok .nx (WS sc D g n m sh (.d (natD t)) bst (.d (osD os)) a (.d (.tuple (inZ n s))) c d (.d (payD (half2 X))) .no .no) := by
  have n6 := h.n6
  have n1 := h.n1
  have hne : X ≠ [] := fun z => by rw [z] at hX; simp at hX; omega
  have c9 : law_c9 (WS sc D g n m sh (.d (natD t)) bst (.d (osD os)) a (.d (.tuple (inZ n s))) c d (.d (payD (half2 X))) .no .no) = .ok (.new (.lst (X.map fun x => .int (red x 2).1))) (WS sc D g n m sh (.d (natD t)) bst (.d (osD os)) a (.d (.tuple (inZ n s))) c d (.d (payD (half2 X))) .no .no) := by
    have q := comp_evR (it := iSeq (fVar 16)) (i := 13) (tst := tYesF) (elt := fOp2 kIdx (fVar 13) (fC (.int 0))) (G := WS sc D g n m sh (.d (natD t)) bst (.d (osD os)) a (.d (.tuple (inZ n s))) c d (.d (payD (half2 X))) .no .no) (enc := fun x => frD (red x 2)) (p := fun _ => true) (e := fun x => .int (red x 2).1) (l := X) (by
      show Res.ok ((half2 X).map frD, []) _ = _
      unfold half2
      rw [List.map_map]
      rfl) rfl rfl (by omega) (fun _ _ => rfl) fun x _ _ => .d (idx_ev rfl rfl (.inl rfl) rfl (at0 _ _))
    rw [filter_yes] at q
    exact q
  have c1 : (fTest (fOp2 kGe (fCallK kMin (fCons law_c9 fNil)) (fC (.int 0)))) (WS sc D g n m sh (.d (natD t)) bst (.d (osD os)) a (.d (.tuple (inZ n s))) c d (.d (payD (half2 X))) .no .no) = .ok (decide (0 ≤ mnI (X.map fun x => (red x 2).1))) (WS sc D g n m sh (.d (natD t)) bst (.d (osD os)) a (.d (.tuple (inZ n s))) c d (.d (payD (half2 X))) .no .no) :=
    test_ev (op_ev (min_ev hne c9) rfl (vGe _ _ _))
  by_cases h0 : 0 ≤ mnI (X.map fun x => (red x 2).1)
  · rw [decide_eq_true h0] at c1
    have hx : ∀ x ∈ X, 0 ≤ (red x 2).1 := fun x hx => by
      have := (mnI_mem (ns := X.map fun x => (red x 2).1) (by simpa using hne)).2 _ (List.mem_map.mpr ⟨x, hx, rfl⟩)
      exact Int.le_trans h0 this
    obtain ⟨A, e⟩ := iscalm_ev h ho (half2 X) (by unfold half2; rw [List.length_map]; exact hX) half2_fq (half_pay hX hx)
    have c2 : (tAnd' (fTest (fOp2 kGe (fCallK kMin (fCons law_c9 fNil)) (fC (.int 0)))) (fTest (fCallK (kCall F_is_calm) (fCons (fVar 2) (fCons (fVar 10) (fCons (fVar 16) fNil)))))) (WS sc D g n m sh (.d (natD t)) bst (.d (osD os)) a (.d (.tuple (inZ n s))) c d (.d (payD (half2 X))) .no .no)
        = .ok (true && calmB n (wt g os) (half2 X)) (WS sc D g n m sh (.d (natD t)) bst (.d (osD os)) a (.d (.tuple (inZ n s))) c d (.d (payD (half2 X))) .no .no) :=
      and_ev c1 fun _ => test_ev (call_ev [gameD g, osD os, payD (half2 X)] rfl e)
    cases hc : calmB n (wt g os) (half2 X) with
    | false =>
      rw [hc] at c2
      exact if_f c2 rfl rfl
    | true =>
      rw [hc] at c2
      have hl := half_least hX hx hw hc
      have c10 : law_c10 (WS sc D g n m sh (.d (natD t)) bst (.d (osD os)) a (.d (.tuple (inZ n s))) c d (.d (payD (half2 X))) .no .no) = .ok (.new (.lst (((List.range n).filter fun _ => false).map natD))) (WS sc D g n m sh (.d (natD t)) bst (.d (osD os)) a (.d (.tuple (inZ n s))) c d (.d (payD (half2 X))) .no .no) := by
        refine comp_evR (i := 8) (enc := natD) (p := fun _ => false) (e := natD) (l := List.range n) (rg_ev n rfl (by omega)) rfl rfl (by rw [List.length_range]; omega) (fun i hi => ?_) fun i _ z => nomatch z
        have hi := List.mem_range.mp hi
        have q := lless_ev (a := red (X.getD i 0) 2) (b := (s i, 1)) (half2_fq (X := X) _ (List.mem_map.mpr ⟨X.getD i 0, by rw [List.getD_eq_getElem?_getD, List.getElem?_eq_getElem (by omega)]; exact List.getElem_mem _, rfl⟩)).fp (one_fp _)
        have z : lessF (red (X.getD i 0) 2) (s i, 1) = false := by
          unfold lessF
          refine decide_eq_false fun z => ?_
          have r1 := red_eq (X.getD i 0) 2
          have p1 := red_pos (n := X.getD i 0) (show (0 : Int) < 2 by decide)
          have l1 := hl i hi
          simp only [Int.mul_one] at z
          have m1 := Int.mul_le_mul_of_nonneg_right l1 (Int.le_of_lt p1)
          rw [Int.mul_assoc] at m1
          omega
        rw [z] at q
        have pe : atI ((half2 X).map frD) (i : Int) = some (frD (red (X.getD i 0) 2)) := by
          rw [← pk_half (by omega)]
          exact pay_at (by unfold half2; rw [List.length_map]; omega)
        exact test_ev (call_ev [frD (red (X.getD i 0) 2), frD (s i, 1)] (cons_ev (idx_ev rfl rfl (.inl rfl) rfl pe) (cons_ev (tup_ev (ds := [.int (s i), .int 1]) (hl := by show 2 ≤ 16777216; omega) (cons_ev (idx_ev rfl rfl (.inl rfl) rfl (inZ_at _ hi)) rfl)) rfl)) q)
      rw [filter_no] at c10
      exact if_t c2 rfl (if_f (b := false) (test_ev (op_ev c10 rfl rfl)) rfl rfl)
  · rw [decide_eq_false h0] at c1
    exact if_f (b := false && false) (and_ev c1 fun z => nomatch z) rfl rfl
end
end D67
namespace D67
open PySem PySem.Spec PyProof.Rows L2 Fx C0
theorem seq_ct {f g : Gm → Res Out} {G G1 : Gm} (h : f G = .ok .ct G1) : sSeq f g G = .ok .ct G1 := by
  unfold sSeq; rw [h]
/-- over range(n), by a relation -/
theorem rg_rel {f : Gm → Res Rv} {body : Gm → Res Out} {v n : Nat} {G : Gm} (I : Nat → Gm → Prop) (hf : f G = .ok (.d (natD n)) G) (hn : n ≤ 100000) (h0 : I 0 G) (hU : ∀ G', I n G' → unlockAll G G' = G')
    (hs : ∀ j < n, ∀ G', I j G' → ∃ G1, gN v (natD j) G' = some G1 ∧ ∃ G2, (body G1 = .ok .nx G2 ∨ body G1 = .ok .ct G2) ∧ I (j + 1) G2) : ∃ G', sFor (iRg1 f) (gN v) body G = .ok .nx G' ∧ I n G' := by
  have lp := loop_all (tg := gN v) (body := body) I (ds := (List.range n).map natD) (G := lockAll G []) (by rw [lock_nil]; exact h0) fun j d G' ej hG => by
    obtain ⟨hj, rfl⟩ := at_range ej
    exact hs j hj G' hG
  rw [List.length_map, List.length_range] at lp
  obtain ⟨G', e, h'⟩ := lp
  exact ⟨G', by rw [for_nx (rg_ev n hf hn) e, hU G' h'], h'⟩
/-- over a held list, by a relation -/
theorem ow_rel {α : Type} {body : Gm → Res Out} {v i : Nat} (enc : α → PyData) (I : Gm → Prop) {G : Gm} (l : List α) (hit : iSeq (fVar i) G = .ok (l.map enc, [i]) G) (h0 : I (lockAll G [i]))
    (hs : ∀ a ∈ l, ∀ G, I G → ∃ G1, gN v (enc a) G = some G1 ∧ ∃ G2, (body G1 = .ok .nx G2 ∨ body G1 = .ok .ct G2) ∧ I G2) : ∃ G', sFor (iSeq (fVar i)) (gN v) body G = .ok .nx (unlockAll G G') ∧ I G' := by
  have lp := loop_findA (tg := gN v) (body := body) enc I (fun _ => False) (fun _ => none) l (lockAll G [i]) h0 hs
  rw [List.findSome?_eq_none_iff.mpr fun _ _ => rfl] at lp
  obtain ⟨G', e, h'⟩ := lp
  exact ⟨G', for_nx hit e, h'⟩
section
variable {sc : PyData} {D : List PyData} {g : List (List Int)} {n m : Nat} {sh bst : Sl} {os : List Nat} {s : Nat → Int}
theorem ws_unl (D' : List PyData) (s6 s10 s11 s12 s14 s15 s16 s17 s18 : Sl) : unlockAll (WS sc D g n m sh s6 bst s10 s11 s12 s14 s15 s16 s17 s18) (WS sc D' g n m sh s6 bst s10 s11 s12 s14 s15 s16 s17 s18) = WS sc D' g n m sh s6 bst s10 s11 s12 s14 s15 s16 s17 s18 := by
  show [_, _, _, _, _, unlk sh sh, unlk s6 s6, unlk bst bst, _, _, unlk s10 s10, unlk s11 s11, unlk s12 s12, _, unlk s14 s14, unlk s15 s15, unlk s16 s16, unlk s17 s17, unlk s18 s18, _, _, _, _, _, _, _, _, _] = _
  rw [unlk_self sh, unlk_self s6, unlk_self bst, unlk_self s10, unlk_self s11, unlk_self s12, unlk_self s14, unlk_self s15, unlk_self s16, unlk_self s17, unlk_self s18]
  rfl
theorem st17 (h : Good g n m) (ho : Own os n m) (hD : Dr D) (hw : walkS (gp (wt g os)) n = some s) (a c d : Sl) :
    ∃ D', Dr D' ∧ law_s17 (WS sc D g n m sh .no bst (.d (osD os)) a (.d (.tuple (inZ n s))) c d .no .no .no) = .ok .nx (WS sc D' g n m sh .no bst (.d (osD os)) a (.d (.tuple (inZ n s))) c d .no .no .no) := by
  obtain ⟨G', e, D', hD', rfl⟩ := rg_rel (f := fC (.int 4)) (body := law_b1) (v := 6) (n := 4) (G := WS sc D g n m sh .no bst (.d (osD os)) a (.d (.tuple (inZ n s))) c d .no .no .no)
    (fun _ G => ∃ D', Dr D' ∧ G = WS sc D' g n m sh .no bst (.d (osD os)) a (.d (.tuple (inZ n s))) c d .no .no .no) rfl (by omega) ⟨D, hD, rfl⟩ (by
      rintro G' ⟨D', _, rfl⟩
      exact ws_unl D' _ _ _ _ _ _ _ _ _) (by
      rintro t _ G' ⟨D', hD', rfl⟩
      obtain ⟨X, D2, hX, hD2, e1⟩ := st15 (sc := sc) (sh := sh) (bst := bst) (os := os) (s := s) h hD' a c d t
      have e2 := st16 (sc := sc) (D := D2) (sh := sh) (bst := bst) h ho hw hX a c d t
      exact ⟨WS sc D' g n m sh (.d (natD t)) bst (.d (osD os)) a (.d (.tuple (inZ n s))) c d .no .no .no, rfl, WS sc D2 g n m sh .no bst (.d (osD os)) a (.d (.tuple (inZ n s))) c d .no .no .no, .inl (kl_nx (seq_go e1 e2)), D2, hD2, rfl⟩)
  exact ⟨D', hD', e⟩
theorem st18 {mo : Int × Int} (hM : Mon mo) (a d : Sl) : law_s18 (WS sc D g n m sh .no bst (.d (osD os)) a (.d (.tuple (inZ n s))) (.d (frD mo)) d .no .no .no) = .ok .nx (WS sc D g n m sh .no bst (.d (osD os)) a (.d (.tuple (inZ n s))) (.d (frD mo)) d .no (.d (frD (restF mo n s))) .no) :=
  set_d (G1 := WS sc D g n m sh .no bst (.d (osD os)) a (.d (.tuple (inZ n s))) (.d (frD mo)) d .no .no .no) (call_ev [frD mo, frD (sumS n s, 1)] (cons_ev rfl (cons_ev (tup_ev (ds := [.int (sumS n s), .int 1]) (hl := by show 2 ≤ 16777216; omega) (cons_ev (kc_ev (cons_ev rfl rfl) sum_tup) rfl)) rfl)) (lminus_ev hM.fq.fp (one_fp _)))
def lftD (g : List (List Int)) (os : List Nat) (n : Nat) (mo : Int × Int) (s : Nat → Int) : PyData := if (restF mo n s).1 < 0 then .none else leftD g os n mo s
theorem st19 {mo : Int × Int} (a b c : Sl) : law_s19 (WS sc D g n m sh .no bst (.d (osD os)) a b c (.d (lftD g os n mo s)) .no (.d (frD (restF mo n s))) .no) = .ok .nx (WS sc D g n m sh .no bst (.d (osD os)) a b c (.d (lftD g os n mo s)) .no (.d (frD (restF mo n s))) .no) := by
  have e1 : (fOp2 kIsN (fVar 15) (fC .none)) (WS sc D g n m sh .no bst (.d (osD os)) a b c (.d (lftD g os n mo s)) .no (.d (frD (restF mo n s))) .no) = .ok (.d (.bool (decide ((restF mo n s).1 < 0)))) (WS sc D g n m sh .no bst (.d (osD os)) a b c (.d (lftD g os n mo s)) .no (.d (frD (restF mo n s))) .no) := by
    refine op_ev rfl rfl ?_
    rw [vIsN]
    unfold lftD
    split
    · rename_i z; rw [decide_eq_true z]; rfl
    · rename_i z; rw [decide_eq_false z]; rfl
  have e2 : (fOp2 kLt (fOp2 kIdx (fVar 17) (fC (.int 0))) (fC (.int 0))) (WS sc D g n m sh .no bst (.d (osD os)) a b c (.d (lftD g os n mo s)) .no (.d (frD (restF mo n s))) .no) = .ok (.d (.bool (decide ((restF mo n s).1 < 0)))) (WS sc D g n m sh .no bst (.d (osD os)) a b c (.d (lftD g os n mo s)) .no (.d (frD (restF mo n s))) .no) :=
    op_ev (idx_ev rfl rfl (.inl rfl) rfl (at0 _ _)) rfl (vLt _ _ _)
  exact if_f (test_ev (op_ev e1 e2 (ne_same _ rfl))) rfl rfl
theorem st23 (h : Good g n m) (ho : Own os n m) {mo : Int × Int} (hM : Mon mo) (h3 : mo.2 ≤ 3) (a : Sl) :
    law_s23 (WS sc D g n m sh .no bst (.d (osD os)) a (.d (.tuple (inZ n s))) (.d (frD mo)) (.d (lftD g os n mo s)) .no (.d (frD (restF mo n s))) .no) = .ok .nx (WS sc D g n m sh .no bst (.d (osD os)) a (.d (.tuple (inZ n s))) (.d (frD mo)) (.d (lftD g os n mo s)) .no (.d (frD (restF mo n s))) .no) := by
  have n6 := h.n6
  have n1 := h.n1
  unfold lftD
  by_cases hr : (restF mo n s).1 < 0
  · rw [if_pos hr]
    exact if_f (b := false) rfl rfl rfl
  · rw [if_neg hr]
    obtain ⟨q1, q2⟩ := rest_n hM n1 n6 s
    obtain ⟨r1, r2⟩ := rest_den hM n s
    have fr : Fp (restF mo n s) := ⟨r1, by omega⟩
    have e20 : law_s20 (WS sc D g n m sh .no bst (.d (osD os)) a (.d (.tuple (inZ n s))) (.d (frD mo)) (.d (leftD g os n mo s)) .no (.d (frD (restF mo n s))) .no) = .ok .nx (WS sc D g n m sh .no bst (.d (osD os)) a (.d (.tuple (inZ n s))) (.d (frD mo)) (.d (leftD g os n mo s)) .no (.d (frD (restF mo n s))) (.d (frD (eachF mo n s)))) := by
      have q := lover_ev (b := ((n : Int), 1)) fr (one_fp _) (by show (0 : Int) < (n : Int); omega) (by show (n : Int) < 2 ^ 40; omega)
      rw [show overF (restF mo n s) ((n : Int), 1) = eachF mo n s by
        unfold overF eachF
        show red ((restF mo n s).1 * 1) _ = _
        rw [Int.mul_one]] at q
      exact set_d (G1 := WS sc D g n m sh .no bst (.d (osD os)) a (.d (.tuple (inZ n s))) (.d (frD mo)) (.d (leftD g os n mo s)) .no (.d (frD (restF mo n s))) .no) (call_ev [frD (restF mo n s), frD ((n : Int), 1)] rfl q)
    have c11 : law_c11 (WS sc D g n m sh .no bst (.d (osD os)) a (.d (.tuple (inZ n s))) (.d (frD mo)) (.d (leftD g os n mo s)) .no (.d (frD (restF mo n s))) (.d (frD (eachF mo n s)))) = .ok (.new (.lst ((List.range n).map fun i => frD (addF (wt g os i i + s i, 1) (eachF mo n s))))) (WS sc D g n m sh .no bst (.d (osD os)) a (.d (.tuple (inZ n s))) (.d (frD mo)) (.d (leftD g os n mo s)) .no (.d (frD (restF mo n s))) (.d (frD (eachF mo n s)))) := by
      have q := comp_evR (it := iRg1 (fVar 3)) (i := 8) (tst := tYesF) (elt := (fCallK (kCall F_law_plus) (fCons (fTup (fCons (fOp2 kAdd (fCallK (kCall F_law_worth) (fCons (fVar 2) (fCons (fVar 10) (fCons (fVar 8) (fCons (fVar 8) fNil))))) (fOp2 kIdx (fVar 12) (fVar 8))) (fCons (fC (.int 1)) fNil))) (fCons (fVar 18) fNil)))) (G := WS sc D g n m sh .no bst (.d (osD os)) a (.d (.tuple (inZ n s))) (.d (frD mo)) (.d (leftD g os n mo s)) .no (.d (frD (restF mo n s))) (.d (frD (eachF mo n s)))) (enc := natD) (p := fun _ => true) (e := fun i => frD (addF (wt g os i i + s i, 1) (eachF mo n s))) (l := List.range n) (rg_ev n rfl (by omega)) rfl rfl (by rw [List.length_range]; omega) (fun _ _ => rfl) fun i hi _ => .d (by
        have hi := List.mem_range.mp hi
        exact call_ev [frD (wt g os i i + s i, 1), frD (eachF mo n s)] (cons_ev (tup_ev (ds := [.int (wt g os i i + s i), .int 1]) (hl := by show 2 ≤ 16777216; omega) (cons_ev (op_ev (call_ev [gameD g, osD os, natD i, natD i] rfl (lworth_ev h ho hi)) (idx_ev rfl rfl (.inl rfl) rfl (inZ_at _ hi)) rfl) rfl)) rfl) (lplus_ev (one_fp _) (each_fq hM n1 n6 s).fp))
      rw [filter_yes] at q
      exact q
    have e21 : law_s21 (WS sc D g n m sh .no bst (.d (osD os)) a (.d (.tuple (inZ n s))) (.d (frD mo)) (.d (leftD g os n mo s)) .no (.d (frD (restF mo n s))) (.d (frD (eachF mo n s)))) = .ok .nx (WS sc D g n m sh .no bst (.d (osD os)) a (.d (.tuple (inZ n s))) (.d (frD mo)) (.d (leftD g os n mo s)) .no (.d (frD (restF mo n s))) (.d (frD (eachF mo n s)))) :=
      if_f (test_ev (op_ev (b := .d (leftD g os n mo s)) rfl (tuple_new c11) (ne_same _ (okD_left g os n mo s)))) rfl rfl
    have c12 : law_c12 (WS sc D g n m sh .no bst (.d (osD os)) a (.d (.tuple (inZ n s))) (.d (frD mo)) (.d (leftD g os n mo s)) .no (.d (frD (restF mo n s))) (.d (frD (eachF mo n s)))) = .ok (.new (.lst ((List.range n).map fun i => .int (wt g os i i)))) (WS sc D g n m sh .no bst (.d (osD os)) a (.d (.tuple (inZ n s))) (.d (frD mo)) (.d (leftD g os n mo s)) .no (.d (frD (restF mo n s))) (.d (frD (eachF mo n s)))) := by
      have q := comp_evR (it := iRg1 (fVar 3)) (i := 8) (tst := tYesF) (elt := (fCallK (kCall F_law_worth) (fCons (fVar 2) (fCons (fVar 10) (fCons (fVar 8) (fCons (fVar 8) fNil)))))) (G := WS sc D g n m sh .no bst (.d (osD os)) a (.d (.tuple (inZ n s))) (.d (frD mo)) (.d (leftD g os n mo s)) .no (.d (frD (restF mo n s))) (.d (frD (eachF mo n s)))) (enc := natD) (p := fun _ => true) (e := fun i => .int (wt g os i i)) (l := List.range n) (rg_ev n rfl (by omega)) rfl rfl (by rw [List.length_range]; omega) (fun _ _ => rfl) fun i hi _ => .d
        (call_ev [gameD g, osD os, natD i, natD i] rfl (lworth_ev h ho (List.mem_range.mp hi)))
      rw [filter_yes] at q
      exact q
    have e22 : law_s22 (WS sc D g n m sh .no bst (.d (osD os)) a (.d (.tuple (inZ n s))) (.d (frD mo)) (.d (leftD g os n mo s)) .no (.d (frD (restF mo n s))) (.d (frD (eachF mo n s)))) = .ok .nx (WS sc D g n m sh .no bst (.d (osD os)) a (.d (.tuple (inZ n s))) (.d (frD mo)) (.d (leftD g os n mo s)) .no (.d (frD (restF mo n s))) (.d (frD (eachF mo n s)))) := by
      have hden : ∀ x ∈ (List.range n).map (fun i => addF (wt g os i i + s i, 1) (eachF mo n s)), 0 < x.2 ∧ x.2 ≤ 18 := fun x hx => by
        obtain ⟨i, _, rfl⟩ := List.mem_map.mp hx
        obtain ⟨a1, a2⟩ := add_den (a := (wt g os i i + s i, 1)) (b := eachF mo n s) (by show (0 : Int) < 1; decide) (each_fq hM n1 n6 s).1
        refine ⟨a1, Int.le_trans a2 ?_⟩
        rw [Int.one_mul]
        have l1 : (eachF mo n s).2 ≤ (restF mo n s).2 * n := red_le q1
        have l2 : (restF mo n s).2 ≤ 3 := by
          rw [restF_eq]
          exact Int.le_trans (red_le hM.den) h3
        have l3 := Int.mul_le_mul l2 (show (n : Int) ≤ 6 by omega) (by omega) (by omega)
        omega
      have q := lsum_ev (L := (List.range n).map fun i => addF (wt g os i i + s i, 1) (eachF mo n s)) (by rw [List.length_map, List.length_range]; omega) hden
      rw [left_sum hM n1 n6 (fun i => wt g os i i) s, List.map_map] at q
      have sw := sum_ev (l := List.range n) (f := fun i => wt g os i i) c12
      exact if_f (test_ev (op_ev (call_ev [leftD g os n mo s] rfl q) (call_ev [frD mo, frD (sumS n fun i => wt g os i i, 1)] (cons_ev rfl (cons_ev (tup_ev (ds := [.int (sumS n fun i => wt g os i i), .int 1]) (hl := by show 2 ≤ 16777216; omega) (cons_ev sw rfl)) rfl)) (lplus_ev hM.fq.fp (one_fp _))) (ne_same _ (okD_fr _ _)))) rfl rfl
    exact if_t (b := true) rfl rfl (kl_nx (seq_go e20 (seq_go e21 e22)))
end
end D67
namespace D67
open PySem PySem.Spec PyProof.Rows L2 Fx C0
section
variable {sc : PyData} {D : List PyData} {g : List (List Int)} {n m : Nat} {sh bst : Sl} {os : List Nat}
theorem turn_ev (h : Good g n m) (ho : Own os n m) (hD : Dr D) :
    ∃ D', Dr D' ∧ (law_b2 (WS sc D g n m sh .no bst (.d (osD os)) .no .no .no .no .no .no .no) = .ok .nx (WS sc D' g n m sh .no bst .no .no .no .no .no .no .no .no) ∨ law_b2 (WS sc D g n m sh .no bst (.d (osD os)) .no .no .no .no .no .no .no) = .ok .ct (WS sc D' g n m sh .no bst .no .no .no .no .no .no .no .no)) := by
  have e7 := st7 (sc := sc) (D := D) (sh := sh) (bst := bst) h ho
  have e8 := st8 (sc := sc) (D := D) (sh := sh) (bst := bst) (os := os) h
  obtain ⟨mo, D1, hM, h3, hD1, e9⟩ := st9 (sc := sc) (g := g) (n := n) (m := m) (sh := sh) (bst := bst) (os := os) hD (.d (tupO n (walkS (gp (wt g os)) n))) (.d (tupO n (walkS (gp (wt g os)) n)))
  have e10 := st10 (sc := sc) (D := D1) (sh := sh) (bst := bst) h ho hM (.d (tupO n (walkS (gp (wt g os)) n))) (.d (tupO n (walkS (gp (wt g os)) n)))
  unfold payLeft at e10
  cases ew : walkS (gp (wt g os)) n with
  | none =>
    rw [ew] at e7 e8 e9 e10
    refine ⟨D1, hD1, .inr ?_⟩
    have e13 : law_s13 (WS sc D1 g n m sh .no bst (.d (osD os)) (.d .none) (.d .none) (.d (frD mo)) (.d .none) .no .no .no) = .ok .ct (WS sc D1 g n m sh .no bst (.d (osD os)) (.d .none) (.d .none) (.d (frD mo)) (.d .none) .no .no .no) :=
      if_t (b := true) rfl rfl (seq_go (G1 := WS sc D1 g n m sh .no bst (.d (osD os)) (.d .none) (.d .none) (.d (frD mo)) (.d .none) .no .no .no) (if_f (b := false) rfl rfl rfl) rfl)
    exact kl_ct (seq_go e7 (seq_go e8 (seq_go e9 (seq_go e10 (seq_ct e13))))) (kl_step rfl rfl (kl_step rfl rfl (kl_step rfl rfl (kl_step rfl rfl (kl_step rfl rfl (kl_step rfl rfl (kl_step rfl rfl (kl_step rfl rfl (kl_step rfl rfl rfl)))))))))
  | some s =>
    rw [ew] at e7 e8 e9 e10
    have e13 : law_s13 (WS sc D1 g n m sh .no bst (.d (osD os)) (.d (.tuple (inZ n s))) (.d (.tuple (inZ n s))) (.d (frD mo)) (.d (lftD g os n mo s)) .no .no .no) = .ok .nx (WS sc D1 g n m sh .no bst (.d (osD os)) (.d (.tuple (inZ n s))) (.d (.tuple (inZ n s))) (.d (frD mo)) (.d (lftD g os n mo s)) .no .no .no) := if_f (b := false) rfl rfl rfl
    have e14 := st14 (sc := sc) (D := D1) (sh := sh) (bst := bst) h ho ew (.d (.tuple (inZ n s))) (.d (frD mo)) (.d (lftD g os n mo s))
    obtain ⟨D2, hD2, e17⟩ := st17 (sc := sc) (sh := sh) (bst := bst) h ho hD1 ew (.d (.tuple (inZ n s))) (.d (frD mo)) (.d (lftD g os n mo s))
    have e18 := st18 (sc := sc) (D := D2) (g := g) (n := n) (m := m) (sh := sh) (bst := bst) (os := os) (s := s) hM (.d (.tuple (inZ n s))) (.d (lftD g os n mo s))
    have e19 := st19 (sc := sc) (D := D2) (g := g) (n := n) (m := m) (sh := sh) (bst := bst) (os := os) (s := s) (mo := mo) (.d (.tuple (inZ n s))) (.d (.tuple (inZ n s))) (.d (frD mo))
    have e23 := st23 (sc := sc) (D := D2) (sh := sh) (bst := bst) (s := s) h ho hM h3 (.d (.tuple (inZ n s)))
    exact ⟨D2, hD2, .inl (kl_nx (seq_go e7 (seq_go e8 (seq_go e9 (seq_go e10 (seq_go e13 (seq_go e14 (seq_go e17 (seq_go e18 (seq_go e19 e23))))))))) (kl_step rfl rfl (kl_step rfl rfl (kl_step rfl rfl (kl_step rfl rfl (kl_step rfl rfl (kl_step rfl rfl (kl_step rfl rfl (kl_step rfl rfl (kl_step rfl rfl rfl))))))))))⟩
theorem turns_ev {SH : List (List Nat)} (h : Good g n m) (hS : ∀ os ∈ SH, Own os n m) (hD : Dr D) :
    ∃ D', Dr D' ∧ law_s24 (WS sc D g n m (.l (.lst (SH.map osD))) .no bst .no .no .no .no .no .no .no .no) = .ok .nx (WS sc D' g n m (.l (.lst (SH.map osD))) .no bst .no .no .no .no .no .no .no .no) := by
  obtain ⟨G', e, D', hD', rfl⟩ := ow_rel (body := law_b2) (v := 10) (i := 5) osD (fun G => ∃ D', Dr D' ∧ G = WS sc D' g n m (.k (.lst (SH.map osD))) .no bst .no .no .no .no .no .no .no .no)
    (G := WS sc D g n m (.l (.lst (SH.map osD))) .no bst .no .no .no .no .no .no .no .no) SH rfl ⟨D, hD, lock_one _ 5 (.lst (SH.map osD)) rfl⟩ (by
      rintro os hos G ⟨D', hD', rfl⟩
      obtain ⟨D2, hD2, e⟩ := turn_ev (sc := sc) (sh := .k (.lst (SH.map osD))) (bst := bst) h (hS os hos) hD'
      exact ⟨_, rfl, _, e, D2, hD2, rfl⟩)
  refine ⟨D', hD', e.trans ?_⟩
  show Res.ok Out.nx [_, _, _, _, _, _, _, unlk bst bst, _, _, _, _, _, _, _, _, _, _, _, _, _, _, _, _, _, _, _, _] = _
  rw [unlk_self bst]
  rfl
end
/-! ### the shares that are looked at -/
def cell (g : List (List Int)) (i j : Nat) : Int := (rowOf g i).getD j 0
def topF (g : List (List Int)) (n j : Nat) : Int := mxI ((List.range n).map fun i => cell g i j)
def firsts (g : List (List Int)) (n j : Nat) : List Nat := (List.range n).filter fun i => decide (cell g i j = topF g n j)
theorem firsts_ne {g : List (List Int)} {n j : Nat} (h : 1 ≤ n) : ∃ i l, firsts g n j = i :: l ∧ i < n := by
  obtain ⟨q, _⟩ := mxI_mem (ns := (List.range n).map fun i => cell g i j) (by rw [Ne, List.map_eq_nil_iff]; exact range_ne h)
  obtain ⟨i, hi, hv⟩ := List.mem_map.mp q
  have hm : i ∈ firsts g n j := List.mem_filter.mpr ⟨hi, decide_eq_true hv⟩
  cases e : firsts g n j with
  | nil => rw [e] at hm; cases hm
  | cons a l =>
    have : a ∈ firsts g n j := by rw [e]; exact List.mem_cons_self
    exact ⟨a, l, rfl, List.mem_range.mp (List.mem_filter.mp this).1⟩
def topO (g : List (List Int)) (n m : Nat) : List Nat := (List.range m).map fun j => (firsts g n j).headD 0
theorem topO_own {g : List (List Int)} {n m : Nat} (h : 1 ≤ n) : Own (topO g n m) n m := ⟨by unfold topO; simp, fun o ho => by
  obtain ⟨j, _, rfl⟩ := List.mem_map.mp ho
  obtain ⟨i, l, e, hi⟩ := firsts_ne (g := g) (j := j) h
  rw [e]
  exact hi⟩
theorem owns {xs : List PyData} {n m : Nat} (h : ∀ x ∈ xs, ∃ os, Own os n m ∧ x = osD os) : ∃ SH : List (List Nat), xs = SH.map osD ∧ ∀ os ∈ SH, Own os n m := by
  induction xs with
  | nil => exact ⟨[], rfl, fun _ z => by cases z⟩
  | cons x xs ih =>
    obtain ⟨os, ho, rfl⟩ := h x List.mem_cons_self
    obtain ⟨SH, rfl, hS⟩ := ih fun y hy => h y (List.mem_cons_of_mem _ hy)
    exact ⟨os :: SH, rfl, fun o hm => by
      rcases List.mem_cons.mp hm with rfl | hm
      · exact ho
      · exact hS o hm⟩
section
variable {sc : PyData} {D : List PyData} {g : List (List Int)} {n m : Nat}
abbrev NS (sc : PyData) (D : List PyData) (g : List (List Int)) (n m : Nat) (sh bst : Sl) : Gm := WS sc D g n m sh .no bst .no .no .no .no .no .no .no .no
theorem st4 (h : Good g n m) (hD : Dr D) : ∃ (SH : List (List Nat)) (D' : List PyData), SH.length = 3 ∧ (∀ os ∈ SH, Own os n m) ∧ Dr D' ∧ law_s4 (NS sc D g n m .no .no) = .ok .nx (NS sc D' g n m (.l (.lst (SH.map osD))) .no) := by
  obtain ⟨xs, D', e, hD', hl, hp⟩ := comp_draw (it := iRg1 (fC (.int 3))) (i := 6) (elt := (fCallK (kCallM F_law_owners) (fCons (fVar 1) (fCons (fVar 2) fNil)))) (ds := (List.range 3).map natD) (D := D) (fun D => NS sc D g n m .no .no) (fun x => ∃ os, Own os n m ∧ x = osD os) hD (rg_ev 3 rfl (by omega)) rfl (fun _ => rfl) (fun D' => ws_unl D' _ _ _ _ _ _ _ _ _) (by decide) fun d hd D hD => by
    obtain ⟨os, D2, ho, hD2, e⟩ := owners_ev h hD
    exact ⟨osD os, D2, callM_ev (G := (NS sc D g n m .no .no).set 6 (.d d)) [gameD g] rfl rfl rfl e, hD2, os, ho, rfl⟩
  obtain ⟨SH, rfl, hS⟩ := owns hp
  exact ⟨SH, D', by simpa using hl, hS, hD', set_new (G1 := NS sc D' g n m .no .no) e⟩
theorem cell_at (h : Good g n m) {i j : Nat} (hi : i < n) (hj : j < m) {fa fb : Gm → Res Rv} {G : Gm} (ha : fa G = .ok (.d (natD i)) G) (hb : fb G = .ok (.d (natD j)) G) (hg : fVar 2 G = .ok (.d (gameD g)) G) : fOp2 kIdx (fOp2 kIdx (fVar 2) fa) fb G = .ok (.d (.int (cell g i j))) G := by
  obtain ⟨er, hrl⟩ := row_ix h hi
  exact idx_ev (idx_ev hg ha (.inl rfl) rfl er) hb (.inl rfl) rfl (row_at (by rw [hrl]; exact hj))
theorem st5 (h : Good g n m) (sh : Sl) : law_s5 (NS sc D g n m sh .no) = .ok .nx (NS sc D g n m sh (.l (.lst (inZ m (topF g n))))) := by
  have n6 := h.n6
  have n1 := h.n1
  have m10 := h.m10
  have q := comp_evR (it := iRg1 (fVar 4)) (i := 9) (tst := tYesF) (elt := (fCallK kMax (fCons law_c2 fNil))) (G := NS sc D g n m sh .no) (enc := natD) (p := fun _ => true) (e := fun j => .int (topF g n j)) (l := List.range m) (rg_ev m rfl (by omega)) rfl rfl (by rw [List.length_range]; omega) (fun _ _ => rfl) fun j hj _ => .d (by
    have hj := List.mem_range.mp hj
    have q2 := comp_evR (it := iRg1 (fVar 3)) (i := 8) (tst := tYesF) (elt := fOp2 kIdx (fOp2 kIdx (fVar 2) (fVar 8)) (fVar 9)) (G := (NS sc D g n m sh .no).set 9 (.d (natD j))) (enc := natD) (p := fun _ => true) (e := fun i => .int (cell g i j)) (l := List.range n) (rg_ev n rfl (by omega)) rfl rfl (by rw [List.length_range]; omega) (fun _ _ => rfl) fun i hi _ => .d (cell_at h (List.mem_range.mp hi) hj rfl rfl rfl)
    rw [filter_yes] at q2
    exact max_ev (range_ne n1) q2)
  rw [filter_yes] at q
  exact set_new (G1 := NS sc D g n m sh .no) q
theorem st6 (h : Good g n m) {SH : List (List Nat)} (hl : SH.length = 3) : law_s6 (NS sc D g n m (.l (.lst (SH.map osD))) (.l (.lst (inZ m (topF g n))))) = .ok .nx (NS sc D g n m (.l (.lst ((SH ++ [topO g n m]).map osD))) (.l (.lst (inZ m (topF g n))))) := by
  have n6 := h.n6
  have n1 := h.n1
  have m10 := h.m10
  have q := comp_evR (it := iRg1 (fVar 4)) (i := 9) (tst := tYesF) (elt := (fOp2 kIdx law_c4 (fC (.int 0)))) (G := NS sc D g n m (.l (.lst (SH.map osD))) (.l (.lst (inZ m (topF g n))))) (enc := natD) (p := fun _ => true) (e := fun j => natD ((firsts g n j).headD 0)) (l := List.range m) (rg_ev m rfl (by omega)) rfl rfl (by rw [List.length_range]; omega) (fun _ _ => rfl) fun j hj _ => .d (by
    have hj := List.mem_range.mp hj
    have q2 := comp_evR (it := iRg1 (fVar 3)) (i := 8) (tst := (fTest (fOp2 kEq (fOp2 kIdx (fOp2 kIdx (fVar 2) (fVar 8)) (fVar 9)) (fOp2 kIdx (fVar 7) (fVar 9))))) (elt := fVar 8) (G := (NS sc D g n m (.l (.lst (SH.map osD))) (.l (.lst (inZ m (topF g n))))).set 9 (.d (natD j))) (enc := natD) (p := fun i => decide (cell g i j = topF g n j)) (e := natD) (l := List.range n) (rg_ev n rfl (by omega)) rfl rfl (by rw [List.length_range]; omega) (fun i hi => test_ev (op_ev (cell_at h (List.mem_range.mp hi) hj rfl rfl rfl) (idx_ev rfl rfl (.inr rfl) rfl (inZ_at _ hj)) (vEq _ _ _))) fun i hi _ => .d rfl
    obtain ⟨i, l, e, _⟩ := firsts_ne (g := g) (n := n) (j := j) n1
    change law_c4 _ = .ok (.new (.lst ((firsts g n j).map natD))) _ at q2
    rw [e] at q2 ⊢
    exact idx_ev q2 rfl (.inr rfl) rfl (at0 _ _))
  rw [filter_yes] at q
  have q3 := tuple_new q
  refine (expr_ev (app_ev (i := 5) (ds := SH.map osD) rfl rfl q3 rfl (by rw [List.length_map]; omega))).trans ?_
  rw [List.map_append]
  show Res.ok Out.nx (NS sc D g n m (.l (.lst (SH.map osD ++ [.tuple ((List.range m).map fun j => natD ((firsts g n j).headD 0))]))) _) = _
  unfold topO osD
  rw [List.map_cons, List.map_map]
  rfl
end
end D67
namespace D67
open PySem PySem.Spec PyProof.Rows L2 Fx C0
/-! ### the small game -/
def smallG (g : List (List Int)) : List (List Int) := (g.take 3).map fun r => r.take 4
theorem small_good {g : List (List Int)} {n m : Nat} (h : Good g n m) : Good (smallG g) (min n 3) (min m 4) := by
  have h1 := h.n1
  have h2 := h.n6
  have h3 := h.m1
  have h4 := h.m10
  refine ⟨?_, by omega, by omega, by omega, by omega, fun r hr => ?_⟩
  · unfold smallG
    rw [List.length_map, List.length_take, h.len]
    omega
  · obtain ⟨q, hq, rfl⟩ := List.mem_map.mp hr
    obtain ⟨r1, r2⟩ := h.row q (List.mem_of_mem_take hq)
    refine ⟨by rw [List.length_take, r1]; omega, fun x hx => r2 x (List.mem_of_mem_take hx)⟩
theorem pow_small {a b : Nat} (ha : a ≤ 3) (hb : b ≤ 4) : a ^ b ≤ 60000 := by
  have h1 : a ^ b ≤ 3 ^ b := Nat.pow_le_pow_left ha b
  have h2 : 3 ^ b ≤ 3 ^ 4 := Nat.pow_le_pow_right (by omega) hb
  omega
theorem sl_take {G : Gm} {f f2 : Gm → Res Rv} {ds : List PyData} {k : Nat} (hf : f G = .ok (.d (.tuple ds)) G) (h2 : f2 G = .ok (.d (natD k)) G) : fSlice f fNoPart (fPart f2) G = .ok (.d (.tuple (ds.take k))) G := by
  unfold fSlice
  rw [hf, Res.bind_ok]
  unfold fNoPart fPart
  rw [Res.bind_ok, h2]
  show kSl G (.d (.tuple ds)) none (some (k : Int)) = _
  unfold kSl
  show Res.ok (Rv.d (.tuple (cutA ds none (some (k : Int))))) G = _
  rw [cutA_take]
section
variable {sc : PyData} {D : List PyData} {g : List (List Int)} {n m : Nat} {sh bst : Sl}
abbrev ZS (sc : PyData) (D : List PyData) (g : List (List Int)) (n m : Nat) (sh bst s10 s11 s19 s21 s22 s23 s24 s25 : Sl) : Gm :=
  [.d sc, .l (.lst D), .d (gameD g), .d (natD n), .d (natD m), sh, .no, bst, .no, .no, s10, s11, .no, .no, .no, .no, .no, .no, .no, s19, .no, s21, s22, s23, s24, s25, .no, .no]
theorem st25 (h : Good g n m) : law_s25 (ZS sc D g n m sh bst .no .no .no .no .no .no .no .no) = .ok .nx (ZS sc D g n m sh bst .no .no (.d (gameD (smallG g))) .no .no .no .no .no) := by
  have n6 := h.n6
  have q := comp_evR (it := iSeq (fSlice (fVar 2) fNoPart (fPart (fC (.int 3))))) (i := 20) (tst := tYesF) (elt := fSlice (fVar 20) fNoPart (fPart (fC (.int 4)))) (G := ZS sc D g n m sh bst .no .no .no .no .no .no .no .no) (enc := rowD) (p := fun _ => true) (e := fun r => rowD (r.take 4)) (l := g.take 3) (by
    unfold iSeq
    rw [sl_take (f := fVar 2) (f2 := fC (.int 3)) (G := ZS sc D g n m sh bst .no .no .no .no .no .no .no .no) (ds := g.map rowD) (k := 3) rfl rfl, ← List.map_take]
    rfl) rfl rfl (by rw [List.length_take]; omega) (fun _ _ => rfl) fun r _ _ => .d ((sl_take (ds := r.map .int) (k := 4) rfl rfl).trans (by
      show _ = Res.ok (Rv.d (.tuple ((r.take 4).map .int))) _
      rw [List.map_take]))
  rw [filter_yes] at q
  refine set_d (G1 := ZS sc D g n m sh bst .no .no .no .no .no .no .no .no) ((tuple_new q).trans ?_)
  unfold gameD smallG
  rw [List.map_map]
  rfl
theorem cheapL {os : List Nat} {g' : List (List Int)} {n' m' : Nat} (h : Good g' n' m') (ho : Own os n' m') (a : Option (Int × List Nat)) :
    law_b3 (ZS sc D g n m sh bst (.d (osD os)) .no (.d (gameD g')) (.d (bstD a)) (.d (fndD a)) .no .no .no) = .ok .nx (ZS sc D g n m sh bst .no .no (.d (gameD g')) (.d (bstD (stepC g' n' a os))) (.d (fndD (stepC g' n' a os))) .no .no .no) := by
  rw [stepC_eq]
  obtain ⟨A, e⟩ := lleast_ev h ho
  have e1 : law_s27 (ZS sc D g n m sh bst (.d (osD os)) .no (.d (gameD g')) (.d (bstD a)) (.d (fndD a)) .no .no .no) = .ok .nx (ZS sc D g n m sh bst (.d (osD os)) (.d (tupO n' (walkS (gp (wt g' os)) n'))) (.d (gameD g')) (.d (bstD a)) (.d (fndD a)) .no .no .no) :=
    set_d (G1 := ZS sc D g n m sh bst (.d (osD os)) .no (.d (gameD g')) (.d (bstD a)) (.d (fndD a)) .no .no .no) (call_ev [gameD g', osD os] rfl e)
  cases ew : walkS (gp (wt g' os)) n' with
  | none =>
    rw [ew] at e1
    exact kl_nx (seq_go e1 (if_f (b := false && false) (and_ev rfl fun z => nomatch z) rfl rfl)) (kl_step rfl rfl (kl_step rfl rfl rfl))
  | some s =>
    rw [ew] at e1
    have c : (tAnd' (fTest (fOp2 kNotN (fVar 11) (fC .none))) (tOr' (fTest (fOp2 kIsN (fVar 21) (fC .none))) (fTest (fOp2 kLt (fCallK kSum (fCons (fVar 11) fNil)) (fVar 21))))) (ZS sc D g n m sh bst (.d (osD os)) (.d (.tuple (inZ n' s))) (.d (gameD g')) (.d (bstD a)) (.d (fndD a)) .no .no .no)
        = .ok (true && bestT n' (some s) a) (ZS sc D g n m sh bst (.d (osD os)) (.d (.tuple (inZ n' s))) (.d (gameD g')) (.d (bstD a)) (.d (fndD a)) .no .no .no) := by
      refine and_ev rfl fun _ => ?_
      cases a with
      | none => exact or_ev (a := true) (b := false) rfl fun z => nomatch z
      | some b => exact or_ev (a := false) rfl fun _ => test_ev (op_ev (kc_ev (cons_ev rfl rfl) sum_tup) rfl rfl)
    dsimp only
    by_cases hb : bestT n' (some s) a = true
    · rw [if_pos hb]
      refine kl_nx (seq_go e1 (if_t c (by rw [hb]; rfl) (par_ev (G1 := ZS sc D g n m sh bst (.d (osD os)) (.d (.tuple (inZ n' s))) (.d (gameD g')) (.d (bstD a)) (.d (fndD a)) .no .no .no) (cons_ev (kc_ev (cons_ev rfl rfl) sum_tup) rfl)))) (kl_step rfl rfl (kl_step rfl rfl rfl))
    · rw [if_neg hb]
      exact kl_nx (seq_go e1 (if_f c (by rw [Bool.not_eq_true] at hb; rw [hb]; rfl) rfl)) (kl_step rfl rfl (kl_step rfl rfl rfl))
theorem zs_unl (D' : List PyData) (a b c s10 s11 s19 s21 s22 s23 s24 s25 : Sl) (s21' s22' : PyData) : unlockAll (ZS sc D g n m sh bst s10 s11 s19 (.d (.none)) (.d .none) s23 s24 s25) (ZS sc D g n m sh bst s10 s11 s19 (.d s21') (.d s22') s23 s24 s25) = ZS sc D g n m sh bst s10 s11 s19 (.d s21') (.d s22') s23 s24 s25 := by
  show [_, _, _, _, _, unlk sh sh, _, unlk bst bst, _, _, unlk s10 s10, unlk s11 s11, _, _, _, _, _, _, _, unlk s19 s19, _, _, _, unlk s23 s23, unlk s24 s24, unlk s25 s25, _, _] = _
  rw [unlk_self sh, unlk_self bst, unlk_self s10, unlk_self s11, unlk_self s19, unlk_self s23, unlk_self s24, unlk_self s25]
  rfl
theorem st29 {g' : List (List Int)} {n' m' : Nat} (h : Good g' n' m') (hb : n' ^ m' ≤ 60000) :
    law_s29 (ZS sc D g n m sh bst .no .no (.d (gameD g')) (.d .none) (.d .none) .no .no .no) = .ok .nx (ZS sc D g n m sh bst .no .no (.d (gameD g')) (.d (bstD (leastC g' n' m'))) (.d (fndD (leastC g' n' m'))) .no .no .no) := by
  have n6 := h.n6
  have n1 := h.n1
  have m10 := h.m10
  have hit := seq_new (f := (fCallK (kCall F_law_shares) (fCons (fCallK kLen (fCons (fVar 19) fNil)) (fCons (fCallK kLen (fCons (fOp2 kIdx (fVar 19) (fC (.int 0))) fNil)) fNil)))) (G := ZS sc D g n m sh bst .no .no (.d (gameD g')) (.d .none) (.d .none) .no .no .no) (call_new [natD n', natD m'] (cons_ev (lenG_ev h rfl) (cons_ev (g0_ev h rfl) rfl)) (lshares_ev n1 (by omega) (by omega) hb))
  have lp := for_fold (tg := gN 10) (body := law_b3) (it := iSeq (fCallK (kCall F_law_shares) (fCons (fCallK kLen (fCons (fVar 19) fNil)) (fCons (fCallK kLen (fCons (fOp2 kIdx (fVar 19) (fC (.int 0))) fNil)) fNil)))) (G := ZS sc D g n m sh bst .no .no (.d (gameD g')) (.d .none) (.d .none) .no .no .no) (lk := []) (fun a => ZS sc D g n m sh bst .no .no (.d (gameD g')) (.d (bstD a)) (.d (fndD a)) .no .no .no) (fun _ => True) osD (stepC g' n') (shS n' m') none hit (by rw [lock_nil]; rfl) True.intro fun os hos a _ => ⟨True.intro, _, rfl, .inl (cheapL h (shS_Own hos) a)⟩
  refine lp.1.trans ?_
  rw [zs_unl D sh sh sh .no .no (.d (gameD g')) .no .no .no .no .no]
  rfl
theorem okD_best (a : Option (Int × List Nat)) : okD 60 (.tuple [bstD a, fndD a]) = true := okD_tup fun d hd => by
  simp only [List.mem_cons, List.not_mem_nil, or_false] at hd
  cases a with
  | none => rcases hd with rfl | rfl <;> rfl
  | some b =>
    rcases hd with rfl | rfl
    · exact okD_int _ _
    · exact okD_nats _ _
theorem st30 {g' : List (List Int)} {n' m' : Nat} (h : Good g' n' m') (hb : n' ^ m' ≤ 60000) :
    law_s30 (ZS sc D g n m sh bst .no .no (.d (gameD g')) (.d (bstD (leastC g' n' m'))) (.d (fndD (leastC g' n' m'))) .no .no .no) = .ok .nx (ZS sc D g n m sh bst .no .no (.d (gameD g')) (.d (bstD (leastC g' n' m'))) (.d (fndD (leastC g' n' m'))) .no .no .no) :=
  if_f (test_ev (op_ev (call_ev [gameD g'] rfl (cheapest_ev h hb)) (tup_ev (ds := [bstD (leastC g' n' m'), fndD (leastC g' n' m')]) (hl := by show 2 ≤ 16777216; omega) rfl) (ne_same _ (okD_best _)))) rfl rfl
end
/-! ### words -/
theorem lword_mal {c : PyData} (h : F_law_call [.d c] = .ex .mal) : F_law_word [.d c] = .ok (.d (.str "malformed")) [.d c] := by
  show wordR F_law_call [.d c] = _
  unfold wordR
  dsimp only
  rw [h]
theorem lword_rf {c : PyData} {z : Str} (h : F_law_call [.d c] = .ex (.rf z)) : F_law_word [.d c] = .ok (.d (.str z)) [.d c] := by
  show wordR F_law_call [.d c] = _
  unfold wordR
  dsimp only
  rw [h]
theorem call0 {d v w : PyData} {e : Exn} (h : F_least_payments [.d d, .d v] = .ex e) : F_law_call [.d (.tuple [natD 0, d, v, w])] = .ex e :=
  run_ex (seq_go (G1 := [.d (.tuple [natD 0, d, v, w]), .d (natD 0), .d d, .d v, .d w]) rfl (if_t (b := true) rfl rfl (expr_ex (call_ex [d, v] rfl h))))
theorem call1 {d v w : PyData} {e : Exn} (h : F_cheapest [.d d] = .ex e) : F_law_call [.d (.tuple [natD 1, d, v, w])] = .ex e :=
  run_ex (seq_go (G1 := [.d (.tuple [natD 1, d, v, w]), .d (natD 1), .d d, .d v, .d w]) rfl (if_f (b := false) rfl rfl (if_t (b := true) rfl rfl (expr_ex (call_ex [d] rfl h)))))
theorem call2 {d v w : PyData} {e : Exn} (h : F_pay_left [.d d, .d v, .d w] = .ex e) : F_law_call [.d (.tuple [natD 2, d, v, w])] = .ex e :=
  run_ex (seq_go (G1 := [.d (.tuple [natD 2, d, v, w]), .d (natD 2), .d d, .d v, .d w]) rfl (if_f (b := false) rfl rfl (if_f (b := false) rfl rfl (expr_ex (call_ex [d, v, w] rfl h)))))
def bigG : List (List Int) := List.replicate 4 (List.replicate 10 1)
theorem big_good : Good bigG 4 10 := ⟨rfl, by decide, by decide, by decide, by decide, fun r hr => by
  rw [List.eq_of_mem_replicate hr]
  exact ⟨rfl, fun x hx => by rw [List.eq_of_mem_replicate hx]; decide⟩⟩
theorem big_word : F_law_word [.d (.tuple [natD 1, gameD bigG, natD 0, natD 0])] = .ok (.d (.str "large")) [.d (.tuple [natD 1, gameD bigG, natD 0, natD 0])] :=
  lword_rf (call1 (cheapest_many big_good (by decide)))
section
variable {sc : PyData} {D : List PyData} {g : List (List Int)} {n m : Nat} {sh bst : Sl} {s19 s21 s22 : Sl}
theorem st31 : law_s31 (ZS sc D g n m sh bst .no .no s19 s21 s22 .no .no .no) = .ok .nx (ZS sc D g n m sh bst .no .no s19 s21 s22 .no .no .no) := by
  have e1 : (fTup (fCons (fC (.int 1)) (fCons (fOp2 kMul (fTup (fCons (fOp2 kMul (fTup (fCons (fC (.int 1)) fNil)) (fC (.int 10))) fNil)) (fC (.int 4))) (fCons (fC (.int 0)) (fCons (fC (.int 0)) fNil))))) (ZS sc D g n m sh bst .no .no s19 s21 s22 .no .no .no) = .ok (.d (.tuple [natD 1, gameD bigG, natD 0, natD 0])) (ZS sc D g n m sh bst .no .no s19 s21 s22 .no .no .no) := rfl
  exact if_f (test_ev (op_ev (call_ev [.tuple [natD 1, gameD bigG, natD 0, natD 0]] (cons_ev e1 rfl) big_word) rfl (ne_str _ _ (by decide +kernel)))) rfl rfl
end
end D67
namespace D67
open PySem PySem.Spec PyProof.Rows L2 Fx C0
/-! ### the calls that are turned away -/
def oddL : List PyData := [.none, .int (-1), .tuple [.int (-1), .int 2], .tuple [.int 2, .int 4], .int 1, .str (Str.ofString "1")]
def oneD : PyData := .tuple [.int 1, .int 1]
theorem oddL_bad {r : Nat} (hr : r < 6) : ∃ d, oddL[r]? = some d ∧ thin d ∧ (ratioB d = false ∨ ∃ a b q, d = .tuple (.int a :: .int b :: q) ∧ a < 0) := by
  match r, hr with
  | 0, _ => exact ⟨_, rfl, True.intro, .inl rfl⟩
  | 1, _ => exact ⟨_, rfl, True.intro, .inl rfl⟩
  | 2, _ => exact ⟨_, rfl, by show (2 : Int).natAbs < 2 ^ 400; decide +kernel, .inr ⟨-1, 2, [], rfl, by decide⟩⟩
  | 3, _ => exact ⟨_, rfl, by show (4 : Int).natAbs < 2 ^ 400; decide +kernel, .inl (by decide +kernel)⟩
  | 4, _ => exact ⟨_, rfl, True.intro, .inl rfl⟩
  | 5, _ => exact ⟨_, rfl, True.intro, .inl rfl⟩
section
variable {sc : PyData} {D : List PyData} {g : List (List Int)} {n m : Nat} {SH : List (List Nat)} {os : List Nat} {bst s19 s21 s22 : Sl}
abbrev YS (sc : PyData) (D : List PyData) (g : List (List Int)) (n m : Nat) (SH : List (List Nat)) (bst s19 s21 s22 s23 s24 s25 : Sl) : Gm := ZS sc D g n m (.l (.lst (SH.map osD))) bst .no .no s19 s21 s22 s23 s24 s25
theorem sh0 (h : SH[0]? = some os) (a b c : Sl) : fOp2 kIdx (fVar 5) (fC (.int 0)) (YS sc D g n m SH bst s19 s21 s22 a b c) = .ok (.d (osD os)) (YS sc D g n m SH bst s19 s21 s22 a b c) :=
  idx_ev rfl rfl (.inr rfl) rfl (atI_natL (j := 0) (by rw [List.getElem?_map, h]; rfl))
theorem st32 (h : Good g n m) (hD : Dr D) (h0 : SH[0]? = some os) (ho : Own os n m) : ∃ b w D', gameB b = false ∧ fitB n m w = false ∧ Dr D' ∧ law_s32 (YS sc D g n m SH bst s19 s21 s22 .no .no .no) = .ok .nx (YS sc D' g n m SH bst s19 s21 s22 (.d b) (.d w) .no) := by
  obtain ⟨b, D1, hb, hD1, e1⟩ := badgame_ev h hD
  obtain ⟨w, D2, hw, hD2, e2⟩ := badown_ev h ho hD1
  refine ⟨b, w, D2, hb, hw, hD2, ?_⟩
  exact asg_ev (G1 := YS sc D2 g n m SH bst s19 s21 s22 .no .no .no) (tup_ev (ds := [b, w]) (hl := by show 2 ≤ 16777216; omega) (cons_ev (G1 := YS sc D1 g n m SH bst s19 s21 s22 .no .no .no) (callM_ev (i := 1) [gameD g] rfl rfl rfl e1) (cons_ev (G1 := YS sc D2 g n m SH bst s19 s21 s22 .no .no .no) (callM_ev (i := 1) (G := YS sc D1 g n m SH bst s19 s21 s22 .no .no .no) [gameD g, osD os] rfl rfl (cons_ev rfl (cons_ev (sh0 h0 _ _ _) rfl)) e2) rfl))) rfl
def callsA (g : List (List Int)) (os : List Nat) (b w : PyData) : List PyData := (List.range 3).map (fun k => PyData.tuple [natD k, b, osD os, oneD]) ++ [.tuple [natD 0, gameD g, w, natD 0], .tuple [natD 2, gameD g, w, oneD]]
theorem st33 (h0 : SH[0]? = some os) (b w : PyData) : law_s33 (YS sc D g n m SH bst s19 s21 s22 (.d b) (.d w) .no) = .ok .nx (YS sc D g n m SH bst s19 s21 s22 (.d b) (.d w) (.l (.lst (callsA g os b w)))) := by
  have c1 : law_c14 (YS sc D g n m SH bst s19 s21 s22 (.d b) (.d w) .no) = .ok (.new (.lst ((List.range 3).map (fun k => PyData.tuple [natD k, b, osD os, oneD])))) (YS sc D g n m SH bst s19 s21 s22 (.d b) (.d w) .no) := by
    have q := comp_evR (it := iRg1 (fC (.int 3))) (i := 26) (tst := tYesF) (elt := (fTup (fCons (fVar 26) (fCons (fVar 23) (fCons (fOp2 kIdx (fVar 5) (fC (.int 0))) (fCons (fTup (fCons (fC (.int 1)) (fCons (fC (.int 1)) fNil))) fNil)))))) (G := YS sc D g n m SH bst s19 s21 s22 (.d b) (.d w) .no) (enc := natD) (p := fun _ => true) (e := fun k => .tuple [natD k, b, osD os, oneD]) (l := List.range 3) (rg_ev 3 rfl (by omega)) rfl rfl (by decide) (fun _ _ => rfl) fun k _ _ => .d
      (tup_ev (ds := [natD k, b, osD os, oneD]) (hl := by show 4 ≤ 16777216; omega) (cons_ev rfl (cons_ev rfl (cons_ev (idx_ev rfl rfl (.inr rfl) rfl (atI_natL (j := 0) (x := osD os) (xs := SH.map osD) (by rw [List.getElem?_map, h0]; rfl))) rfl))))
    rw [filter_yes] at q
    exact q
  exact set_new (G1 := YS sc D g n m SH bst s19 s21 s22 (.d b) (.d w) .no) (op_ev c1 (b := .new (.lst [.tuple [natD 0, gameD g, w, natD 0], .tuple [natD 2, gameD g, w, oneD]])) rfl (kAdd_l rfl rfl (by rw [List.length_map]; show 3 + 2 ≤ _; omega)))
theorem st34 (hD : Dr D) (h0 : SH[0]? = some os) (b w : PyData) : ∃ r D', r < 6 ∧ Dr D' ∧ ∀ d, oddL[r]? = some d → law_s34 (YS sc D g n m SH bst s19 s21 s22 (.d b) (.d w) (.l (.lst (callsA g os b w)))) = .ok .nx (YS sc D' g n m SH bst s19 s21 s22 (.d b) (.d w) (.l (.lst (callsA g os b w ++ [.tuple [natD 2, gameD g, osD os, d]])))) := by
  obtain ⟨r, D1, hD1, hr, e1⟩ := takeC (G := YS sc D g n m SH bst s19 s21 s22 (.d b) (.d w) (.l (.lst (callsA g os b w)))) (i := 1) (fm := fC (.int 6)) (many := 6) rfl rfl rfl hD (by omega) (by omega)
  refine ⟨r, D1, hr, hD1, fun d hd => ?_⟩
  have e2 : (fOp2 kIdx (fLst (fCons (fC .none) (fCons (fUn kNeg (fC (.int 1))) (fCons (fTup (fCons (fUn kNeg (fC (.int 1))) (fCons (fC (.int 2)) fNil))) (fCons (fTup (fCons (fC (.int 2)) (fCons (fC (.int 4)) fNil))) (fCons (fC (.int 1)) (fCons (fC (.str (Str.ofString "1"))) fNil))))))) (fCallK (kCallM F_law_take) (fCons (fVar 1) (fCons (fC (.int 6)) fNil)))) (YS sc D g n m SH bst s19 s21 s22 (.d b) (.d w) (.l (.lst (callsA g os b w)))) = .ok (.d d) (YS sc D1 g n m SH bst s19 s21 s22 (.d b) (.d w) (.l (.lst (callsA g os b w)))) :=
    idx_ev (G2 := YS sc D1 g n m SH bst s19 s21 s22 (.d b) (.d w) (.l (.lst (callsA g os b w)))) (a := .new (.lst oddL)) (ds := oddL) rfl e1 (.inr rfl) rfl (atI_natL hd)
  have e4 : fCons (fVar 2) (fCons (fOp2 kIdx (fVar 5) (fC (.int 0))) (fCons (fOp2 kIdx (fLst (fCons (fC .none) (fCons (fUn kNeg (fC (.int 1))) (fCons (fTup (fCons (fUn kNeg (fC (.int 1))) (fCons (fC (.int 2)) fNil))) (fCons (fTup (fCons (fC (.int 2)) (fCons (fC (.int 4)) fNil))) (fCons (fC (.int 1)) (fCons (fC (.str (Str.ofString "1"))) fNil))))))) (fCallK (kCallM F_law_take) (fCons (fVar 1) (fCons (fC (.int 6)) fNil)))) fNil)) (YS sc D g n m SH bst s19 s21 s22 (.d b) (.d w) (.l (.lst (callsA g os b w)))) = .ok [.d (gameD g), .d (osD os), .d d] (YS sc D1 g n m SH bst s19 s21 s22 (.d b) (.d w) (.l (.lst (callsA g os b w)))) :=
    cons_ev (G1 := YS sc D g n m SH bst s19 s21 s22 (.d b) (.d w) (.l (.lst (callsA g os b w)))) rfl (cons_ev (sh0 h0 _ _ _) (cons_ev e2 rfl))
  have e3 := tup_ev (G1 := YS sc D1 g n m SH bst s19 s21 s22 (.d b) (.d w) (.l (.lst (callsA g os b w)))) (ds := [natD 2, gameD g, osD os, d]) (hl := by show 4 ≤ 16777216; omega) (cons_ev (f := fC (.int 2)) (G1 := YS sc D g n m SH bst s19 s21 s22 (.d b) (.d w) (.l (.lst (callsA g os b w)))) rfl e4)
  exact (expr_ev (app_ev (i := 25) (ds := callsA g os b w) rfl rfl e3 rfl (by
    show (callsA g os b w).length + 1 ≤ _
    unfold callsA
    simp))).trans rfl
theorem word_all (h : Good g n m) (ho : Own os n m) {b w d : PyData} (hb : gameB b = false) (hw : fitB n m w = false) (hd : thin d ∧ (ratioB d = false ∨ ∃ a b q, d = .tuple (.int a :: .int b :: q) ∧ a < 0)) :
    ∀ c ∈ callsA g os b w ++ [.tuple [natD 2, gameD g, osD os, d]], F_law_word [.d c] = .ok (.d (.str "malformed")) [.d c] := by
  intro c hc
  unfold callsA at hc
  simp only [List.mem_append, List.mem_cons, List.not_mem_nil, or_false, List.mem_map, List.mem_range] at hc
  rcases hc with (⟨k, hk, rfl⟩ | rfl | rfl) | rfl
  · match k, hk with
    | 0, _ => exact lword_mal (call0 (leastp_bad (share_badG hb)))
    | 1, _ => exact lword_mal (call1 (cheapest_bad hb))
    | 2, _ => exact lword_mal (call2 (payleft_badS (share_badG hb)))
  · exact lword_mal (call0 (leastp_bad (share_bad h hw)))
  · exact lword_mal (call2 (payleft_badS (share_bad h hw)))
  · exact lword_mal (call2 (payleft_bad h ho hd.1 hd.2))
theorem st35 {C : List PyData} (hl : C.length ≤ 1000) (hC : ∀ c ∈ C, F_law_word [.d c] = .ok (.d (.str "malformed")) [.d c]) (b w : Sl) : law_s35 (YS sc D g n m SH bst s19 s21 s22 b w (.l (.lst C))) = .ok (.rt (.d (.bool true))) (YS sc D g n m SH bst s19 s21 s22 b w (.l (.lst C))) := by
  have q : law_c15 (YS sc D g n m SH bst s19 s21 s22 b w (.l (.lst C))) = .ok (.new (.lst ((C.filter fun _ => false).map id))) (YS sc D g n m SH bst s19 s21 s22 b w (.l (.lst C))) := by
    refine comp_ev (ds := C) (lk := [25]) rfl rfl rfl (by omega) (fun c hc => ?_) fun c _ z => nomatch z
    rw [wipe_lock _ 27 25 _ (.lst C) (by omega) rfl]
    exact test_ev (op_ev (call_ev [c] rfl (hC c hc)) rfl (ne_str _ _ (by decide +kernel)))
  rw [filter_no] at q
  exact ret_ev (op_ev q rfl rfl)
end
theorem law_true (ns : List Int) (h : ns.length ≤ 63) : ∃ G, F_law [.d (.dict [(.none, .list (ns.map .int))])] = .ok (.d (.bool true)) G := by
  obtain ⟨D, A, hD, e1⟩ := draw_ev ns h
  obtain ⟨g, n, m, D1, hg, _, hm, hD1, e2⟩ := game_draw hD (people := 4) (goods := 6) (most := 30) (by omega) (by omega) (by omega) (by omega) (by omega) (by omega)
  have n1 := hg.n1
  obtain ⟨SH, D2, hl, hS, hD2, e4⟩ := st4 (sc := .dict [(.none, .list (ns.map .int))]) hg hD1
  have e5 := st5 (sc := .dict [(.none, .list (ns.map .int))]) (D := D2) hg (.l (.lst (SH.map osD)))
  have e6 := st6 (sc := .dict [(.none, .list (ns.map .int))]) (D := D2) hg hl
  have hS' : ∀ os ∈ SH ++ [topO g n m], Own os n m := fun os hm => by
    rcases List.mem_append.mp hm with hm | hm
    · exact hS os hm
    · cases List.mem_singleton.mp hm
      exact topO_own n1
  obtain ⟨D3, hD3, e24⟩ := turns_ev (sc := .dict [(.none, .list (ns.map .int))]) (bst := .l (.lst (inZ m (topF g n)))) hg hS' hD2
  have e25 := st25 (sc := .dict [(.none, .list (ns.map .int))]) (D := D3) (sh := .l (.lst ((SH ++ [topO g n m]).map osD))) (bst := .l (.lst (inZ m (topF g n)))) hg
  have hs := small_good hg
  have hb : (min n 3) ^ (min m 4) ≤ 60000 := pow_small (by omega) (by omega)
  have e29 := st29 (sc := .dict [(.none, .list (ns.map .int))]) (D := D3) (g := g) (n := n) (m := m) (sh := .l (.lst ((SH ++ [topO g n m]).map osD))) (bst := .l (.lst (inZ m (topF g n)))) hs hb
  have e30 := st30 (sc := .dict [(.none, .list (ns.map .int))]) (D := D3) (g := g) (n := n) (m := m) (sh := .l (.lst ((SH ++ [topO g n m]).map osD))) (bst := .l (.lst (inZ m (topF g n)))) hs hb
  have e31 := st31 (sc := .dict [(.none, .list (ns.map .int))]) (D := D3) (g := g) (n := n) (m := m) (sh := .l (.lst ((SH ++ [topO g n m]).map osD))) (bst := .l (.lst (inZ m (topF g n)))) (s19 := .d (gameD (smallG g))) (s21 := .d (bstD (leastC (smallG g) (min n 3) (min m 4)))) (s22 := .d (fndD (leastC (smallG g) (min n 3) (min m 4))))
  obtain ⟨os, h0, ho⟩ : ∃ os, (SH ++ [topO g n m])[0]? = some os ∧ Own os n m := by
    cases SH with
    | nil => cases hl
    | cons a l => exact ⟨a, rfl, hS a List.mem_cons_self⟩
  obtain ⟨b, w, D4, hb', hw, hD4, e32⟩ := st32 (sc := .dict [(.none, .list (ns.map .int))]) (bst := .l (.lst (inZ m (topF g n)))) (s19 := .d (gameD (smallG g))) (s21 := .d (bstD (leastC (smallG g) (min n 3) (min m 4)))) (s22 := .d (fndD (leastC (smallG g) (min n 3) (min m 4)))) hg hD3 h0 ho
  have e33 := st33 (sc := .dict [(.none, .list (ns.map .int))]) (D := D4) (g := g) (n := n) (m := m) (bst := .l (.lst (inZ m (topF g n)))) (s19 := .d (gameD (smallG g))) (s21 := .d (bstD (leastC (smallG g) (min n 3) (min m 4)))) (s22 := .d (fndD (leastC (smallG g) (min n 3) (min m 4)))) h0 b w
  obtain ⟨r, D5, hr, hD5, e34⟩ := st34 (sc := .dict [(.none, .list (ns.map .int))]) (g := g) (n := n) (m := m) (bst := .l (.lst (inZ m (topF g n)))) (s19 := .d (gameD (smallG g))) (s21 := .d (bstD (leastC (smallG g) (min n 3) (min m 4)))) (s22 := .d (fndD (leastC (smallG g) (min n 3) (min m 4)))) hD4 h0 b w
  obtain ⟨d, hd, hx⟩ := oddL_bad hr
  have e35 := st35 (sc := .dict [(.none, .list (ns.map .int))]) (D := D5) (g := g) (n := n) (m := m) (SH := SH ++ [topO g n m]) (bst := .l (.lst (inZ m (topF g n)))) (s19 := .d (gameD (smallG g))) (s21 := .d (bstD (leastC (smallG g) (min n 3) (min m 4)))) (s22 := .d (fndD (leastC (smallG g) (min n 3) (min m 4)))) (by unfold callsA; simp) (word_all hg ho hb' hw hx) (.d b) (.d w)
  have e3 : law_s3 (([.d (.dict [(.none, .list (ns.map .int))]), .l (.lst D1), .d (gameD g)] : Gm) ++ List.replicate 25 .no) = .ok .nx (NS (.dict [(.none, .list (ns.map .int))]) D1 g n m .no .no) :=
    asg_ev (G1 := ([.d (.dict [(.none, .list (ns.map .int))]), .l (.lst D1), .d (gameD g)] : Gm) ++ List.replicate 25 .no) (tup_ev (ds := [natD n, natD m]) (hl := by show 2 ≤ 16777216; omega) (cons_ev (lenG_ev hg rfl) (cons_ev (g0_ev hg rfl) rfl))) rfl
  exact ⟨_, run_d _ (seq_go (set_new (call_new [_] rfl e1)) (seq_go (set_d (callM_ev [natD 4, natD 6, natD 30] rfl rfl rfl e2)) (seq_go e3 (seq_go e4 (seq_go e5 (seq_go e6 (seq_go e24 (seq_go e25 (seq_go (G1 := ZS (.dict [(.none, .list (ns.map .int))]) D3 g n m (.l (.lst ((SH ++ [topO g n m]).map osD))) (.l (.lst (inZ m (topF g n)))) .no .no (.d (gameD (smallG g))) (.d .none) (.d .none) .no .no .no) rfl (seq_go e29 (seq_go e30 (seq_go e31 (seq_go e32 (seq_go e33 (seq_go (e34 d hd) e35)))))))))))))))⟩
end D67
namespace D67
open PySem PySem.Spec PyProof.Rows L2 Fx C0
set_option maxHeartbeats 0 in
theorem all_mk {l : PySem.W.OpenLaw} {w : World} {K : PySem.W.Frag} {h : Heap} {mg : Str → Option Value} {fa : Addr} {f0 : Addr} {od0 an0 : Option Addr} {sl0 : Array (Option Value)} {oc0 kV0 dc0 pm0 ct0 : Value} {cd0 : Value} {f1 : Addr} {od1 an1 : Option Addr} {sl1 : Array (Option Value)} {oc1 kV1 dc1 pm1 ct1 : Value} {cd1 : Value} {f2 : Addr} {od2 an2 : Option Addr} {sl2 : Array (Option Value)} {oc2 kV2 dc2 pm2 ct2 : Value} {cd2 : Value} {f3 : Addr} {od3 an3 : Option Addr} {sl3 : Array (Option Value)} {oc3 kV3 dc3 pm3 ct3 : Value} {cd3 : Value} {f4 : Addr} {od4 an4 : Option Addr} {sl4 : Array (Option Value)} {oc4 kV4 dc4 pm4 ct4 : Value} {cd4 : Value} {f5 : Addr} {od5 an5 : Option Addr} {sl5 : Array (Option Value)} {oc5 kV5 dc5 pm5 ct5 : Value} {cd5 : Value} {f6 : Addr} {od6 an6 : Option Addr} {sl6 : Array (Option Value)} {oc6 kV6 dc6 pm6 ct6 : Value} {cd6 : Value} {f7 : Addr} {od7 an7 : Option Addr} {sl7 : Array (Option Value)} {oc7 kV7 dc7 pm7 ct7 : Value} {cd7 : Value} {f8 : Addr} {od8 an8 : Option Addr} {sl8 : Array (Option Value)} {oc8 kV8 dc8 pm8 ct8 : Value} {cd8 : Value} {f9 : Addr} {od9 an9 : Option Addr} {sl9 : Array (Option Value)} {oc9 kV9 dc9 pm9 ct9 : Value} {cd9 : Value} {f10 : Addr} {od10 an10 : Option Addr} {sl10 : Array (Option Value)} {oc10 kV10 dc10 pm10 ct10 : Value} {cd10 : Value} {f11 : Addr} {od11 an11 : Option Addr} {sl11 : Array (Option Value)} {oc11 kV11 dc11 pm11 ct11 : Value} {cd11 : Value} {f12 : Addr} {od12 an12 : Option Addr} {sl12 : Array (Option Value)} {oc12 kV12 dc12 pm12 ct12 : Value} {cd12 : Value} {f13 : Addr} {od13 an13 : Option Addr} {sl13 : Array (Option Value)} {oc13 kV13 dc13 pm13 ct13 : Value} {cd13 : Value} {f14 : Addr} {od14 an14 : Option Addr} {sl14 : Array (Option Value)} {oc14 kV14 dc14 pm14 ct14 : Value} {cd14 : Value} {f15 : Addr} {od15 an15 : Option Addr} {sl15 : Array (Option Value)} {oc15 kV15 dc15 pm15 ct15 : Value} {cd15 : Value} {f16 : Addr} {od16 an16 : Option Addr} {sl16 : Array (Option Value)} {oc16 kV16 dc16 pm16 ct16 : Value} {cd16 : Value} {f17 : Addr} {od17 an17 : Option Addr} {sl17 : Array (Option Value)} {oc17 kV17 dc17 pm17 ct17 : Value} {cd17 : Value} {f18 : Addr} {od18 an18 : Option Addr} {sl18 : Array (Option Value)} {oc18 kV18 dc18 pm18 ct18 : Value} {cd18 : Value} {f19 : Addr} {od19 an19 : Option Addr} {sl19 : Array (Option Value)} {oc19 kV19 dc19 pm19 ct19 : Value} {cd19 : Value} {f20 : Addr} {od20 an20 : Option Addr} {sl20 : Array (Option Value)} {oc20 kV20 dc20 pm20 ct20 : Value} {cd20 : Value} {f21 : Addr} {od21 an21 : Option Addr} {sl21 : Array (Option Value)} {oc21 kV21 dc21 pm21 ct21 : Value} {cd21 : Value} {f22 : Addr} {od22 an22 : Option Addr} {sl22 : Array (Option Value)} {oc22 kV22 dc22 pm22 ct22 : Value} {cd22 : Value} {f23 : Addr} {od23 an23 : Option Addr} {sl23 : Array (Option Value)} {oc23 kV23 dc23 pm23 ct23 : Value} {cd23 : Value} {f24 : Addr} {od24 an24 : Option Addr} {sl24 : Array (Option Value)} {oc24 kV24 dc24 pm24 ct24 : Value} {cd24 : Value} {f25 : Addr} {od25 an25 : Option Addr} {sl25 : Array (Option Value)} {oc25 kV25 dc25 pm25 ct25 : Value} {cd25 : Value} {f26 : Addr} {od26 an26 : Option Addr} {sl26 : Array (Option Value)} {oc26 kV26 dc26 pm26 ct26 : Value} {cd26 : Value} {f27 : Addr} {od27 an27 : Option Addr} {sl27 : Array (Option Value)} {oc27 kV27 dc27 pm27 ct27 : Value} {cd27 : Value} {f28 : Addr} {od28 an28 : Option Addr} {sl28 : Array (Option Value)} {oc28 kV28 dc28 pm28 ct28 : Value} {cd28 : Value} {f29 : Addr} {od29 an29 : Option Addr} {sl29 : Array (Option Value)} {oc29 kV29 dc29 pm29 ct29 : Value} {cd29 : Value} {f30 : Addr} {od30 an30 : Option Addr} {sl30 : Array (Option Value)} {oc30 kV30 dc30 pm30 ct30 : Value} {cd30 : Value} {f31 : Addr} {od31 an31 : Option Addr} {sl31 : Array (Option Value)} {oc31 kV31 dc31 pm31 ct31 : Value} {cd31 : Value} {f32 : Addr} {od32 an32 : Option Addr} {sl32 : Array (Option Value)} {oc32 kV32 dc32 pm32 ct32 : Value} {cd32 : Value} {f33 : Addr} {od33 an33 : Option Addr} {sl33 : Array (Option Value)} {oc33 kV33 dc33 pm33 ct33 : Value} {cd33 : Value} {f34 : Addr} {od34 an34 : Option Addr} {sl34 : Array (Option Value)} {oc34 kV34 dc34 pm34 ct34 : Value} {cd34 : Value} {f35 : Addr} {od35 an35 : Option Addr} {sl35 : Array (Option Value)} {oc35 kV35 dc35 pm35 ct35 : Value} {cd35 : Value} {f36 : Addr} {od36 an36 : Option Addr} {sl36 : Array (Option Value)} {oc36 kV36 dc36 pm36 ct36 : Value} {cd36 : Value} {f37 : Addr} {od37 an37 : Option Addr} {sl37 : Array (Option Value)} {oc37 kV37 dc37 pm37 ct37 : Value} {cd37 : Value} {f38 : Addr} {od38 an38 : Option Addr} {sl38 : Array (Option Value)} {oc38 kV38 dc38 pm38 ct38 : Value} {cd38 : Value} {f39 : Addr} {od39 an39 : Option Addr} {sl39 : Array (Option Value)} {oc39 kV39 dc39 pm39 ct39 : Value} {cd39 : Value} {f40 : Addr} {od40 an40 : Option Addr} {sl40 : Array (Option Value)} {oc40 kV40 dc40 pm40 ct40 : Value} {cd40 : Value} {f41 : Addr} {od41 an41 : Option Addr} {sl41 : Array (Option Value)} {oc41 kV41 dc41 pm41 ct41 : Value} {cd41 : Value} {f42 : Addr} {od42 an42 : Option Addr} {sl42 : Array (Option Value)} {oc42 kV42 dc42 pm42 ct42 : Value} {cd42 : Value} {t_MOST_GOODS : Tok} {t_MOST_PEOPLE : Tok} {t_MOST_SHARES : Tok} {t_MOST_WISH : Tok} {CM CF CR : Addr} {fI cdaI cccI : Addr} {oI kVI dcI pmI ctI cclI clI : Value} {odI anI cddI cldI : Option Addr} {slI ccsI cslI : Array (Option Value)} {vsI : Array Value} {tfI : Tok} {fileI : Str} {nmR qR : Str} {NR : Addr} {bsR bmR : List Value} {snR : List Str} {subR : List Value} {abR : Bool} {colR : Option Bool} {ddR : Option Addr} {r0 r1 r2 r3 r5 : Option Value} (X : K.In h) (G : h.Ns mainGlobals mg) (hfa : mg "law" = some (.ref fa)) 
    (a0 : PySem.W.nsIn K mainGlobals "is_whole" = some (some (.ref f0))) (l0 : K.lookup f0 = some ⟨oc0, od0, .func (PySem.W.fnOf "is_whole" "is_whole" (defArgs st_is_whole) (defBody st_is_whole) (defScope st_is_whole) .none kV0 dc0 pm0 an0 cd0 ct0), sl0⟩) (c0 : PySem.W.codeIn K cd0 "is_whole" = true) (k0 : PySem.W.keepIn K (.ref f0) = true)
    (a1 : PySem.W.nsIn K mainGlobals "common" = some (some (.ref f1))) (l1 : K.lookup f1 = some ⟨oc1, od1, .func (PySem.W.fnOf "common" "common" (defArgs st_common) (defBody st_common) (defScope st_common) .none kV1 dc1 pm1 an1 cd1 ct1), sl1⟩) (c1 : PySem.W.codeIn K cd1 "common" = true) (k1 : PySem.W.keepIn K (.ref f1) = true)
    (a2 : PySem.W.nsIn K mainGlobals "lowest" = some (some (.ref f2))) (l2 : K.lookup f2 = some ⟨oc2, od2, .func (PySem.W.fnOf "lowest" "lowest" (defArgs st_lowest) (defBody st_lowest) (defScope st_lowest) .none kV2 dc2 pm2 an2 cd2 ct2), sl2⟩) (c2 : PySem.W.codeIn K cd2 "lowest" = true) (k2 : PySem.W.keepIn K (.ref f2) = true)
    (a3 : PySem.W.nsIn K mainGlobals "ratio" = some (some (.ref f3))) (l3 : K.lookup f3 = some ⟨oc3, od3, .func (PySem.W.fnOf "ratio" "ratio" (defArgs st_ratio) (defBody st_ratio) (defScope st_ratio) .none kV3 dc3 pm3 an3 cd3 ct3), sl3⟩) (c3 : PySem.W.codeIn K cd3 "ratio" = true) (k3 : PySem.W.keepIn K (.ref f3) = true)
    (a4 : PySem.W.nsIn K mainGlobals "is_ratio" = some (some (.ref f4))) (l4 : K.lookup f4 = some ⟨oc4, od4, .func (PySem.W.fnOf "is_ratio" "is_ratio" (defArgs st_is_ratio) (defBody st_is_ratio) (defScope st_is_ratio) .none kV4 dc4 pm4 an4 cd4 ct4), sl4⟩) (c4 : PySem.W.codeIn K cd4 "is_ratio" = true) (k4 : PySem.W.keepIn K (.ref f4) = true)
    (a5 : PySem.W.nsIn K mainGlobals "plus" = some (some (.ref f5))) (l5 : K.lookup f5 = some ⟨oc5, od5, .func (PySem.W.fnOf "plus" "plus" (defArgs st_plus) (defBody st_plus) (defScope st_plus) .none kV5 dc5 pm5 an5 cd5 ct5), sl5⟩) (c5 : PySem.W.codeIn K cd5 "plus" = true) (k5 : PySem.W.keepIn K (.ref f5) = true)
    (a6 : PySem.W.nsIn K mainGlobals "minus" = some (some (.ref f6))) (l6 : K.lookup f6 = some ⟨oc6, od6, .func (PySem.W.fnOf "minus" "minus" (defArgs st_minus) (defBody st_minus) (defScope st_minus) .none kV6 dc6 pm6 an6 cd6 ct6), sl6⟩) (c6 : PySem.W.codeIn K cd6 "minus" = true) (k6 : PySem.W.keepIn K (.ref f6) = true)
    (a7 : PySem.W.nsIn K mainGlobals "is_wishes" = some (some (.ref f7))) (l7 : K.lookup f7 = some ⟨oc7, od7, .func (PySem.W.fnOf "is_wishes" "is_wishes" (defArgs st_is_wishes) (defBody st_is_wishes) (defScope st_is_wishes) .none kV7 dc7 pm7 an7 cd7 ct7), sl7⟩) (c7 : PySem.W.codeIn K cd7 "is_wishes" = true) (k7 : PySem.W.keepIn K (.ref f7) = true)
    (a8 : PySem.W.nsIn K mainGlobals "is_game" = some (some (.ref f8))) (l8 : K.lookup f8 = some ⟨oc8, od8, .func (PySem.W.fnOf "is_game" "is_game" (defArgs st_is_game) (defBody st_is_game) (defScope st_is_game) .none kV8 dc8 pm8 an8 cd8 ct8), sl8⟩) (c8 : PySem.W.codeIn K cd8 "is_game" = true) (k8 : PySem.W.keepIn K (.ref f8) = true)
    (a9 : PySem.W.nsIn K mainGlobals "check_game" = some (some (.ref f9))) (l9 : K.lookup f9 = some ⟨oc9, od9, .func (PySem.W.fnOf "check_game" "check_game" (defArgs st_check_game) (defBody st_check_game) (defScope st_check_game) .none kV9 dc9 pm9 an9 cd9 ct9), sl9⟩) (c9 : PySem.W.codeIn K cd9 "check_game" = true) (k9 : PySem.W.keepIn K (.ref f9) = true)
    (a10 : PySem.W.nsIn K mainGlobals "fits_owners" = some (some (.ref f10))) (l10 : K.lookup f10 = some ⟨oc10, od10, .func (PySem.W.fnOf "fits_owners" "fits_owners" (defArgs st_fits_owners) (defBody st_fits_owners) (defScope st_fits_owners) .none kV10 dc10 pm10 an10 cd10 ct10), sl10⟩) (c10 : PySem.W.codeIn K cd10 "fits_owners" = true) (k10 : PySem.W.keepIn K (.ref f10) = true)
    (a11 : PySem.W.nsIn K mainGlobals "check_share" = some (some (.ref f11))) (l11 : K.lookup f11 = some ⟨oc11, od11, .func (PySem.W.fnOf "check_share" "check_share" (defArgs st_check_share) (defBody st_check_share) (defScope st_check_share) .none kV11 dc11 pm11 an11 cd11 ct11), sl11⟩) (c11 : PySem.W.codeIn K cd11 "check_share" = true) (k11 : PySem.W.keepIn K (.ref f11) = true)
    (a12 : PySem.W.nsIn K mainGlobals "parts_of" = some (some (.ref f12))) (l12 : K.lookup f12 = some ⟨oc12, od12, .func (PySem.W.fnOf "parts_of" "parts_of" (defArgs st_parts_of) (defBody st_parts_of) (defScope st_parts_of) .none kV12 dc12 pm12 an12 cd12 ct12), sl12⟩) (c12 : PySem.W.codeIn K cd12 "parts_of" = true) (k12 : PySem.W.keepIn K (.ref f12) = true)
    (a13 : PySem.W.nsIn K mainGlobals "worth" = some (some (.ref f13))) (l13 : K.lookup f13 = some ⟨oc13, od13, .func (PySem.W.fnOf "worth" "worth" (defArgs st_worth) (defBody st_worth) (defScope st_worth) .none kV13 dc13 pm13 an13 cd13 ct13), sl13⟩) (c13 : PySem.W.codeIn K cd13 "worth" = true) (k13 : PySem.W.keepIn K (.ref f13) = true)
    (a14 : PySem.W.nsIn K mainGlobals "worth_table" = some (some (.ref f14))) (l14 : K.lookup f14 = some ⟨oc14, od14, .func (PySem.W.fnOf "worth_table" "worth_table" (defArgs st_worth_table) (defBody st_worth_table) (defScope st_worth_table) .none kV14 dc14 pm14 an14 cd14 ct14), sl14⟩) (c14 : PySem.W.codeIn K cd14 "worth_table" = true) (k14 : PySem.W.keepIn K (.ref f14) = true)
    (a15 : PySem.W.nsIn K mainGlobals "check_few" = some (some (.ref f15))) (l15 : K.lookup f15 = some ⟨oc15, od15, .func (PySem.W.fnOf "check_few" "check_few" (defArgs st_check_few) (defBody st_check_few) (defScope st_check_few) .none kV15 dc15 pm15 an15 cd15 ct15), sl15⟩) (c15 : PySem.W.codeIn K cd15 "check_few" = true) (k15 : PySem.W.keepIn K (.ref f15) = true)
    (a16 : PySem.W.nsIn K mainGlobals "every_share" = some (some (.ref f16))) (l16 : K.lookup f16 = some ⟨oc16, od16, .func (PySem.W.fnOf "every_share" "every_share" (defArgs st_every_share) (defBody st_every_share) (defScope st_every_share) .none kV16 dc16 pm16 an16 cd16 ct16), sl16⟩) (c16 : PySem.W.codeIn K cd16 "every_share" = true) (k16 : PySem.W.keepIn K (.ref f16) = true)
    (a17 : PySem.W.nsIn K mainGlobals "are_payments" = some (some (.ref f17))) (l17 : K.lookup f17 = some ⟨oc17, od17, .func (PySem.W.fnOf "are_payments" "are_payments" (defArgs st_are_payments) (defBody st_are_payments) (defScope st_are_payments) .none kV17 dc17 pm17 an17 cd17 ct17), sl17⟩) (c17 : PySem.W.codeIn K cd17 "are_payments" = true) (k17 : PySem.W.keepIn K (.ref f17) = true)
    (a18 : PySem.W.nsIn K mainGlobals "calm_table" = some (some (.ref f18))) (l18 : K.lookup f18 = some ⟨oc18, od18, .func (PySem.W.fnOf "calm_table" "calm_table" (defArgs st_calm_table) (defBody st_calm_table) (defScope st_calm_table) .none kV18 dc18 pm18 an18 cd18 ct18), sl18⟩) (c18 : PySem.W.codeIn K cd18 "calm_table" = true) (k18 : PySem.W.keepIn K (.ref f18) = true)
    (a19 : PySem.W.nsIn K mainGlobals "is_calm" = some (some (.ref f19))) (l19 : K.lookup f19 = some ⟨oc19, od19, .func (PySem.W.fnOf "is_calm" "is_calm" (defArgs st_is_calm) (defBody st_is_calm) (defScope st_is_calm) .none kV19 dc19 pm19 an19 cd19 ct19), sl19⟩) (c19 : PySem.W.codeIn K cd19 "is_calm" = true) (k19 : PySem.W.keepIn K (.ref f19) = true)
    (a20 : PySem.W.nsIn K mainGlobals "gaps_of" = some (some (.ref f20))) (l20 : K.lookup f20 = some ⟨oc20, od20, .func (PySem.W.fnOf "gaps_of" "gaps_of" (defArgs st_gaps_of) (defBody st_gaps_of) (defScope st_gaps_of) .none kV20 dc20 pm20 an20 cd20 ct20), sl20⟩) (c20 : PySem.W.codeIn K cd20 "gaps_of" = true) (k20 : PySem.W.keepIn K (.ref f20) = true)
    (a21 : PySem.W.nsIn K mainGlobals "longest" = some (some (.ref f21))) (l21 : K.lookup f21 = some ⟨oc21, od21, .func (PySem.W.fnOf "longest" "longest" (defArgs st_longest) (defBody st_longest) (defScope st_longest) .none kV21 dc21 pm21 an21 cd21 ct21), sl21⟩) (c21 : PySem.W.codeIn K cd21 "longest" = true) (k21 : PySem.W.keepIn K (.ref f21) = true)
    (a22 : PySem.W.nsIn K mainGlobals "least_payments" = some (some (.ref f22))) (l22 : K.lookup f22 = some ⟨oc22, od22, .func (PySem.W.fnOf "least_payments" "least_payments" (defArgs st_least_payments) (defBody st_least_payments) (defScope st_least_payments) .none kV22 dc22 pm22 an22 cd22 ct22), sl22⟩) (c22 : PySem.W.codeIn K cd22 "least_payments" = true) (k22 : PySem.W.keepIn K (.ref f22) = true)
    (a23 : PySem.W.nsIn K mainGlobals "cheapest" = some (some (.ref f23))) (l23 : K.lookup f23 = some ⟨oc23, od23, .func (PySem.W.fnOf "cheapest" "cheapest" (defArgs st_cheapest) (defBody st_cheapest) (defScope st_cheapest) .none kV23 dc23 pm23 an23 cd23 ct23), sl23⟩) (c23 : PySem.W.codeIn K cd23 "cheapest" = true) (k23 : PySem.W.keepIn K (.ref f23) = true)
    (a24 : PySem.W.nsIn K mainGlobals "pay_left" = some (some (.ref f24))) (l24 : K.lookup f24 = some ⟨oc24, od24, .func (PySem.W.fnOf "pay_left" "pay_left" (defArgs st_pay_left) (defBody st_pay_left) (defScope st_pay_left) .none kV24 dc24 pm24 an24 cd24 ct24), sl24⟩) (c24 : PySem.W.codeIn K cd24 "pay_left" = true) (k24 : PySem.W.keepIn K (.ref f24) = true)
    (a25 : PySem.W.nsIn K mainGlobals "_law_draw" = some (some (.ref f25))) (l25 : K.lookup f25 = some ⟨oc25, od25, .func (PySem.W.fnOf "_law_draw" "_law_draw" (defArgs st_law_draw) (defBody st_law_draw) (defScope st_law_draw) .none kV25 dc25 pm25 an25 cd25 ct25), sl25⟩) (c25 : PySem.W.codeIn K cd25 "_law_draw" = true) (k25 : PySem.W.keepIn K (.ref f25) = true)
    (a26 : PySem.W.nsIn K mainGlobals "_law_take" = some (some (.ref f26))) (l26 : K.lookup f26 = some ⟨oc26, od26, .func (PySem.W.fnOf "_law_take" "_law_take" (defArgs st_law_take) (defBody st_law_take) (defScope st_law_take) .none kV26 dc26 pm26 an26 cd26 ct26), sl26⟩) (c26 : PySem.W.codeIn K cd26 "_law_take" = true) (k26 : PySem.W.keepIn K (.ref f26) = true)
    (a27 : PySem.W.nsIn K mainGlobals "_law_fraction" = some (some (.ref f27))) (l27 : K.lookup f27 = some ⟨oc27, od27, .func (PySem.W.fnOf "_law_fraction" "_law_fraction" (defArgs st_law_fraction) (defBody st_law_fraction) (defScope st_law_fraction) .none kV27 dc27 pm27 an27 cd27 ct27), sl27⟩) (c27 : PySem.W.codeIn K cd27 "_law_fraction" = true) (k27 : PySem.W.keepIn K (.ref f27) = true)
    (a28 : PySem.W.nsIn K mainGlobals "_law_plus" = some (some (.ref f28))) (l28 : K.lookup f28 = some ⟨oc28, od28, .func (PySem.W.fnOf "_law_plus" "_law_plus" (defArgs st_law_plus) (defBody st_law_plus) (defScope st_law_plus) .none kV28 dc28 pm28 an28 cd28 ct28), sl28⟩) (c28 : PySem.W.codeIn K cd28 "_law_plus" = true) (k28 : PySem.W.keepIn K (.ref f28) = true)
    (a29 : PySem.W.nsIn K mainGlobals "_law_minus" = some (some (.ref f29))) (l29 : K.lookup f29 = some ⟨oc29, od29, .func (PySem.W.fnOf "_law_minus" "_law_minus" (defArgs st_law_minus) (defBody st_law_minus) (defScope st_law_minus) .none kV29 dc29 pm29 an29 cd29 ct29), sl29⟩) (c29 : PySem.W.codeIn K cd29 "_law_minus" = true) (k29 : PySem.W.keepIn K (.ref f29) = true)
    (a30 : PySem.W.nsIn K mainGlobals "_law_less" = some (some (.ref f30))) (l30 : K.lookup f30 = some ⟨oc30, od30, .func (PySem.W.fnOf "_law_less" "_law_less" (defArgs st_law_less) (defBody st_law_less) (defScope st_law_less) .none kV30 dc30 pm30 an30 cd30 ct30), sl30⟩) (c30 : PySem.W.codeIn K cd30 "_law_less" = true) (k30 : PySem.W.keepIn K (.ref f30) = true)
    (a31 : PySem.W.nsIn K mainGlobals "_law_sum" = some (some (.ref f31))) (l31 : K.lookup f31 = some ⟨oc31, od31, .func (PySem.W.fnOf "_law_sum" "_law_sum" (defArgs st_law_sum) (defBody st_law_sum) (defScope st_law_sum) .none kV31 dc31 pm31 an31 cd31 ct31), sl31⟩) (c31 : PySem.W.codeIn K cd31 "_law_sum" = true) (k31 : PySem.W.keepIn K (.ref f31) = true)
    (a32 : PySem.W.nsIn K mainGlobals "_law_over" = some (some (.ref f32))) (l32 : K.lookup f32 = some ⟨oc32, od32, .func (PySem.W.fnOf "_law_over" "_law_over" (defArgs st_law_over) (defBody st_law_over) (defScope st_law_over) .none kV32 dc32 pm32 an32 cd32 ct32), sl32⟩) (c32 : PySem.W.codeIn K cd32 "_law_over" = true) (k32 : PySem.W.keepIn K (.ref f32) = true)
    (a33 : PySem.W.nsIn K mainGlobals "_law_game" = some (some (.ref f33))) (l33 : K.lookup f33 = some ⟨oc33, od33, .func (PySem.W.fnOf "_law_game" "_law_game" (defArgs st_law_game) (defBody st_law_game) (defScope st_law_game) .none kV33 dc33 pm33 an33 cd33 ct33), sl33⟩) (c33 : PySem.W.codeIn K cd33 "_law_game" = true) (k33 : PySem.W.keepIn K (.ref f33) = true)
    (a34 : PySem.W.nsIn K mainGlobals "_law_owners" = some (some (.ref f34))) (l34 : K.lookup f34 = some ⟨oc34, od34, .func (PySem.W.fnOf "_law_owners" "_law_owners" (defArgs st_law_owners) (defBody st_law_owners) (defScope st_law_owners) .none kV34 dc34 pm34 an34 cd34 ct34), sl34⟩) (c34 : PySem.W.codeIn K cd34 "_law_owners" = true) (k34 : PySem.W.keepIn K (.ref f34) = true)
    (a35 : PySem.W.nsIn K mainGlobals "_law_worth" = some (some (.ref f35))) (l35 : K.lookup f35 = some ⟨oc35, od35, .func (PySem.W.fnOf "_law_worth" "_law_worth" (defArgs st_law_worth) (defBody st_law_worth) (defScope st_law_worth) .none kV35 dc35 pm35 an35 cd35 ct35), sl35⟩) (c35 : PySem.W.codeIn K cd35 "_law_worth" = true) (k35 : PySem.W.keepIn K (.ref f35) = true)
    (a36 : PySem.W.nsIn K mainGlobals "_law_shares" = some (some (.ref f36))) (l36 : K.lookup f36 = some ⟨oc36, od36, .func (PySem.W.fnOf "_law_shares" "_law_shares" (defArgs st_law_shares) (defBody st_law_shares) (defScope st_law_shares) .none kV36 dc36 pm36 an36 cd36 ct36), sl36⟩) (c36 : PySem.W.codeIn K cd36 "_law_shares" = true) (k36 : PySem.W.keepIn K (.ref f36) = true)
    (a37 : PySem.W.nsIn K mainGlobals "_law_bad_game" = some (some (.ref f37))) (l37 : K.lookup f37 = some ⟨oc37, od37, .func (PySem.W.fnOf "_law_bad_game" "_law_bad_game" (defArgs st_law_bad_game) (defBody st_law_bad_game) (defScope st_law_bad_game) .none kV37 dc37 pm37 an37 cd37 ct37), sl37⟩) (c37 : PySem.W.codeIn K cd37 "_law_bad_game" = true) (k37 : PySem.W.keepIn K (.ref f37) = true)
    (a38 : PySem.W.nsIn K mainGlobals "_law_bad_owners" = some (some (.ref f38))) (l38 : K.lookup f38 = some ⟨oc38, od38, .func (PySem.W.fnOf "_law_bad_owners" "_law_bad_owners" (defArgs st_law_bad_owners) (defBody st_law_bad_owners) (defScope st_law_bad_owners) .none kV38 dc38 pm38 an38 cd38 ct38), sl38⟩) (c38 : PySem.W.codeIn K cd38 "_law_bad_owners" = true) (k38 : PySem.W.keepIn K (.ref f38) = true)
    (a39 : PySem.W.nsIn K mainGlobals "_law_call" = some (some (.ref f39))) (l39 : K.lookup f39 = some ⟨oc39, od39, .func (PySem.W.fnOf "_law_call" "_law_call" (defArgs st_law_call) (defBody st_law_call) (defScope st_law_call) .none kV39 dc39 pm39 an39 cd39 ct39), sl39⟩) (c39 : PySem.W.codeIn K cd39 "_law_call" = true) (k39 : PySem.W.keepIn K (.ref f39) = true)
    (a40 : PySem.W.nsIn K mainGlobals "_law_word" = some (some (.ref f40))) (l40 : K.lookup f40 = some ⟨oc40, od40, .func (PySem.W.fnOf "_law_word" "_law_word" (defArgs st_law_word) (defBody st_law_word) (defScope st_law_word) .none kV40 dc40 pm40 an40 cd40 ct40), sl40⟩) (c40 : PySem.W.codeIn K cd40 "_law_word" = true) (k40 : PySem.W.keepIn K (.ref f40) = true)
    (a41 : PySem.W.nsIn K mainGlobals "_law_least" = some (some (.ref f41))) (l41 : K.lookup f41 = some ⟨oc41, od41, .func (PySem.W.fnOf "_law_least" "_law_least" (defArgs st_law_least) (defBody st_law_least) (defScope st_law_least) .none kV41 dc41 pm41 an41 cd41 ct41), sl41⟩) (c41 : PySem.W.codeIn K cd41 "_law_least" = true) (k41 : PySem.W.keepIn K (.ref f41) = true)
    (a42 : PySem.W.nsIn K mainGlobals "law" = some (some (.ref f42))) (l42 : K.lookup f42 = some ⟨oc42, od42, .func (PySem.W.fnOf "law" "law" (defArgs st_law) (defBody st_law) (defScope st_law) .none kV42 dc42 pm42 an42 cd42 ct42), sl42⟩) (c42 : PySem.W.codeIn K cd42 "law" = true) (k42 : PySem.W.keepIn K (.ref f42) = true)
    (z_abs : PySem.W.nsIn K mainGlobals "abs" = some none)
    (z_all : PySem.W.nsIn K mainGlobals "all" = some none)
    (z_bool : PySem.W.nsIn K mainGlobals "bool" = some none)
    (z_enumerate : PySem.W.nsIn K mainGlobals "enumerate" = some none)
    (z_int : PySem.W.nsIn K mainGlobals "int" = some none)
    (z_isinstance : PySem.W.nsIn K mainGlobals "isinstance" = some none)
    (z_len : PySem.W.nsIn K mainGlobals "len" = some none)
    (z_list : PySem.W.nsIn K mainGlobals "list" = some none)
    (z_max : PySem.W.nsIn K mainGlobals "max" = some none)
    (z_min : PySem.W.nsIn K mainGlobals "min" = some none)
    (z_range : PySem.W.nsIn K mainGlobals "range" = some none)
    (z_sum : PySem.W.nsIn K mainGlobals "sum" = some none)
    (z_tuple : PySem.W.nsIn K mainGlobals "tuple" = some none)
    (m_MOST_GOODS : PySem.W.nsIn K mainGlobals "MOST_GOODS" = some (some (.int 10 t_MOST_GOODS)))
    (m_MOST_PEOPLE : PySem.W.nsIn K mainGlobals "MOST_PEOPLE" = some (some (.int 6 t_MOST_PEOPLE)))
    (m_MOST_SHARES : PySem.W.nsIn K mainGlobals "MOST_SHARES" = some (some (.int 60000 t_MOST_SHARES)))
    (m_MOST_WISH : PySem.W.nsIn K mainGlobals "MOST_WISH" = some (some (.int 1000 t_MOST_WISH)))
    (gM : PySem.W.nsIn K mainGlobals "Malformed" = some (some (.ref CM)))
    (kM : PySem.W.keepIn K (.ref CM) = true)
    (xM : PySem.W.excIn K CM [.type "ValueError", .type "Exception", .type "BaseException", .type "object"] "ValueError.__new__" = true)
    (bM : PySem.W.subIn K (.ref CM) (.type "BaseException") = some true)
    (tM : PySem.W.typeIn K (.ref CM) = some (.type "type"))
    (gF : PySem.W.nsIn K mainGlobals "Fault" = some (some (.ref CF)))
    (gR : PySem.W.nsIn K mainGlobals "Refused" = some (some (.ref CR)))
    (kMF : PySem.W.kitOne K (.ref CM) (.ref CF) = some true)
    (sMM : PySem.W.subIn K (.ref CM) (.ref CM) = some true)
    (e1 : PySem.W.findIn K (.ref CM) "__getattribute__" = some (some (.builtin "BaseException.__getattribute__")))
    (e2 : PySem.W.findIn K (.ref CM) "__getattr__" = some none)
    (e3 : PySem.W.hasDictIn K CM = true)
    (e4 : PySem.W.findIn K (.ref CM) "__class__" = some (some (.builtin "object.__class__")))
    (e5 : PySem.W.specialIn K (.builtin "object.__class__") "__get__" = some (some (.builtin "getset_descriptor.__get__")))
    (e6 : PySem.W.takesIn K (.builtin "object.__class__") = some true)
    (e7 : PySem.W.mroIn K CM (.type "object") = some true)
    (iI : PySem.W.findIn K (.ref CR) "__init__" = some (some (.ref fI)))
    (lI : K.lookup fI = some ⟨oI, odI, .func (PySem.W.fnX "__init__" "Refused.__init__" (defArgs st_Init) (defBody st_Init) reSc [("__class__", cccI)] .none kVI dcI pmI anI (.ref cdaI) ctI), slI⟩)
    (cI : PySem.W.codeIn K (.ref cdaI) "Refused.__init__" = true)
    (lK : K.lookup cdaI = some ⟨cclI, cddI, .fields vsI, ccsI⟩)
    (vI : vsI[2]? = some (.str fileI tfI))
    (lcI : K.lookup cccI = some ⟨clI, cldI, .cell (some (.ref CR)), cslI⟩)
    (tI : PySem.W.typeIn K (.ref fI) = some (.type "function"))
    (uI : PySem.W.ks_superIn K CR CR "__init__" = some (some (.builtin "ValueError.__init__")))
    (vE : PySem.W.subIn K (.ref CR) (.type "ValueError") = some true)
    (tpa : PySem.W.nsIn K cStatics "thirdparty.any" = some none)
    (owI : PySem.W.mroIn K CR (.ref CR) = some true)
    (noI : PySem.W.findIn K (.ref CR) "reason" = some none)
    (lR : K.lookup CR = some (excClassObj nmR qR CR NR bsR bmR true snR subR abR colR ddR r0 r1 r2 r3 r5 "ValueError.__new__"))
    (bR : PySem.HandSPX.refsVE bmR = true)
    (saR : PySem.W.findIn K (.ref CR) "__setattr__" = some (some (.builtin "object.__setattr__")))
    (exR : PySem.W.subIn K (.ref CR) (.type "BaseException") = some true)
    (tyR : PySem.W.typeIn K (.ref CR) = some (.type "type"))
    (kR : PySem.W.keepIn K (.ref CR) = true)
    (g1 : PySem.W.findIn K (.ref CR) "__getattribute__" = some (some (.builtin "BaseException.__getattribute__")))
    (g2 : PySem.W.findIn K (.ref CR) "__getattr__" = some none)
    (g3 : PySem.W.hasDictIn K CR = true)
    (g4 : PySem.W.findIn K (.ref CR) "__class__" = some (some (.builtin "object.__class__")))
    (g7 : PySem.W.mroIn K CR (.type "object") = some true)
    (kRF : PySem.W.kitOne K (.ref CR) (.ref CF) = some true)
    (sRM : PySem.W.subIn K (.ref CR) (.ref CM) = some false)
    (sRR : PySem.W.subIn K (.ref CR) (.ref CR) = some true)
    (zsu : PySem.W.nsIn K mainGlobals "super" = some none)
    (pf : ((l.prog.main.file : Str) == fileI) = true)
    (pt : (l.prog.main.scope.names.lookup ("super" : Str)).isSome = false)
    (lt : PySem.W.tabIn K lamDef = none) : LamX.LawAtS l w K (L2.CX l.prog w) 10 63 "script" mg fa h := by
  obtain rfl : f42 = fa := by
    have e := (PySem.W.mg_of X G a42).symm.trans hfa
    cases e; rfl
  refine ⟨PySem.W.fnOf "law" "law" (defArgs st_law) (defBody st_law) (defScope st_law) .none kV42 dc42 pm42 an42 cd42 ct42, [], spF K (XRr CM CR) F_law, (fun p hp => by cases hp), (fun p hp => by cases hp), (fun p hp => by cases hp), fun s v => .of_eq rfl, fun H b ns hl _ hH hS => law_sp (fun c P q => by rw [lt] at q; cases q) hS (law_true ns hl), fun base KX G2 TB => ?_⟩
  exact ok_law (a := { f_is_whole := f0, d_is_whole := PySem.W.fnOf "is_whole" "is_whole" (defArgs st_is_whole) (defBody st_is_whole) (defScope st_is_whole) .none kV0 dc0 pm0 an0 cd0 ct0, f_common := f1, d_common := PySem.W.fnOf "common" "common" (defArgs st_common) (defBody st_common) (defScope st_common) .none kV1 dc1 pm1 an1 cd1 ct1, f_lowest := f2, d_lowest := PySem.W.fnOf "lowest" "lowest" (defArgs st_lowest) (defBody st_lowest) (defScope st_lowest) .none kV2 dc2 pm2 an2 cd2 ct2, f_ratio := f3, d_ratio := PySem.W.fnOf "ratio" "ratio" (defArgs st_ratio) (defBody st_ratio) (defScope st_ratio) .none kV3 dc3 pm3 an3 cd3 ct3, f_is_ratio := f4, d_is_ratio := PySem.W.fnOf "is_ratio" "is_ratio" (defArgs st_is_ratio) (defBody st_is_ratio) (defScope st_is_ratio) .none kV4 dc4 pm4 an4 cd4 ct4, f_plus := f5, d_plus := PySem.W.fnOf "plus" "plus" (defArgs st_plus) (defBody st_plus) (defScope st_plus) .none kV5 dc5 pm5 an5 cd5 ct5, f_minus := f6, d_minus := PySem.W.fnOf "minus" "minus" (defArgs st_minus) (defBody st_minus) (defScope st_minus) .none kV6 dc6 pm6 an6 cd6 ct6, f_is_wishes := f7, d_is_wishes := PySem.W.fnOf "is_wishes" "is_wishes" (defArgs st_is_wishes) (defBody st_is_wishes) (defScope st_is_wishes) .none kV7 dc7 pm7 an7 cd7 ct7, f_is_game := f8, d_is_game := PySem.W.fnOf "is_game" "is_game" (defArgs st_is_game) (defBody st_is_game) (defScope st_is_game) .none kV8 dc8 pm8 an8 cd8 ct8, f_check_game := f9, d_check_game := PySem.W.fnOf "check_game" "check_game" (defArgs st_check_game) (defBody st_check_game) (defScope st_check_game) .none kV9 dc9 pm9 an9 cd9 ct9, f_fits_owners := f10, d_fits_owners := PySem.W.fnOf "fits_owners" "fits_owners" (defArgs st_fits_owners) (defBody st_fits_owners) (defScope st_fits_owners) .none kV10 dc10 pm10 an10 cd10 ct10, f_check_share := f11, d_check_share := PySem.W.fnOf "check_share" "check_share" (defArgs st_check_share) (defBody st_check_share) (defScope st_check_share) .none kV11 dc11 pm11 an11 cd11 ct11, f_parts_of := f12, d_parts_of := PySem.W.fnOf "parts_of" "parts_of" (defArgs st_parts_of) (defBody st_parts_of) (defScope st_parts_of) .none kV12 dc12 pm12 an12 cd12 ct12, f_worth := f13, d_worth := PySem.W.fnOf "worth" "worth" (defArgs st_worth) (defBody st_worth) (defScope st_worth) .none kV13 dc13 pm13 an13 cd13 ct13, f_worth_table := f14, d_worth_table := PySem.W.fnOf "worth_table" "worth_table" (defArgs st_worth_table) (defBody st_worth_table) (defScope st_worth_table) .none kV14 dc14 pm14 an14 cd14 ct14, f_check_few := f15, d_check_few := PySem.W.fnOf "check_few" "check_few" (defArgs st_check_few) (defBody st_check_few) (defScope st_check_few) .none kV15 dc15 pm15 an15 cd15 ct15, f_every_share := f16, d_every_share := PySem.W.fnOf "every_share" "every_share" (defArgs st_every_share) (defBody st_every_share) (defScope st_every_share) .none kV16 dc16 pm16 an16 cd16 ct16, f_are_payments := f17, d_are_payments := PySem.W.fnOf "are_payments" "are_payments" (defArgs st_are_payments) (defBody st_are_payments) (defScope st_are_payments) .none kV17 dc17 pm17 an17 cd17 ct17, f_calm_table := f18, d_calm_table := PySem.W.fnOf "calm_table" "calm_table" (defArgs st_calm_table) (defBody st_calm_table) (defScope st_calm_table) .none kV18 dc18 pm18 an18 cd18 ct18, f_is_calm := f19, d_is_calm := PySem.W.fnOf "is_calm" "is_calm" (defArgs st_is_calm) (defBody st_is_calm) (defScope st_is_calm) .none kV19 dc19 pm19 an19 cd19 ct19, f_gaps_of := f20, d_gaps_of := PySem.W.fnOf "gaps_of" "gaps_of" (defArgs st_gaps_of) (defBody st_gaps_of) (defScope st_gaps_of) .none kV20 dc20 pm20 an20 cd20 ct20, f_longest := f21, d_longest := PySem.W.fnOf "longest" "longest" (defArgs st_longest) (defBody st_longest) (defScope st_longest) .none kV21 dc21 pm21 an21 cd21 ct21, f_least_payments := f22, d_least_payments := PySem.W.fnOf "least_payments" "least_payments" (defArgs st_least_payments) (defBody st_least_payments) (defScope st_least_payments) .none kV22 dc22 pm22 an22 cd22 ct22, f_cheapest := f23, d_cheapest := PySem.W.fnOf "cheapest" "cheapest" (defArgs st_cheapest) (defBody st_cheapest) (defScope st_cheapest) .none kV23 dc23 pm23 an23 cd23 ct23, f_pay_left := f24, d_pay_left := PySem.W.fnOf "pay_left" "pay_left" (defArgs st_pay_left) (defBody st_pay_left) (defScope st_pay_left) .none kV24 dc24 pm24 an24 cd24 ct24, f_law_draw := f25, d_law_draw := PySem.W.fnOf "_law_draw" "_law_draw" (defArgs st_law_draw) (defBody st_law_draw) (defScope st_law_draw) .none kV25 dc25 pm25 an25 cd25 ct25, f_law_take := f26, d_law_take := PySem.W.fnOf "_law_take" "_law_take" (defArgs st_law_take) (defBody st_law_take) (defScope st_law_take) .none kV26 dc26 pm26 an26 cd26 ct26, f_law_fraction := f27, d_law_fraction := PySem.W.fnOf "_law_fraction" "_law_fraction" (defArgs st_law_fraction) (defBody st_law_fraction) (defScope st_law_fraction) .none kV27 dc27 pm27 an27 cd27 ct27, f_law_plus := f28, d_law_plus := PySem.W.fnOf "_law_plus" "_law_plus" (defArgs st_law_plus) (defBody st_law_plus) (defScope st_law_plus) .none kV28 dc28 pm28 an28 cd28 ct28, f_law_minus := f29, d_law_minus := PySem.W.fnOf "_law_minus" "_law_minus" (defArgs st_law_minus) (defBody st_law_minus) (defScope st_law_minus) .none kV29 dc29 pm29 an29 cd29 ct29, f_law_less := f30, d_law_less := PySem.W.fnOf "_law_less" "_law_less" (defArgs st_law_less) (defBody st_law_less) (defScope st_law_less) .none kV30 dc30 pm30 an30 cd30 ct30, f_law_sum := f31, d_law_sum := PySem.W.fnOf "_law_sum" "_law_sum" (defArgs st_law_sum) (defBody st_law_sum) (defScope st_law_sum) .none kV31 dc31 pm31 an31 cd31 ct31, f_law_over := f32, d_law_over := PySem.W.fnOf "_law_over" "_law_over" (defArgs st_law_over) (defBody st_law_over) (defScope st_law_over) .none kV32 dc32 pm32 an32 cd32 ct32, f_law_game := f33, d_law_game := PySem.W.fnOf "_law_game" "_law_game" (defArgs st_law_game) (defBody st_law_game) (defScope st_law_game) .none kV33 dc33 pm33 an33 cd33 ct33, f_law_owners := f34, d_law_owners := PySem.W.fnOf "_law_owners" "_law_owners" (defArgs st_law_owners) (defBody st_law_owners) (defScope st_law_owners) .none kV34 dc34 pm34 an34 cd34 ct34, f_law_worth := f35, d_law_worth := PySem.W.fnOf "_law_worth" "_law_worth" (defArgs st_law_worth) (defBody st_law_worth) (defScope st_law_worth) .none kV35 dc35 pm35 an35 cd35 ct35, f_law_shares := f36, d_law_shares := PySem.W.fnOf "_law_shares" "_law_shares" (defArgs st_law_shares) (defBody st_law_shares) (defScope st_law_shares) .none kV36 dc36 pm36 an36 cd36 ct36, f_law_bad_game := f37, d_law_bad_game := PySem.W.fnOf "_law_bad_game" "_law_bad_game" (defArgs st_law_bad_game) (defBody st_law_bad_game) (defScope st_law_bad_game) .none kV37 dc37 pm37 an37 cd37 ct37, f_law_bad_owners := f38, d_law_bad_owners := PySem.W.fnOf "_law_bad_owners" "_law_bad_owners" (defArgs st_law_bad_owners) (defBody st_law_bad_owners) (defScope st_law_bad_owners) .none kV38 dc38 pm38 an38 cd38 ct38, f_law_call := f39, d_law_call := PySem.W.fnOf "_law_call" "_law_call" (defArgs st_law_call) (defBody st_law_call) (defScope st_law_call) .none kV39 dc39 pm39 an39 cd39 ct39, f_law_word := f40, d_law_word := PySem.W.fnOf "_law_word" "_law_word" (defArgs st_law_word) (defBody st_law_word) (defScope st_law_word) .none kV40 dc40 pm40 an40 cd40 ct40, f_law_least := f41, d_law_least := PySem.W.fnOf "_law_least" "_law_least" (defArgs st_law_least) (defBody st_law_least) (defScope st_law_least) .none kV41 dc41 pm41 an41 cd41 ct41, f_law := f42, d_law := PySem.W.fnOf "law" "law" (defArgs st_law) (defBody st_law) (defScope st_law) .none kV42 dc42 pm42 an42 cd42 ct42, CM := CM, CF := CF, CR := CR }) { F_is_whole := fun_mk (st := st_is_whole) l0 c0 k0, g_is_whole := PySem.W.mg_of X G a0, b_is_whole := (fun_mk (st := st_is_whole) l0 c0 k0).binds (ps := ["value"]) (fun _ _ _ _ _ _ us hl => match us, hl with | [_], _ => rfl), F_common := fun_mk (st := st_common) l1 c1 k1, g_common := PySem.W.mg_of X G a1, b_common := (fun_mk (st := st_common) l1 c1 k1).binds (ps := ["a", "b"]) (fun _ _ _ _ _ _ us hl => match us, hl with | [_, _], _ => rfl), F_lowest := fun_mk (st := st_lowest) l2 c2 k2, g_lowest := PySem.W.mg_of X G a2, b_lowest := (fun_mk (st := st_lowest) l2 c2 k2).binds (ps := ["n", "d"]) (fun _ _ _ _ _ _ us hl => match us, hl with | [_, _], _ => rfl), F_ratio := fun_mk (st := st_ratio) l3 c3 k3, g_ratio := PySem.W.mg_of X G a3, b_ratio := (fun_mk (st := st_ratio) l3 c3 k3).binds (ps := ["n", "d"]) (fun _ _ _ _ _ _ us hl => match us, hl with | [_, _], _ => rfl), F_is_ratio := fun_mk (st := st_is_ratio) l4 c4 k4, g_is_ratio := PySem.W.mg_of X G a4, b_is_ratio := (fun_mk (st := st_is_ratio) l4 c4 k4).binds (ps := ["value"]) (fun _ _ _ _ _ _ us hl => match us, hl with | [_], _ => rfl), F_plus := fun_mk (st := st_plus) l5 c5 k5, g_plus := PySem.W.mg_of X G a5, b_plus := (fun_mk (st := st_plus) l5 c5 k5).binds (ps := ["a", "b"]) (fun _ _ _ _ _ _ us hl => match us, hl with | [_, _], _ => rfl), F_minus := fun_mk (st := st_minus) l6 c6 k6, g_minus := PySem.W.mg_of X G a6, b_minus := (fun_mk (st := st_minus) l6 c6 k6).binds (ps := ["a", "b"]) (fun _ _ _ _ _ _ us hl => match us, hl with | [_, _], _ => rfl), F_is_wishes := fun_mk (st := st_is_wishes) l7 c7 k7, g_is_wishes := PySem.W.mg_of X G a7, b_is_wishes := (fun_mk (st := st_is_wishes) l7 c7 k7).binds (ps := ["value", "size"]) (fun _ _ _ _ _ _ us hl => match us, hl with | [_, _], _ => rfl), F_is_game := fun_mk (st := st_is_game) l8 c8 k8, g_is_game := PySem.W.mg_of X G a8, b_is_game := (fun_mk (st := st_is_game) l8 c8 k8).binds (ps := ["value"]) (fun _ _ _ _ _ _ us hl => match us, hl with | [_], _ => rfl), F_check_game := fun_mk (st := st_check_game) l9 c9 k9, g_check_game := PySem.W.mg_of X G a9, b_check_game := (fun_mk (st := st_check_game) l9 c9 k9).binds (ps := ["game"]) (fun _ _ _ _ _ _ us hl => match us, hl with | [_], _ => rfl), F_fits_owners := fun_mk (st := st_fits_owners) l10 c10 k10, g_fits_owners := PySem.W.mg_of X G a10, b_fits_owners := (fun_mk (st := st_fits_owners) l10 c10 k10).binds (ps := ["game", "value"]) (fun _ _ _ _ _ _ us hl => match us, hl with | [_, _], _ => rfl), F_check_share := fun_mk (st := st_check_share) l11 c11 k11, g_check_share := PySem.W.mg_of X G a11, b_check_share := (fun_mk (st := st_check_share) l11 c11 k11).binds (ps := ["game", "owners"]) (fun _ _ _ _ _ _ us hl => match us, hl with | [_, _], _ => rfl), F_parts_of := fun_mk (st := st_parts_of) l12 c12 k12, g_parts_of := PySem.W.mg_of X G a12, b_parts_of := (fun_mk (st := st_parts_of) l12 c12 k12).binds (ps := ["n", "owners"]) (fun _ _ _ _ _ _ us hl => match us, hl with | [_, _], _ => rfl), F_worth := fun_mk (st := st_worth) l13 c13 k13, g_worth := PySem.W.mg_of X G a13, b_worth := (fun_mk (st := st_worth) l13 c13 k13).binds (ps := ["row", "goods"]) (fun _ _ _ _ _ _ us hl => match us, hl with | [_, _], _ => rfl), F_worth_table := fun_mk (st := st_worth_table) l14 c14 k14, g_worth_table := PySem.W.mg_of X G a14, b_worth_table := (fun_mk (st := st_worth_table) l14 c14 k14).binds (ps := ["game", "owners"]) (fun _ _ _ _ _ _ us hl => match us, hl with | [_, _], _ => rfl), F_check_few := fun_mk (st := st_check_few) l15 c15 k15, g_check_few := PySem.W.mg_of X G a15, b_check_few := (fun_mk (st := st_check_few) l15 c15 k15).binds (ps := ["game"]) (fun _ _ _ _ _ _ us hl => match us, hl with | [_], _ => rfl), F_every_share := fun_mk (st := st_every_share) l16 c16 k16, g_every_share := PySem.W.mg_of X G a16, b_every_share := (fun_mk (st := st_every_share) l16 c16 k16).binds (ps := ["game"]) (fun _ _ _ _ _ _ us hl => match us, hl with | [_], _ => rfl), F_are_payments := fun_mk (st := st_are_payments) l17 c17 k17, g_are_payments := PySem.W.mg_of X G a17, b_are_payments := (fun_mk (st := st_are_payments) l17 c17 k17).binds (ps := ["game", "value"]) (fun _ _ _ _ _ _ us hl => match us, hl with | [_, _], _ => rfl), F_calm_table := fun_mk (st := st_calm_table) l18 c18 k18, g_calm_table := PySem.W.mg_of X G a18, b_calm_table := (fun_mk (st := st_calm_table) l18 c18 k18).binds (ps := ["table", "payments"]) (fun _ _ _ _ _ _ us hl => match us, hl with | [_, _], _ => rfl), F_is_calm := fun_mk (st := st_is_calm) l19 c19 k19, g_is_calm := PySem.W.mg_of X G a19, b_is_calm := (fun_mk (st := st_is_calm) l19 c19 k19).binds (ps := ["game", "owners", "payments"]) (fun _ _ _ _ _ _ us hl => match us, hl with | [_, _, _], _ => rfl), F_gaps_of := fun_mk (st := st_gaps_of) l20 c20 k20, g_gaps_of := PySem.W.mg_of X G a20, b_gaps_of := (fun_mk (st := st_gaps_of) l20 c20 k20).binds (ps := ["table"]) (fun _ _ _ _ _ _ us hl => match us, hl with | [_], _ => rfl), F_longest := fun_mk (st := st_longest) l21 c21 k21, g_longest := PySem.W.mg_of X G a21, b_longest := (fun_mk (st := st_longest) l21 c21 k21).binds (ps := ["gaps"]) (fun _ _ _ _ _ _ us hl => match us, hl with | [_], _ => rfl), F_least_payments := fun_mk (st := st_least_payments) l22 c22 k22, g_least_payments := PySem.W.mg_of X G a22, b_least_payments := (fun_mk (st := st_least_payments) l22 c22 k22).binds (ps := ["game", "owners"]) (fun _ _ _ _ _ _ us hl => match us, hl with | [_, _], _ => rfl), F_cheapest := fun_mk (st := st_cheapest) l23 c23 k23, g_cheapest := PySem.W.mg_of X G a23, b_cheapest := (fun_mk (st := st_cheapest) l23 c23 k23).binds (ps := ["game"]) (fun _ _ _ _ _ _ us hl => match us, hl with | [_], _ => rfl), F_pay_left := fun_mk (st := st_pay_left) l24 c24 k24, g_pay_left := PySem.W.mg_of X G a24, b_pay_left := (fun_mk (st := st_pay_left) l24 c24 k24).binds (ps := ["game", "owners", "money"]) (fun _ _ _ _ _ _ us hl => match us, hl with | [_, _, _], _ => rfl), F_law_draw := fun_mk (st := st_law_draw) l25 c25 k25, g_law_draw := PySem.W.mg_of X G a25, b_law_draw := (fun_mk (st := st_law_draw) l25 c25 k25).binds (ps := ["script"]) (fun _ _ _ _ _ _ us hl => match us, hl with | [_], _ => rfl), F_law_take := fun_mk (st := st_law_take) l26 c26 k26, g_law_take := PySem.W.mg_of X G a26, b_law_take := (fun_mk (st := st_law_take) l26 c26 k26).binds (ps := ["draw", "many"]) (fun _ _ _ _ _ _ us hl => match us, hl with | [_, _], _ => rfl), F_law_fraction := fun_mk (st := st_law_fraction) l27 c27 k27, g_law_fraction := PySem.W.mg_of X G a27, b_law_fraction := (fun_mk (st := st_law_fraction) l27 c27 k27).binds (ps := ["n", "d"]) (fun _ _ _ _ _ _ us hl => match us, hl with | [_, _], _ => rfl), F_law_plus := fun_mk (st := st_law_plus) l28 c28 k28, g_law_plus := PySem.W.mg_of X G a28, b_law_plus := (fun_mk (st := st_law_plus) l28 c28 k28).binds (ps := ["a", "b"]) (fun _ _ _ _ _ _ us hl => match us, hl with | [_, _], _ => rfl), F_law_minus := fun_mk (st := st_law_minus) l29 c29 k29, g_law_minus := PySem.W.mg_of X G a29, b_law_minus := (fun_mk (st := st_law_minus) l29 c29 k29).binds (ps := ["a", "b"]) (fun _ _ _ _ _ _ us hl => match us, hl with | [_, _], _ => rfl), F_law_less := fun_mk (st := st_law_less) l30 c30 k30, g_law_less := PySem.W.mg_of X G a30, b_law_less := (fun_mk (st := st_law_less) l30 c30 k30).binds (ps := ["a", "b"]) (fun _ _ _ _ _ _ us hl => match us, hl with | [_, _], _ => rfl), F_law_sum := fun_mk (st := st_law_sum) l31 c31 k31, g_law_sum := PySem.W.mg_of X G a31, b_law_sum := (fun_mk (st := st_law_sum) l31 c31 k31).binds (ps := ["items"]) (fun _ _ _ _ _ _ us hl => match us, hl with | [_], _ => rfl), F_law_over := fun_mk (st := st_law_over) l32 c32 k32, g_law_over := PySem.W.mg_of X G a32, b_law_over := (fun_mk (st := st_law_over) l32 c32 k32).binds (ps := ["a", "b"]) (fun _ _ _ _ _ _ us hl => match us, hl with | [_, _], _ => rfl), F_law_game := fun_mk (st := st_law_game) l33 c33 k33, g_law_game := PySem.W.mg_of X G a33, b_law_game := (fun_mk (st := st_law_game) l33 c33 k33).binds (ps := ["draw", "people", "goods", "most"]) (fun _ _ _ _ _ _ us hl => match us, hl with | [_, _, _, _], _ => rfl), F_law_owners := fun_mk (st := st_law_owners) l34 c34 k34, g_law_owners := PySem.W.mg_of X G a34, b_law_owners := (fun_mk (st := st_law_owners) l34 c34 k34).binds (ps := ["draw", "game"]) (fun _ _ _ _ _ _ us hl => match us, hl with | [_, _], _ => rfl), F_law_worth := fun_mk (st := st_law_worth) l35 c35 k35, g_law_worth := PySem.W.mg_of X G a35, b_law_worth := (fun_mk (st := st_law_worth) l35 c35 k35).binds (ps := ["game", "owners", "i", "k"]) (fun _ _ _ _ _ _ us hl => match us, hl with | [_, _, _, _], _ => rfl), F_law_shares := fun_mk (st := st_law_shares) l36 c36 k36, g_law_shares := PySem.W.mg_of X G a36, b_law_shares := (fun_mk (st := st_law_shares) l36 c36 k36).binds (ps := ["n", "m"]) (fun _ _ _ _ _ _ us hl => match us, hl with | [_, _], _ => rfl), F_law_bad_game := fun_mk (st := st_law_bad_game) l37 c37 k37, g_law_bad_game := PySem.W.mg_of X G a37, b_law_bad_game := (fun_mk (st := st_law_bad_game) l37 c37 k37).binds (ps := ["draw", "game"]) (fun _ _ _ _ _ _ us hl => match us, hl with | [_, _], _ => rfl), F_law_bad_owners := fun_mk (st := st_law_bad_owners) l38 c38 k38, g_law_bad_owners := PySem.W.mg_of X G a38, b_law_bad_owners := (fun_mk (st := st_law_bad_owners) l38 c38 k38).binds (ps := ["draw", "game", "owners"]) (fun _ _ _ _ _ _ us hl => match us, hl with | [_, _, _], _ => rfl), F_law_call := fun_mk (st := st_law_call) l39 c39 k39, g_law_call := PySem.W.mg_of X G a39, b_law_call := (fun_mk (st := st_law_call) l39 c39 k39).binds (ps := ["call"]) (fun _ _ _ _ _ _ us hl => match us, hl with | [_], _ => rfl), F_law_word := fun_mk (st := st_law_word) l40 c40 k40, g_law_word := PySem.W.mg_of X G a40, b_law_word := (fun_mk (st := st_law_word) l40 c40 k40).binds (ps := ["call"]) (fun _ _ _ _ _ _ us hl => match us, hl with | [_], _ => rfl), F_law_least := fun_mk (st := st_law_least) l41 c41 k41, g_law_least := PySem.W.mg_of X G a41, b_law_least := (fun_mk (st := st_law_least) l41 c41 k41).binds (ps := ["game", "owners"]) (fun _ _ _ _ _ _ us hl => match us, hl with | [_, _], _ => rfl), F_law := fun_mk (st := st_law) l42 c42 k42, g_law := PySem.W.mg_of X G a42, b_law := (fun_mk (st := st_law) l42 c42 k42).binds (ps := ["script"]) (fun _ _ _ _ _ _ us hl => match us, hl with | [_], _ => rfl), n_abs := PySem.W.mg_none_of X G z_abs, n_all := PySem.W.mg_none_of X G z_all, n_bool := PySem.W.mg_none_of X G z_bool, n_enumerate := PySem.W.mg_none_of X G z_enumerate, n_int := PySem.W.mg_none_of X G z_int, n_isinstance := PySem.W.mg_none_of X G z_isinstance, n_len := PySem.W.mg_none_of X G z_len, n_list := PySem.W.mg_none_of X G z_list, n_max := PySem.W.mg_none_of X G z_max, n_min := PySem.W.mg_none_of X G z_min, n_range := PySem.W.mg_none_of X G z_range, n_sum := PySem.W.mg_none_of X G z_sum, n_tuple := PySem.W.mg_none_of X G z_tuple, m_MOST_GOODS := ⟨_, PySem.W.mg_of X G m_MOST_GOODS⟩, m_MOST_PEOPLE := ⟨_, PySem.W.mg_of X G m_MOST_PEOPLE⟩, m_MOST_SHARES := ⟨_, PySem.W.mg_of X G m_MOST_SHARES⟩, m_MOST_WISH := ⟨_, PySem.W.mg_of X G m_MOST_WISH⟩, gM := PySem.W.mg_of X G gM, kM := kM, xM := xM, bM := bM, tM := tM, cM := ⟨e1, e2, bM, e3, e4, e5, e6, e7⟩, gF := PySem.W.mg_of X G gF, gR := PySem.W.mg_of X G gR, kMF := kMF, eMM := PySem.W.exm_ref bM e3 tM sMM, rR := ⟨⟨fI, PySem.W.fnX "__init__" "Refused.__init__" (defArgs st_Init) (defBody st_Init) reSc [("__class__", cccI)] .none kVI dcI pmI anI (.ref cdaI) ctI, fun w k => fn_init ⟨⟨_, _, _, _, _, _, _, _, _, _, _, _, _, _, _, _, _, _, rfl, lI, cI, lK, vI, lcI⟩, tI, iI, uI, vE, tpa, owI, noI, ⟨⟨_, _, _, _, _, _, _, _, _, _, _, _, _, _, _, lR, bR⟩, saR, exR, tyR, kR⟩⟩ (PySem.W.mg_none_of X G zsu) pf pt rfl rfl rfl (fun _ _ _ => ⟨_, rfl⟩) (fun _ _ _ => rfl), iI, tI, .all fun us hl => match us, hl with | [_, _], _ => rfl⟩, ⟨⟨_, _, _, _, _, _, _, _, _, _, _, _, _, _, _, lR, bR⟩, saR, exR, tyR, kR⟩, PySem.W.mg_of X G gR⟩, wC := ⟨⟨e1, e2, bM, e3, e4, e5, e6, e7⟩, ⟨g1, g2, exR, g3, g4, e5, e6, g7⟩, ⟨g1, g2, exR, g3⟩, noI, kMF, kRF, PySem.W.exm_ref bM e3 tM sMM, PySem.W.exm_ref bM e3 tM sRM, PySem.W.exm_ref exR g3 tyR sRR⟩ }
end D67
open PySem PySem.W PyProof.Rows
set_option maxHeartbeats 0 in
theorem PySem.Challenge.cw_fairfields_k67_whole_least_payments_holds : PySem.Challenge.rw_fairfields_k67_whole_least_payments.Holds := by
  w_on; o_law; k_head; (case hw => w_witness2)
  k_fill
  refine LamX.walk_ofTs (l := PySem.Challenge.rw_fairfields_k67_whole_least_payments) (n := 63) (k := 10) (x := "script") (CX := fun w => L2.CX PySem.Challenge.pw_fairfields_k67_whole_least_payments w) rfl (by decide) rfl ⟨rfl, by decide, by decide⟩ (fun w h Y => PySem.W.kIn_of Y) ?F (fun _ _ _ _ _ h => by obtain ⟨_, _, _, _, _, _, _, _, _, _, _, _, z⟩ := h; exact z)
  case F =>
    intro w mg fa h Y KX G hmg
    refine' D67.all_mk KX G hmg ?a0 ?l0 ?c0 ?k0 ?a1 ?l1 ?c1 ?k1 ?a2 ?l2 ?c2 ?k2 ?a3 ?l3 ?c3 ?k3 ?a4 ?l4 ?c4 ?k4 ?a5 ?l5 ?c5 ?k5 ?a6 ?l6 ?c6 ?k6 ?a7 ?l7 ?c7 ?k7 ?a8 ?l8 ?c8 ?k8 ?a9 ?l9 ?c9 ?k9 ?a10 ?l10 ?c10 ?k10 ?a11 ?l11 ?c11 ?k11 ?a12 ?l12 ?c12 ?k12 ?a13 ?l13 ?c13 ?k13 ?a14 ?l14 ?c14 ?k14 ?a15 ?l15 ?c15 ?k15 ?a16 ?l16 ?c16 ?k16 ?a17 ?l17 ?c17 ?k17 ?a18 ?l18 ?c18 ?k18 ?a19 ?l19 ?c19 ?k19 ?a20 ?l20 ?c20 ?k20 ?a21 ?l21 ?c21 ?k21 ?a22 ?l22 ?c22 ?k22 ?a23 ?l23 ?c23 ?k23 ?a24 ?l24 ?c24 ?k24 ?a25 ?l25 ?c25 ?k25 ?a26 ?l26 ?c26 ?k26 ?a27 ?l27 ?c27 ?k27 ?a28 ?l28 ?c28 ?k28 ?a29 ?l29 ?c29 ?k29 ?a30 ?l30 ?c30 ?k30 ?a31 ?l31 ?c31 ?k31 ?a32 ?l32 ?c32 ?k32 ?a33 ?l33 ?c33 ?k33 ?a34 ?l34 ?c34 ?k34 ?a35 ?l35 ?c35 ?k35 ?a36 ?l36 ?c36 ?k36 ?a37 ?l37 ?c37 ?k37 ?a38 ?l38 ?c38 ?k38 ?a39 ?l39 ?c39 ?k39 ?a40 ?l40 ?c40 ?k40 ?a41 ?l41 ?c41 ?k41 ?a42 ?l42 ?c42 ?k42 ?z_abs ?z_all ?z_bool ?z_enumerate ?z_int ?z_isinstance ?z_len ?z_list ?z_max ?z_min ?z_range ?z_sum ?z_tuple ?m_MOST_GOODS ?m_MOST_PEOPLE ?m_MOST_SHARES ?m_MOST_WISH ?gM ?kM ?xM ?bM ?tM ?gF ?gR ?kMF ?sMM ?e1 ?e2 ?e3 ?e4 ?e5 ?e6 ?e7 ?iI ?lI ?cI ?lK ?vI ?lcI ?tI ?uI ?vE ?tpa ?owI ?noI ?lR ?bR ?saR ?exR ?tyR ?kR ?g1 ?g2 ?g3 ?g4 ?g7 ?kRF ?sRM ?sRR ?zsu ?pf ?pt ?lt
    (case a0 => k_is); (case l0 => k_is); (case c0 => k_is); (case k0 => k_is); (case a1 => k_is); (case l1 => k_is); (case c1 => k_is); (case k1 => k_is); (case a2 => k_is); (case l2 => k_is); (case c2 => k_is); (case k2 => k_is); (case a3 => k_is); (case l3 => k_is); (case c3 => k_is); (case k3 => k_is); (case a4 => k_is); (case l4 => k_is); (case c4 => k_is); (case k4 => k_is); (case a5 => k_is); (case l5 => k_is); (case c5 => k_is); (case k5 => k_is); (case a6 => k_is); (case l6 => k_is); (case c6 => k_is); (case k6 => k_is); (case a7 => k_is); (case l7 => k_is); (case c7 => k_is); (case k7 => k_is); (case a8 => k_is); (case l8 => k_is); (case c8 => k_is); (case k8 => k_is); (case a9 => k_is); (case l9 => k_is); (case c9 => k_is); (case k9 => k_is); (case a10 => k_is); (case l10 => k_is); (case c10 => k_is); (case k10 => k_is); (case a11 => k_is); (case l11 => k_is); (case c11 => k_is); (case k11 => k_is); (case a12 => k_is); (case l12 => k_is); (case c12 => k_is); (case k12 => k_is); (case a13 => k_is); (case l13 => k_is); (case c13 => k_is); (case k13 => k_is); (case a14 => k_is); (case l14 => k_is); (case c14 => k_is); (case k14 => k_is); (case a15 => k_is); (case l15 => k_is); (case c15 => k_is); (case k15 => k_is); (case a16 => k_is); (case l16 => k_is); (case c16 => k_is); (case k16 => k_is); (case a17 => k_is); (case l17 => k_is); (case c17 => k_is); (case k17 => k_is); (case a18 => k_is); (case l18 => k_is); (case c18 => k_is); (case k18 => k_is); (case a19 => k_is); (case l19 => k_is); (case c19 => k_is); (case k19 => k_is); (case a20 => k_is); (case l20 => k_is); (case c20 => k_is); (case k20 => k_is); (case a21 => k_is); (case l21 => k_is); (case c21 => k_is); (case k21 => k_is); (case a22 => k_is); (case l22 => k_is); (case c22 => k_is); (case k22 => k_is); (case a23 => k_is); (case l23 => k_is); (case c23 => k_is); (case k23 => k_is); (case a24 => k_is); (case l24 => k_is); (case c24 => k_is); (case k24 => k_is); (case a25 => k_is); (case l25 => k_is); (case c25 => k_is); (case k25 => k_is); (case a26 => k_is); (case l26 => k_is); (case c26 => k_is); (case k26 => k_is); (case a27 => k_is); (case l27 => k_is); (case c27 => k_is); (case k27 => k_is); (case a28 => k_is); (case l28 => k_is); (case c28 => k_is); (case k28 => k_is); (case a29 => k_is); (case l29 => k_is); (case c29 => k_is); (case k29 => k_is); (case a30 => k_is); (case l30 => k_is); (case c30 => k_is); (case k30 => k_is); (case a31 => k_is); (case l31 => k_is); (case c31 => k_is); (case k31 => k_is); (case a32 => k_is); (case l32 => k_is); (case c32 => k_is); (case k32 => k_is); (case a33 => k_is); (case l33 => k_is); (case c33 => k_is); (case k33 => k_is); (case a34 => k_is); (case l34 => k_is); (case c34 => k_is); (case k34 => k_is); (case a35 => k_is); (case l35 => k_is); (case c35 => k_is); (case k35 => k_is); (case a36 => k_is); (case l36 => k_is); (case c36 => k_is); (case k36 => k_is); (case a37 => k_is); (case l37 => k_is); (case c37 => k_is); (case k37 => k_is); (case a38 => k_is); (case l38 => k_is); (case c38 => k_is); (case k38 => k_is); (case a39 => k_is); (case l39 => k_is); (case c39 => k_is); (case k39 => k_is); (case a40 => k_is); (case l40 => k_is); (case c40 => k_is); (case k40 => k_is); (case a41 => k_is); (case l41 => k_is); (case c41 => k_is); (case k41 => k_is); (case a42 => k_is); (case l42 => k_is); (case c42 => k_is); (case k42 => k_is); (case z_abs => k_is); (case z_all => k_is); (case z_bool => k_is); (case z_enumerate => k_is); (case z_int => k_is); (case z_isinstance => k_is); (case z_len => k_is); (case z_list => k_is); (case z_max => k_is); (case z_min => k_is); (case z_range => k_is); (case z_sum => k_is); (case z_tuple => k_is); (case m_MOST_GOODS => k_is); (case m_MOST_PEOPLE => k_is); (case m_MOST_SHARES => k_is); (case m_MOST_WISH => k_is); (case gM => k_is); (case kM => k_is); (case xM => kernel_rfl); (case bM => k_is); (case tM => k_is); (case gF => k_is); (case gR => k_is); (case kMF => kernel_rfl); (case sMM => k_is); (case e1 => kernel_rfl); (case e2 => kernel_rfl); (case e3 => kernel_rfl); (case e4 => kernel_rfl); (case e5 => kernel_rfl); (case e6 => kernel_rfl); (case e7 => kernel_rfl); (case iI => k_is); (case lI => k_is); (case cI => k_is); (case lK => k_is); (case vI => rfl); (case lcI => k_is); (case tI => k_is); (case uI => kernel_rfl); (case vE => k_is); (case tpa => k_is); (case owI => kernel_rfl); (case noI => kernel_rfl); (case lR => k_is); (case bR => rfl); (case saR => kernel_rfl); (case exR => k_is); (case tyR => k_is); (case kR => k_is); (case g1 => kernel_rfl); (case g2 => kernel_rfl); (case g3 => kernel_rfl); (case g4 => kernel_rfl); (case g7 => kernel_rfl); (case kRF => kernel_rfl); (case sRM => k_is); (case sRR => k_is); (case zsu => k_is); (case pf => first | rfl | decide +kernel); (case pt => first | rfl | decide +kernel); (case lt => kernel_rfl)
