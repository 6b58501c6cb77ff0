import PyProof.Rows.All
import Wide.All
import OpenK.AllK
import Wide.FinOn
import HandS.ForMost
import HandS.ForExc
import HandS.EndTab
import HandS.IsInst
import HandS.TupAny
import HandS.Wide
import HandS.TupMul
import HandS.Style
import HandS.Conv
import HandS.SetFor
import KE.GoesEnum
import HandS.Zip
import KE.SortData
import KE.SortKeyHeap
import HandS.TryMany
import HandS.ExcIs
import HandS.ExcOwn
import HandS.WordsExc
import PySem.Challenge.RW_fairfields_k71_whole_hidden_goods
set_option Elab.async false
set_option linter.all false
set_option maxRecDepth 100000
/-! FxQ: the def with a lambda, and the lambda's name -/
namespace Fx
open PySem PySem.Spec
open PyProof.Rows L2
def lamDef : Str := "hidden_of"
def lamQ : Str := "hidden_of.<locals>.<lambda>"
/-- the table of the def with a lambda, if there is one -/
def TabI (K : PySem.W.Frag) (H : Hp) : Prop := ∀ c P, PySem.W.tabIn K lamDef = some (c, P) → LamX.TabS H P lamQ
theorem TabI.ext {K : PySem.W.Frag} {H H' : Hp} (h : TabI K H) (e : ∀ b o, H b = some o → H' b = some o) : TabI K H' := fun c P q => (h c P q).ext e
/-- neither a table nor a code object -/
def NoTab (o : HO) : Prop := (∀ ps, o ≠ .tbl ps) ∧ ∀ f, o ≠ .ext f
theorem TabI.upd {K : PySem.W.Frag} {H : Hp} {a : Addr} {o o0 : HO} (h : TabI K H) (ha : H a = some o0) (n : NoTab o0) : TabI K (upd H a o) := fun c P q => by
  obtain ⟨ps, h1, h2, h3⟩ := h c P q
  have hP : P ≠ a := fun z => n.1 ps (Option.some.inj (ha.symm.trans (by rw [← z]; exact h1)))
  refine ⟨ps, by rw [upd_ne hP]; exact h1, h2, fun pos cv hc => ?_⟩
  obtain ⟨d, e1, e2⟩ := h3 pos cv hc
  refine ⟨d, e1, ?_⟩
  rw [upd_ne fun z => ?_]
  · exact e2
  · rw [z, ha] at e2
    exact n.2 _ (Option.some.inj e2)
theorem tbls_upd {H : Hp} {a : Addr} {o o0 : HO} (ha : H a = some o0) (n : NoTab o0) : ∀ b ps, H b = some (.tbl ps) → ∃ ps', upd H a o b = some (.tbl ps') := fun b ps e => by
  refine ⟨ps, ?_⟩
  rw [upd_ne fun z => ?_]
  · exact e
  · rw [z, ha] at e
    exact n.1 ps (Option.some.inj e)
theorem noTab_lst {xs : List V} : NoTab (.lst xs) := ⟨fun _ z => (nomatch z), fun _ z => (nomatch z)⟩
theorem noTab_dK {xs : List (Key × V)} : NoTab (.dK xs) := ⟨fun _ z => (nomatch z), fun _ z => (nomatch z)⟩
theorem noTab_dT {xs : List (List Key × V)} : NoTab (.dT xs) := ⟨fun _ z => (nomatch z), fun _ z => (nomatch z)⟩
theorem TabI.keep {K : PySem.W.Frag} {H H' : Hp} (h : TabI K H) (e : ∀ b o, H b = some o → (∃ ps, o = .tbl ps) ∨ (∃ f, o = .ext f) → H' b = some o) : TabI K H' := fun c P q => by
  obtain ⟨ps, h1, h2, h3⟩ := h c P q
  refine ⟨ps, e _ _ h1 (.inl ⟨ps, rfl⟩), h2, fun pos cv hc => ?_⟩
  obtain ⟨d, e1, e2⟩ := h3 pos cv hc
  exact ⟨d, e1, e _ _ e2 (.inr ⟨_, rfl⟩)⟩
end Fx
/-! FxA: data, abstract states, judgements by functions -/
namespace Fx
open PySem PySem.Spec
open PyProof.Rows L2

abbrev Hs := PySem.W.Frag
/-! ### data in a heap -/
mutual
inductive Dd (K : PySem.W.Frag) (M : Hp) : V → PyData → Prop
  | non : Dd K M .non .none
  | bl (b : Bool) : Dd K M (.bl b) (.bool b)
  | int (i : Int) : Dd K M (.int i) (.int i)
  | str (x : Str) : Dd K M (.str x) (.str x)
  | lst {a : Addr} {xs : List V} {ds : List PyData} : M a = some (.lst xs) → DdA K M xs ds → Dd K M (.ref a) (.list ds)
  | tup {a : Addr} {xs : List V} {ds : List PyData} : SqT K M a xs → DdA K M xs ds → Dd K M (.ref a) (.tuple ds)
  | frz {a : Addr} {xs : List V} {ds : List PyData} : SqL K M a xs → DdA K M xs ds → Dd K M (.ref a) (.dict [(.none, .list ds)])
inductive DdA (K : PySem.W.Frag) (M : Hp) : List V → List PyData → Prop
  | nil : DdA K M [] []
  | cons {v : V} {vs : List V} {d : PyData} {ds : List PyData} : Dd K M v d → DdA K M vs ds → DdA K M (v :: vs) (d :: ds)
end

/-- all of M stands in M' -/
def Sub (M M' : Hp) : Prop := ∀ a o, M a = some o → M' a = some o
theorem Sub.refl (M : Hp) : Sub M M := fun _ _ h => h
theorem Sub.trans {A B C : Hp} (h : Sub A B) (g : Sub B C) : Sub A C := fun a o e => g a o (h a o e)
theorem Sub.rd {M M' : Hp} (s : Sub M M') {a : Addr} {u : HO} (h : Rd M a u) : Rd M' a u := by
  rcases h with h | ⟨o, h⟩
  · exact .inl (s _ _ h)
  · exact .inr ⟨o, s _ _ h⟩
theorem Sub.sqL {K : PySem.W.Frag} {M M' : Hp} (s : Sub M M') {a : Addr} {xs : List V} (h : SqL K M a xs) : SqL K M' a xs := by
  rcases h with h | h
  · exact .inl (s.rd h)
  · exact .inr h
theorem Sub.sqT {K : PySem.W.Frag} {M M' : Hp} (s : Sub M M') {a : Addr} {xs : List V} (h : SqT K M a xs) : SqT K M' a xs := by
  rcases h with h | h
  · exact .inl (s.rd h)
  · exact .inr h
mutual
theorem Dd.mono {K : PySem.W.Frag} {M M' : Hp} (s : Sub M M') : ∀ {v : V} {d : PyData}, Dd K M v d → Dd K M' v d
  | _, _, .non => .non
  | _, _, .bl b => .bl b
  | _, _, .int i => .int i
  | _, _, .str x => .str x
  | _, _, .lst h g => .lst (s _ _ h) (g.mono s)
  | _, _, .tup h g => .tup (s.sqT h) (g.mono s)
  | _, _, .frz h g => .frz (s.sqL h) (g.mono s)
theorem DdA.mono {K : PySem.W.Frag} {M M' : Hp} (s : Sub M M') : ∀ {vs : List V} {ds : List PyData}, DdA K M vs ds → DdA K M' vs ds
  | _, _, .nil => .nil
  | _, _, .cons h g => .cons (h.mono s) (g.mono s)
end
section
variable {K : PySem.W.Frag} {M M' : Hp}
theorem DdA.length {vs : List V} {ds : List PyData} : DdA K M vs ds → vs.length = ds.length
  | .nil => rfl
  | .cons _ g => by rw [List.length_cons, List.length_cons, g.length]
theorem DdA.get {vs : List V} {ds : List PyData} : DdA K M vs ds → ∀ {i : Nat} {d : PyData}, ds[i]? = some d → ∃ v, vs[i]? = some v ∧ Dd K M v d
  | .nil, _, _, e => by cases e
  | .cons h _, 0, _, e => ⟨_, rfl, by cases e; exact h⟩
  | .cons _ g, i + 1, _, e => g.get (i := i) (by simpa using e)
theorem DdA.getV {vs : List V} {ds : List PyData} : DdA K M vs ds → ∀ {i : Nat} {v : V}, vs[i]? = some v → ∃ d, ds[i]? = some d ∧ Dd K M v d
  | .nil, _, _, e => by cases e
  | .cons h _, 0, _, e => ⟨_, rfl, by cases e; exact h⟩
  | .cons _ g, i + 1, _, e => g.getV (i := i) (by simpa using e)
theorem DdA.append {vs ws : List V} {ds es : List PyData} : DdA K M vs ds → DdA K M ws es → DdA K M (vs ++ ws) (ds ++ es)
  | .nil, g => g
  | .cons h t, g => .cons h (t.append g)
theorem DdA.take {vs : List V} {ds : List PyData} : ∀ n, DdA K M vs ds → DdA K M (vs.take n) (ds.take n)
  | 0, _ => .nil
  | _ + 1, .nil => .nil
  | n + 1, .cons h t => .cons h (t.take n)
theorem DdA.drop {vs : List V} {ds : List PyData} : ∀ n, DdA K M vs ds → DdA K M (vs.drop n) (ds.drop n)
  | 0, h => h
  | _ + 1, .nil => .nil
  | n + 1, .cons _ t => t.drop n
theorem DdA.set {vs : List V} {ds : List PyData} {v : V} {d : PyData} (h : Dd K M v d) : ∀ n, DdA K M vs ds → DdA K M (vs.set n v) (ds.set n d)
  | _, .nil => .nil
  | 0, .cons _ t => .cons h t
  | n + 1, .cons g t => .cons g (t.set h n)
theorem DdA.erase {vs : List V} {ds : List PyData} : ∀ n, DdA K M vs ds → DdA K M (vs.eraseIdx n) (ds.eraseIdx n)
  | _, .nil => .nil
  | 0, .cons _ t => t
  | n + 1, .cons g t => .cons g (t.erase n)
theorem DdA.rep {vs : List V} {ds : List PyData} (h : DdA K M vs ds) : ∀ k : Nat, DdA K M (List.replicate k vs).flatten (List.replicate k ds).flatten
  | 0 => .nil
  | k + 1 => by
    simp only [List.replicate_succ, List.flatten_cons]
    exact h.append (h.rep k)
theorem DdA.one {v : V} {d : PyData} (h : Dd K M v d) : DdA K M [v] [d] := .cons h .nil
theorem DdA.nil_iff {vs : List V} {ds : List PyData} (h : DdA K M vs ds) : vs = [] ↔ ds = [] := by
  cases h with
  | nil => exact ⟨fun _ => rfl, fun _ => rfl⟩
  | cons _ _ => exact ⟨fun e => (nomatch e), fun e => (nomatch e)⟩
theorem DdA.reverse {vs : List V} {ds : List PyData} : DdA K M vs ds → DdA K M vs.reverse ds.reverse
  | .nil => .nil
  | .cons h t => by
    simp only [List.reverse_cons]
    exact t.reverse.append (.one h)
theorem DdA.ints {ns : List Int} : ∀ {vs : List V}, DdA K M vs (ns.map PyData.int) → vs = ns.map V.int := by
  induction ns with
  | nil => intro vs h; cases h; rfl
  | cons n r ih =>
    intro vs h
    cases h with
    | cons h t =>
      cases h
      rw [ih t]; rfl
theorem DdA.ofInts (ns : List Int) : DdA K M (ns.map V.int) (ns.map PyData.int) := by
  induction ns with
  | nil => exact .nil
  | cons n r ih => exact .cons (.int n) ih
theorem DdA.bools {ns : List Bool} : ∀ {vs : List V}, DdA K M vs (ns.map PyData.bool) → vs = ns.map V.bl := by
  induction ns with
  | nil => intro vs h; cases h; rfl
  | cons n r ih =>
    intro vs h
    cases h with
    | cons h t =>
      cases h
      rw [ih t]; rfl
end

/-! ### abstract states -/
/-- an owned object's content -/
inductive Ao where
  | lst (ds : List PyData)
  | dct (kvs : List (PyData × PyData))
  | mat (rows : List (List PyData))
/-- a slot: nothing known, data, an owned object, the caller's object, a locked object -/
inductive Sl where
  | no
  | d (x : PyData)
  | l (o : Ao)
  | x (o : Ao)
  | k (o : Ao)
/-- an expression's answer: data, what a slot holds, a new object -/
inductive Rv where
  | d (x : PyData)
  | own (i : Nat)
  | new (o : Ao)
inductive Exn where
  | mal
  | rf (r : Str)
abbrev Gm := List Sl
inductive Res (α : Type) where
  | ok (a : α) (G : Gm)
  | ex (e : Exn)
  | bad
def Res.bind {α β : Type} (r : Res α) (k : α → Gm → Res β) : Res β := match r with
  | .ok a G => k a G
  | .ex e => .ex e
  | .bad => .bad
@[simp] theorem Res.bind_ok {α β : Type} (a : α) (G : Gm) (k : α → Gm → Res β) : (Res.ok a G).bind k = k a G := rfl
@[simp] theorem Res.bind_ex {α β : Type} (e : Exn) (k : α → Gm → Res β) : (Res.ex e : Res α).bind k = .ex e := rfl
@[simp] theorem Res.bind_bad {α β : Type} (k : α → Gm → Res β) : (Res.bad : Res α).bind k = .bad := rfl

def kD : Key → PyData
  | .inl i => .int i
  | .inr x => .str x
section
variable (K : PySem.W.Frag)
def KvOk (M : Hp) (kv : List (Key × V)) (kvs : List (PyData × PyData)) : Prop := Paired (fun (p : Key × V) (q : PyData × PyData) => q.1 = kD p.1 ∧ Dd K M p.2 q.2) kv kvs
def KtOk (M : Hp) (kv : List (List Key × V)) (kvs : List (PyData × PyData)) : Prop := Paired (fun (p : List Key × V) (q : PyData × PyData) => q.1 = .tuple (p.1.map kD) ∧ Dd K M p.2 q.2) kv kvs
def RowsOk (H M : Hp) (ps : List Addr) (rows : List (List PyData)) : Prop := Paired (fun (p : Addr) (ds : List PyData) => ∃ xs, H p = some (.lst xs) ∧ DdA K M xs ds) ps rows
/-- the object at p has the content o, and owns the addresses F -/
def AoOk (H M : Hp) : Ao → Addr → List Addr → Prop
  | .lst ds, p, F => F = [p] ∧ ∃ xs, H p = some (.lst xs) ∧ DdA K M xs ds
  | .dct kvs, p, F => F = [p] ∧ ((∃ kv, H p = some (.dK kv) ∧ KvOk K M kv kvs) ∨ ∃ kv, H p = some (.dT kv) ∧ KtOk K M kv kvs)
  | .mat rows, p, F => ∃ ps, F = p :: ps ∧ (p :: ps).Nodup ∧ H p = some (.lst (ps.map V.ref)) ∧ RowsOk K H M ps rows
def SlOk (σ : L2.St) (H M : Hp) (F : List Addr) (i : Nat) : Sl → Prop
  | .no => F = []
  | .d x => F = [] ∧ ∃ v, σ[i]? = some (some v) ∧ Dd K M v x
  | .l o => ∃ p, σ[i]? = some (some (.ref p)) ∧ AoOk K H M o p F ∧ ∀ a ∈ F, M a = none
  | .x o => ∃ p, σ[i]? = some (some (.ref p)) ∧ AoOk K H M o p F ∧ ∀ a ∈ F, M a = none
  | .k o => ∃ p, σ[i]? = some (some (.ref p)) ∧ AoOk K H M o p F ∧ ∀ a ∈ F, M a = none
structure SI (σ : L2.St) (H M : Hp) (G : Gm) (ft : Nat → List Addr) : Prop where
  len : σ.length = G.length
  sub : Sub M H
  slot : ∀ i s, G[i]? = some s → SlOk K σ H M (ft i) i s
  tab : TabI K H ∧ ∀ a ps, M a ≠ some (.tbl ps)
  out : ∀ i, G.length ≤ i → ft i = []
  disj : ∀ i j a, a ∈ ft i → a ∈ ft j → i = j
end
/-- what an owned thing is not -/
def isTup (H : Hp) (a : Addr) : Prop := ∃ xs, H a = some (.tup xs)
/-- from an abstract state to a later one -/
structure Stp (σ : L2.St) (G : Gm) (H M : Hp) (ft : Nat → List Addr) (σ' : L2.St) (G' : Gm) (H' M' : Hp) (ft' : Nat → List Addr) : Prop where
  mono : Sub M M'
  new : ∀ a o, M' a = some o → M a = some o ∨ H a = none ∨ (∃ i, a ∈ ft i) ∨ isTup H a
  frame : ∀ a o, H a = some o → (∀ ps, o ≠ .tbl ps) → (∀ i, a ∉ ft i) → H' a = some o
  tbls : ∀ a ps, H a = some (.tbl ps) → ∃ ps', H' a = some (.tbl ps')
  tab : ∀ K, TabI K H → TabI K H'
  there : ∀ a o, H a = some o → ∃ o', H' a = some o'
  own : ∀ i a, a ∈ ft' i → (∃ j, a ∈ ft j) ∨ H a = none
  tups : ∀ a xs, H a = some (.tup xs) → H' a = some (.tup xs)
  len : G'.length = G.length
  kx : ∀ i o, G[i]? = some (.x o) → σ'[i]? = σ[i]? ∧ ft' i = ft i ∧ ∃ o', G'[i]? = some (.x o')
  kk : ∀ i o, G[i]? = some (.k o) → σ'[i]? = σ[i]? ∧ ft' i = ft i ∧ G'[i]? = some (.k o)
theorem Stp.refl {σ : L2.St} {G : Gm} {H M : Hp} {ft : Nat → List Addr} : Stp σ G H M ft σ G H M ft :=
  ⟨Sub.refl _, fun _ _ e => .inl e, fun _ _ e _ _ => e, fun _ ps e => ⟨ps, e⟩, fun _ h => h, fun _ o e => ⟨o, e⟩, fun i _ h => .inl ⟨i, h⟩, fun _ _ e => e, rfl, fun _ o e => ⟨rfl, rfl, o, e⟩, fun _ _ e => ⟨rfl, rfl, e⟩⟩
theorem Stp.nn {σ σ' : L2.St} {G G' : Gm} {H M H' M' : Hp} {ft ft' : Nat → List Addr} (p : Stp σ G H M ft σ' G' H' M' ft') {a : Addr} (h : H' a = none) : H a = none := by
  cases e : H a with
  | none => rfl
  | some o =>
    obtain ⟨o', e'⟩ := p.there a o e
    rw [h] at e'; cases e'
theorem Stp.trans {σ σ1 σ2 : L2.St} {G G1 G2 : Gm} {H M H1 M1 H2 M2 : Hp} {ft ft1 ft2 : Nat → List Addr} (p : Stp σ G H M ft σ1 G1 H1 M1 ft1) (q : Stp σ1 G1 H1 M1 ft1 σ2 G2 H2 M2 ft2) : Stp σ G H M ft σ2 G2 H2 M2 ft2 where
  mono := p.mono.trans q.mono
  new := fun a o e => by
    rcases q.new a o e with h | h | ⟨i, h⟩ | ⟨xs, h⟩
    · exact p.new a o h
    · exact .inr (.inl (p.nn h))
    · rcases p.own i a h with h | h
      · exact .inr (.inr (.inl h))
      · exact .inr (.inl h)
    · cases e0 : H a with
      | none => exact .inr (.inl rfl)
      | some o0 =>
        by_cases hf : ∃ i, a ∈ ft i
        · exact .inr (.inr (.inl hf))
        · by_cases ht : ∃ ps, o0 = .tbl ps
          · obtain ⟨ps, ht⟩ := ht
            subst ht
            obtain ⟨ps', h3⟩ := p.tbls a ps e0
            rw [h] at h3; cases h3
          · have := p.frame a o0 e0 (fun ps z => ht ⟨ps, z⟩) fun i hi => hf ⟨i, hi⟩
            rw [h] at this; cases this
            exact .inr (.inr (.inr ⟨xs, e0⟩))
  tbls := fun a ps e => by
    obtain ⟨ps', h1⟩ := p.tbls a ps e
    exact q.tbls a ps' h1
  tab := fun K h => q.tab K (p.tab K h)
  frame := fun a o e nt hn => by
    have h1 := p.frame a o e nt hn
    refine q.frame a o h1 nt fun i hi => ?_
    rcases p.own i a hi with ⟨j, h⟩ | h
    · exact hn j h
    · rw [e] at h; cases h
  there := fun a o e => by
    obtain ⟨o1, h1⟩ := p.there a o e
    exact q.there a o1 h1
  own := fun i a h => by
    rcases q.own i a h with ⟨j, h⟩ | h
    · exact p.own j a h
    · exact .inr (p.nn h)
  tups := fun a xs e => q.tups a xs (p.tups a xs e)
  len := q.len.trans p.len
  kx := fun i o e => by
    obtain ⟨h1, h2, o1, h3⟩ := p.kx i o e
    obtain ⟨g1, g2, o2, g3⟩ := q.kx i o1 h3
    exact ⟨g1.trans h1, g2.trans h2, o2, g3⟩
  kk := fun i o e => by
    obtain ⟨h1, h2, h3⟩ := p.kk i o e
    obtain ⟨g1, g2, g3⟩ := q.kk i o h3
    exact ⟨g1.trans h1, g2.trans h2, g3⟩
section
variable {K : PySem.W.Frag} {σ σ' : L2.St} {G G' : Gm} {H M H' M' : Hp} {ft ft' : Nat → List Addr}
theorem KvOk.mono {M M' : Hp} (s : Sub M M') : ∀ {kv : List (Key × V)} {kvs : List (PyData × PyData)}, KvOk K M kv kvs → KvOk K M' kv kvs
  | _, _, .nil => .nil
  | _, _, .cons h t => .cons ⟨h.1, h.2.mono s⟩ (KvOk.mono s t)
theorem KtOk.mono {M M' : Hp} (s : Sub M M') : ∀ {kv : List (List Key × V)} {kvs : List (PyData × PyData)}, KtOk K M kv kvs → KtOk K M' kv kvs
  | _, _, .nil => .nil
  | _, _, .cons h t => .cons ⟨h.1, h.2.mono s⟩ (KtOk.mono s t)
theorem RowsOk.keep {M M' : Hp} (s : Sub M M') : ∀ {ps : List Addr} {rows : List (List PyData)}, RowsOk K H M ps rows → (∀ a ∈ ps, ∀ o, H a = some o → (∀ ps, o ≠ .tbl ps) → H' a = some o) → RowsOk K H' M' ps rows
  | _, _, .nil, _ => .nil
  | _, _, .cons ⟨xs, h, g⟩ t, k => .cons ⟨xs, k _ List.mem_cons_self _ h (fun _ z => nomatch z), g.mono s⟩ (RowsOk.keep s t fun a ha => k a (List.mem_cons_of_mem _ ha))
theorem AoOk.keep {o : Ao} {p : Addr} {F : List Addr} (s : Sub M M') (h : AoOk K H M o p F) (k : ∀ a ∈ F, ∀ o, H a = some o → (∀ ps, o ≠ .tbl ps) → H' a = some o) : AoOk K H' M' o p F := by
  cases o with
  | lst ds =>
    obtain ⟨rfl, xs, e, g⟩ := h
    exact ⟨rfl, xs, k p (List.mem_singleton.mpr rfl) _ e (fun _ z => nomatch z), g.mono s⟩
  | dct kvs =>
    obtain ⟨rfl, h⟩ := h
    refine ⟨rfl, ?_⟩
    rcases h with ⟨kv, e, g⟩ | ⟨kv, e, g⟩
    · exact .inl ⟨kv, k p (List.mem_singleton.mpr rfl) _ e (fun _ z => nomatch z), KvOk.mono s g⟩
    · exact .inr ⟨kv, k p (List.mem_singleton.mpr rfl) _ e (fun _ z => nomatch z), KtOk.mono s g⟩
  | mat rows =>
    obtain ⟨ps, rfl, nd, e, g⟩ := h
    exact ⟨ps, rfl, nd, k p List.mem_cons_self _ e (fun _ z => nomatch z), RowsOk.keep s g fun a ha => k a (List.mem_cons_of_mem _ ha)⟩
theorem RowsOk.there : ∀ {ps : List Addr} {rows : List (List PyData)}, RowsOk K H M ps rows → ∀ a ∈ ps, ∃ o, H a = some o ∧ ∀ xs, o ≠ .tup xs
  | _, _, .cons ⟨xs, h, _⟩ t, a, ha => by
    obtain rfl | ha := List.mem_cons.mp ha
    · exact ⟨_, h, fun _ z => nomatch z⟩
    · exact RowsOk.there t a ha
theorem AoOk.there {o : Ao} {p : Addr} {F : List Addr} (h : AoOk K H M o p F) : ∀ a ∈ F, ∃ o, H a = some o ∧ ∀ xs, o ≠ .tup xs := by
  cases o with
  | lst ds =>
    obtain ⟨rfl, xs, e, g⟩ := h
    intro a ha
    cases List.mem_singleton.mp ha
    exact ⟨_, e, fun _ z => nomatch z⟩
  | dct kvs =>
    obtain ⟨rfl, h⟩ := h
    intro a ha
    cases List.mem_singleton.mp ha
    rcases h with ⟨kv, e, g⟩ | ⟨kv, e, g⟩
    · exact ⟨_, e, fun _ z => nomatch z⟩
    · exact ⟨_, e, fun _ z => nomatch z⟩
  | mat rows =>
    obtain ⟨ps, rfl, nd, e, g⟩ := h
    intro a ha
    obtain rfl | ha := List.mem_cons.mp ha
    · exact ⟨_, e, fun _ z => nomatch z⟩
    · exact g.there a ha
theorem RowsOk.ntb : ∀ {ps : List Addr} {rows : List (List PyData)}, RowsOk K H M ps rows → ∀ a ∈ ps, ∀ qs, H a ≠ some (.tbl qs)
  | _, _, .cons ⟨xs, h, _⟩ t, a, ha => by
    obtain rfl | ha := List.mem_cons.mp ha
    · intro qs z; rw [h] at z; cases z
    · exact RowsOk.ntb t a ha
theorem AoOk.ntb {o : Ao} {p : Addr} {F : List Addr} (h : AoOk K H M o p F) : ∀ a ∈ F, ∀ ps, H a ≠ some (.tbl ps) := by
  cases o with
  | lst ds =>
    obtain ⟨rfl, xs, e, g⟩ := h
    intro a ha ps z
    cases List.mem_singleton.mp ha
    rw [e] at z; cases z
  | dct kvs =>
    obtain ⟨rfl, h⟩ := h
    intro a ha ps z
    cases List.mem_singleton.mp ha
    rcases h with ⟨kv, e, g⟩ | ⟨kv, e, g⟩ <;> (rw [e] at z; cases z)
  | mat rows =>
    obtain ⟨ps, rfl, nd, e, g⟩ := h
    intro a ha ps' z
    obtain rfl | ha := List.mem_cons.mp ha
    · rw [e] at z; cases z
    · exact RowsOk.ntb g a ha ps' z
theorem AoOk.mem {o : Ao} {p : Addr} {F : List Addr} (h : AoOk K H M o p F) : p ∈ F := by
  cases o with
  | lst ds => obtain ⟨rfl, _⟩ := h; exact List.mem_singleton.mpr rfl
  | dct kvs => obtain ⟨rfl, _⟩ := h; exact List.mem_singleton.mpr rfl
  | mat rows => obtain ⟨ps, rfl, _⟩ := h; exact List.mem_cons_self
theorem SI.lt (S : SI K σ H M G ft) {i : Nat} {a : Addr} (h : a ∈ ft i) : i < G.length := by
  rcases Nat.lt_or_ge i G.length with h1 | h1
  · exact h1
  · rw [S.out i h1] at h; cases h
theorem SI.ntb (S : SI K σ H M G ft) {i : Nat} {a : Addr} (h : a ∈ ft i) : ∀ ps, H a ≠ some (.tbl ps) := by
  have hi := S.lt h
  have hs := S.slot i _ (List.getElem?_eq_getElem hi)
  cases e : G[i] with
  | no => rw [e] at hs; rw [show ft i = [] from hs] at h; cases h
  | d x => rw [e] at hs; rw [show ft i = [] from hs.1] at h; cases h
  | l o => rw [e] at hs; obtain ⟨p, _, g, _⟩ := hs; exact g.ntb a h
  | x o => rw [e] at hs; obtain ⟨p, _, g, _⟩ := hs; exact g.ntb a h
  | k o => rw [e] at hs; obtain ⟨p, _, g, _⟩ := hs; exact g.ntb a h
theorem nt_upd {M : Hp} (h : ∀ a ps, M a ≠ some (.tbl ps)) {p : Addr} {o : HO} (n : ∀ ps, o ≠ .tbl ps) : ∀ a ps, (upd M p o) a ≠ some (.tbl ps) := fun a ps z => by
  by_cases e : a = p
  · rw [e, upd_same] at z; exact n ps (Option.some.inj z)
  · rw [upd_ne e] at z; exact h a ps z
/-- an owned address: hidden, there, no tuple -/
theorem SI.owned (S : SI K σ H M G ft) {i : Nat} {a : Addr} (h : a ∈ ft i) : M a = none ∧ ∃ o, H a = some o ∧ ∀ xs, o ≠ .tup xs := by
  have hi := S.lt h
  have hs := S.slot i _ (List.getElem?_eq_getElem hi)
  cases e : G[i] with
  | no => rw [e] at hs; rw [show ft i = [] from hs] at h; cases h
  | d x => rw [e] at hs; rw [show ft i = [] from hs.1] at h; cases h
  | l o => rw [e] at hs; obtain ⟨p, _, g, m⟩ := hs; exact ⟨m a h, g.there a h⟩
  | x o => rw [e] at hs; obtain ⟨p, _, g, m⟩ := hs; exact ⟨m a h, g.there a h⟩
  | k o => rw [e] at hs; obtain ⟨p, _, g, m⟩ := hs; exact ⟨m a h, g.there a h⟩
end

/-! ### answers -/
section
variable (K : PySem.W.Frag)
/-- H₀: the heap ahead of the expression -/
def RvOk (σ : L2.St) (H₀ H M : Hp) (ft : Nat → List Addr) : Rv → V → Prop
  | .d x, v => Dd K M v x
  | .own i, v => σ[i]? = some (some v)
  | .new o, v => ∃ p F, v = .ref p ∧ AoOk K H M o p F ∧ ∀ a ∈ F, M a = none ∧ H₀ a = none ∧ ∀ i, a ∉ ft i
/-- .. with what it owns -/
def RvF (σ : L2.St) (H₀ H M : Hp) (ft : Nat → List Addr) (F : List Addr) : Rv → V → Prop
  | .d x, v => Dd K M v x ∧ F = []
  | .own i, v => σ[i]? = some (some v) ∧ F = []
  | .new o, v => ∃ p, v = .ref p ∧ AoOk K H M o p F ∧ ∀ a ∈ F, M a = none ∧ H₀ a = none ∧ ∀ i, a ∉ ft i
/-- several, one after another: new things apart; the index is the heap ahead of the first -/
inductive RvsOk (σ : L2.St) (H M : Hp) (ft : Nat → List Addr) : Hp → List Rv → List V → Prop
  | nil {H₀ : Hp} : RvsOk σ H M ft H₀ [] []
  | cons {H₀ : Hp} {r : Rv} {v : V} {rs : List Rv} {vs : List V} (H₁ : Hp) (F : List Addr) (h0 : ∀ a, H₁ a = none → H₀ a = none) (h : RvF K σ H₀ H M ft F r v) (hn : ∀ a ∈ F, H₁ a ≠ none) (t : RvsOk σ H M ft H₁ rs vs) : RvsOk σ H M ft H₀ (r :: rs) (v :: vs)
end
/-- exceptions: XR tells how an Exn lies -/
abbrev XRt := Exn → Value → Option Addr → Hp → Prop
def Frm (H : Hp) (ft : Nat → List Addr) (H' : Hp) : Prop := (∀ a o, H a = some o → (∀ ps, o ≠ .tbl ps) → (∀ i, a ∉ ft i) → H' a = some o) ∧ (∀ a o, H a = some o → ∃ o', H' a = some o') ∧ (∀ K, TabI K H → TabI K H') ∧ ∀ a ps, H a = some (.tbl ps) → ∃ ps', H' a = some (.tbl ps')
section
variable (K : PySem.W.Frag) (XR : XRt) (E : XK)
/-- what is wanted of an answer, from the state at hand -/
def WP {α β : Type} (RO : Hp → Hp → Hp → (Nat → List Addr) → α → β → Prop) (σ : L2.St) (G : Gm) (H M : Hp) (ft : Nat → List Addr) (res : Res α) (Q : β → Hp → Prop) : Prop := match res with
  | .ok r G' => ∀ v H' M' ft', SI K σ H' M' G' ft' → Stp σ G H M ft σ G' H' M' ft' → RO H H' M' ft' r v → Q v H'
  | .ex e => ∀ cls d H', XR e cls d H' → Frm H ft H' → E cls d H'
  | .bad => False
abbrev ROv (σ : L2.St) : Hp → Hp → Hp → (Nat → List Addr) → Rv → V → Prop := RvOk K σ
abbrev ROb : Hp → Hp → Hp → (Nat → List Addr) → Bool → Bool → Prop := fun _ _ _ _ a b => a = b
abbrev ROs (σ : L2.St) : Hp → Hp → Hp → (Nat → List Addr) → List Rv → List V → Prop := fun H₀ H M ft rs vs => RvsOk K σ H M ft H₀ rs vs
def tFE (f : Gm → Res Rv) : TE := fun σ H Q => ∃ M G ft, SI K σ H M G ft ∧ WP K XR E (ROv K σ) σ G H M ft (f G) Q
def tFT (f : Gm → Res Bool) : TT := fun σ H Q => ∃ M G ft, SI K σ H M G ft ∧ WP K XR E ROb σ G H M ft (f G) Q
def tFA (f : Gm → Res (List Rv)) : TA := fun σ H Q => ∃ M G ft, SI K σ H M G ft ∧ WP K XR E (ROs K σ) σ G H M ft (f G) Q
end
theorem Frm.of {σ σ' : L2.St} {G G' : Gm} {H M H' M' : Hp} {ft ft' : Nat → List Addr} (p : Stp σ G H M ft σ' G' H' M' ft') : Frm H ft H' := ⟨p.frame, p.there, p.tab, p.tbls⟩
theorem Frm.trans {σ σ' : L2.St} {G G' : Gm} {H M H1 M1 H2 : Hp} {ft ft1 : Nat → List Addr} (p : Stp σ G H M ft σ' G' H1 M1 ft1) (q : Frm H1 ft1 H2) : Frm H ft H2 := by
  refine ⟨fun a o e nt hn => ?_, fun a o e => ?_, fun K h => q.2.2.1 K (p.tab K h), fun a ps e => let ⟨ps', h1⟩ := p.tbls a ps e; q.2.2.2 a ps' h1⟩
  · refine q.1 a o (p.frame a o e nt hn) nt fun i hi => ?_
    rcases p.own i a hi with ⟨j, h⟩ | h
    · exact hn j h
    · rw [e] at h; cases h
  · obtain ⟨o1, e1⟩ := p.there a o e
    exact q.2.1 a o1 e1
section
variable {K : PySem.W.Frag} {σ : L2.St} {G G1 : Gm} {H M H1 M1 H2 M2 : Hp} {ft ft1 ft2 : Nat → List Addr}
theorem RvOk.base {r : Rv} {v : V} {H0 H0' : Hp} (h : RvOk K σ H0' H M ft r v) (h0 : ∀ a, H0' a = none → H0 a = none) : RvOk K σ H0 H M ft r v := by
  cases r with
  | d x => exact h
  | own i => exact h
  | new o =>
    obtain ⟨p, F, e, g, k⟩ := h
    exact ⟨p, F, e, g, fun a ha => ⟨(k a ha).1, h0 a (k a ha).2.1, (k a ha).2.2⟩⟩
/-- an answer stays behind what comes later -/
theorem RvOk.later {r : Rv} {v : V} {H0 : Hp} {G2 : Gm} (h : RvOk K σ H0 H1 M1 ft1 r v) (p : Stp σ G1 H1 M1 ft1 σ G2 H2 M2 ft2) : RvOk K σ H0 H2 M2 ft2 r v := by
  cases r with
  | d x => exact Dd.mono p.mono h
  | own i => exact h
  | new o =>
    obtain ⟨q, F, e, g, k⟩ := h
    refine ⟨q, F, e, g.keep p.mono fun a ha o e nt => p.frame a o e nt (k a ha).2.2, fun a ha => ⟨?_, (k a ha).2.1, fun i hi => ?_⟩⟩
    · obtain ⟨o, eo, hnt⟩ := g.there a ha
      cases e2 : M2 a with
      | none => rfl
      | some o2 =>
        rcases p.new a o2 e2 with z | z | ⟨i, z⟩ | ⟨xs, z⟩
        · rw [(k a ha).1] at z; cases z
        · rw [eo] at z; cases z
        · exact absurd z ((k a ha).2.2 i)
        · rw [eo] at z; cases z; exact absurd rfl (hnt xs)
    · rcases p.own i a hi with ⟨j, z⟩ | z
      · exact (k a ha).2.2 j z
      · obtain ⟨o, eo, _⟩ := g.there a ha
        rw [eo] at z; cases z
theorem RvOk.f {r : Rv} {v : V} {H0 : Hp} (h : RvOk K σ H0 H M ft r v) : ∃ F, RvF K σ H0 H M ft F r v := by
  cases r with
  | d x => exact ⟨[], h, rfl⟩
  | own i => exact ⟨[], h, rfl⟩
  | new o =>
    obtain ⟨p, F, e, g, k⟩ := h
    exact ⟨F, p, e, g, k⟩
theorem RvF.ok {r : Rv} {v : V} {H0 : Hp} {F : List Addr} (h : RvF K σ H0 H M ft F r v) : RvOk K σ H0 H M ft r v := by
  cases r with
  | d x => exact h.1
  | own i => exact h.1
  | new o =>
    obtain ⟨p, e, g, k⟩ := h
    exact ⟨p, F, e, g, k⟩
theorem RvF.there {r : Rv} {v : V} {H0 : Hp} {F : List Addr} (h : RvF K σ H0 H M ft F r v) : ∀ a ∈ F, ∃ o, H a = some o ∧ ∀ xs, o ≠ .tup xs := by
  cases r with
  | d x => obtain ⟨_, rfl⟩ := h; intro a ha; cases ha
  | own i => obtain ⟨_, rfl⟩ := h; intro a ha; cases ha
  | new o =>
    obtain ⟨p, e, g, k⟩ := h
    exact g.there
theorem RvF.base {r : Rv} {v : V} {H0 H0' : Hp} {F : List Addr} (h : RvF K σ H0' H M ft F r v) (h0 : ∀ a, H0' a = none → H0 a = none) : RvF K σ H0 H M ft F r v := by
  cases r with
  | d x => exact h
  | own i => exact h
  | new o =>
    obtain ⟨p, e, g, k⟩ := h
    exact ⟨p, e, g, fun a ha => ⟨(k a ha).1, h0 a (k a ha).2.1, (k a ha).2.2⟩⟩
theorem RvF.later {r : Rv} {v : V} {H0 : Hp} {G2 : Gm} {F : List Addr} (h : RvF K σ H0 H1 M1 ft1 F r v) (p : Stp σ G1 H1 M1 ft1 σ G2 H2 M2 ft2) : RvF K σ H0 H2 M2 ft2 F r v := by
  cases r with
  | d x => exact ⟨Dd.mono p.mono h.1, h.2⟩
  | own i => exact h
  | new o =>
    obtain ⟨q, e, g, k⟩ := h
    refine ⟨q, e, g.keep p.mono fun a ha o e nt => p.frame a o e nt (k a ha).2.2, fun a ha => ⟨?_, (k a ha).2.1, fun i hi => ?_⟩⟩
    · obtain ⟨o, eo, hnt⟩ := g.there a ha
      cases e2 : M2 a with
      | none => rfl
      | some o2 =>
        rcases p.new a o2 e2 with z | z | ⟨i, z⟩ | ⟨xs, z⟩
        · rw [(k a ha).1] at z; cases z
        · rw [eo] at z; cases z
        · exact absurd z ((k a ha).2.2 i)
        · rw [eo] at z; cases z; exact absurd rfl (hnt xs)
    · rcases p.own i a hi with ⟨j, z⟩ | z
      · exact (k a ha).2.2 j z
      · obtain ⟨o, eo, _⟩ := g.there a ha
        rw [eo] at z; cases z
theorem RvsOk.base : ∀ {rs : List Rv} {vs : List V} {H0 H0' : Hp}, RvsOk K σ H M ft H0' rs vs → (∀ a, H0' a = none → H0 a = none) → RvsOk K σ H M ft H0 rs vs
  | _, _, _, _, .nil, _ => .nil
  | _, _, _, _, .cons H₁ F h0 h hn t, k => .cons H₁ F (fun a z => k a (h0 a z)) (h.base k) hn t
variable {XR : XRt} {E : XK}
theorem WP.rebase {α β : Type} {RO : Hp → Hp → Hp → (Nat → List Addr) → α → β → Prop} {res : Res α} {Q : β → Hp → Prop} (hRO : ∀ H0 H0' H M ft r v, RO H0' H M ft r v → (∀ a, H0' a = none → H0 a = none) → RO H0 H M ft r v)
    (p : Stp σ G H M ft σ G1 H1 M1 ft1) (h : WP K XR E RO σ G H M ft res Q) : WP K XR E RO σ G1 H1 M1 ft1 res Q := by
  cases res with
  | ok r G' => exact fun v H' M' ft' S q R => h v H' M' ft' S (p.trans q) (hRO _ _ _ _ _ _ _ R fun a z => p.nn z)
  | ex e => exact fun cls d H' x f => h cls d H' x (Frm.trans p f)
  | bad => exact h
theorem WP.rebaseV {res : Res Rv} {Q : VK} (p : Stp σ G H M ft σ G1 H1 M1 ft1) (h : WP K XR E (ROv K σ) σ G H M ft res Q) : WP K XR E (ROv K σ) σ G1 H1 M1 ft1 res Q := WP.rebase (fun _ _ _ _ _ _ _ h k => RvOk.base h k) p h
theorem WP.rebaseB {res : Res Bool} {Q : Bool → Hp → Prop} (p : Stp σ G H M ft σ G1 H1 M1 ft1) (h : WP K XR E ROb σ G H M ft res Q) : WP K XR E ROb σ G1 H1 M1 ft1 res Q := WP.rebase (fun _ _ _ _ _ _ _ h k => h) p h
theorem WP.rebaseA {res : Res (List Rv)} {Q : List V → Hp → Prop} (p : Stp σ G H M ft σ G1 H1 M1 ft1) (h : WP K XR E (ROs K σ) σ G H M ft res Q) : WP K XR E (ROs K σ) σ G1 H1 M1 ft1 res Q := WP.rebase (fun _ _ _ _ _ _ _ h k => RvsOk.base h k) p h
/-- a part of an expression, then the rest; the wish is told from a state ahead (index 0) -/
theorem bindW {G0 : Gm} {H0 M0 : Hp} {ft0 : Nat → List Addr} {α β α' β' : Type} {RO : Hp → Hp → Hp → (Nat → List Addr) → α → β → Prop} {RO' : Hp → Hp → Hp → (Nat → List Addr) → α' → β' → Prop} {res : Res α} {k : α → Gm → Res α'} {Q : β' → Hp → Prop} {Q1 : β → Hp → Prop}
    (P : Stp σ G0 H0 M0 ft0 σ G H M ft) (h : WP K XR E RO' σ G0 H0 M0 ft0 (res.bind k) Q)
    (go : ∀ r G1 v H1 M1 ft1, res = .ok r G1 → SI K σ H1 M1 G1 ft1 → Stp σ G H M ft σ G1 H1 M1 ft1 → RO H H1 M1 ft1 r v → WP K XR E RO' σ G0 H0 M0 ft0 (k r G1) Q → Q1 v H1) : WP K XR E RO σ G H M ft res Q1 := by
  cases res with
  | ok r G1 => exact fun v H1 M1 ft1 S p R => go r G1 v H1 M1 ft1 rfl S p R h
  | ex e => exact fun cls d H' x f => h cls d H' x (Frm.trans P f)
  | bad => exact h
section
variable {G0 : Gm} {H0 M0 : Hp} {ft0 : Nat → List Addr}
theorem bindEE {f : Gm → Res Rv} {k : Rv → Gm → Res Rv} {Q : V → Hp → Prop} {Q1 : V → Hp → Prop} (S : SI K σ H M G ft) (P : Stp σ G0 H0 M0 ft0 σ G H M ft) (h : WP K XR E (ROv K σ) σ G0 H0 M0 ft0 ((f G).bind k) Q)
    (go : ∀ r G1 v H1 M1 ft1, f G = .ok r G1 → SI K σ H1 M1 G1 ft1 → Stp σ G H M ft σ G1 H1 M1 ft1 → RvOk K σ H H1 M1 ft1 r v → WP K XR E (ROv K σ) σ G0 H0 M0 ft0 (k r G1) Q → Q1 v H1) : tFE K XR E f σ H Q1 :=
  ⟨M, G, ft, S, bindW (RO := (ROv K σ)) (RO' := (ROv K σ)) P h go⟩
theorem bindET {f : Gm → Res Rv} {k : Rv → Gm → Res Bool} {Q : Bool → Hp → Prop} {Q1 : V → Hp → Prop} (S : SI K σ H M G ft) (P : Stp σ G0 H0 M0 ft0 σ G H M ft) (h : WP K XR E ROb σ G0 H0 M0 ft0 ((f G).bind k) Q)
    (go : ∀ r G1 v H1 M1 ft1, f G = .ok r G1 → SI K σ H1 M1 G1 ft1 → Stp σ G H M ft σ G1 H1 M1 ft1 → RvOk K σ H H1 M1 ft1 r v → WP K XR E ROb σ G0 H0 M0 ft0 (k r G1) Q → Q1 v H1) : tFE K XR E f σ H Q1 :=
  ⟨M, G, ft, S, bindW (RO := (ROv K σ)) (RO' := ROb) P h go⟩
theorem bindEA {f : Gm → Res Rv} {k : Rv → Gm → Res (List Rv)} {Q : List V → Hp → Prop} {Q1 : V → Hp → Prop} (S : SI K σ H M G ft) (P : Stp σ G0 H0 M0 ft0 σ G H M ft) (h : WP K XR E (ROs K σ) σ G0 H0 M0 ft0 ((f G).bind k) Q)
    (go : ∀ r G1 v H1 M1 ft1, f G = .ok r G1 → SI K σ H1 M1 G1 ft1 → Stp σ G H M ft σ G1 H1 M1 ft1 → RvOk K σ H H1 M1 ft1 r v → WP K XR E (ROs K σ) σ G0 H0 M0 ft0 (k r G1) Q → Q1 v H1) : tFE K XR E f σ H Q1 :=
  ⟨M, G, ft, S, bindW (RO := (ROv K σ)) (RO' := (ROs K σ)) P h go⟩
theorem bindTE {f : Gm → Res Bool} {k : Bool → Gm → Res Rv} {Q : V → Hp → Prop} {Q1 : Bool → Hp → Prop} (S : SI K σ H M G ft) (P : Stp σ G0 H0 M0 ft0 σ G H M ft) (h : WP K XR E (ROv K σ) σ G0 H0 M0 ft0 ((f G).bind k) Q)
    (go : ∀ r G1 H1 M1 ft1, f G = .ok r G1 → SI K σ H1 M1 G1 ft1 → Stp σ G H M ft σ G1 H1 M1 ft1 → WP K XR E (ROv K σ) σ G0 H0 M0 ft0 (k r G1) Q → Q1 r H1) : tFT K XR E f σ H Q1 :=
  ⟨M, G, ft, S, bindW (RO := ROb) (RO' := (ROv K σ)) P h fun r G1 v H1 M1 ft1 e S1 p R w => by cases R; exact go r G1 H1 M1 ft1 e S1 p w⟩
theorem bindTT {f : Gm → Res Bool} {k : Bool → Gm → Res Bool} {Q : Bool → Hp → Prop} {Q1 : Bool → Hp → Prop} (S : SI K σ H M G ft) (P : Stp σ G0 H0 M0 ft0 σ G H M ft) (h : WP K XR E ROb σ G0 H0 M0 ft0 ((f G).bind k) Q)
    (go : ∀ r G1 H1 M1 ft1, f G = .ok r G1 → SI K σ H1 M1 G1 ft1 → Stp σ G H M ft σ G1 H1 M1 ft1 → WP K XR E ROb σ G0 H0 M0 ft0 (k r G1) Q → Q1 r H1) : tFT K XR E f σ H Q1 :=
  ⟨M, G, ft, S, bindW (RO := ROb) (RO' := ROb) P h fun r G1 v H1 M1 ft1 e S1 p R w => by cases R; exact go r G1 H1 M1 ft1 e S1 p w⟩
theorem bindTA {f : Gm → Res Bool} {k : Bool → Gm → Res (List Rv)} {Q : List V → Hp → Prop} {Q1 : Bool → Hp → Prop} (S : SI K σ H M G ft) (P : Stp σ G0 H0 M0 ft0 σ G H M ft) (h : WP K XR E (ROs K σ) σ G0 H0 M0 ft0 ((f G).bind k) Q)
    (go : ∀ r G1 H1 M1 ft1, f G = .ok r G1 → SI K σ H1 M1 G1 ft1 → Stp σ G H M ft σ G1 H1 M1 ft1 → WP K XR E (ROs K σ) σ G0 H0 M0 ft0 (k r G1) Q → Q1 r H1) : tFT K XR E f σ H Q1 :=
  ⟨M, G, ft, S, bindW (RO := ROb) (RO' := (ROs K σ)) P h fun r G1 v H1 M1 ft1 e S1 p R w => by cases R; exact go r G1 H1 M1 ft1 e S1 p w⟩
theorem bindAE {f : Gm → Res (List Rv)} {k : (List Rv) → Gm → Res Rv} {Q : V → Hp → Prop} {Q1 : List V → Hp → Prop} (S : SI K σ H M G ft) (P : Stp σ G0 H0 M0 ft0 σ G H M ft) (h : WP K XR E (ROv K σ) σ G0 H0 M0 ft0 ((f G).bind k) Q)
    (go : ∀ r G1 v H1 M1 ft1, f G = .ok r G1 → SI K σ H1 M1 G1 ft1 → Stp σ G H M ft σ G1 H1 M1 ft1 → RvsOk K σ H1 M1 ft1 H r v → WP K XR E (ROv K σ) σ G0 H0 M0 ft0 (k r G1) Q → Q1 v H1) : tFA K XR E f σ H Q1 :=
  ⟨M, G, ft, S, bindW (RO := (ROs K σ)) (RO' := (ROv K σ)) P h go⟩
theorem bindAT {f : Gm → Res (List Rv)} {k : (List Rv) → Gm → Res Bool} {Q : Bool → Hp → Prop} {Q1 : List V → Hp → Prop} (S : SI K σ H M G ft) (P : Stp σ G0 H0 M0 ft0 σ G H M ft) (h : WP K XR E ROb σ G0 H0 M0 ft0 ((f G).bind k) Q)
    (go : ∀ r G1 v H1 M1 ft1, f G = .ok r G1 → SI K σ H1 M1 G1 ft1 → Stp σ G H M ft σ G1 H1 M1 ft1 → RvsOk K σ H1 M1 ft1 H r v → WP K XR E ROb σ G0 H0 M0 ft0 (k r G1) Q → Q1 v H1) : tFA K XR E f σ H Q1 :=
  ⟨M, G, ft, S, bindW (RO := (ROs K σ)) (RO' := ROb) P h go⟩
theorem bindAA {f : Gm → Res (List Rv)} {k : (List Rv) → Gm → Res (List Rv)} {Q : List V → Hp → Prop} {Q1 : List V → Hp → Prop} (S : SI K σ H M G ft) (P : Stp σ G0 H0 M0 ft0 σ G H M ft) (h : WP K XR E (ROs K σ) σ G0 H0 M0 ft0 ((f G).bind k) Q)
    (go : ∀ r G1 v H1 M1 ft1, f G = .ok r G1 → SI K σ H1 M1 G1 ft1 → Stp σ G H M ft σ G1 H1 M1 ft1 → RvsOk K σ H1 M1 ft1 H r v → WP K XR E (ROs K σ) σ G0 H0 M0 ft0 (k r G1) Q → Q1 v H1) : tFA K XR E f σ H Q1 :=
  ⟨M, G, ft, S, bindW (RO := (ROs K σ)) (RO' := (ROs K σ)) P h go⟩
end
end
theorem PE.le {X : Cx} {e : Expr} {t t' : TE} (h : PE X e t) (w : ∀ σ H Q, t' σ H Q → t σ H Q) : PE X e t' := ⟨fun pins s σ H Q I q => h.run pins s σ H Q I (w σ H Q q)⟩
theorem PT.le {X : Cx} {e : Expr} {t t' : TT} (h : PT X e t) (w : ∀ σ H Q, t' σ H Q → t σ H Q) : PT X e t' := ⟨fun pins s σ H Q I q => h.run pins s σ H Q I (w σ H Q q)⟩
theorem PW.le {X : Cx} {e : Expr} {t t' : TT} (h : PW X e t) (w : ∀ σ H Q, t' σ H Q → t σ H Q) : PW X e t' := ⟨fun wh pins s σ H Q I q => h.run wh pins s σ H Q I (w σ H Q q)⟩
theorem PA.le {X : Cx} {es : List Expr} {t t' : TA} (h : PA X es t) (w : ∀ σ H Q, t' σ H Q → t σ H Q) : PA X es t' := ⟨fun pos pins s σ H Q I q => h.run pos pins s σ H Q I (w σ H Q q)⟩
theorem PS.le {X : Cx} {st : Stmt} {t t' : TS} (h : PS X st t) (w : ∀ D σ H, t' D σ H → t D σ H) : PS X st t' := ⟨fun pins s σ H D I q => h.run pins s σ H D I (w D σ H q)⟩
theorem PSs.le {X : Cx} {st : List Stmt} {t t' : TS} (h : PSs X st t) (w : ∀ D σ H, t' D σ H → t D σ H) : PSs X st t' := ⟨fun pins s σ H D I q => h.run pins s σ H D I (w D σ H q)⟩
end Fx
/-! FxB: laying, showing, keeping; names, constants, operators -/
namespace Fx
open PySem PySem.Spec
open PyProof.Rows L2
section
variable {K : PySem.W.Frag} {XR : XRt} {E : XK} {σ σ0 : L2.St} {G G0 : Gm} {H M H0 M0 : Hp} {ft ft0 : Nat → List Addr}
theorem Sub.upd {M M' : Hp} (s : Sub M M') {p : Addr} {o : HO} (h : M p = none) : Sub M (upd M' p o) := fun a u e => by
  rw [upd_ne (ne_of_none e h)]
  exact s a u e
theorem Sub.upd2 {M M' : Hp} (s : Sub M M') {p : Addr} {o : HO} : Sub (L2.upd M p o) (L2.upd M' p o) := fun a u e => by
  by_cases h : a = p
  · subst h; rw [upd_same] at e ⊢; exact e
  · rw [upd_ne h] at e ⊢; exact s a u e
theorem Sub.nn {M M' : Hp} (s : Sub M M') {p : Addr} (h : M' p = none) : M p = none := by
  cases e : M p with
  | none => rfl
  | some o => rw [s p o e] at h; cases h
theorem SlOk.keep {H' M' : Hp} {F : List Addr} {i : Nat} {s : Sl} (sm : Sub M M') (h : SlOk K σ H M F i s) (k : ∀ a ∈ F, ∀ o, H a = some o → (∀ ps, o ≠ .tbl ps) → H' a = some o) (km : ∀ a ∈ F, M' a = none) : SlOk K σ H' M' F i s := by
  cases s with
  | no => exact h
  | d x => obtain ⟨h1, v, h2, h3⟩ := h; exact ⟨h1, v, h2, h3.mono sm⟩
  | l o => obtain ⟨p, h1, h2, h3⟩ := h; exact ⟨p, h1, h2.keep sm k, km⟩
  | x o => obtain ⟨p, h1, h2, h3⟩ := h; exact ⟨p, h1, h2.keep sm k, km⟩
  | k o => obtain ⟨p, h1, h2, h3⟩ := h; exact ⟨p, h1, h2.keep sm k, km⟩
/-- a new object, hidden -/
theorem SI.lay (S : SI K σ H M G ft) {p : Addr} (h : H p = none) (o : HO) : SI K σ (upd H p o) M G ft where
  len := S.len
  sub := S.sub.upd (S.sub.nn h)
  tab := ⟨S.tab.1.ext fun b u e => by rw [upd_ne (ne_of_none e h)]; exact e, S.tab.2⟩
  slot := fun i s e => (S.slot i s e).keep (Sub.refl _) (fun a ha u ea _ => by rw [upd_ne (ne_of_none ea h)]; exact ea) fun a ha => (S.owned ha).1
  out := S.out
  disj := S.disj
theorem Stp.lay (S : SI K σ H M G ft) {p : Addr} (h : H p = none) (o : HO) : Stp σ G H M ft σ G (upd H p o) M ft :=
  ⟨Sub.refl _, fun _ _ e => .inl e, fun a u e _ _ => by rw [upd_ne (ne_of_none e h)]; exact e, fun a ps e => ⟨ps, by rw [upd_ne (ne_of_none e h)]; exact e⟩, fun K t => t.ext fun b u e => by rw [upd_ne (ne_of_none e h)]; exact e, fun a u e => ⟨u, by rw [upd_ne (ne_of_none e h)]; exact e⟩, fun i _ z => .inl ⟨i, z⟩, fun a xs e => by rw [upd_ne (ne_of_none e h)]; exact e, rfl, fun _ o e => ⟨rfl, rfl, o, e⟩, fun _ _ e => ⟨rfl, rfl, e⟩⟩
theorem SI.fresh (S : SI K σ H M G ft) {p : Addr} (h : H p = none) : ∀ i, p ∉ ft i := fun i z => by
  obtain ⟨_, o, e, _⟩ := S.owned z
  rw [h] at e; cases e
/-- a hidden object is shown -/
theorem SI.show (S : SI K σ H M G ft) {p : Addr} {o : HO} (h : H p = some o) (hm : M p = none) (hn : ∀ i, p ∉ ft i) (nt : ∀ ps, o ≠ .tbl ps := by nofun) : SI K σ H (upd M p o) G ft where
  len := S.len
  sub := fun a u e => by
    by_cases z : a = p
    · subst z; rw [upd_same] at e; cases e; exact h
    · rw [upd_ne z] at e; exact S.sub a u e
  tab := ⟨S.tab.1, nt_upd S.tab.2 nt⟩
  slot := fun i s e => (S.slot i s e).keep ((Sub.refl _).upd hm) (fun a ha u ea _ => ea) fun a ha => by
    rw [upd_ne (show a ≠ p from fun z => hn i (by rw [← z]; exact ha))]
    exact (S.owned ha).1
  out := S.out
  disj := S.disj
theorem Stp.show (P : Stp σ0 G0 H0 M0 ft0 σ G H M ft) {p : Addr} {o : HO} (hm : M p = none) (h : H0 p = none ∨ (∃ i, p ∈ ft0 i) ∨ isTup H0 p) : Stp σ0 G0 H0 M0 ft0 σ G H (upd M p o) ft :=
  ⟨P.mono.upd (P.mono.nn hm), fun a u e => by
    by_cases z : a = p
    · subst z; exact .inr h
    · rw [upd_ne z] at e; exact P.new a u e, P.frame, P.tbls, P.tab, P.there, P.own, P.tups, P.len, P.kx, P.kk⟩
theorem Dd.newL {p : Addr} {xs : List V} {ds : List PyData} (hm : M p = none) (g : DdA K M xs ds) : Dd K (upd M p (.lst xs)) (.ref p) (.list ds) := .lst upd_same (g.mono ((Sub.refl _).upd hm))
theorem Dd.newT {p : Addr} {xs : List V} {ds : List PyData} (hm : M p = none) (g : DdA K M xs ds) : Dd K (upd M p (.tup xs)) (.ref p) (.tuple ds) := .tup (SqT.of upd_same) (g.mono ((Sub.refl _).upd hm))
theorem WP.done {r : Rv} {v : V} {Q : VK} (h : WP K XR E (ROv K σ) σ G0 H0 M0 ft0 (.ok r G) Q) (S : SI K σ H M G ft) (P : Stp σ G0 H0 M0 ft0 σ G H M ft) (R : RvOk K σ H0 H M ft r v) : Q v H := h v H M ft S P R
theorem WP.doneB {b : Bool} {Q : Bool → Hp → Prop} (h : WP K XR E ROb σ G0 H0 M0 ft0 (.ok b G) Q) (S : SI K σ H M G ft) (P : Stp σ G0 H0 M0 ft0 σ G H M ft) : Q b H := h b H M ft S P rfl
/-- a new tuple -/
theorem WP.tup {xs : List V} {ds : List PyData} {p : Addr} {Q : VK} (h : WP K XR E (ROv K σ) σ G0 H0 M0 ft0 (.ok (.d (.tuple ds)) G) Q) (S : SI K σ H M G ft) (P : Stp σ G0 H0 M0 ft0 σ G H M ft) (g : DdA K M xs ds) (hp : H p = none) : Q (.ref p) (upd H p (.tup xs)) := by
  have hm : M p = none := S.sub.nn hp
  exact h (.ref p) _ (upd M p (.tup xs)) ft ((S.lay hp (.tup xs)).show upd_same hm (S.fresh hp)) ((P.trans (Stp.lay S hp _)).show hm (.inl (P.nn hp))) (Dd.newT hm g)
/-- a new list -/
theorem WP.lst {xs : List V} {ds : List PyData} {p : Addr} {Q : VK} (h : WP K XR E (ROv K σ) σ G0 H0 M0 ft0 (.ok (.new (.lst ds)) G) Q) (S : SI K σ H M G ft) (P : Stp σ G0 H0 M0 ft0 σ G H M ft) (g : DdA K M xs ds) (hp : H p = none) : Q (.ref p) (upd H p (.lst xs)) := by
  have hm : M p = none := S.sub.nn hp
  refine h (.ref p) _ M ft (S.lay hp (.lst xs)) (P.trans (Stp.lay S hp _)) ⟨p, [p], rfl, ⟨rfl, xs, upd_same, g⟩, fun a ha => ?_⟩
  cases List.mem_singleton.mp ha
  exact ⟨hm, P.nn hp, S.fresh hp⟩
end

/-! ### reading an answer -/
def aoD : Ao → Option PyData
  | .lst ds => some (.list ds)
  | _ => none
def ownAt (G : Gm) (i : Nat) : Option Ao := match G[i]? with
  | some (.l o) => some o
  | some (.x o) => some o
  | some (.k o) => some o
  | _ => none
def rd (G : Gm) : Rv → Option PyData
  | .d x => some x
  | .own i => (ownAt G i).bind aoD
  | .new o => aoD o
section
variable {K : PySem.W.Frag} {XR : XRt} {E : XK} {σ σ0 : L2.St} {G G0 : Gm} {H M H0 M0 : Hp} {ft ft0 : Nat → List Addr}
theorem own_ok (S : SI K σ H M G ft) {i : Nat} {o : Ao} {v : V} (h : ownAt G i = some o) (r : σ[i]? = some (some v)) : ∃ p, v = .ref p ∧ AoOk K H M o p (ft i) ∧ ∀ a ∈ ft i, M a = none := by
  unfold ownAt at h
  have key : ∀ s, G[i]? = some s → (∃ p, σ[i]? = some (some (.ref p)) ∧ AoOk K H M o p (ft i) ∧ ∀ a ∈ ft i, M a = none) → ∃ p, v = .ref p ∧ AoOk K H M o p (ft i) ∧ ∀ a ∈ ft i, M a = none := fun s _ ⟨p, h1, h2⟩ => by
    rw [r] at h1; cases h1
    exact ⟨p, rfl, h2⟩
  split at h
  · rename_i o' e; cases h; exact key _ e (S.slot i _ e)
  · rename_i o' e; cases h; exact key _ e (S.slot i _ e)
  · rename_i o' e; cases h; exact key _ e (S.slot i _ e)
  · cases h
/-- a list that is read: where it stands, its items -/
theorem rd_list (S : SI K σ H M G ft) {r : Rv} {v : V} {ds : List PyData} (h : rd G r = some (.list ds)) (R : RvOk K σ H0 H M ft r v) : ∃ p xs, v = .ref p ∧ H p = some (.lst xs) ∧ DdA K M xs ds := by
  cases r with
  | d x =>
    cases h
    cases R with
    | lst e g => exact ⟨_, _, rfl, S.sub _ _ e, g⟩
  | own i =>
    have h' : (ownAt G i).bind aoD = some (.list ds) := h
    cases e : ownAt G i with
    | none => (rw [e] at h'; exact nomatch h')
    | some o =>
      rw [e] at h'
      obtain ⟨p, rfl, g, _⟩ := own_ok S e R
      cases o with
      | lst es =>
        cases (show some (PyData.list es) = some (PyData.list ds) from h')
        obtain ⟨_, xs, e2, g2⟩ := g
        exact ⟨p, xs, rfl, e2, g2⟩
      | dct _ => cases h'
      | mat _ => cases h'
  | new o =>
    obtain ⟨p, F, rfl, g, _⟩ := R
    cases o with
    | lst es =>
      cases (show some (PyData.list es) = some (PyData.list ds) from h)
      obtain ⟨_, xs, e2, g2⟩ := g
      exact ⟨p, xs, rfl, e2, g2⟩
    | dct _ => cases h
    | mat _ => cases h
theorem rd_data (S : SI K σ H M G ft) {r : Rv} {v : V} {d : PyData} (h : rd G r = some d) (hd : ∀ ds, d ≠ .list ds) (R : RvOk K σ H0 H M ft r v) : Dd K M v d := by
  cases r with
  | d x => cases h; exact R
  | own i =>
    have h' : (ownAt G i).bind aoD = some d := h
    cases e : ownAt G i with
    | none => (rw [e] at h'; exact nomatch h')
    | some o =>
      rw [e] at h'
      cases o with
      | lst es => cases (show some (PyData.list es) = some d from h'); exact absurd rfl (hd es)
      | dct _ => cases h'
      | mat _ => cases h'
  | new o =>
    cases o with
    | lst es => cases (show some (PyData.list es) = some d from h); exact absurd rfl (hd es)
    | dct _ => cases h
    | mat _ => cases h
theorem rd_tup (S : SI K σ H M G ft) {r : Rv} {v : V} {ds : List PyData} (h : rd G r = some (.tuple ds)) (R : RvOk K σ H0 H M ft r v) : ∃ p xs, v = .ref p ∧ SqT K M p xs ∧ DdA K M xs ds := by
  cases rd_data S h (fun _ z => nomatch z) R with
  | tup e g => exact ⟨_, _, rfl, e, g⟩
theorem rd_int (S : SI K σ H M G ft) {r : Rv} {v : V} {i : Int} (h : rd G r = some (.int i)) (R : RvOk K σ H0 H M ft r v) : v = .int i := by
  cases rd_data S h (fun _ z => nomatch z) R; rfl
theorem rd_bool (S : SI K σ H M G ft) {r : Rv} {v : V} {i : Bool} (h : rd G r = some (.bool i)) (R : RvOk K σ H0 H M ft r v) : v = .bl i := by
  cases rd_data S h (fun _ z => nomatch z) R; rfl
theorem rd_str (S : SI K σ H M G ft) {r : Rv} {v : V} {i : Str} (h : rd G r = some (.str i)) (R : RvOk K σ H0 H M ft r v) : v = .str i := by
  cases rd_data S h (fun _ z => nomatch z) R; rfl
/-- in the whole heap -/
theorem rd_all (S : SI K σ H M G ft) {r : Rv} {v : V} {d : PyData} (h : rd G r = some d) (R : RvOk K σ H0 H M ft r v) : Dd K H v d := by
  by_cases hl : ∃ ds, d = .list ds
  · obtain ⟨ds, rfl⟩ := hl
    obtain ⟨p, xs, rfl, e, g⟩ := rd_list S h R
    exact .lst e (g.mono S.sub)
  · exact (rd_data S h (fun ds z => hl ⟨ds, z⟩) R).mono S.sub
end
def flatD : PyData → Bool
  | .none => true
  | .bool _ => true
  | .int _ => true
  | .str _ => true
  | _ => false
theorem Dd.flat {K : PySem.W.Frag} {M M' : Hp} {v : V} {d : PyData} (h : Dd K M v d) (f : flatD d = true) : Dd K M' v d := by
  cases h with
  | non => exact .non
  | bl b => exact .bl b
  | int i => exact .int i
  | str x => exact .str x
  | lst _ _ => cases f
  | tup _ _ => cases f
  | frz _ _ => cases f

/-! ### what a name, what a constant gives -/
def fVar (i : Nat) : Gm → Res Rv := fun G => match G[i]? with
  | some (.d x) => .ok (.d x) G
  | some (.l _) => .ok (.own i) G
  | some (.x _) => .ok (.own i) G
  | some (.k _) => .ok (.own i) G
  | _ => .bad
def fC (x : PyData) : Gm → Res Rv := fun G => .ok (.d x) G
section
variable {X : Cx} {XR : XRt} {E : XK}
theorem fe_var {i : Nat} {x : Str} {pos : Pos} (h : PE X (.Name x pos) (tVar i)) : PE X (.Name x pos) (tFE X.K XR E (fVar i)) := PE.le h fun σ H Q ⟨M, G, ft, S, w⟩ => by
  unfold fVar at w
  split at w
  · rename_i x e
    obtain ⟨h1, v, h2, h3⟩ := S.slot i _ e
    exact ⟨v, h2, w.done S .refl h3⟩
  · rename_i o e
    obtain ⟨p, h1, _⟩ := S.slot i _ e
    exact ⟨_, h1, w.done S .refl h1⟩
  · rename_i o e
    obtain ⟨p, h1, _⟩ := S.slot i _ e
    exact ⟨_, h1, w.done S .refl h1⟩
  · rename_i o e
    obtain ⟨p, h1, _⟩ := S.slot i _ e
    exact ⟨_, h1, w.done S .refl h1⟩
  · exact w.elim
theorem fe_c {e : Expr} {v : V} {x : PyData} (h : PE X e (tC v)) (hd : ∀ M, Dd X.K M v x) : PE X e (tFE X.K XR E (fC x)) := PE.le h fun σ H Q ⟨M, G, ft, S, w⟩ => w.done S .refl (hd M)
theorem fe_int {i : Int} {j : Nat} {pos : Pos} : PE X (.Constant (.int i) j pos) (tFE X.K XR E (fC (.int i))) := fe_c pe_int fun _ => .int i
theorem fe_bl {b : Bool} {j : Nat} {pos : Pos} : PE X (.Constant (.bool b) j pos) (tFE X.K XR E (fC (.bool b))) := fe_c pe_bl fun _ => .bl b
theorem fe_non {j : Nat} {pos : Pos} : PE X (.Constant .none j pos) (tFE X.K XR E (fC .none)) := fe_c pe_non fun _ => .non
theorem fe_str {x : Str} {j : Nat} {pos : Pos} : PE X (.Constant (.str x) j pos) (tFE X.K XR E (fC (.str x))) := fe_c pe_str fun _ => .str x

/-! ### two-place operators -/
def fOp2 (k : Gm → Rv → Rv → Res Rv) (fa fb : Gm → Res Rv) : Gm → Res Rv := fun G => (fa G).bind fun a G1 => (fb G1).bind fun b G2 => k G2 a b
def Snd2 (K : PySem.W.Frag) (XR : XRt) (E : XK) (r : R2) (k : Gm → Rv → Rv → Res Rv) : Prop :=
  ∀ (σ : L2.St) (H M Ha Hb H0 M0 : Hp) (G G0 : Gm) (ft ft0 : Nat → List Addr) (a b : Rv) (x y : V) (Q : VK), SI K σ H M G ft → Stp σ G0 H0 M0 ft0 σ G H M ft → RvOk K σ Ha H M ft a x → RvOk K σ Hb H M ft b y → WP K XR E (ROv K σ) σ G0 H0 M0 ft0 (k G a b) Q → r x y H Q
theorem op2_le {r : R2} {k : Gm → Rv → Rv → Res Rv} {fa fb : Gm → Res Rv} (hs : Snd2 X.K XR E r k) : ∀ σ H Q, tFE X.K XR E (fOp2 k fa fb) σ H Q → tOp r (tFE X.K XR E fa) (tFE X.K XR E fb) σ H Q := fun σ H Q ⟨M, G, ft, S, w⟩ =>
  bindEE S .refl w fun a G1 x H1 M1 ft1 _ S1 P1 R1 w1 => bindEE S1 P1 w1 fun b G2 y H2 M2 ft2 _ S2 P2 R2 w2 => hs σ H2 M2 H H1 H M G2 G ft2 ft a b x y Q S2 (P1.trans P2) (R1.later P2) R2 w2
theorem fe_op {a b : Expr} {op : Operator} {pos : Pos} {r : R2} {k : Gm → Rv → Rv → Res Rv} {fa fb : Gm → Res Rv} (ho : OpR X (binaryOp op) r) (hs : Snd2 X.K XR E r k) (ha : PE X a (tFE X.K XR E fa)) (hb : PE X b (tFE X.K XR E fb)) :
    PE X (.BinOp a op b pos) (tFE X.K XR E (fOp2 k fa fb)) := PE.le (pe_op ho ha hb) (op2_le hs)
theorem fe_cmp {a b : Expr} {op : CmpOp} {pos : Pos} {r : R2} {k : Gm → Rv → Rv → Res Rv} {fa fb : Gm → Res Rv} (ho : OpR X (compareOp op) r) (hs : Snd2 X.K XR E r k) (ha : PE X a (tFE X.K XR E fa)) (hb : PE X b (tFE X.K XR E fb)) (hm : behindInMarks op b = false) :
    PE X (.Compare a [op] [b] pos) (tFE X.K XR E (fOp2 k fa fb)) := PE.le (pe_cmpR ho ha hb hm) (op2_le hs)
/-- a value as a test -/
def asB : Rv → Gm → Res Bool
  | .d (.bool b), G => .ok b G
  | _, _ => .bad
def fTest (f : Gm → Res Rv) : Gm → Res Bool := fun G => (f G).bind asB
theorem test_le {t : TE} {f : Gm → Res Rv} (h : ∀ σ H Q, tFE X.K XR E f σ H Q → t σ H Q) : ∀ σ H Q, tFT X.K XR E (fTest f) σ H Q → tTest t σ H Q := fun σ H Q ⟨M, G, ft, S, w⟩ =>
  h σ H _ (bindET S .refl w fun r G1 v H1 M1 ft1 _ S1 P1 R1 w1 => by
    unfold asB at w1
    split at w1
    · cases R1; exact ⟨_, rfl, w1.doneB S1 P1⟩
    · exact w1.elim)
theorem ft_cmp {a b : Expr} {op : CmpOp} {pos : Pos} {r : R2} {k : Gm → Rv → Rv → Res Rv} {fa fb : Gm → Res Rv} (ho : OpR X (compareOp op) r) (hs : Snd2 X.K XR E r k) (ha : PE X a (tFE X.K XR E fa)) (hb : PE X b (tFE X.K XR E fb)) (hm : behindInMarks op b = false) :
    PT X (.Compare a [op] [b] pos) (tFT X.K XR E (fTest (fOp2 k fa fb))) := PT.le (pt_cmpR ho ha hb hm) (test_le (op2_le hs))
theorem ft_val {e : Expr} {f : Gm → Res Rv} (h : PE X e (tFE X.K XR E f)) (he : ∀ whole, isTrue e X.env whole = (do let v ← whole; standAt e.pos; holding [v] (truthy v)) := by intro _; rfl) : PT X e (tFT X.K XR E (fTest f)) :=
  PT.le (pt_val h he) (test_le fun _ _ _ q => q)
/-- chains a < b < c -/
def fChain (k k' : Gm → Rv → Rv → Res Rv) (fa fb fc : Gm → Res Rv) : Gm → Res Rv := fun G => (fa G).bind fun a G1 => (fb G1).bind fun b G2 => (k G2 a b).bind fun t G3 => (asB t G3).bind fun t G4 => if t then (fc G4).bind fun c G5 => k' G5 b c else .ok (.d (.bool false)) G4
end
end Fx
/-! FxC: operators, comparisons, tests, displays, subscripts, slices -/
namespace Fx
open PySem PySem.Spec
open PyProof.Rows L2

/-! ### nested data -/
def flatS : PyData → Bool
  | .none => true
  | .bool _ => true
  | .int _ => true
  | .str x => PyData.strOk x
  | _ => false
def okD : Nat → PyData → Bool
  | 0, d => flatS d
  | n + 1, .list ds => ds.all (okD n)
  | n + 1, .tuple ds => ds.all (okD n)
  | _ + 1, d => flatS d
theorem canLayAll_of {ds : List PyData} (h : ∀ d ∈ ds, d.canLay0 = true) : PyData.canLayAll0 ds = true := by
  induction ds with
  | nil => simp [PyData.canLayAll0]
  | cons d r ih => simp [PyData.canLayAll0, h d List.mem_cons_self, ih fun e he => h e (List.mem_cons_of_mem _ he)]
theorem okD_shaped : ∀ (n : Nat) (d : PyData), okD n d = true → d.canLay0 = true ∧ d.depth ≤ n := by
  intro n
  induction n with
  | zero =>
    intro d h
    cases d with
    | list _ => cases h
    | tuple _ => cases h
    | dict _ => cases h
    | none => simp [PyData.canLay0, PyData.depth]
    | bool _ => simp [PyData.canLay0, PyData.depth]
    | int _ => simp [PyData.canLay0, PyData.depth]
    | str _ => simp only [PyData.canLay0, PyData.depth, Nat.zero_le, and_true]; exact h
  | succ n ih =>
    intro d h
    have many : ∀ ds : List PyData, ds.all (okD n) = true → (PyData.canLayAll0 ds = true) ∧ PyData.depthAll ds ≤ n := fun ds hd => by
      induction ds with
      | nil => simp [PyData.canLayAll0, PyData.depthAll]
      | cons d r ihr =>
        simp only [List.all_cons, Bool.and_eq_true] at hd
        obtain ⟨h1, h2⟩ := ih d hd.1
        obtain ⟨h3, h4⟩ := ihr hd.2
        simp only [PyData.canLayAll0, PyData.depthAll, h1, h3, Bool.and_self, true_and]
        omega
    cases d with
    | list ds =>
      obtain ⟨h1, h2⟩ := many ds h
      simp only [PyData.canLay0, PyData.depth, h1, true_and]; omega
    | tuple ds =>
      obtain ⟨h1, h2⟩ := many ds h
      simp only [PyData.canLay0, PyData.depth, h1, true_and]; omega
    | dict _ => cases h
    | none => simp [PyData.canLay0, PyData.depth]
    | bool _ => simp [PyData.canLay0, PyData.depth]
    | int _ => simp [PyData.canLay0, PyData.depth]
    | str _ => simp only [PyData.canLay0, PyData.depth, Nat.zero_le, and_true]; exact h

mutual
theorem Dd.dp {K : PySem.W.Frag} {M : Hp} : ∀ {v : V} {d : PyData}, Dd K M v d → d.canLay0 = true → Dp K M v d
  | _, _, .non, _ => .non
  | _, _, .bl b, _ => .bl b
  | _, _, .int i, _ => .int i
  | _, _, .str x, _ => .str x
  | _, _, .lst h g, c => .lst (SqL.of h) (g.dp (by simpa [PyData.canLay0] using c))
  | _, _, .tup h g, c => .tup h (g.dp (by simpa [PyData.canLay0] using c))
  | _, _, .frz h g, c => by simp [PyData.canLay0] at c
theorem DdA.dp {K : PySem.W.Frag} {M : Hp} : ∀ {vs : List V} {ds : List PyData}, DdA K M vs ds → PyData.canLayAll0 ds = true → DpAll K M vs ds
  | _, _, .nil, _ => .nil
  | _, _, .cons h g, c => by
    simp only [PyData.canLayAll0, Bool.and_eq_true] at c
    exact .cons (h.dp c.1) (g.dp c.2)
end
theorem okD_dp {K : PySem.W.Frag} {H : Hp} {v : V} {d : PyData} (h : Dd K H v d) {n : Nat} (hn : n ≤ 64) (o : okD n d = true) : Dp K H v d ∧ SeqAt.shaped d = true := by
  obtain ⟨h1, h2⟩ := okD_shaped n d o
  refine ⟨h.dp h1, ?_⟩
  unfold SeqAt.shaped
  rw [h1, decide_eq_true (Nat.le_trans h2 hn)]
  rfl

/-! ### flat answers -/
def kF2 (op : PyData → PyData → Option PyData) : Gm → Rv → Rv → Res Rv := fun G a b => match rd G a, rd G b with
  | some x, some y => match op x y with
    | some z => .ok (.d z) G
    | none => .bad
  | _, _ => .bad
section
variable {K : PySem.W.Frag} {XR : XRt} {E : XK}
theorem snd_F2 {r : R2} {op : PyData → PyData → Option PyData} (h : ∀ (H : Hp) (x y : V) (dx dy z : PyData) (Q : VK), Dd K H x dx → Dd K H y dy → op dx dy = some z → (∀ v, (∀ M, Dd K M v z) → Q v H) → r x y H Q) : Snd2 K XR E r (kF2 op) := by
  intro σ H M Ha Hb H0 M0 G G0 ft ft0 a b x y Q S P Ra Rb w
  unfold kF2 at w
  split at w
  · rename_i dx dy ea eb
    split at w
    · rename_i z ez
      exact h H x y dx dy z Q (rd_all S ea Ra) (rd_all S eb Rb) ez fun v hv => w.done S P (hv M)
    · exact w.elim
  · exact w.elim
def opI (f : Int → Int → Option PyData) : PyData → PyData → Option PyData
  | .int i, .int j => f i j
  | _, _ => none
theorem snd_I {C : Int → Int → Prop} {g : Int → Int → V} {f : Int → Int → Option PyData} (hf : ∀ i j z, f i j = some z → C i j ∧ ∀ M, Dd K M (g i j) z) : Snd2 K XR E (rI C g) (kF2 (opI f)) := snd_F2 fun H x y dx dy z Q hx hy e q => by
  cases hx with
  | int i =>
    cases hy with
    | int j =>
      obtain ⟨c, d⟩ := hf i j z e
      exact ⟨i, j, rfl, rfl, c, q _ d⟩
    | _ => cases e
  | _ => cases e
theorem snd_I0 {g : Int → Int → V} {f : Int → Int → PyData} (hf : ∀ i j M, Dd K M (g i j) (f i j)) : Snd2 K XR E (rI0 g) (kF2 (opI fun i j => some (f i j))) := snd_F2 fun H x y dx dy z Q hx hy e q => by
  cases hx with
  | int i =>
    cases hy with
    | int j =>
      cases e
      exact ⟨i, j, rfl, rfl, q _ (hf i j)⟩
    | _ => cases e
  | _ => cases e
def kSub : Gm → Rv → Rv → Res Rv := kF2 (opI fun i j => some (.int (i - j)))
theorem snd_sub : Snd2 K XR E (rI0 fun i j => .int (i - j)) kSub := snd_I0 fun i j M => .int _
def kLt : Gm → Rv → Rv → Res Rv := kF2 (opI fun i j => some (.bool (decide (i < j))))
def kLe : Gm → Rv → Rv → Res Rv := kF2 (opI fun i j => some (.bool (decide (i ≤ j))))
def kGt : Gm → Rv → Rv → Res Rv := kF2 (opI fun i j => some (.bool (decide (j < i))))
def kGe : Gm → Rv → Rv → Res Rv := kF2 (opI fun i j => some (.bool (decide (j ≤ i))))
theorem snd_lt : Snd2 K XR E (rI0 fun i j => .bl (decide (i < j))) kLt := snd_I0 fun i j M => .bl _
theorem snd_le : Snd2 K XR E (rI0 fun i j => .bl (decide (i ≤ j))) kLe := snd_I0 fun i j M => .bl _
theorem snd_gt : Snd2 K XR E (rI0 fun i j => .bl (decide (j < i))) kGt := snd_I0 fun i j M => .bl _
theorem snd_ge : Snd2 K XR E (rI0 fun i j => .bl (decide (j ≤ i))) kGe := snd_I0 fun i j M => .bl _
/-- // and % : any divisor but 0 below 2^30 in size; a positive one below 2^9000 -/
def rDivA : R2 := fun x y H Q => rI CDivN (fun i j => .int (i.fdiv j)) x y H Q ∨ rI CDivW (fun i j => .int (i / j)) x y H Q
theorem op_divA {X : Cx} : OpR X (binaryOp .FloorDiv) rDivA := op_fdivN.or op_fdivW
def divOk (j : Int) : Bool := decide (j ≠ 0) && (decide (j.natAbs < 1073741824) || (decide (0 < j) && decide (j.natAbs.log2 < 9000)))
def kDiv : Gm → Rv → Rv → Res Rv := kF2 (opI fun i j => if divOk j then some (.int (i.fdiv j)) else none)
def kMod : Gm → Rv → Rv → Res Rv := kF2 (opI fun i j => if j ≠ 0 then some (.int (i.fmod j)) else none)
theorem snd_div : Snd2 K XR E rDivA kDiv := snd_F2 fun H x y dx dy z Q hx hy e q => by
  cases hx with
  | int i =>
    cases hy with
    | int j =>
      have e' : (if divOk j then some (PyData.int (i.fdiv j)) else none) = some z := e
      split at e'
      · rename_i c
        cases e'
        unfold divOk at c
        simp only [Bool.and_eq_true, Bool.or_eq_true, decide_eq_true_eq] at c
        rcases c.2 with c2 | ⟨c2, c3⟩
        · exact .inl ⟨i, j, rfl, rfl, ⟨c.1, c2⟩, q _ fun M => .int _⟩
        · refine .inr ⟨i, j, rfl, rfl, ⟨c2, c3⟩, ?_⟩
          show Q (.int (i / j)) H
          rw [← Int.fdiv_eq_ediv_of_nonneg _ (Int.le_of_lt c2)]
          exact q _ fun M => .int _
      · cases e'
    | _ => cases e
  | _ => cases e
theorem snd_mod : Snd2 K XR E (rI (fun _ j => j ≠ 0) fun i j => .int (i.fmod j)) kMod := snd_I fun i j z e => by
  split at e
  · rename_i c; cases e; exact ⟨c, fun M => .int _⟩
  · cases e
/-! ### == and != -/
def opEq (x y : PyData) : Option PyData := if okD 60 x && okD 60 y then some (.bool (PyData.eqv x y)) else none
def opNe (x y : PyData) : Option PyData := if okD 60 x && okD 60 y then some (.bool (!PyData.eqv x y)) else none
def kEq : Gm → Rv → Rv → Res Rv := kF2 opEq
def kNe : Gm → Rv → Rv → Res Rv := kF2 opNe
theorem snd_eq : Snd2 K XR E (rEqD K) kEq := snd_F2 fun H x y dx dy z Q hx hy e q => by
  unfold opEq at e
  split at e
  · rename_i c
    cases e
    simp only [Bool.and_eq_true] at c
    obtain ⟨h1, h2⟩ := okD_dp hx (by decide) c.1
    obtain ⟨h3, h4⟩ := okD_dp hy (by decide) c.2
    exact ⟨dx, dy, h1, h3, h2, h4, q _ fun M => .bl _⟩
  · cases e
theorem snd_ne : Snd2 K XR E (rNeD K) kNe := snd_F2 fun H x y dx dy z Q hx hy e q => by
  unfold opNe at e
  split at e
  · rename_i c
    cases e
    simp only [Bool.and_eq_true] at c
    obtain ⟨h1, h2⟩ := okD_dp hx (by decide) c.1
    obtain ⟨h3, h4⟩ := okD_dp hy (by decide) c.2
    exact ⟨dx, dy, h1, h3, h2, h4, q _ fun M => .bl _⟩
  · cases e
/-! ### is None, is of bools -/
def isNoneD : PyData → Bool
  | .none => true
  | _ => false
theorem isNoneD_ok {H : Hp} {v : V} {d : PyData} (h : Dd K H v d) : decide (v = .non) = isNoneD d := by
  cases h <;> rfl
def opIsN : PyData → PyData → Option PyData
  | x, .none => some (.bool (isNoneD x))
  | _, _ => none
def opNotN : PyData → PyData → Option PyData
  | x, .none => some (.bool (!isNoneD x))
  | _, _ => none
def kIsN : Gm → Rv → Rv → Res Rv := kF2 opIsN
def kNotN : Gm → Rv → Rv → Res Rv := kF2 opNotN
theorem snd_isN : Snd2 K XR E (fun x y H Q => y = .non ∧ Q (.bl (decide (x = .non))) H) kIsN := snd_F2 fun H x y dx dy z Q hx hy e q => by
  cases hy with
  | non => cases e; refine ⟨rfl, ?_⟩; rw [isNoneD_ok hx]; exact q _ fun M => .bl _
  | _ => cases e
theorem snd_notN : Snd2 K XR E (fun x y H Q => y = .non ∧ Q (.bl (!decide (x = .non))) H) kNotN := snd_F2 fun H x y dx dy z Q hx hy e q => by
  cases hy with
  | non => cases e; refine ⟨rfl, ?_⟩; rw [isNoneD_ok hx]; exact q _ fun M => .bl _
  | _ => cases e
def opB (f : Bool → Bool → Bool) : PyData → PyData → Option PyData
  | .bool a, .bool b => some (.bool (f a b))
  | _, _ => none
def kIsB : Gm → Rv → Rv → Res Rv := kF2 (opB fun a b => decide (a = b))
def kNotB : Gm → Rv → Rv → Res Rv := kF2 (opB fun a b => !decide (a = b))
theorem snd_isB : Snd2 K XR E rIsB kIsB := snd_F2 fun H x y dx dy z Q hx hy e q => by
  cases hx with
  | bl a =>
    cases hy with
    | bl b => cases e; exact ⟨a, b, rfl, rfl, q _ fun M => .bl _⟩
    | _ => cases e
  | _ => cases e
theorem snd_notB : Snd2 K XR E rNotB kNotB := snd_F2 fun H x y dx dy z Q hx hy e q => by
  cases hx with
  | bl a =>
    cases hy with
    | bl b => cases e; exact ⟨a, b, rfl, rfl, q _ fun M => .bl _⟩
    | _ => cases e
  | _ => cases e
/-! ### in, not in, of flat things -/
theorem eqV_ok {H H' : Hp} {x y : V} {dx dy : PyData} (hx : Dd K H x dx) (hy : Dd K H' y dy) (fx : flatD dx = true) (fy : flatD dy = true) : eqV x y = PyData.eqv dx dy := by
  cases hx <;> first | (cases fx; done) | (cases hy <;> first | (cases fy; done) | simp [eqV, PyData.eqv])
theorem flatV_ok {H : Hp} {x : V} {dx : PyData} (hx : Dd K H x dx) (fx : flatD dx = true) : flatV x = true := by
  cases hx <;> first | (cases fx; done) | rfl
theorem flatA_ok {H : Hp} : ∀ {xs : List V} {ds : List PyData}, DdA K H xs ds → ds.all flatD = true → xs.all flatV = true
  | _, _, .nil, _ => rfl
  | _, _, .cons h t, f => by
    simp only [List.all_cons, Bool.and_eq_true] at f ⊢
    exact ⟨flatV_ok h f.1, flatA_ok t f.2⟩
def inD (x : PyData) (ds : List PyData) : Bool := ds.any fun y => PyData.eqv y x
theorem inV_ok {H : Hp} {x : V} {dx : PyData} (hx : Dd K H x dx) (fx : flatD dx = true) : ∀ {xs : List V} {ds : List PyData}, DdA K H xs ds → ds.all flatD = true → inV x xs = inD dx ds
  | _, _, .nil, _ => rfl
  | _, _, .cons h t, f => by
    simp only [List.all_cons, Bool.and_eq_true] at f
    have ih := inV_ok hx fx t f.2
    unfold inV inD at ih ⊢
    rw [List.any_cons, List.any_cons, ih, eqV_ok h hx f.1 fx]
def opInL (neg : Bool) (x : PyData) (ds : List PyData) : Option PyData := if flatD x && ds.all flatD then some (.bool (if neg then !inD x ds else inD x ds)) else none
def opIn (neg : Bool) : PyData → PyData → Option PyData
  | x, .list ds => opInL neg x ds
  | x, .tuple ds => opInL neg x ds
  | _, _ => none
def kIn : Gm → Rv → Rv → Res Rv := kF2 (opIn false)
def kNin : Gm → Rv → Rv → Res Rv := kF2 (opIn true)
theorem opInL_ok {neg : Bool} {H : Hp} {x : V} {dx z : PyData} {xs : List V} {ds : List PyData} {Q : VK} (hx : Dd K H x dx) (g : DdA K H xs ds) (e : opInL neg dx ds = some z) (q : ∀ v, (∀ M, Dd K M v z) → Q v H) :
    flatV x = true ∧ xs.all flatV = true ∧ Q (.bl (if neg then !inV x xs else inV x xs)) H := by
  unfold opInL at e
  split at e
  · rename_i c
    simp only [Bool.and_eq_true] at c
    cases e
    refine ⟨flatV_ok hx c.1, flatA_ok g c.2, ?_⟩
    rw [inV_ok hx c.1 g c.2]
    exact q _ fun M => .bl _
  · cases e
theorem snd_In {neg : Bool} : Snd2 K XR E (rIn K neg) (kF2 (opIn neg)) := snd_F2 fun H x y dx dy z Q hx hy e q => by
  cases hy with
  | lst h g => exact ⟨_, _, rfl, .inl (SqL.of h), opInL_ok hx g e q⟩
  | tup h g => exact ⟨_, _, rfl, .inr h, opInL_ok hx g e q⟩
  | _ => cases e
theorem snd_in : Snd2 K XR E (rIn K false) kIn := snd_In
theorem snd_nin : Snd2 K XR E (rIn K true) kNin := snd_In
/-! ### + of ints, lists, tuples -/
def rAddA (K : PySem.W.Frag) : R2 := fun x y H Q => rI0 (fun i j => .int (i + j)) x y H Q ∨ (rCat x y H Q ∨ rCatA K x y H Q)
theorem op_addA {X : Cx} : OpR X (binaryOp .Add) (rAddA X.K) := op_add.or (op_cat.or op_catA)
def lim (n : Nat) : Bool := decide (n ≤ 16777216)
theorem lim_ok {n : Nat} (h : lim n = true) : n ≤ sizeLine := by rw [sizeLine_eq]; exact of_decide_eq_true h
def kAdd : Gm → Rv → Rv → Res Rv := fun G a b => match rd G a, rd G b with
  | some (.int i), some (.int j) => .ok (.d (.int (i + j))) G
  | some (.list xs), some (.list ys) => if lim (xs.length + ys.length) then .ok (.new (.lst (xs ++ ys))) G else .bad
  | some (.tuple xs), some (.tuple ys) => if lim (xs.length + ys.length) then .ok (.d (.tuple (xs ++ ys))) G else .bad
  | _, _ => .bad
theorem snd_add : Snd2 K XR E (rAddA K) kAdd := by
  intro σ H M Ha Hb H0 M0 G G0 ft ft0 a b x y Q S P Ra Rb w
  unfold kAdd at w
  split at w
  · rename_i i j ea eb
    cases rd_int S ea Ra
    cases rd_int S eb Rb
    exact .inl ⟨i, j, rfl, rfl, w.done S P (.int _)⟩
  · rename_i xs ys ea eb
    split at w
    · rename_i c
      obtain ⟨p, us, rfl, e1, g1⟩ := rd_list S ea Ra
      obtain ⟨q, vs, rfl, e2, g2⟩ := rd_list S eb Rb
      exact .inr (.inl ⟨p, q, us, vs, rfl, rfl, e1, e2, by rw [g1.length, g2.length]; exact lim_ok c, fun l hl => w.lst S P (g1.append g2) hl⟩)
    · exact w.elim
  · rename_i xs ys ea eb
    split at w
    · rename_i c
      obtain ⟨p, us, rfl, e1, g1⟩ := rd_tup S ea Ra
      obtain ⟨q, vs, rfl, e2, g2⟩ := rd_tup S eb Rb
      refine .inr (.inr ⟨p, q, us, vs, rfl, rfl, S.sub.sqT e1, S.sub.sqT e2, by rw [g1.length, g2.length]; exact lim_ok c, fun z => ?_, fun _ z => ?_, fun _ _ l hl => w.tup S P (g1.append g2) hl⟩)
      · subst z
        cases g1.nil_iff.mp rfl
        exact w.done S P (.tup e2 g2)
      · subst z
        cases g2.nil_iff.mp rfl
        rw [List.append_nil] at w
        exact w.done S P (.tup e1 g1)
    · exact w.elim
  · exact w.elim
end
end Fx
/-! FxD: arguments, displays, and | or | not, subscripts, slices, built-ins -/
namespace Fx
open PySem PySem.Spec
open PyProof.Rows L2
def fNil : Gm → Res (List Rv) := fun G => .ok [] G
def fCons (f : Gm → Res Rv) (fs : Gm → Res (List Rv)) : Gm → Res (List Rv) := fun G => (f G).bind fun r G1 => (fs G1).bind fun rs G2 => .ok (r :: rs) G2
section
variable {X : Cx} {XR : XRt} {E : XK}
theorem fa_nil : PA X [] (tFA X.K XR E fNil) := PA.le pa_nil fun σ H Q ⟨M, G, ft, S, w⟩ => w [] H M ft S .refl .nil
theorem fa_cons {e : Expr} {es : List Expr} {f : Gm → Res Rv} {fs : Gm → Res (List Rv)} (he : PE X e (tFE X.K XR E f)) (hr : PA X es (tFA X.K XR E fs)) (hs : starEach (e :: es) X.env = (false, eval e X.env) :: starEach es X.env := by rfl) :
    PA X (e :: es) (tFA X.K XR E (fCons f fs)) := PA.le (pa_cons he hr hs) fun σ H Q ⟨M, G, ft, S, w⟩ =>
  bindEA S .refl w fun r G1 v H1 M1 ft1 _ S1 P1 R1 w1 => bindAA S1 P1 w1 fun rs G2 vs H2 M2 ft2 _ S2 P2 R2 w2 => by
    obtain ⟨F, R⟩ := R1.f
    exact w2 (v :: vs) H2 M2 ft2 S2 (P1.trans P2) (.cons H1 F (fun a z => P1.nn z) (R.later P2) (fun a ha z => by
      obtain ⟨o, e, _⟩ := R.there a ha
      rw [z] at e; cases e) R2)
end
section
variable {K : PySem.W.Frag} {XR : XRt} {E : XK} {σ σ0 : L2.St} {G G0 : Gm} {H M H0 M0 : Hp} {ft ft0 : Nat → List Addr}
theorem RvsOk.one {r : Rv} {vs : List V} (h : RvsOk K σ H M ft H0 [r] vs) : ∃ v, vs = [v] ∧ RvOk K σ H0 H M ft r v := by
  cases h with
  | cons H1 F h0 h hn t => cases t; exact ⟨_, rfl, h.ok⟩
theorem RvsOk.two {r r' : Rv} {vs : List V} (h : RvsOk K σ H M ft H0 [r, r'] vs) : ∃ v v', vs = [v, v'] ∧ RvOk K σ H0 H M ft r v ∧ RvOk K σ H0 H M ft r' v' := by
  cases h with
  | cons H1 F h0 h hn t =>
    obtain ⟨v, rfl, R⟩ := t.one
    exact ⟨_, _, rfl, h.ok, R.base h0⟩
theorem RvsOk.len {rs : List Rv} {vs : List V} {H0 : Hp} (h : RvsOk K σ H M ft H0 rs vs) : vs.length = rs.length := by
  induction h with
  | nil => rfl
  | cons H1 F h0 h hn t ih => rw [List.length_cons, List.length_cons, ih]
end
/-! ### keeping an answer as data -/
def retain (G : Gm) : Rv → Option (PyData × Gm)
  | .d x => some (x, G)
  | .new (.lst ds) => some (.list ds, G)
  | .own i => match G[i]? with
    | some (.l (.lst ds)) => some (.list ds, G.set i (.d (.list ds)))
    | _ => none
  | _ => none
def retainAll : Gm → List Rv → Option (List PyData × Gm)
  | G, [] => some ([], G)
  | G, r :: rs => match retain G r with
    | some (d, G1) => match retainAll G1 rs with
      | some (ds, G2) => some (d :: ds, G2)
      | none => none
    | none => none
def ftDrop (ft : Nat → List Addr) (i : Nat) : Nat → List Addr := fun j => if j = i then [] else ft j
theorem ftDrop_sub {ft : Nat → List Addr} {i j : Nat} {a : Addr} (h : a ∈ ftDrop ft i j) : a ∈ ft j := by
  unfold ftDrop at h
  split at h
  · cases h
  · exact h
section
variable {K : PySem.W.Frag} {XR : XRt} {E : XK} {σ σ0 : L2.St} {G G0 : Gm} {H M H0 M0 : Hp} {ft ft0 : Nat → List Addr}
/-- a slot's list is shown: it is data from now on -/
theorem SI.freeze (S : SI K σ H M G ft) {i : Nat} {ds : List PyData} (h : G[i]? = some (.l (.lst ds))) : ∃ p xs, σ[i]? = some (some (.ref p)) ∧ H p = some (.lst xs) ∧ M p = none ∧ p ∈ ft i ∧ DdA K M xs ds ∧ SI K σ H (upd M p (.lst xs)) (G.set i (.d (.list ds))) (ftDrop ft i) := by
  obtain ⟨p, h1, ⟨hF, xs, h2, h3⟩, h4⟩ := S.slot i _ h
  have hp : p ∈ ft i := by rw [hF]; exact List.mem_singleton.mpr rfl
  have hm := h4 p hp
  refine ⟨p, xs, h1, h2, hm, hp, h3, ?_, ?_, fun j s e => ?_, ⟨S.tab.1, nt_upd S.tab.2 (fun _ z => nomatch z)⟩, fun j hj => ?_, fun j k a ha hb => S.disj j k a (ftDrop_sub ha) (ftDrop_sub hb)⟩
  · rw [List.length_set]; exact S.len
  · intro a u e
    by_cases z : a = p
    · subst z; rw [upd_same] at e; cases e; exact h2
    · rw [upd_ne z] at e; exact S.sub a u e
  · by_cases z : j = i
    · subst z
      rw [List.getElem?_set_self (by exact (List.getElem?_eq_some_iff.mp h).1)] at e
      cases e
      refine ⟨by unfold ftDrop; rw [if_pos rfl], .ref p, h1, Dd.newL hm h3⟩
    · rw [List.getElem?_set_ne (Ne.symm z)] at e
      have q := S.slot j s e
      have ej : ftDrop ft i j = ft j := by unfold ftDrop; rw [if_neg z]
      rw [ej]
      exact q.keep ((Sub.refl _).upd hm) (fun a ha u ea _ => ea) fun a ha => by
        rw [upd_ne (show a ≠ p from fun y => z (S.disj j i a ha (by rw [y]; exact hp)))]
        exact (S.owned ha).1
  · rw [List.length_set] at hj
    unfold ftDrop
    split
    · rfl
    · exact S.out j hj
theorem Stp.freeze (P : Stp σ0 G0 H0 M0 ft0 σ G H M ft) {i : Nat} {ds : List PyData} (h : G[i]? = some (.l (.lst ds))) {p : Addr} {xs : List V} (hp : p ∈ ft i) (hm : M p = none) : Stp σ0 G0 H0 M0 ft0 σ (G.set i (.d (.list ds))) H (upd M p (.lst xs)) (ftDrop ft i) := by
  have key : ∀ j s, G0[j]? = some s → (∃ o, s = .x o ∨ s = .k o) → (∃ o, G[j]? = some (.x o) ∨ G[j]? = some (.k o)) → j ≠ i := fun j s _ _ ⟨o, z⟩ y => by
    subst y
    rcases z with z | z <;> (rw [h] at z; cases z)
  refine ⟨P.mono.upd (P.mono.nn hm), fun a u e => ?_, P.frame, P.tbls, P.tab, P.there, fun j a ha => P.own j a (ftDrop_sub ha), P.tups, by rw [List.length_set]; exact P.len, fun j o e => ?_, fun j o e => ?_⟩
  · by_cases z : a = p
    · subst z
      rcases P.own i a hp with y | y
      · exact .inr (.inr (.inl y))
      · exact .inr (.inl y)
    · rw [upd_ne z] at e; exact P.new a u e
  · obtain ⟨h1, h2, o', h3⟩ := P.kx j o e
    have ne := key j _ e ⟨o, .inl rfl⟩ ⟨o', .inl h3⟩
    refine ⟨h1, ?_, o', by rw [List.getElem?_set_ne (Ne.symm ne)]; exact h3⟩
    unfold ftDrop
    rw [if_neg ne]; exact h2
  · obtain ⟨h1, h2, h3⟩ := P.kk j o e
    have ne := key j _ e ⟨o, .inr rfl⟩ ⟨o, .inr h3⟩
    refine ⟨h1, ?_, by rw [List.getElem?_set_ne (Ne.symm ne)]; exact h3⟩
    unfold ftDrop
    rw [if_neg ne]; exact h2
/-- what an answer leaves when it is kept -/
theorem retain_ok (S : SI K σ H M G ft) (P : Stp σ0 G0 H0 M0 ft0 σ G H M ft) {r : Rv} {v : V} {d : PyData} {G' : Gm} {Hb : Hp} {F : List Addr} (hb : ∀ a, Hb a = none → H0 a = none) (h : retain G r = some (d, G')) (R : RvF K σ Hb H M ft F r v) :
    ∃ M' ft', SI K σ H M' G' ft' ∧ Stp σ0 G0 H0 M0 ft0 σ G' H M' ft' ∧ Sub M M' ∧ Dd K M' v d ∧ (∀ i a, a ∈ ft' i → a ∈ ft i) ∧ ∀ a, M a = none → M' a ≠ none → a ∈ F ∨ ∃ i, a ∈ ft i := by
  cases r with
  | d x => cases h; exact ⟨M, ft, S, P, Sub.refl _, R.1, fun _ _ z => z, fun a z y => absurd z y⟩
  | own i =>
    have h' : (match G[i]? with | some (.l (.lst ds)) => some (PyData.list ds, G.set i (.d (.list ds))) | _ => none) = some (d, G') := h
    split at h'
    · rename_i ds e
      cases h'
      obtain ⟨p, xs, h1, h2, hm, hp, h3, S'⟩ := S.freeze e
      have hv : σ[i]? = some (some v) := R.1
      rw [h1] at hv; cases hv
      refine ⟨_, _, S', P.freeze e hp hm, (Sub.refl _).upd hm, Dd.newL hm h3, fun j a ha => ftDrop_sub ha, fun a z y => .inr ⟨i, ?_⟩⟩
      by_cases q : a = p
      · rw [q]; exact hp
      · rw [upd_ne q] at y; exact absurd z y
    · cases h'
  | new o =>
    cases o with
    | lst ds =>
      cases h
      obtain ⟨p, rfl, ⟨hF, xs, h1, h2⟩, h3⟩ := R
      have hp : p ∈ F := by rw [hF]; exact List.mem_singleton.mpr rfl
      obtain ⟨hm, h0, hn⟩ := h3 p hp
      refine ⟨_, ft, S.show h1 hm hn, P.show hm (.inl (hb p h0)), (Sub.refl _).upd hm, Dd.newL hm h2, fun _ _ z => z, fun a z y => .inl ?_⟩
      by_cases q : a = p
      · rw [q]; exact hp
      · rw [upd_ne q] at y; exact absurd z y
    | dct _ => cases h
    | mat _ => cases h
/-- the others, behind -/
theorem RvF.shown {r : Rv} {v : V} {Hb : Hp} {F : List Addr} {M' : Hp} {ft' : Nat → List Addr} (h : RvF K σ Hb H M ft F r v) (s : Sub M M') (hf : ∀ i a, a ∈ ft' i → a ∈ ft i) (hn : ∀ a ∈ F, M a = none → M' a = none) : RvF K σ Hb H M' ft' F r v := by
  cases r with
  | d x => exact ⟨h.1.mono s, h.2⟩
  | own i => exact h
  | new o =>
    obtain ⟨p, e, g, k⟩ := h
    exact ⟨p, e, g.keep s fun a _ o z _ => z, fun a ha => ⟨hn a ha (k a ha).1, (k a ha).2.1, fun i z => (k a ha).2.2 i (hf i a z)⟩⟩
theorem RvF.out {r : Rv} {v : V} {Hb : Hp} {F : List Addr} (h : RvF K σ Hb H M ft F r v) : ∀ a ∈ F, Hb a = none ∧ ∀ i, a ∉ ft i := by
  cases r with
  | d x => obtain ⟨_, rfl⟩ := h; intro a ha; cases ha
  | own i => obtain ⟨_, rfl⟩ := h; intro a ha; cases ha
  | new o => obtain ⟨p, e, g, k⟩ := h; exact fun a ha => (k a ha).2
theorem RvsOk.shown {M' : Hp} {ft' : Nat → List Addr} {Hc : Hp} {F : List Addr} (s : Sub M M') (hf : ∀ i a, a ∈ ft' i → a ∈ ft i) (hn : ∀ a, M a = none → M' a ≠ none → a ∈ F ∨ ∃ i, a ∈ ft i) (hF : ∀ a ∈ F, Hc a ≠ none) :
    ∀ {rs : List Rv} {vs : List V} {Hb : Hp}, (∀ a, Hb a = none → Hc a = none) → RvsOk K σ H M ft Hb rs vs → RvsOk K σ H M' ft' Hb rs vs
  | _, _, _, _, .nil => .nil
  | _, _, _, hb, .cons H1 F1 h0 h hn1 t => .cons H1 F1 h0 (h.shown s hf fun a ha z => by
      cases y : M' a with
      | none => rfl
      | some o =>
        obtain ⟨q1, q2⟩ := h.out a ha
        rcases hn a z (by rw [y]; exact Option.some_ne_none _) with w | ⟨i, w⟩
        · exact absurd (hb a q1) (hF a w)
        · exact absurd w (q2 i)) hn1 (RvsOk.shown s hf hn hF (fun a z => hb a (h0 a z)) t)
theorem retainAll_ok : ∀ (rs : List Rv) {vs : List V} {ds : List PyData} {G G' : Gm} {M : Hp} {ft : Nat → List Addr} {Hb : Hp}, SI K σ H M G ft → Stp σ0 G0 H0 M0 ft0 σ G H M ft → (∀ a, Hb a = none → H0 a = none) → retainAll G rs = some (ds, G') → RvsOk K σ H M ft Hb rs vs →
    ∃ M' ft', SI K σ H M' G' ft' ∧ Stp σ0 G0 H0 M0 ft0 σ G' H M' ft' ∧ Sub M M' ∧ DdA K M' vs ds
  | [], _, _, _, _, M, ft, _, S, P, _, h, .nil => by cases h; exact ⟨M, ft, S, P, Sub.refl _, .nil⟩
  | r :: rs, _, _, G, _, M, ft, Hb, S, P, hb, h, .cons H1 F h0 R hn t => by
    unfold retainAll at h
    split at h
    · rename_i d G1 e1
      split at h
      · rename_i ds G2 e2
        cases h
        obtain ⟨M1, ft1, S1, P1, s1, D1, hf1, hn1⟩ := retain_ok S P hb e1 R
        obtain ⟨M2, ft2, S2, P2, s2, D2⟩ := retainAll_ok rs S1 P1 (fun a z => hb a (h0 a z)) e2 (RvsOk.shown (Hc := H1) s1 hf1 hn1 hn (fun a z => z) t)
        exact ⟨M2, ft2, S2, P2, s1.trans s2, .cons (D1.mono s2) D2⟩
      · cases h
    · cases h
end
/-! ### displays -/
def kTup (G : Gm) (rs : List Rv) : Res Rv := match retainAll G rs with
  | some (ds, G') => if lim ds.length then .ok (.d (.tuple ds)) G' else .bad
  | none => .bad
def kLst (G : Gm) (rs : List Rv) : Res Rv := match retainAll G rs with
  | some (ds, G') => if lim ds.length then .ok (.new (.lst ds)) G' else .bad
  | none => .bad
def fTup (fs : Gm → Res (List Rv)) : Gm → Res Rv := fun G => (fs G).bind fun rs G1 => kTup G1 rs
def fLst (fs : Gm → Res (List Rv)) : Gm → Res Rv := fun G => (fs G).bind fun rs G1 => kLst G1 rs
/-- what is made of several answers -/
def SndL (K : PySem.W.Frag) (XR : XRt) (E : XK) (r : List V → Hp → VK → Prop) (k : Gm → List Rv → Res Rv) : Prop :=
  ∀ (σ : L2.St) (H M H0 M0 : Hp) (G G0 : Gm) (ft ft0 : Nat → List Addr) (rs : List Rv) (vs : List V) (Q : VK), SI K σ H M G ft → Stp σ G0 H0 M0 ft0 σ G H M ft → RvsOk K σ H M ft H0 rs vs → WP K XR E (ROv K σ) σ G0 H0 M0 ft0 (k G rs) Q → r vs H Q
section
variable {K : PySem.W.Frag} {XR : XRt} {E : XK}
theorem args_le {r : List V → Hp → VK → Prop} {k : Gm → List Rv → Res Rv} {fs : Gm → Res (List Rv)} (hs : SndL K XR E r k) : ∀ σ H Q, tFE K XR E (fun G => (fs G).bind fun rs G1 => k G1 rs) σ H Q → tFA K XR E fs σ H fun vs H1 => r vs H1 Q := fun σ H Q ⟨M, G, ft, S, w⟩ =>
  bindAE S .refl w fun rs G1 vs H1 M1 ft1 _ S1 P1 R1 w1 => hs σ H1 M1 H M G1 G ft1 ft rs vs Q S1 P1 R1 w1
theorem snd_tup : SndL K XR E (fun vs H Q => vs.length ≤ sizeLine ∧ ∀ p, H p = none → Q (.ref p) (upd H p (.tup vs))) kTup := by
  intro σ H M H0 M0 G G0 ft ft0 rs vs Q S P R w
  unfold kTup at w
  split at w
  · rename_i ds G' e
    split at w
    · rename_i c
      obtain ⟨M2, ft2, S2, P2, s2, D2⟩ := retainAll_ok rs S P (fun a z => z) e R
      exact ⟨by rw [D2.length]; exact lim_ok c, fun p hp => w.tup S2 P2 D2 hp⟩
    · exact w.elim
  · exact w.elim
theorem snd_lst : SndL K XR E (fun vs H Q => vs.length ≤ sizeLine ∧ ∀ p, H p = none → Q (.ref p) (upd H p (.lst vs))) kLst := by
  intro σ H M H0 M0 G G0 ft ft0 rs vs Q S P R w
  unfold kLst at w
  split at w
  · rename_i ds G' e
    split at w
    · rename_i c
      obtain ⟨M2, ft2, S2, P2, s2, D2⟩ := retainAll_ok rs S P (fun a z => z) e R
      exact ⟨by rw [D2.length]; exact lim_ok c, fun p hp => w.lst S2 P2 D2 hp⟩
    · exact w.elim
  · exact w.elim
end
section
variable {X : Cx} {XR : XRt} {E : XK} {es : List Expr} {fs : Gm → Res (List Rv)} {n : Nat} {pos : Pos}
theorem fe_tup (h : PA X es (tFA X.K XR E fs)) : PE X (.Tuple es n pos) (tFE X.K XR E (fTup fs)) := PE.le (pe_tup h) (args_le snd_tup)
theorem fe_lst (h : PA X es (tFA X.K XR E fs)) : PE X (.List es pos) (tFE X.K XR E (fLst fs)) := PE.le (pe_lst h) (args_le snd_lst)
end

/-! ### and, or, not, if -/
def fAnd (fa fb : Gm → Res Rv) : Gm → Res Rv := fun G => (fa G).bind fun a G1 => (asB a G1).bind fun t G2 => if t then fb G2 else .ok (.d (.bool false)) G2
def fOr (fa fb : Gm → Res Rv) : Gm → Res Rv := fun G => (fa G).bind fun a G1 => (asB a G1).bind fun t G2 => if t then .ok (.d (.bool true)) G2 else fb G2
def fNot (fa : Gm → Res Rv) : Gm → Res Rv := fun G => (fa G).bind fun a G1 => (asB a G1).bind fun t G2 => .ok (.d (.bool (!t))) G2
def tAnd' (fa fb : Gm → Res Bool) : Gm → Res Bool := fun G => (fa G).bind fun t G2 => if t then fb G2 else .ok false G2
def tOr' (fa fb : Gm → Res Bool) : Gm → Res Bool := fun G => (fa G).bind fun t G2 => if t then .ok true G2 else fb G2
def tNot' (fa : Gm → Res Bool) : Gm → Res Bool := fun G => (fa G).bind fun t G2 => .ok (!t) G2
def fIf (t : Gm → Res Bool) (fa fb : Gm → Res Rv) : Gm → Res Rv := fun G => (t G).bind fun t G2 => if t then fa G2 else fb G2
section
variable {X : Cx} {XR : XRt} {E : XK} {a b c : Expr} {rest : List Expr} {fa fb : Gm → Res Rv} {ta tb : Gm → Res Bool} {pos : Pos}
/-- the rest of an expression, at the state at hand -/
theorem restE {K : PySem.W.Frag} {σ : L2.St} {G G0 : Gm} {H M H0 M0 : Hp} {ft ft0 : Nat → List Addr} {f : Gm → Res Rv} {Q : VK} (S : SI K σ H M G ft) (P : Stp σ G0 H0 M0 ft0 σ G H M ft) (w : WP K XR E (ROv K σ) σ G0 H0 M0 ft0 (f G) Q) : tFE K XR E f σ H Q := ⟨M, G, ft, S, WP.rebaseV P w⟩
theorem restT {K : PySem.W.Frag} {σ : L2.St} {G G0 : Gm} {H M H0 M0 : Hp} {ft ft0 : Nat → List Addr} {f : Gm → Res Bool} {Q : Bool → Hp → Prop} (S : SI K σ H M G ft) (P : Stp σ G0 H0 M0 ft0 σ G H M ft) (w : WP K XR E ROb σ G0 H0 M0 ft0 (f G) Q) : tFT K XR E f σ H Q := ⟨M, G, ft, S, WP.rebaseB P w⟩
theorem asB_ok {r : Rv} {G G' : Gm} {t : Bool} (h : asB r G = .ok t G') : r = .d (.bool t) ∧ G' = G := by
  unfold asB at h
  split at h
  · cases h; exact ⟨rfl, rfl⟩
  · cases h
theorem asB_cases (r : Rv) (G : Gm) : (∃ t, r = .d (.bool t) ∧ asB r G = .ok t G) ∨ asB r G = .bad := by
  unfold asB
  split
  · exact .inl ⟨_, rfl, rfl⟩
  · exact .inr rfl
/-- a bool among the answers -/
theorem bindB {K : PySem.W.Frag} {σ : L2.St} {G G0 : Gm} {H M H0 M0 : Hp} {ft ft0 : Nat → List Addr} {r : Rv} {v : V} {Hb : Hp} {k : Bool → Gm → Res Rv} {Q : VK} (R : RvOk K σ Hb H M ft r v) (w : WP K XR E (ROv K σ) σ G0 H0 M0 ft0 ((asB r G).bind k) Q) :
    ∃ t, v = .bl t ∧ WP K XR E (ROv K σ) σ G0 H0 M0 ft0 (k t G) Q := by
  rcases asB_cases r G with ⟨t, rfl, e⟩ | e
  · rw [e] at w; cases R; exact ⟨t, rfl, w⟩
  · rw [e] at w; exact w.elim
theorem fe_one {op : BoolOp} (h : PE X a (tFE X.K XR E fa)) : PE X (.BoolOp op [a] pos) (tFE X.K XR E fa) := pe_one h
theorem fe_and (ha : PE X a (tFE X.K XR E fa)) (hb : PE X (.BoolOp .And (b :: rest) pos) (tFE X.K XR E fb)) : PE X (.BoolOp .And (a :: b :: rest) pos) (tFE X.K XR E (fAnd fa fb)) := PE.le (pe_and ha hb) fun σ H Q ⟨M, G, ft, S, w⟩ =>
  bindEE S .refl w fun r G1 v H1 M1 ft1 _ S1 P1 R1 w1 => by
    obtain ⟨t, rfl, w2⟩ := bindB R1 w1
    refine ⟨t, rfl, ?_⟩
    cases t with
    | true => exact restE S1 P1 w2
    | false => exact WP.done w2 S1 P1 (.bl false)
theorem fe_or (ha : PE X a (tFE X.K XR E fa)) (hb : PE X (.BoolOp .Or (b :: rest) pos) (tFE X.K XR E fb)) : PE X (.BoolOp .Or (a :: b :: rest) pos) (tFE X.K XR E (fOr fa fb)) := PE.le (pe_or ha hb) fun σ H Q ⟨M, G, ft, S, w⟩ =>
  bindEE S .refl w fun r G1 v H1 M1 ft1 _ S1 P1 R1 w1 => by
    obtain ⟨t, rfl, w2⟩ := bindB R1 w1
    refine ⟨t, rfl, ?_⟩
    cases t with
    | false => exact restE S1 P1 w2
    | true => exact WP.done w2 S1 P1 (.bl true)
theorem fe_not (ha : PE X a (tFE X.K XR E fa)) : PE X (.UnaryOp .Not a pos) (tFE X.K XR E (fNot fa)) := PE.le (pe_not ha) fun σ H Q ⟨M, G, ft, S, w⟩ =>
  bindEE S .refl w fun r G1 v H1 M1 ft1 _ S1 P1 R1 w1 => by
    obtain ⟨t, rfl, w2⟩ := bindB R1 w1
    exact ⟨t, rfl, WP.done w2 S1 P1 (.bl _)⟩
theorem fw_and1 (ha : PT X a (tFT X.K XR E ta)) : PW X (.BoolOp .And [a] pos) (tFT X.K XR E ta) := pw_and1 ha
theorem fw_or1 (ha : PT X a (tFT X.K XR E ta)) : PW X (.BoolOp .Or [a] pos) (tFT X.K XR E ta) := pw_or1 ha
theorem fw_and (ha : PT X a (tFT X.K XR E ta)) (hb : PW X (.BoolOp .And (b :: rest) pos) (tFT X.K XR E tb)) : PW X (.BoolOp .And (a :: b :: rest) pos) (tFT X.K XR E (tAnd' ta tb)) := PW.le (pw_and ha hb) fun σ H Q ⟨M, G, ft, S, w⟩ =>
  bindTT S .refl w fun t G1 H1 M1 ft1 _ S1 P1 w1 => by
    cases t with
    | true => exact restT S1 P1 w1
    | false => exact WP.doneB w1 S1 P1
theorem fw_or (ha : PT X a (tFT X.K XR E ta)) (hb : PW X (.BoolOp .Or (b :: rest) pos) (tFT X.K XR E tb)) : PW X (.BoolOp .Or (a :: b :: rest) pos) (tFT X.K XR E (tOr' ta tb)) := PW.le (pw_or ha hb) fun σ H Q ⟨M, G, ft, S, w⟩ =>
  bindTT S .refl w fun t G1 H1 M1 ft1 _ S1 P1 w1 => by
    cases t with
    | false => exact restT S1 P1 w1
    | true => exact WP.doneB w1 S1 P1
theorem ft_not (ha : PT X a (tFT X.K XR E ta)) : PT X (.UnaryOp .Not a pos) (tFT X.K XR E (tNot' ta)) := PT.le (pt_not ha) fun σ H Q ⟨M, G, ft, S, w⟩ =>
  bindTT S .refl w fun t G1 H1 M1 ft1 _ S1 P1 w1 => WP.doneB w1 S1 P1
theorem fe_if {t : Gm → Res Bool} (hc : PT X c (tFT X.K XR E t)) (ha : PE X a (tFE X.K XR E fa)) (hb : PE X b (tFE X.K XR E fb)) : PE X (.IfExp c a b pos) (tFE X.K XR E (fIf t fa fb)) := PE.le (pe_ifExp hc ha hb) fun σ H Q ⟨M, G, ft, S, w⟩ =>
  bindTE S .refl w fun t G1 H1 M1 ft1 _ S1 P1 w1 => by
    cases t with
    | true => exact restE S1 P1 w1
    | false => exact restE S1 P1 w1
/-! chains -/
def fChn (k k' : Gm → Rv → Rv → Res Rv) (fa fb fc : Gm → Res Rv) : Gm → Res Rv := fun G => (fa G).bind fun a G1 => (fb G1).bind fun b G2 => (k G2 a b).bind fun t G3 => (asB t G3).bind fun t G4 => if t then (fc G4).bind fun c G5 => k' G5 b c else .ok (.d (.bool false)) G4
/-- an operator whose answer is a bool, by its ints -/
theorem chain_le {r r' : R2} {k k' : Gm → Rv → Rv → Res Rv} {fc : Gm → Res Rv} (hs : Snd2 X.K XR E r k) (hs' : Snd2 X.K XR E r' k') : ∀ σ H Q, tFE X.K XR E (fChn k k' fa fb fc) σ H Q → tChain r r' (tFE X.K XR E fa) (tFE X.K XR E fb) (tFE X.K XR E fc) σ H Q := fun σ H Q ⟨M, G, ft, S, w⟩ =>
  bindEE S .refl w fun a G1 x H1 M1 ft1 _ S1 P1 R1 w1 => bindEE S1 P1 w1 fun b G2 y H2 M2 ft2 _ S2 P2 R2 w2 => by
    refine hs σ H2 M2 H H1 H2 M2 G2 G2 ft2 ft2 a b x y _ S2 .refl (R1.later P2) R2 ?_
    refine bindW (RO := ROv X.K σ) (RO' := ROv X.K σ) (P1.trans P2) w2 fun t G3 z H3 M3 ft3 _ S3 P3 R3 w3 => ?_
    obtain ⟨t, rfl, w4⟩ := bindB R3 w3
    refine ⟨t, rfl, ?_⟩
    cases t with
    | true =>
      rw [if_pos rfl] at w4 ⊢
      exact bindEE S3 ((P1.trans P2).trans P3) w4 fun c G5 u H5 M5 ft5 _ S5 P5 R5 w5 => hs' σ H5 M5 H1 H3 H M G5 G ft5 ft b c y u Q S5 (((P1.trans P2).trans P3).trans P5) ((R2.later P3).later P5) R5 w5
    | false =>
      exact WP.done w4 S3 ((P1.trans P2).trans P3) (.bl false)
theorem fe_chain {op op' : CmpOp} {r r' : R2} {k k' : Gm → Rv → Rv → Res Rv} {fc : Gm → Res Rv} (ho : OpR X (compareOp op) r) (hs : Snd2 X.K XR E r k) (ho' : OpR X (compareOp op') r') (hs' : Snd2 X.K XR E r' k') (ha : PE X a (tFE X.K XR E fa)) (hb : PE X b (tFE X.K XR E fb)) (hc : PE X c (tFE X.K XR E fc))
    (hm : lastMarks [op, op'] [b, c] = false := by with_unfolding_all rfl) : PE X (.Compare a [op, op'] [b, c] pos) (tFE X.K XR E (fChn k k' fa fb fc)) := PE.le (pe_chain ho ho' ha hb hc hm) (chain_le hs hs')
theorem ft_chain {op op' : CmpOp} {r r' : R2} {k k' : Gm → Rv → Rv → Res Rv} {fc : Gm → Res Rv} (ho : OpR X (compareOp op) r) (hs : Snd2 X.K XR E r k) (ho' : OpR X (compareOp op') r') (hs' : Snd2 X.K XR E r' k') (ha : PE X a (tFE X.K XR E fa)) (hb : PE X b (tFE X.K XR E fb)) (hc : PE X c (tFE X.K XR E fc))
    (hm : lastMarks [op, op'] [b, c] = false := by with_unfolding_all rfl) : PT X (.Compare a [op, op'] [b, c] pos) (tFT X.K XR E (fTest (fChn k k' fa fb fc))) := PT.le (pt_chain ho ho' ha hb hc hm) (test_le (chain_le hs hs'))
/-! - of one -/
def kNeg (G : Gm) (a : Rv) : Res Rv := match rd G a with
  | some (.int i) => .ok (.d (.int (-i))) G
  | _ => .bad
def fUn (k : Gm → Rv → Res Rv) (fa : Gm → Res Rv) : Gm → Res Rv := fun G => (fa G).bind fun a G1 => k G1 a
theorem fe_neg (ha : PE X a (tFE X.K XR E fa)) : PE X (.UnaryOp .USub a pos) (tFE X.K XR E (fUn kNeg fa)) := PE.le (pe_un un_neg ha) fun σ H Q ⟨M, G, ft, S, w⟩ =>
  bindEE S .refl w fun r G1 v H1 M1 ft1 _ S1 P1 R1 w1 => by
    unfold kNeg at w1
    split at w1
    · rename_i i e
      cases rd_int S1 e R1
      exact ⟨i, rfl, WP.done w1 S1 P1 (.int _)⟩
    · exact w1.elim
end
end Fx
/-! FxE: subscripts, slices, built-in functions -/
namespace Fx
open PySem PySem.Spec
open PyProof.Rows L2
section
variable {K : PySem.W.Frag} {M : Hp}
theorem DdA.atI {vs : List V} {ds : List PyData} (g : DdA K M vs ds) {i : Int} {d : PyData} (h : L2.atI ds i = some d) : ∃ v, L2.atI vs i = some v ∧ Dd K M v d := by
  unfold L2.atI at h ⊢
  rw [g.length]
  cases e : ixN ds.length i with
  | none => (rw [e] at h; exact nomatch h)
  | some j =>
    rw [e] at h
    exact g.get (i := j) h
def cutA {α : Type} (xs : List α) (lo hi : Option Int) : List α := (xs.drop (HT.sIx xs.length 0 lo)).take (HT.sIx xs.length xs.length hi - HT.sIx xs.length 0 lo)
theorem DdA.cut {vs : List V} {ds : List PyData} (g : DdA K M vs ds) (lo hi : Option Int) : DdA K M (cutV vs lo hi) (cutA ds lo hi) := by
  unfold cutV cutA
  rw [g.length]
  exact (g.drop _).take _
end
/-! ### x[i] -/
def kIdx : Gm → Rv → Rv → Res Rv := fun G a b => match rd G b with
  | some (.int i) => match rd G a with
    | some (.list ds) => match atI ds i with
      | some d => .ok (.d d) G
      | none => .bad
    | some (.tuple ds) => match atI ds i with
      | some d => .ok (.d d) G
      | none => .bad
    | _ => .bad
  | _ => .bad
section
variable {K : PySem.W.Frag} {XR : XRt} {E : XK}
theorem snd_idx : Snd2 K XR E (rIx K) kIdx := by
  intro σ H M Ha Hb H0 M0 G G0 ft ft0 a b x y Q S P Ra Rb w
  unfold kIdx at w
  split at w
  · rename_i i eb
    cases rd_int S eb Rb
    split at w
    · rename_i ds ea
      obtain ⟨p, xs, rfl, e, g⟩ := rd_list S ea Ra
      split at w
      · rename_i d ed
        obtain ⟨v, h1, h2⟩ := g.atI ed
        exact .inl ⟨p, xs, i, v, rfl, rfl, SqL.of e, h1, w.done S P h2⟩
      · exact w.elim
    · rename_i ds ea
      obtain ⟨p, xs, rfl, e, g⟩ := rd_tup S ea Ra
      split at w
      · rename_i d ed
        obtain ⟨v, h1, h2⟩ := g.atI ed
        exact .inr (.inl ⟨p, xs, i, v, rfl, rfl, S.sub.sqT e, h1, w.done S P h2⟩)
      · exact w.elim
    · exact w.elim
  · exact w.elim
end
/-! ### slices -/
def fNoPart : Gm → Res (Option Int) := fun G => .ok none G
def kPart (G : Gm) (r : Rv) : Res (Option Int) := match rd G r with
  | some (.int i) => .ok (some i) G
  | _ => .bad
def fPart (f : Gm → Res Rv) : Gm → Res (Option Int) := fun G => (f G).bind fun r G1 => kPart G1 r
abbrev ROp : Hp → Hp → Hp → (Nat → List Addr) → Option Int → Option Int → Prop := fun _ _ _ _ a b => a = b
def tFO (K : PySem.W.Frag) (XR : XRt) (E : XK) (f : Gm → Res (Option Int)) : TO := fun σ H Q => ∃ M G ft, SI K σ H M G ft ∧ WP K XR E ROp σ G H M ft (f G) Q
theorem PO.le {X : Cx} {e : Option Expr} {t t' : TO} (h : PO X e t) (w : ∀ σ H Q, t' σ H Q → t σ H Q) : PO X e t' := ⟨fun pins s σ H Q I q => h.run pins s σ H Q I (w σ H Q q)⟩
def kSl (G : Gm) (a : Rv) (lo hi : Option Int) : Res Rv := match rd G a with
  | some (.list ds) => .ok (.new (.lst (cutA ds lo hi))) G
  | some (.tuple ds) => .ok (.d (.tuple (cutA ds lo hi))) G
  | _ => .bad
def fSlice (fa : Gm → Res Rv) (fl fh : Gm → Res (Option Int)) : Gm → Res Rv := fun G => (fa G).bind fun a G1 => (fl G1).bind fun l G2 => (fh G2).bind fun h G3 => kSl G3 a l h
section
variable {X : Cx} {XR : XRt} {E : XK} {a : Expr} {fa : Gm → Res Rv} {pos p2 : Pos}
theorem fo_none : PO X none (tFO X.K XR E fNoPart) := PO.le po_none fun σ H Q ⟨M, G, ft, S, w⟩ => w none H M ft S .refl rfl
theorem fo_some (h : PE X a (tFE X.K XR E fa)) : PO X (some a) (tFO X.K XR E (fPart fa)) := PO.le (po_some h) fun σ H Q ⟨M, G, ft, S, w⟩ =>
  ⟨M, G, ft, S, bindW (RO := ROv X.K σ) (RO' := ROp) .refl w fun r G1 v H1 M1 ft1 _ S1 P1 R1 w1 => by
    unfold kPart at w1
    split at w1
    · rename_i i e
      cases rd_int S1 e R1
      exact ⟨i, rfl, w1 (some i) H1 M1 ft1 S1 P1 rfl⟩
    · exact w1.elim⟩
theorem sl_anyA : SlR X (fun x lo hi H Q => rSlL X.K x lo hi H Q ∨ rSlA X.K x lo hi H Q) := sl_list.or sl_tupA
theorem fe_slice {lo hi : Option Expr} {fl fh : Gm → Res (Option Int)} (he : PE X a (tFE X.K XR E fa)) (hl : PO X lo (tFO X.K XR E fl)) (hh : PO X hi (tFO X.K XR E fh)) : PE X (.Subscript a (.Slice lo hi none p2) pos) (tFE X.K XR E (fSlice fa fl fh)) :=
  PE.le (pe_slice sl_anyA he hl hh) fun σ H Q ⟨M, G, ft, S, w⟩ => bindEE S .refl w fun r G1 v H1 M1 ft1 _ S1 P1 R1 w1 => by
    refine ⟨M1, G1, ft1, S1, bindW (RO := ROp) (RO' := ROv X.K σ) P1 w1 fun l G2 l' H2 M2 ft2 _ S2 P2 R2 w2 => ?_⟩
    cases R2
    refine ⟨M2, G2, ft2, S2, bindW (RO := ROp) (RO' := ROv X.K σ) (P1.trans P2) w2 fun h G3 h' H3 M3 ft3 _ S3 P3 R3 w3 => ?_⟩
    cases R3
    have R := (R1.later P2).later P3
    unfold kSl at w3
    split at w3
    · rename_i ds e
      obtain ⟨p, xs, rfl, e2, g⟩ := rd_list S3 e R
      exact .inl ⟨p, xs, rfl, SqL.of e2, fun q hq => w3.lst S3 ((P1.trans P2).trans P3) (g.cut l h) hq⟩
    · rename_i ds e
      obtain ⟨p, xs, rfl, e2, g⟩ := rd_tup S3 e R
      refine .inr ⟨p, xs, rfl, S3.sub.sqT e2, fun z => ?_, fun _ q hq => w3.tup S3 ((P1.trans P2).trans P3) (g.cut l h) hq⟩
      have ec : cutV xs l h = xs := by
        unfold cutV
        rw [z.1, z.2, List.drop_zero, Nat.sub_zero, List.take_length]
      have gg := g.cut l h
      rw [ec] at gg
      exact WP.done w3 S3 ((P1.trans P2).trans P3) (.tup e2 gg)
    · exact w3.elim
theorem fe_idx {b : Expr} {fb : Gm → Res Rv} (ha : PE X a (tFE X.K XR E fa)) (hb : PE X b (tFE X.K XR E fb)) (hs : PlainIx b := by exact fun _ _ => rfl) : PE X (.Subscript a b pos) (tFE X.K XR E (fOp2 kIdx fa fb)) := PE.le (pe_ix ix_seq ha hb hs) (op2_le snd_idx)
end
/-! ### built-in functions -/
def fCallK (k : Gm → List Rv → Res Rv) (fs : Gm → Res (List Rv)) : Gm → Res Rv := fun G => (fs G).bind fun rs G1 => k G1 rs
section
variable {X : Cx} {XR : XRt} {E : XK} {e : Expr} {es : List Expr} {fs : Gm → Res (List Rv)} {pos p : Pos} {x : Str} {id T : String} {r : List V → Hp → VK → Prop} {k : Gm → List Rv → Res Rv}
theorem fe_callB (hc : CallR X (.builtin id) r) (hs : SndL X.K XR E r k) (hg : Gl X x) (hm : X.mg x = none) (hv : bootBuiltins x = some (.builtin id)) (ha : PA X (e :: es) (tFA X.K XR E fs)) (hn : x ≠ "__name__" := by decide) (hdb : (x == ("__debug__" : Str)) = false := by decide)
    (he : starEach (e :: es) X.env = (false, eval e X.env) :: starEach es X.env := by rfl) (hpl : (backTo pos (starEach es X.env)).any (·.1) = false := by rfl) : PE X (.Call (.Name x p) (e :: es) [] pos) (tFE X.K XR E (fCallK k fs)) :=
  PE.le (pe_callB hc hg hm hv ha hn hdb he hpl) (args_le hs)
theorem fe_callTy (hc : CallR X (.type T) r) (hs : SndL X.K XR E r k) (hg : Gl X x) (hm : X.mg x = none) (hv : bootBuiltins x = some (.type T)) (ha : PA X (e :: es) (tFA X.K XR E fs)) (hn : x ≠ "__name__" := by decide) (hdb : (x == ("__debug__" : Str)) = false := by decide)
    (he : starEach (e :: es) X.env = (false, eval e X.env) :: starEach es X.env := by rfl) (hpl : (backTo pos (starEach es X.env)).any (·.1) = false := by rfl) : PE X (.Call (.Name x p) (e :: es) [] pos) (tFE X.K XR E (fCallK k fs)) :=
  PE.le (pe_callTy hc hg hm hv ha hn hdb he hpl) (args_le hs)
end
/-- of one argument -/
def k1 (k : Gm → PyData → Res Rv) : Gm → List Rv → Res Rv
  | G, [a] => match rd G a with
    | some d => k G d
    | none => .bad
  | _, _ => .bad
section
variable {K : PySem.W.Frag} {XR : XRt} {E : XK}
theorem snd_k1 {r : List V → Hp → VK → Prop} {k : Gm → PyData → Res Rv}
    (h : ∀ (σ : L2.St) (H M H0 M0 : Hp) (G G0 : Gm) (ft ft0 : Nat → List Addr) (a : Rv) (v : V) (d : PyData) (Q : VK), SI K σ H M G ft → Stp σ G0 H0 M0 ft0 σ G H M ft → RvOk K σ H0 H M ft a v → rd G a = some d → WP K XR E (ROv K σ) σ G0 H0 M0 ft0 (k G d) Q → r [v] H Q) : SndL K XR E r (k1 k) := by
  intro σ H M H0 M0 G G0 ft ft0 rs vs Q S P R w
  unfold k1 at w
  split at w
  · rename_i a
    obtain ⟨v, rfl, R1⟩ := R.one
    split at w
    · rename_i d e
      exact h σ H M H0 M0 _ G0 ft ft0 _ v d Q S P R1 e w
    · exact w.elim
  · exact w.elim
def kLen : Gm → List Rv → Res Rv := k1 fun G d => match d with
  | .list ds => .ok (.d (.int ds.length)) G
  | .tuple ds => .ok (.d (.int ds.length)) G
  | .str s => if lim s.length then .ok (.d (.int s.length)) G else .bad
  | _ => .bad
def rLenA (K : PySem.W.Frag) : List V → Hp → VK → Prop := fun xs H Q => (∃ p ys, xs = [.ref p] ∧ (SqL K H p ys ∨ SqT K H p ys) ∧ Q (.int ys.length) H) ∨ ∃ z, xs = [.str z] ∧ z.length ≤ sizeLine ∧ Q (.int z.length) H
theorem call_lenA {X : Cx} : CallR X (.builtin "len") (rLenA X.K) := call_len_seq.or call_len_str
theorem snd_len : SndL K XR E (rLenA K) kLen := snd_k1 fun σ H M H0 M0 G G0 ft ft0 a v d Q S P R e w => by
  split at w
  · obtain ⟨p, xs, rfl, e2, g⟩ := rd_list S e R
    rw [← g.length] at w
    exact .inl ⟨p, xs, rfl, .inl (SqL.of e2), WP.done w S P (.int _)⟩
  · obtain ⟨p, xs, rfl, e2, g⟩ := rd_tup S e R
    rw [← g.length] at w
    exact .inl ⟨p, xs, rfl, .inr (S.sub.sqT e2), WP.done w S P (.int _)⟩
  · cases rd_str S e R
    split at w
    · rename_i c
      exact .inr ⟨_, rfl, lim_ok c, WP.done w S P (.int _)⟩
    · exact w.elim
  · exact w.elim
/-- ints, bools of a list -/
def intsOf : List PyData → Option (List Int)
  | [] => some []
  | .int i :: r => (intsOf r).map (i :: ·)
  | _ => none
def boolsOf : List PyData → Option (List Bool)
  | [] => some []
  | .bool i :: r => (boolsOf r).map (i :: ·)
  | _ => none
theorem intsOf_eq : ∀ {ds : List PyData} {ns : List Int}, intsOf ds = some ns → ds = ns.map PyData.int
  | [], ns, h => by cases h; rfl
  | .int i :: r, ns, h => by
    unfold intsOf at h
    cases e : intsOf r with
    | none => (rw [e] at h; exact nomatch h)
    | some ms => rw [e] at h; cases h; rw [intsOf_eq e]; rfl
  | .none :: _, _, h => by cases h
  | .bool _ :: _, _, h => by cases h
  | .str _ :: _, _, h => by cases h
  | .list _ :: _, _, h => by cases h
  | .tuple _ :: _, _, h => by cases h
  | .dict _ :: _, _, h => by cases h
theorem boolsOf_eq : ∀ {ds : List PyData} {ns : List Bool}, boolsOf ds = some ns → ds = ns.map PyData.bool
  | [], ns, h => by cases h; rfl
  | .bool i :: r, ns, h => by
    unfold boolsOf at h
    cases e : boolsOf r with
    | none => (rw [e] at h; exact nomatch h)
    | some ms => rw [e] at h; cases h; rw [boolsOf_eq e]; rfl
  | .none :: _, _, h => by cases h
  | .int _ :: _, _, h => by cases h
  | .str _ :: _, _, h => by cases h
  | .list _ :: _, _, h => by cases h
  | .tuple _ :: _, _, h => by cases h
  | .dict _ :: _, _, h => by cases h
@[simp] theorem intsOf_map (ns : List Int) : intsOf (ns.map PyData.int) = some ns := by
  induction ns with
  | nil => rfl
  | cons n r ih => rw [List.map_cons, intsOf, ih]; rfl
@[simp] theorem boolsOf_map (ns : List Bool) : boolsOf (ns.map PyData.bool) = some ns := by
  induction ns with
  | nil => rfl
  | cons n r ih => rw [List.map_cons, boolsOf, ih]; rfl
def kInts (f : List Int → Option PyData) : Gm → List Rv → Res Rv := k1 fun G d => match d with
  | .list ds => match intsOf ds with
    | some ns => match f ns with
      | some z => .ok (.d z) G
      | none => .bad
    | none => .bad
  | _ => .bad
theorem snd_ints {r : List V → Hp → VK → Prop} {f : List Int → Option PyData} (h : ∀ (a : Addr) (ns : List Int) (z : PyData) (H : Hp) (Q : VK), SqL K H a (ns.map V.int) → f ns = some z → (∀ v, (∀ M, Dd K M v z) → Q v H) → r [.ref a] H Q) : SndL K XR E r (kInts f) := snd_k1 fun σ H M H0 M0 G G0 ft ft0 a v d Q S P R e w => by
  split at w
  · obtain ⟨p, xs, rfl, e2, g⟩ := rd_list S e R
    split at w
    · rename_i ns en
      rw [intsOf_eq en] at g
      split at w
      · rename_i z ez
        exact h p ns z H Q (by rw [← g.ints]; exact SqL.of e2) ez fun v hv => WP.done w S P (hv M)
      · exact w.elim
    · exact w.elim
  · exact w.elim
def kSum : Gm → List Rv → Res Rv := kInts fun ns => some (.int ns.sum)
theorem snd_sum : SndL K XR E (rSum K) kSum := snd_ints fun a ns z H Q h e q => by cases e; exact ⟨a, ns, rfl, h, q _ fun M => .int _⟩
def mxI : List Int → Int
  | [] => 0
  | [x] => x
  | x :: y :: r => let m := mxI (y :: r); if x < m then m else x
def mnI : List Int → Int
  | [] => 0
  | [x] => x
  | x :: y :: r => let m := mnI (y :: r); if m < x then m else x
theorem mxI_mem : ∀ {ns : List Int}, ns ≠ [] → mxI ns ∈ ns ∧ ∀ y ∈ ns, y ≤ mxI ns
  | [], h => absurd rfl h
  | [x], _ => ⟨List.mem_singleton.mpr rfl, fun y hy => by cases List.mem_singleton.mp hy; exact Int.le_refl _⟩
  | x :: y :: r, _ => by
    obtain ⟨h1, h2⟩ := mxI_mem (ns := y :: r) (by simp)
    have e : mxI (x :: y :: r) = if x < mxI (y :: r) then mxI (y :: r) else x := rfl
    rw [e]
    split
    · rename_i c
      refine ⟨List.mem_cons_of_mem _ h1, fun z hz => ?_⟩
      obtain rfl | hz := List.mem_cons.mp hz
      · exact Int.le_of_lt c
      · exact h2 z hz
    · rename_i c
      refine ⟨List.mem_cons_self, fun z hz => ?_⟩
      obtain rfl | hz := List.mem_cons.mp hz
      · exact Int.le_refl _
      · exact Int.le_trans (h2 z hz) (Int.not_lt.mp c)
theorem mnI_mem : ∀ {ns : List Int}, ns ≠ [] → mnI ns ∈ ns ∧ ∀ y ∈ ns, mnI ns ≤ y
  | [], h => absurd rfl h
  | [x], _ => ⟨List.mem_singleton.mpr rfl, fun y hy => by cases List.mem_singleton.mp hy; exact Int.le_refl _⟩
  | x :: y :: r, _ => by
    obtain ⟨h1, h2⟩ := mnI_mem (ns := y :: r) (by simp)
    have e : mnI (x :: y :: r) = if mnI (y :: r) < x then mnI (y :: r) else x := rfl
    rw [e]
    split
    · rename_i c
      refine ⟨List.mem_cons_of_mem _ h1, fun z hz => ?_⟩
      obtain rfl | hz := List.mem_cons.mp hz
      · exact Int.le_of_lt c
      · exact h2 z hz
    · rename_i c
      refine ⟨List.mem_cons_self, fun z hz => ?_⟩
      obtain rfl | hz := List.mem_cons.mp hz
      · exact Int.le_refl _
      · exact Int.le_trans (Int.not_lt.mp c) (h2 z hz)
def kMax : Gm → List Rv → Res Rv := kInts fun ns => if ns.isEmpty then none else some (.int (mxI ns))
def kMin : Gm → List Rv → Res Rv := kInts fun ns => if ns.isEmpty then none else some (.int (mnI ns))
theorem snd_max : SndL K XR E (rMax K) kMax := snd_ints fun a ns z H Q h e q => by
  split at e
  · cases e
  · rename_i c
    cases e
    have hne : ns ≠ [] := fun z => c (by rw [z]; rfl)
    obtain ⟨m1, m2⟩ := mxI_mem hne
    refine ⟨a, ns, rfl, h, List.length_pos_iff.mpr hne, fun m hm hle => ?_⟩
    rw [show m = mxI ns from Int.le_antisymm (m2 m hm) (hle _ m1)]
    exact q _ fun M => .int _
theorem snd_min : SndL K XR E (rMin K) kMin := snd_ints fun a ns z H Q h e q => by
  split at e
  · cases e
  · rename_i c
    cases e
    have hne : ns ≠ [] := fun z => c (by rw [z]; rfl)
    obtain ⟨m1, m2⟩ := mnI_mem hne
    refine ⟨a, ns, rfl, h, List.length_pos_iff.mpr hne, fun m hm hle => ?_⟩
    rw [show m = mnI ns from Int.le_antisymm (hle _ m1) (m2 m hm)]
    exact q _ fun M => .int _
def kBools (f : List Bool → PyData) : Gm → List Rv → Res Rv := k1 fun G d => match d with
  | .list ds => match boolsOf ds with
    | some ns => .ok (.d (f ns)) G
    | none => .bad
  | _ => .bad
def kAll : Gm → List Rv → Res Rv := kBools fun bs => .bool (bs.all id)
def kAny : Gm → List Rv → Res Rv := kBools fun bs => .bool (bs.any id)
theorem snd_all : SndL K XR E (rAll K) kAll := snd_k1 fun σ H M H0 M0 G G0 ft ft0 a v d Q S P R e w => by
  split at w
  · obtain ⟨p, xs, rfl, e2, g⟩ := rd_list S e R
    split at w
    · rename_i ns en
      rw [boolsOf_eq en] at g
      exact ⟨p, ns, rfl, by rw [← g.bools]; exact SqL.of e2, WP.done w S P (.bl _)⟩
    · exact w.elim
  · exact w.elim
theorem snd_any : SndL K XR E (rAny K) kAny := snd_k1 fun σ H M H0 M0 G G0 ft ft0 a v d Q S P R e w => by
  split at w
  · obtain ⟨p, xs, rfl, e2, g⟩ := rd_list S e R
    split at w
    · rename_i ns en
      rw [boolsOf_eq en] at g
      exact ⟨p, ns, rfl, by rw [← g.bools]; exact SqL.of e2, WP.done w S P (.bl _)⟩
    · exact w.elim
  · exact w.elim
def kAbs : Gm → List Rv → Res Rv := k1 fun G d => match d with
  | .int i => .ok (.d (.int (if i < 0 then -i else i))) G
  | _ => .bad
theorem snd_abs : SndL K XR E (fun xs H Q => ∃ i, xs = [.int i] ∧ Q (.int (if i < 0 then -i else i)) H) kAbs := snd_k1 fun σ H M H0 M0 G G0 ft ft0 a v d Q S P R e w => by
  split at w
  · cases rd_int S e R
    exact ⟨_, rfl, WP.done w S P (.int _)⟩
  · exact w.elim
def kInt : Gm → List Rv → Res Rv := k1 fun G d => match d with
  | .int i => .ok (.d (.int i)) G
  | .bool b => .ok (.d (.int (if b then 1 else 0))) G
  | _ => .bad
theorem snd_int : SndL K XR E (fun xs H Q => (∃ i, xs = [.int i] ∧ Q (.int i) H) ∨ ∃ k, xs = [.bl k] ∧ Q (.int (if k then 1 else 0)) H) kInt := snd_k1 fun σ H M H0 M0 G G0 ft ft0 a v d Q S P R e w => by
  split at w
  · cases rd_int S e R
    exact .inl ⟨_, rfl, WP.done w S P (.int _)⟩
  · cases rd_bool S e R
    exact .inr ⟨_, rfl, WP.done w S P (.int _)⟩
  · exact w.elim
def kList : Gm → List Rv → Res Rv := k1 fun G d => match d with
  | .list ds => .ok (.new (.lst ds)) G
  | .tuple ds => .ok (.new (.lst ds)) G
  | _ => .bad
def kTuple : Gm → List Rv → Res Rv := k1 fun G d => match d with
  | .list ds => .ok (.d (.tuple ds)) G
  | .tuple ds => .ok (.d (.tuple ds)) G
  | _ => .bad
theorem snd_list : SndL K XR E (fun xs H Q => ∃ p ys, xs = [.ref p] ∧ (SqL K H p ys ∨ SqT K H p ys) ∧ ∀ l, H l = none → Q (.ref l) (upd H l (.lst ys))) kList := snd_k1 fun σ H M H0 M0 G G0 ft ft0 a v d Q S P R e w => by
  split at w
  · obtain ⟨p, xs, rfl, e2, g⟩ := rd_list S e R
    exact ⟨p, xs, rfl, .inl (SqL.of e2), fun l hl => w.lst S P g hl⟩
  · obtain ⟨p, xs, rfl, e2, g⟩ := rd_tup S e R
    exact ⟨p, xs, rfl, .inr (S.sub.sqT e2), fun l hl => w.lst S P g hl⟩
  · exact w.elim
theorem snd_tuple : SndL K XR E (fun xs H Q => ∃ p ys, xs = [.ref p] ∧ ((SqL K H p ys ∧ ∀ l, H l = none → Q (.ref l) (upd H l (.tup ys))) ∨ (SqT K H p ys ∧ Q (.ref p) H))) kTuple := snd_k1 fun σ H M H0 M0 G G0 ft ft0 a v d Q S P R e w => by
  split at w
  · obtain ⟨p, xs, rfl, e2, g⟩ := rd_list S e R
    exact ⟨p, xs, rfl, .inl ⟨SqL.of e2, fun l hl => w.tup S P g hl⟩⟩
  · obtain ⟨p, xs, rfl, e2, g⟩ := rd_tup S e R
    exact ⟨p, xs, rfl, .inr ⟨S.sub.sqT e2, WP.done w S P (.tup e2 g)⟩⟩
  · exact w.elim
end
/-! ### isinstance -/
def tyD : PyData → String
  | .none => "NoneType"
  | .bool _ => "bool"
  | .int _ => "int"
  | .str _ => "str"
  | .list _ => "list"
  | .tuple _ => "tuple"
  | .dict _ => "list"
def isiD (T : String) : PyData → Bool
  | .none => false
  | .bool _ => T == "bool" || T == "int"
  | .int _ => T == "int"
  | .str _ => T == "str"
  | .list _ => T == "list"
  | .tuple _ => T == "tuple"
  | .dict _ => T == "list"
/-- the types that are asked for here -/
def isiOk (T : String) : Prop := ∀ a ∈ ["NoneType", "bool", "int", "str", "list", "tuple"], kitB a T = some (if a = "bool" then T == "bool" || T == "int" else if a = "NoneType" then false else T == a)
theorem isi_int : isiOk "int" := by unfold isiOk; decide +kernel
theorem isi_bool : isiOk "bool" := by unfold isiOk; decide +kernel
theorem isi_str : isiOk "str" := by unfold isiOk; decide +kernel
theorem isi_tuple : isiOk "tuple" := by unfold isiOk; decide +kernel
theorem isi_list : isiOk "list" := by unfold isiOk; decide +kernel
theorem isi_of {T : String} (h : isiOk T) (d : PyData) : kitB (tyD d) T = some (isiD T d) := by
  cases d with
  | none => exact h "NoneType" (by simp)
  | bool _ => exact h "bool" (by simp)
  | int _ => exact h "int" (by simp)
  | str _ => exact h "str" (by simp)
  | list _ => exact h "list" (by simp)
  | tuple _ => exact h "tuple" (by simp)
  | dict _ => exact h "list" (by simp)
theorem tyX_sqL {K : PySem.W.Frag} {H : Hp} {a : Addr} {xs : List V} (h : SqL K H a xs) : TyX K H (.ref a) (.type "list") := by
  rcases h with (h | ⟨o, h⟩) | ⟨o, its, n, h, hc, _⟩
  · exact .base (.lst h)
  · exact .base (.frz h)
  · exact .kList h hc
theorem tyX_sqT {K : PySem.W.Frag} {H : Hp} {a : Addr} {xs : List V} (h : SqT K H a xs) : TyX K H (.ref a) (.type "tuple") := by
  rcases h with (h | ⟨o, h⟩) | ⟨o, its, n, h, hc, _⟩
  · exact .base (.tup h)
  · exact .fTuple h
  · exact .kTuple h hc
theorem tyX_of {K : PySem.W.Frag} {H : Hp} {v : V} {d : PyData} (h : Dd K H v d) : TyX K H v (.type (tyD d)) := by
  cases h with
  | non => exact .base .non
  | bl b => exact .base (.bl b)
  | int i => exact .base (.int i)
  | str x => exact .base (.str x)
  | lst e _ => exact .base (.lst e)
  | tup e _ => exact tyX_sqT e
  | frz e _ => exact tyX_sqL e
def kIsi (T : String) (G : Gm) (a : Rv) : Res Rv := match rd G a with
  | some d => .ok (.d (.bool (isiD T d))) G
  | none => .bad
section
variable {X : Cx} {XR : XRt} {E : XK} {e : Expr} {fa : Gm → Res Rv} {pos p q : Pos} {T : String} {y : Str}
theorem fe_isi (ho : isiOk T) (hg : Gl X "isinstance") (hm : X.mg "isinstance" = none) (hgT : Gl X y) (hmT : X.mg y = none) (hvT : bootBuiltins y = some (.type T)) (he : PE X e (tFE X.K XR E fa)) (hn : y ≠ "__name__" := by decide) (hdb : (y == ("__debug__" : Str)) = false := by decide)
    (hs : starEach [e, .Name y q] X.env = [(false, eval e X.env), (false, eval (.Name y q) X.env)] := by rfl) (hs2 : starEach [.Name y q] X.env = [(false, eval (.Name y q) X.env)] := by rfl) :
    PE X (.Call (.Name "isinstance" p) [e, .Name y q] [] pos) (tFE X.K XR E (fUn (kIsi T) fa)) :=
  PE.le (pe_callB call_isi hg hm (by decide +kernel) (pa_cons he (pa_cons (pe_bltn (v := V.ty T) hgT hmT hvT rfl hn hdb) pa_nil (by rw [hs2]; rfl)) (by rw [hs, hs2])) (by decide) (by decide) (by rw [hs, hs2]) (by rw [hs2]; rfl)) fun σ H Q ⟨M, G, ft, S, w⟩ =>
    bindEE S .refl w fun r G1 v H1 M1 ft1 _ S1 P1 R1 w1 => by
      unfold kIsi at w1
      split at w1
      · rename_i d ed
        exact ⟨v, .ty T, _, _, _, rfl, .ty T, tyX_of (rd_all S1 ed R1), kit_ty (isi_of ho d), WP.done w1 S1 P1 (.bl _)⟩
      · exact w1.elim
end
/-! ### list(range(..)), tuple(range(..)) -/
def rgD (a b : Int) : List PyData := (List.range (b - a).toNat).map fun i => PyData.int (a + (i : Nat))
theorem rgD_ok {K : PySem.W.Frag} {M : Hp} (a b : Int) : DdA K M (rgV a b) (rgD a b) := by
  unfold rgV rgD
  induction (List.range (b - a).toNat) with
  | nil => exact .nil
  | cons x r ih => exact .cons (.int _) ih
def rgOk (a b : Int) : Bool := decide (-100000 ≤ a) && decide (a ≤ 100000) && decide (-100000 ≤ b) && decide (b ≤ 100000)
theorem rgOk_ok {a b : Int} (h : rgOk a b = true) : RgOk a b := by
  unfold rgOk at h
  simp only [Bool.and_eq_true, decide_eq_true_eq] at h
  exact ⟨by omega, by omega, by omega, by omega, by omega⟩
def kRgL (a b : Int) (G : Gm) : Res Rv := if rgOk a b then .ok (.new (.lst (rgD a b))) G else .bad
def kRgT (a b : Int) (G : Gm) : Res Rv := if rgOk a b then .ok (.d (.tuple (rgD a b))) G else .bad
def fRg1 (k : Int → Int → Gm → Res Rv) (fa : Gm → Res Rv) : Gm → Res Rv := fun G => (fa G).bind fun a G1 => match rd G1 a with
  | some (.int n) => k 0 n G1
  | _ => .bad
def fRg2 (k : Int → Int → Gm → Res Rv) (fa fb : Gm → Res Rv) : Gm → Res Rv := fun G => (fa G).bind fun a G1 => (fb G1).bind fun b G2 => match rd G2 a, rd G2 b with
  | some (.int i), some (.int j) => k i j G2
  | _, _ => .bad
section
variable {X : Cx} {XR : XRt} {E : XK} {e : Expr} {fa fb : Gm → Res Rv} {pos p : Pos} {t : L2.St → Hp → (Int → Int → Hp → Prop) → Prop}
theorem rg1_le {k : Int → Int → Gm → Res Rv} {Q' : VK → Int → Int → Hp → Prop} (h : ∀ (σ : L2.St) (H M H0 M0 : Hp) (G G0 : Gm) (ft ft0 : Nat → List Addr) (a b : Int) (Q : VK), SI X.K σ H M G ft → Stp σ G0 H0 M0 ft0 σ G H M ft → WP X.K XR E (ROv X.K σ) σ G0 H0 M0 ft0 (k a b G) Q → Q' Q a b H) :
    ∀ σ H Q, tFE X.K XR E (fRg1 k fa) σ H Q → tRg1 (tFE X.K XR E fa) σ H (Q' Q) := fun σ H Q ⟨M, G, ft, S, w⟩ =>
  bindEE S .refl w fun r G1 v H1 M1 ft1 _ S1 P1 R1 w1 => by
    split at w1
    · rename_i n e
      cases rd_int S1 e R1
      exact ⟨n, rfl, h σ H1 M1 H M G1 G ft1 ft 0 n Q S1 P1 w1⟩
    · exact w1.elim
theorem rg2_le {k : Int → Int → Gm → Res Rv} {Q' : VK → Int → Int → Hp → Prop} (h : ∀ (σ : L2.St) (H M H0 M0 : Hp) (G G0 : Gm) (ft ft0 : Nat → List Addr) (a b : Int) (Q : VK), SI X.K σ H M G ft → Stp σ G0 H0 M0 ft0 σ G H M ft → WP X.K XR E (ROv X.K σ) σ G0 H0 M0 ft0 (k a b G) Q → Q' Q a b H) :
    ∀ σ H Q, tFE X.K XR E (fRg2 k fa fb) σ H Q → tRg2 (tFE X.K XR E fa) (tFE X.K XR E fb) σ H (Q' Q) := fun σ H Q ⟨M, G, ft, S, w⟩ =>
  bindEE S .refl w fun r G1 v H1 M1 ft1 _ S1 P1 R1 w1 => bindEE S1 P1 w1 fun r2 G2 v2 H2 M2 ft2 _ S2 P2 R2 w2 => by
    split at w2
    · rename_i i j e1 e2
      cases rd_int S2 e1 (R1.later P2)
      cases rd_int S2 e2 R2
      exact ⟨i, j, rfl, rfl, h σ H2 M2 H M G2 G ft2 ft i j Q S2 (P1.trans P2) w2⟩
    · exact w2.elim
theorem kRgL_ok (σ : L2.St) (H M H0 M0 : Hp) (G G0 : Gm) (ft ft0 : Nat → List Addr) (a b : Int) (Q : VK) (S : SI X.K σ H M G ft) (P : Stp σ G0 H0 M0 ft0 σ G H M ft) (w : WP X.K XR E (ROv X.K σ) σ G0 H0 M0 ft0 (kRgL a b G) Q) : RgOk a b ∧ ∀ q, H q = none → Q (.ref q) (upd H q (.lst (rgV a b))) := by
  unfold kRgL at w
  split at w
  · rename_i c
    exact ⟨rgOk_ok c, fun q hq => w.lst S P (rgD_ok a b) hq⟩
  · exact w.elim
theorem kRgT_ok (σ : L2.St) (H M H0 M0 : Hp) (G G0 : Gm) (ft ft0 : Nat → List Addr) (a b : Int) (Q : VK) (S : SI X.K σ H M G ft) (P : Stp σ G0 H0 M0 ft0 σ G H M ft) (w : WP X.K XR E (ROv X.K σ) σ G0 H0 M0 ft0 (kRgT a b G) Q) : RgOk a b ∧ ∀ q, H q = none → Q (.ref q) (upd H q (.tup (rgV a b))) := by
  unfold kRgT at w
  split at w
  · rename_i c
    exact ⟨rgOk_ok c, fun q hq => w.tup S P (rgD_ok a b) hq⟩
  · exact w.elim
theorem fe_listRg1 (hc : X.calm = true) (hg : Gl X "list") (hm : X.mg "list" = none) (he : PRg X e (tRg1 (tFE X.K XR E fa))) (na : starEach [e] X.env = (false, eval e X.env) :: starEach [] X.env := by rfl) : PE X (.Call (.Name "list" p) [e] [] pos) (tFE X.K XR E (fRg1 kRgL fa)) := PE.le (pe_listRg hc hg hm he na) (rg1_le kRgL_ok)
theorem fe_tupRg1 (hc : X.calm = true) (hg : Gl X "tuple") (hm : X.mg "tuple" = none) (he : PRg X e (tRg1 (tFE X.K XR E fa))) (na : starEach [e] X.env = (false, eval e X.env) :: starEach [] X.env := by rfl) : PE X (.Call (.Name "tuple" p) [e] [] pos) (tFE X.K XR E (fRg1 kRgT fa)) := PE.le (pe_tupRg hc hg hm he na) (rg1_le kRgT_ok)
theorem fe_listRg2 (hc : X.calm = true) (hg : Gl X "list") (hm : X.mg "list" = none) (he : PRg X e (tRg2 (tFE X.K XR E fa) (tFE X.K XR E fb))) (na : starEach [e] X.env = (false, eval e X.env) :: starEach [] X.env := by rfl) : PE X (.Call (.Name "list" p) [e] [] pos) (tFE X.K XR E (fRg2 kRgL fa fb)) := PE.le (pe_listRg hc hg hm he na) (rg2_le kRgL_ok)
theorem fe_tupRg2 (hc : X.calm = true) (hg : Gl X "tuple") (hm : X.mg "tuple" = none) (he : PRg X e (tRg2 (tFE X.K XR E fa) (tFE X.K XR E fb))) (na : starEach [e] X.env = (false, eval e X.env) :: starEach [] X.env := by rfl) : PE X (.Call (.Name "tuple" p) [e] [] pos) (tFE X.K XR E (fRg2 kRgT fa fb)) := PE.le (pe_tupRg hc hg hm he na) (rg2_le kRgT_ok)
end
end Fx
/-! FxF: calls, statements, defs -/
namespace Fx
open PySem PySem.Spec
open PyProof.Rows L2
/-! ### calls of defs that change nothing -/
def argOf (G : Gm) : Rv → Option (PyData × Bool)
  | .d x => some (x, false)
  | .new (.lst ds) => some (.list ds, false)
  | .own i => match ownAt G i with
    | some (.lst ds) => some (.list ds, true)
    | _ => none
  | _ => none
def argsOf (G : Gm) : List Rv → Option (List PyData × Bool)
  | [] => some ([], false)
  | r :: rs => match argOf G r with
    | some (d, b) => match argsOf G rs with
      | some (ds, c) => some (d :: ds, b || c)
      | none => none
    | none => none
def kCall (F : Gm → Res Rv) (G : Gm) (rs : List Rv) : Res Rv := match argsOf G rs with
  | some (ds, b) => match F (ds.map Sl.d) with
    | .ok (.d x) _ => if b && !flatD x then .bad else .ok (.d x) G
    | .ok (.new o) _ => if b then .bad else .ok (.new o) G
    | .ok (.own _) _ => .bad
    | .ex e => .ex e
    | .bad => .bad
  | none => .bad
/-- a def's promise, by a function on the arguments' slots -/
def spF (K : PySem.W.Frag) (XR : XRt) (F : Gm → Res Rv) : Sp := fun vs H Q E => tFE K XR E F (vs.map some) H Q
def noF : Nat → List Addr := fun _ => []
section
variable {K : PySem.W.Frag} {XR : XRt} {E : XK} {σ σ0 : L2.St} {G G0 : Gm} {H M H0 M0 : Hp} {ft ft0 : Nat → List Addr}
/-- the new ones among the answers are shown; M' holds the borrowed lists too -/
theorem args_ok : ∀ (rs : List Rv) {vs : List V} {ds : List PyData} {b : Bool} {M : Hp} {Hb : Hp}, SI K σ H M G ft → Stp σ0 G0 H0 M0 ft0 σ G H M ft → (∀ a, Hb a = none → H0 a = none) → argsOf G rs = some (ds, b) → RvsOk K σ H M ft Hb rs vs →
    ∃ M1, SI K σ H M1 G ft ∧ Stp σ0 G0 H0 M0 ft0 σ G H M1 ft ∧ Sub M M1 ∧ ∃ M', Sub M1 M' ∧ Sub M' H ∧ DdA K M' vs ds ∧ (∀ a, M' a ≠ none → M1 a ≠ none ∨ ∃ i, a ∈ ft i) ∧ (b = false → M' = M1)
  | [], _, _, _, M, _, S, P, _, h, .nil => by cases h; exact ⟨M, S, P, Sub.refl _, M, Sub.refl _, S.sub, .nil, fun a z => .inl z, fun _ => rfl⟩
  | r :: rs, _, _, _, M, Hb, S, P, hb, h, .cons H1 F h0 R hn t => by
    unfold argsOf at h
    split at h
    · rename_i d b e1
      split at h
      · rename_i ds c e2
        cases h
        cases r with
        | d x =>
          cases e1
          obtain ⟨M1, S1, P1, s1, M', t1, t2, D, k1, k2⟩ := args_ok rs S P (fun a z => hb a (h0 a z)) e2 t
          exact ⟨M1, S1, P1, s1, M', t1, t2, .cons ((R.1.mono s1).mono t1) D, k1, fun z => k2 (by simpa using z)⟩
        | own i =>
          have h' : (match ownAt G i with | some (.lst ds) => some (PyData.list ds, true) | _ => none) = some (d, b) := e1
          split at h'
          · rename_i es eo
            cases h'
            obtain ⟨M1, S1, P1, s1, M', t1, t2, D, k1, k2⟩ := args_ok rs S P (fun a z => hb a (h0 a z)) e2 t
            obtain ⟨p, rfl, ⟨hF, xs, g1, g2⟩, g3⟩ := own_ok S1 eo R.1
            have hp : p ∈ ft i := by rw [hF]; exact List.mem_singleton.mpr rfl
            refine ⟨M1, S1, P1, s1, upd M' p (.lst xs), fun a o q => ?_, fun a o q => ?_, .cons (.lst upd_same (g2.mono fun a o q => ?_)) (D.mono fun a o q => ?_), fun a z => ?_, fun z => by simp at z⟩
            · rw [upd_ne (show a ≠ p from fun y => by subst y; rw [g3 a hp] at q; cases q)]; exact t1 a o q
            · by_cases y : a = p
              · subst y; rw [upd_same] at q; cases q; exact g1
              · rw [upd_ne y] at q; exact t2 a o q
            · rw [upd_ne (show a ≠ p from fun y => by subst y; rw [g3 a hp] at q; cases q)]; exact t1 a o q
            · by_cases y : a = p
              · subst y
                have := t2 a o q
                rw [g1] at this; cases this
                exact upd_same
              · rw [upd_ne y]; exact q
            · by_cases y : a = p
              · exact .inr ⟨i, by rw [y]; exact hp⟩
              · rw [upd_ne y] at z; exact k1 a z
          · cases h'
        | new o =>
          cases o with
          | lst es =>
            cases e1
            obtain ⟨p, rfl, ⟨hF, xs, g1, g2⟩, g3⟩ := R
            have hp : p ∈ F := by rw [hF]; exact List.mem_singleton.mpr rfl
            obtain ⟨hm, hh, hnn⟩ := g3 p hp
            have S' := S.show g1 hm hnn
            have P' := P.show (o := .lst xs) hm (.inl (hb p hh))
            have t' : RvsOk K σ H (upd M p (.lst xs)) ft H1 rs _ := RvsOk.shown (Hc := H1) (F := F) ((Sub.refl _).upd hm) (fun _ _ z => z) (fun a z y => .inl (by
              by_cases q : a = p
              · rw [q]; exact hp
              · rw [upd_ne q] at y; exact absurd z y)) hn (fun a z => z) t
            obtain ⟨M1, S1, P1, s1, M', t1, t2, D, k1, k2⟩ := args_ok rs S' P' (fun a z => hb a (h0 a z)) e2 t'
            exact ⟨M1, S1, P1, ((Sub.refl _).upd hm).trans s1, M', t1, t2, .cons ((Dd.newL hm g2).mono (s1.trans t1)) D, k1, fun z => k2 (by simpa using z)⟩
          | dct _ => cases e1
          | mat _ => cases e1
      · cases h
    · cases h
theorem nt_args {M1 M' : Hp} (S1 : SI K σ H M1 G ft) (t1 : Sub M1 M') (t2 : Sub M' H) (k1 : ∀ a, M' a ≠ none → M1 a ≠ none ∨ ∃ i, a ∈ ft i) : ∀ a ps, M' a ≠ some (.tbl ps) := fun a ps z => by
  rcases k1 a (by rw [z]; exact Option.some_ne_none _) with y | ⟨i, y⟩
  · cases e : M1 a with
    | none => exact y e
    | some o =>
      have := t1 a o e
      rw [z] at this; cases this
      exact S1.tab.2 a ps e
  · exact S1.ntb y ps (t2 a _ z)
theorem si_args {M' : Hp} {vs : List V} {ds : List PyData} (tb : TabI K H ∧ ∀ a ps, M' a ≠ some (.tbl ps)) (s : Sub M' H) (D : DdA K M' vs ds) : SI K (vs.map some) H M' (ds.map Sl.d) noF where
  len := by rw [List.length_map, List.length_map, D.length]
  sub := s
  slot := fun i s e => by
    rw [List.getElem?_map] at e
    cases ei : ds[i]? with
    | none => rw [ei] at e; cases e
    | some d =>
      rw [ei] at e; cases e
      obtain ⟨v, h1, h2⟩ := D.get ei
      exact ⟨rfl, v, by rw [List.getElem?_map, h1]; rfl, h2⟩
  tab := tb
  out := fun _ _ => rfl
  disj := fun i j a h => by cases h
/-- behind a call that owns nothing -/
theorem SI.called (S : SI K σ H M G ft) {M' H' M'' : Hp} {σ1 σ2 : L2.St} {G1 G2 : Gm} {ft2 : Nat → List Addr} (tb : TabI K H' ∧ ∀ a ps, M'' a ≠ some (.tbl ps)) (s2 : Sub M'' H') (hk : ∀ a o, H a = some o → (∀ ps, o ≠ .tbl ps) → H' a = some o) (hm : Sub M M'') (hn : ∀ i a, a ∈ ft i → M'' a = none) : SI K σ H' M'' G ft where
  len := S.len
  sub := s2
  tab := tb
  slot := fun i s e => (S.slot i s e).keep hm (fun a ha o q => hk a o q) (hn i)
  out := S.out
  disj := S.disj
theorem snd_call {F : Gm → Res Rv} : SndL K XR E (fun vs H Q => spF K XR F vs H Q E) (kCall F) := by
  intro σ H M H0 M0 G G0 ft ft0 rs vs Q S P R w
  unfold kCall at w
  split at w
  · rename_i ds b ea
    obtain ⟨M1, S1, P1, s1, M', t1, t2, D, k1, k2⟩ := args_ok rs S P (fun a z => z) ea R
    refine ⟨M', ds.map Sl.d, noF, si_args ⟨S1.tab.1, nt_args S1 t1 t2 k1⟩ t2 D, ?_⟩
    have hnn : ∀ (a : Addr) (i : Nat), a ∉ noF i := fun a i z => by cases z
    split at w
    · rename_i x A' ef
      rw [ef]
      intro v H' M'' ft'' S'' Q'' R''
      have hk : ∀ a o, H a = some o → (∀ ps, o ≠ .tbl ps) → H' a = some o := fun a o q nt => Q''.frame a o q nt (hnn a)
      split at w
      · exact w.elim
      · rename_i c
        by_cases hb : b = false
        · have e' := k2 hb
          subst e'
          have hn : ∀ i a, a ∈ ft i → M'' a = none := fun i a ha => by
            obtain ⟨q1, o, q2, q3⟩ := S1.owned ha
            cases q4 : M'' a with
            | none => rfl
            | some o2 =>
              rcases Q''.new a o2 q4 with z | z | ⟨j, z⟩ | ⟨xs, z⟩
              · rw [q1] at z; cases z
              · rw [q2] at z; cases z
              · cases z
              · rw [q2] at z; cases z; exact absurd rfl (q3 xs)
          have SF : SI K σ H' M'' G ft := S1.called (M' := M') (σ1 := σ) (σ2 := σ) (G1 := G) (G2 := G) (ft2 := ft) S''.tab S''.sub hk Q''.mono hn
          refine w v H' M'' ft SF (P1.trans ⟨Q''.mono, fun a o z => ?_, fun a o z nt _ => hk a o z nt, Q''.tbls, Q''.tab, Q''.there, fun i a z => .inl ⟨i, z⟩, fun a xs z => hk a _ z (fun _ y => nomatch y), rfl, fun i o z => ⟨rfl, rfl, o, z⟩, fun i o z => ⟨rfl, rfl, z⟩⟩) R''
          rcases Q''.new a o z with y | y | ⟨j, y⟩ | y
          · exact .inl y
          · exact .inr (.inl y)
          · cases y
          · exact .inr (.inr (.inr y))
        · have hbt : b = true := by cases b with | true => rfl | false => exact absurd rfl hb
          subst hbt
          have hf : flatD x = true := by
            cases hx : flatD x with
            | true => rfl
            | false => rw [hx] at c; exact absurd rfl c
          have SF : SI K σ H' M1 G ft := S1.called (M' := M') (σ1 := σ) (σ2 := σ) (G1 := G) (G2 := G) (ft2 := ft) ⟨S''.tab.1, S1.tab.2⟩ ((t1.trans Q''.mono).trans S''.sub) hk (Sub.refl _) fun i a ha => (S1.owned ha).1
          exact w v H' M1 ft SF (P1.trans ⟨Sub.refl _, fun a o z => .inl z, fun a o z nt _ => hk a o z nt, Q''.tbls, Q''.tab, Q''.there, fun i a z => .inl ⟨i, z⟩, fun a xs z => hk a _ z (fun _ y => nomatch y), rfl, fun i o z => ⟨rfl, rfl, o, z⟩, fun i o z => ⟨rfl, rfl, z⟩⟩) (Dd.flat R'' hf)
    · rename_i o A' ef
      rw [ef]
      intro v H' M'' ft'' S'' Q'' R''
      have hk : ∀ a o, H a = some o → (∀ ps, o ≠ .tbl ps) → H' a = some o := fun a o q nt => Q''.frame a o q nt (hnn a)
      split at w
      · exact w.elim
      · rename_i c
        have hb : b = false := by cases b with | true => exact absurd rfl c | false => rfl
        have e' := k2 hb
        subst e'
        have hn : ∀ i a, a ∈ ft i → M'' a = none := fun i a ha => by
          obtain ⟨q1, o, q2, q3⟩ := S1.owned ha
          cases q4 : M'' a with
          | none => rfl
          | some o2 =>
            rcases Q''.new a o2 q4 with z | z | ⟨j, z⟩ | ⟨xs, z⟩
            · rw [q1] at z; cases z
            · rw [q2] at z; cases z
            · cases z
            · rw [q2] at z; cases z; exact absurd rfl (q3 xs)
        have SF : SI K σ H' M'' G ft := S1.called (M' := M') (σ1 := σ) (σ2 := σ) (G1 := G) (G2 := G) (ft2 := ft) S''.tab S''.sub hk Q''.mono hn
        obtain ⟨p, Fp, ev, g1, g2⟩ := R''
        refine w v H' M'' ft SF (P1.trans ⟨Q''.mono, fun a o z => ?_, fun a o z nt _ => hk a o z nt, Q''.tbls, Q''.tab, Q''.there, fun i a z => .inl ⟨i, z⟩, fun a xs z => hk a _ z (fun _ y => nomatch y), rfl, fun i o z => ⟨rfl, rfl, o, z⟩, fun i o z => ⟨rfl, rfl, z⟩⟩) ⟨p, Fp, ev, g1, fun a ha => ⟨(g2 a ha).1, P1.nn (g2 a ha).2.1, fun i z => ?_⟩⟩
        · rcases Q''.new a o z with y | y | ⟨j, y⟩ | y
          · exact .inl y
          · exact .inr (.inl y)
          · cases y
          · exact .inr (.inr (.inr y))
        · obtain ⟨_, o, q2, _⟩ := S1.owned z
          rw [(g2 a ha).2.1] at q2; cases q2
    · exact w.elim
    · rename_i e ef
      rw [ef]
      intro cls d H' x fr
      exact w cls d H' x (Frm.trans P1 ⟨fun a o q nt _ => fr.1 a o q nt (hnn a), fr.2⟩)
    · exact w.elim
  · exact w.elim
end
section
variable {X : Cx} {XR : XRt} {E : XK} {e : Expr} {es : List Expr} {fs : Gm → Res (List Rv)} {pos p : Pos} {x : Str} {k : Nat} {f : Addr} {fd : FuncData} {ps : List Str} {F : Gm → Res Rv}
/-- f(e, ..) -/
theorem fe_call {CX : CXT} (Fk : FnOk X.prog X.w X.K X.mg X.base CX k f fd ps (spF X.K XR F)) (hr : Room k X.A) (hg : Gl X x) (hm : X.mg x = some (.ref f)) (hk : PySem.W.keepIn X.K (.ref f) = true) (hb : Binds X.K fd ps []) (hx : Passes CX X E) (ha : PA X (e :: es) (tFA X.K XR E fs))
    (hdb : (x == ("__debug__" : Str)) = false := by decide)
    (he : starEach (e :: es) X.env = (false, eval e X.env) :: starEach es X.env := by rfl) (hpl : (backTo pos (starEach es X.env)).any (·.1) = false := by rfl) :
    PE X (.Call (.Name x p) (e :: es) [] pos) (tFE X.K XR E (fCallK (kCall F) fs)) :=
  PE.le (pe_call Fk hr hg hm hk hb .nil hx ha hdb he hpl) fun σ H Q ⟨M, G, ft, S, w⟩ =>
    bindAE S .refl w fun rs G1 vs H1 M1 ft1 e1 S1 P1 R1 w1 => by
      rw [List.append_nil]
      exact snd_call σ H1 M1 H M G1 G ft1 ft rs vs Q S1 P1 R1 w1
end
end Fx
/-! FxG: statements, defs -/
namespace Fx
open PySem PySem.Spec
open PyProof.Rows L2
/-! ### what may be changed -/
def mutAt (G : Gm) (i : Nat) : Option Ao := match G[i]? with
  | some (.l o) => some o
  | some (.x o) => some o
  | _ => none
def setOwn (G : Gm) (i : Nat) (o : Ao) : Gm := match G[i]? with
  | some (.x _) => G.set i (.x o)
  | _ => G.set i (.l o)
/-- a slot that may be stored to -/
def freeAt (G : Gm) (i : Nat) : Bool := match G[i]? with
  | some (.d _) => true
  | some (.l _) => true
  | some .no => true
  | _ => false
def ftPut (ft : Nat → List Addr) (i : Nat) (F : List Addr) : Nat → List Addr := fun j => if j = i then F else ft j
theorem ftPut_self {ft : Nat → List Addr} {i : Nat} {F : List Addr} : ftPut ft i F i = F := if_pos rfl
theorem ftPut_ne {ft : Nat → List Addr} {i j : Nat} {F : List Addr} (h : j ≠ i) : ftPut ft i F j = ft j := if_neg h
section
variable {K : PySem.W.Frag} {XR : XRt} {E : XK} {σ σ0 : L2.St} {G G0 : Gm} {H M H0 M0 : Hp} {ft ft0 : Nat → List Addr}
theorem mut_own {i : Nat} {o : Ao} (h : mutAt G i = some o) : ownAt G i = some o ∧ i < G.length := by
  unfold mutAt at h
  unfold ownAt
  split at h
  · rename_i o' e; cases h; rw [e]; exact ⟨rfl, (List.getElem?_eq_some_iff.mp e).1⟩
  · rename_i o' e; cases h; rw [e]; exact ⟨rfl, (List.getElem?_eq_some_iff.mp e).1⟩
  · cases h
theorem setOwn_len {i : Nat} {o : Ao} : (setOwn G i o).length = G.length := by
  unfold setOwn
  split <;> rw [List.length_set]
theorem setOwn_ne {i j : Nat} {o : Ao} (h : j ≠ i) : (setOwn G i o)[j]? = G[j]? := by
  unfold setOwn
  split <;> rw [List.getElem?_set_ne (Ne.symm h)]
theorem setOwn_self {i : Nat} {o o' : Ao} (h : mutAt G i = some o) : (G[i]? = some (.x o) ∧ (setOwn G i o')[i]? = some (.x o')) ∨ (G[i]? = some (.l o) ∧ (setOwn G i o')[i]? = some (.l o')) := by
  have hi := (mut_own h).2
  unfold mutAt at h
  unfold setOwn
  split at h
  · rename_i o' e
    cases h
    refine .inr ⟨e, ?_⟩
    split
    · rename_i e2; rw [e] at e2; cases e2
    · rw [List.getElem?_set_self hi]
  · rename_i o' e
    cases h
    refine .inl ⟨e, ?_⟩
    split
    · rw [List.getElem?_set_self hi]
    · rename_i e2; exact absurd e (e2 _)
  · cases h
/-- an owned object gets another content -/
theorem SI.put (S : SI K σ H M G ft) {i : Nat} {o o' : Ao} {p : Addr} {H' M' : Hp} (h : mutAt G i = some o) (hp : σ[i]? = some (some (.ref p))) (a' : AoOk K H' M' o' p (ft i)) (tb : TabI K H' ∧ ∀ a ps, M' a ≠ some (.tbl ps)) (sub : Sub M' H') (mono : Sub M M') (hk : ∀ j a, j ≠ i → a ∈ ft j → ∀ u, H a = some u → (∀ ps, u ≠ .tbl ps) → H' a = some u)
    (hm : ∀ j a, a ∈ ft j → M' a = none) : SI K σ H' M' (setOwn G i o') ft where
  len := by rw [setOwn_len]; exact S.len
  sub := sub
  tab := tb
  slot := fun j s e => by
    by_cases z : j = i
    · subst z
      rcases setOwn_self (o' := o') h with ⟨_, q⟩ | ⟨_, q⟩
      · rw [q] at e; cases e; exact ⟨p, hp, a', hm j⟩
      · rw [q] at e; cases e; exact ⟨p, hp, a', hm j⟩
    · rw [setOwn_ne z] at e
      exact (S.slot j s e).keep mono (fun a ha u q => hk j a z ha u q) (hm j)
  out := fun j hj => S.out j (by rw [setOwn_len] at hj; exact hj)
  disj := S.disj
theorem Stp.put {i : Nat} {o o' : Ao} {H' M' : Hp} (h : mutAt G i = some o) (mono : Sub M M') (new : ∀ a u, M' a = some u → M a = some u ∨ H a = none ∨ (∃ j, a ∈ ft j) ∨ isTup H a) (frame : ∀ a u, H a = some u → (∀ ps, u ≠ .tbl ps) → (∀ j, a ∉ ft j) → H' a = some u) (tbls : ∀ a ps, H a = some (.tbl ps) → ∃ ps', H' a = some (.tbl ps')) (tab : ∀ K, TabI K H → TabI K H')
    (there : ∀ a u, H a = some u → ∃ u', H' a = some u') (tups : ∀ a xs, H a = some (.tup xs) → H' a = some (.tup xs)) : Stp σ G H M ft σ (setOwn G i o') H' M' ft :=
  ⟨mono, new, frame, tbls, tab, there, fun j a z => .inl ⟨j, z⟩, tups, setOwn_len, fun j u e => by
    by_cases z : j = i
    · subst z
      rcases setOwn_self (o' := o') h with ⟨_, q⟩ | ⟨q0, q⟩
      · exact ⟨rfl, rfl, _, q⟩
      · rw [q0] at e; cases e
    · exact ⟨rfl, rfl, u, by rw [setOwn_ne z]; exact e⟩, fun j u e => by
    by_cases z : j = i
    · subst z
      rcases setOwn_self (o' := o') h with ⟨q0, q⟩ | ⟨q0, q⟩
      · rw [q0] at e; cases e
      · rw [q0] at e; cases e
    · exact ⟨rfl, rfl, by rw [setOwn_ne z]; exact e⟩⟩
/-- an owned list is written -/
theorem SI.putL (S : SI K σ H M G ft) {i : Nat} {ds ds' : List PyData} (h : mutAt G i = some (.lst ds)) {p : Addr} {xs' : List V} (hp : σ[i]? = some (some (.ref p))) (g : DdA K M xs' ds') :
    SI K σ (upd H p (.lst xs')) M (setOwn G i (.lst ds')) ft ∧ Stp σ G H M ft σ (setOwn G i (.lst ds')) (upd H p (.lst xs')) M ft := by
  obtain ⟨q, e, ⟨hF, xs, h1, h2⟩, h3⟩ := own_ok S (mut_own h).1 hp
  cases e
  have hpi : p ∈ ft i := by rw [hF]; exact List.mem_singleton.mpr rfl
  have nt : ∀ a u, H a = some u → (∀ ps, u ≠ .tbl ps) → (∀ j, a ∉ ft j) → (upd H p (.lst xs')) a = some u := fun a u e _ hn => by rw [upd_ne (show a ≠ p from fun z => hn i (by rw [z]; exact hpi))]; exact e
  refine ⟨S.put h hp ⟨hF, xs', upd_same, g⟩ ⟨S.tab.1.upd h1 noTab_lst, S.tab.2⟩ (fun a u e => ?_) (Sub.refl _) (fun j a hj ha u e _ => ?_) (fun j a ha => (S.owned ha).1), Stp.put h (Sub.refl _) (fun a u e => .inl e) nt (tbls_upd h1 noTab_lst) (fun K t => t.upd h1 noTab_lst) (fun a u e => ?_) fun a ys e => ?_⟩
  · rw [upd_ne (show a ≠ p from fun z => by subst z; rw [h3 a hpi] at e; cases e)]; exact S.sub a u e
  · rw [upd_ne (show a ≠ p from fun z => hj (S.disj j i a ha (by rw [z]; exact hpi)))]; exact e
  · by_cases z : a = p
    · subst z; exact ⟨_, upd_same⟩
    · exact ⟨u, by rw [upd_ne z]; exact e⟩
  · rw [upd_ne (show a ≠ p from fun z => by subst z; rw [h1] at e; cases e)]; exact e
/-! ### storing -/
theorem SI.setG (S : SI K σ H M G ft) {i : Nat} {s : Sl} {v : V} {F : List Addr} (hi : i < G.length) (hs : SlOk K (σ.set i (some v)) H M F i s) (hF : ∀ a ∈ F, ∀ j, j ≠ i → a ∉ ft j) : SI K (σ.set i (some v)) H M (G.set i s) (ftPut ft i F) where
  len := by rw [List.length_set, List.length_set]; exact S.len
  sub := S.sub
  tab := S.tab
  slot := fun j t e => by
    by_cases z : j = i
    · subst z
      rw [List.getElem?_set_self hi] at e; cases e
      rw [ftPut_self]; exact hs
    · rw [List.getElem?_set_ne (Ne.symm z)] at e
      rw [ftPut_ne z]
      have q := S.slot j t e
      have es : (σ.set i (some v))[j]? = σ[j]? := List.getElem?_set_ne (Ne.symm z)
      cases t with
      | no => exact q
      | d x => obtain ⟨q1, u, q2, q3⟩ := q; exact ⟨q1, u, es.trans q2, q3⟩
      | l o => obtain ⟨p, q2, q3⟩ := q; exact ⟨p, es.trans q2, q3⟩
      | x o => obtain ⟨p, q2, q3⟩ := q; exact ⟨p, es.trans q2, q3⟩
      | k o => obtain ⟨p, q2, q3⟩ := q; exact ⟨p, es.trans q2, q3⟩
  out := fun j hj => by
    rw [List.length_set] at hj
    rw [ftPut_ne (by omega)]; exact S.out j hj
  disj := fun j k a ha hb => by
    by_cases z : j = i
    · by_cases y : k = i
      · rw [z, y]
      · rw [z, ftPut_self] at ha
        rw [ftPut_ne y] at hb
        exact absurd hb (hF a ha k y)
    · rw [ftPut_ne z] at ha
      by_cases y : k = i
      · rw [y, ftPut_self] at hb
        exact absurd ha (hF a hb j z)
      · rw [ftPut_ne y] at hb
        exact S.disj j k a ha hb
theorem free_not {i : Nat} (h : freeAt G i = true) : i < G.length ∧ (∀ o, G[i]? ≠ some (.x o)) ∧ ∀ o, G[i]? ≠ some (.k o) := by
  unfold freeAt at h
  split at h
  · rename_i e; exact ⟨(List.getElem?_eq_some_iff.mp e).1, fun o z => (by rw [e] at z; cases z), fun o z => (by rw [e] at z; cases z)⟩
  · rename_i e; exact ⟨(List.getElem?_eq_some_iff.mp e).1, fun o z => (by rw [e] at z; cases z), fun o z => (by rw [e] at z; cases z)⟩
  · rename_i e; exact ⟨(List.getElem?_eq_some_iff.mp e).1, fun o z => (by rw [e] at z; cases z), fun o z => (by rw [e] at z; cases z)⟩
  · cases h
theorem Stp.setG (P : Stp σ0 G0 H0 M0 ft0 σ G H M ft) {i : Nat} {s : Sl} {v : V} {F : List Addr} (hi : freeAt G i = true) (hF : ∀ a ∈ F, (∃ j, a ∈ ft0 j) ∨ H0 a = none) : Stp σ0 G0 H0 M0 ft0 (σ.set i (some v)) (G.set i s) H M (ftPut ft i F) := by
  obtain ⟨h1, h2, h3⟩ := free_not hi
  refine ⟨P.mono, P.new, P.frame, P.tbls, P.tab, P.there, fun j a ha => ?_, P.tups, by rw [List.length_set]; exact P.len, fun j o e => ?_, fun j o e => ?_⟩
  · by_cases z : j = i
    · rw [z, ftPut_self] at ha; exact hF a ha
    · rw [ftPut_ne z] at ha; exact P.own j a ha
  · obtain ⟨q1, q2, o', q3⟩ := P.kx j o e
    have ne : j ≠ i := fun z => h2 o' (by rw [← z]; exact q3)
    exact ⟨by rw [List.getElem?_set_ne (Ne.symm ne)]; exact q1, by rw [ftPut_ne ne]; exact q2, o', by rw [List.getElem?_set_ne (Ne.symm ne)]; exact q3⟩
  · obtain ⟨q1, q2, q3⟩ := P.kk j o e
    have ne : j ≠ i := fun z => h3 o (by rw [← z]; exact q3)
    exact ⟨by rw [List.getElem?_set_ne (Ne.symm ne)]; exact q1, by rw [ftPut_ne ne]; exact q2, by rw [List.getElem?_set_ne (Ne.symm ne)]; exact q3⟩
end
/-- a slot gives its object away -/
def dropSl (G : Gm) (j : Nat) : Gm := G.set j .no
def setSl (G : Gm) (i : Nat) (r : Rv) : Option Gm := if freeAt G i then match r with
    | .d x => some (G.set i (.d x))
    | .new o => some (G.set i (.l o))
    | .own j => match G[j]? with
      | some (.l o) => if j = i then some G else some ((G.set j .no).set i (.l o))
      | _ => none
  else none
section
variable {K : PySem.W.Frag} {XR : XRt} {E : XK} {σ σ0 : L2.St} {G G0 : Gm} {H M H0 M0 : Hp} {ft ft0 : Nat → List Addr}
/-- forgetting a slot -/
theorem SI.drop (S : SI K σ H M G ft) (j : Nat) : SI K σ H M (G.set j .no) (ftDrop ft j) where
  len := by rw [List.length_set]; exact S.len
  sub := S.sub
  tab := S.tab
  slot := fun k t e => by
    by_cases z : k = j
    · subst z
      by_cases y : k < G.length
      · rw [List.getElem?_set_self y] at e; cases e
        show ftDrop ft k k = []
        unfold ftDrop; rw [if_pos rfl]
      · rw [List.getElem?_eq_none (by rw [List.length_set]; omega)] at e; cases e
    · rw [List.getElem?_set_ne (Ne.symm z)] at e
      have ej : ftDrop ft j k = ft k := by unfold ftDrop; rw [if_neg z]
      rw [ej]; exact S.slot k t e
  out := fun k hk => by
    rw [List.length_set] at hk
    unfold ftDrop
    split
    · rfl
    · exact S.out k hk
  disj := fun a b x ha hb => S.disj a b x (ftDrop_sub ha) (ftDrop_sub hb)
theorem Stp.drop (P : Stp σ0 G0 H0 M0 ft0 σ G H M ft) {j : Nat} (h : freeAt G j = true) : Stp σ0 G0 H0 M0 ft0 σ (G.set j .no) H M (ftDrop ft j) := by
  obtain ⟨h1, h2, h3⟩ := free_not h
  refine ⟨P.mono, P.new, P.frame, P.tbls, P.tab, P.there, fun k a ha => P.own k a (ftDrop_sub ha), P.tups, by rw [List.length_set]; exact P.len, fun k o e => ?_, fun k o e => ?_⟩
  · obtain ⟨q1, q2, o', q3⟩ := P.kx k o e
    have ne : k ≠ j := fun z => h2 o' (by rw [← z]; exact q3)
    exact ⟨q1, by unfold ftDrop; rw [if_neg ne]; exact q2, o', by rw [List.getElem?_set_ne (Ne.symm ne)]; exact q3⟩
  · obtain ⟨q1, q2, q3⟩ := P.kk k o e
    have ne : k ≠ j := fun z => h3 o (by rw [← z]; exact q3)
    exact ⟨q1, by unfold ftDrop; rw [if_neg ne]; exact q2, by rw [List.getElem?_set_ne (Ne.symm ne)]; exact q3⟩
/-- a store of an answer -/
theorem setSl_ok (S : SI K σ H M G ft) (P : Stp σ0 G0 H0 M0 ft0 σ G H M ft) {i : Nat} {r : Rv} {v : V} {G' : Gm} {Hb : Hp} (hb : ∀ a, Hb a = none → H0 a = none) (h : setSl G i r = some G') (R : RvOk K σ Hb H M ft r v) :
    ∃ ft', SI K (σ.set i (some v)) H M G' ft' ∧ Stp σ0 G0 H0 M0 ft0 (σ.set i (some v)) G' H M ft' ∧ ∀ j a, a ∈ ft' j → (∃ k, a ∈ ft k) ∨ ∃ o p F, r = .new o ∧ v = .ref p ∧ AoOk K H M o p F ∧ a ∈ F := by
  unfold setSl at h
  split at h
  · rename_i hf
    obtain ⟨hi, hx, hk⟩ := free_not hf
    have hiσ : i < σ.length := by rw [S.len]; exact hi
    cases r with
    | d x =>
      cases h
      refine ⟨_, S.setG (F := []) hi ⟨rfl, v, List.getElem?_set_self hiσ, R⟩ (fun a z => by cases z), P.setG hf (fun a z => by cases z), fun j a ha => ?_⟩
      by_cases z : j = i
      · rw [z, ftPut_self] at ha; cases ha
      · rw [ftPut_ne z] at ha; exact .inl ⟨j, ha⟩
    | new o =>
      cases h
      obtain ⟨p, F, rfl, g, k⟩ := R
      refine ⟨_, S.setG (F := F) hi ⟨p, List.getElem?_set_self hiσ, g, fun a ha => (k a ha).1⟩ (fun a ha j _ => (k a ha).2.2 j), P.setG hf (fun a ha => .inr (hb a (k a ha).2.1)), fun j a ha => ?_⟩
      by_cases z : j = i
      · rw [z, ftPut_self] at ha; exact .inr ⟨o, p, F, rfl, rfl, g, ha⟩
      · rw [ftPut_ne z] at ha; exact .inl ⟨j, ha⟩
    | own j =>
      have h' : (match G[j]? with | some (.l o) => if j = i then some G else some ((G.set j .no).set i (.l o)) | _ => none) = some G' := h
      split at h'
      · rename_i o e
        obtain ⟨p, hp, g, hm⟩ := S.slot j _ e
        have hv : σ[j]? = some (some v) := R
        rw [hp] at hv; cases hv
        split at h'
        · rename_i z
          cases h'
          subst z
          have es : σ.set j (some (.ref p)) = σ := by
            apply List.ext_getElem?
            intro k
            by_cases y : j = k
            · subst y; rw [List.getElem?_set_self hiσ]; exact hp.symm
            · rw [List.getElem?_set_ne y]
          rw [es]
          exact ⟨ft, S, P, fun k a ha => .inl ⟨k, ha⟩⟩
        · rename_i z
          cases h'
          have S1 := S.drop j
          have fj : freeAt G j = true := by unfold freeAt; rw [e]
          have P1 := P.drop fj
          have fi : freeAt (G.set j .no) i = true := by
            unfold freeAt at hf ⊢
            rw [List.getElem?_set_ne z]
            exact hf
          have hi' : i < (G.set j .no).length := by rw [List.length_set]; exact hi
          refine ⟨_, S1.setG (F := ft j) (s := .l o) hi' ⟨p, List.getElem?_set_self hiσ, g, hm⟩ (fun a ha k hk2 hb2 => ?_), P1.setG fi (fun a ha => P.own j a ha), fun k a ha => ?_⟩
          · by_cases y : k = j
            · subst y; unfold ftDrop at hb2; rw [if_pos rfl] at hb2; cases hb2
            · exact y (S.disj k j a (ftDrop_sub hb2) ha)
          · by_cases y : k = i
            · rw [y, ftPut_self] at ha; exact .inl ⟨j, ha⟩
            · rw [ftPut_ne y] at ha; exact .inl ⟨k, ftDrop_sub ha⟩
      · cases h'
  · cases h
end
/-! ### statements -/
inductive Out where
  | nx
  | rt (r : Rv)
  | bk
  | ct
section
variable (K : PySem.W.Frag) (XR : XRt) (E : XK)
def OutQ (D : Ends) (H₀ : Hp) (σ' : L2.St) (H' M' : Hp) (ft' : Nat → List Addr) : Out → Prop
  | .nx => D.nx σ' H'
  | .bk => D.bk σ' H'
  | .ct => D.ct σ' H'
  | .rt r => ∀ v, RvOk K σ' H₀ H' M' ft' r v → D.rt v H'
def WS (σ : L2.St) (G : Gm) (H M : Hp) (ft : Nat → List Addr) (res : Res Out) (D : Ends) : Prop := match res with
  | .ok o G' => ∀ σ' H' M' ft', SI K σ' H' M' G' ft' → Stp σ G H M ft σ' G' H' M' ft' → OutQ K D H σ' H' M' ft' o
  | .ex e => ∀ cls d H', XR e cls d H' → Frm H ft H' → E cls d H'
  | .bad => False
def tFS (f : Gm → Res Out) : TS := fun D σ H => ∃ M G ft, SI K σ H M G ft ∧ WS K XR E σ G H M ft (f G) D
end
section
variable {K : PySem.W.Frag} {XR : XRt} {E : XK} {σ σ0 : L2.St} {G G0 : Gm} {H M H0 M0 : Hp} {ft ft0 : Nat → List Addr}
theorem OutQ.base {D : Ends} {H₀ H₁ : Hp} {σ' : L2.St} {H' M' : Hp} {ft' : Nat → List Addr} {o : Out} (h : OutQ K D H₀ σ' H' M' ft' o) (k : ∀ a, H₁ a = none → H₀ a = none) : OutQ K D H₁ σ' H' M' ft' o := by
  cases o with
  | nx => exact h
  | bk => exact h
  | ct => exact h
  | rt r => exact fun v R => h v (R.base k)
theorem WS.rebase {res : Res Out} {D : Ends} (P : Stp σ0 G0 H0 M0 ft0 σ G H M ft) (h : WS K XR E σ0 G0 H0 M0 ft0 res D) : WS K XR E σ G H M ft res D := by
  cases res with
  | ok o G' => exact fun σ' H' M' ft' S Q => (h σ' H' M' ft' S (P.trans Q)).base fun a z => P.nn z
  | ex e => exact fun cls d H' x f => h cls d H' x (Frm.trans P f)
  | bad => exact h
theorem restS {f : Gm → Res Out} {D : Ends} (S : SI K σ H M G ft) (P : Stp σ0 G0 H0 M0 ft0 σ G H M ft) (w : WS K XR E σ0 G0 H0 M0 ft0 (f G) D) : tFS K XR E f D σ H := ⟨M, G, ft, S, w.rebase P⟩
theorem WS.next {D : Ends} (w : WS K XR E σ0 G0 H0 M0 ft0 (.ok .nx G) D) (S : SI K σ H M G ft) (P : Stp σ0 G0 H0 M0 ft0 σ G H M ft) : D.nx σ H := w σ H M ft S P
/-- an expression in a statement -/
theorem bindES {f : Gm → Res Rv} {k : Rv → Gm → Res Out} {D : Ends} {Q1 : VK} (S : SI K σ H M G ft) (P : Stp σ0 G0 H0 M0 ft0 σ G H M ft) (h : WS K XR E σ0 G0 H0 M0 ft0 ((f G).bind k) D)
    (go : ∀ r G1 v H1 M1 ft1, f G = .ok r G1 → SI K σ H1 M1 G1 ft1 → Stp σ G H M ft σ G1 H1 M1 ft1 → RvOk K σ H H1 M1 ft1 r v → WS K XR E σ0 G0 H0 M0 ft0 (k r G1) D → Q1 v H1) : tFE K XR E f σ H Q1 := by
  refine ⟨M, G, ft, S, ?_⟩
  cases e : f G with
  | ok r G1 => rw [e] at h; exact fun v H1 M1 ft1 S1 p R => go r G1 v H1 M1 ft1 e S1 p R h
  | ex x => rw [e] at h; exact fun cls d H' y fr => h cls d H' y (Frm.trans P fr)
  | bad => rw [e] at h; exact h
theorem bindTS {f : Gm → Res Bool} {k : Bool → Gm → Res Out} {D : Ends} {Q1 : Bool → Hp → Prop} (S : SI K σ H M G ft) (P : Stp σ0 G0 H0 M0 ft0 σ G H M ft) (h : WS K XR E σ0 G0 H0 M0 ft0 ((f G).bind k) D)
    (go : ∀ r G1 H1 M1 ft1, f G = .ok r G1 → SI K σ H1 M1 G1 ft1 → Stp σ G H M ft σ G1 H1 M1 ft1 → WS K XR E σ0 G0 H0 M0 ft0 (k r G1) D → Q1 r H1) : tFT K XR E f σ H Q1 := by
  refine ⟨M, G, ft, S, ?_⟩
  cases e : f G with
  | ok r G1 => rw [e] at h; exact fun v H1 M1 ft1 S1 p R => by cases R; exact go r G1 H1 M1 ft1 e S1 p h
  | ex x => rw [e] at h; exact fun cls d H' y fr => h cls d H' y (Frm.trans P fr)
  | bad => rw [e] at h; exact h
theorem bindAS {f : Gm → Res (List Rv)} {k : List Rv → Gm → Res Out} {D : Ends} {Q1 : List V → Hp → Prop} (S : SI K σ H M G ft) (P : Stp σ0 G0 H0 M0 ft0 σ G H M ft) (h : WS K XR E σ0 G0 H0 M0 ft0 ((f G).bind k) D)
    (go : ∀ r G1 v H1 M1 ft1, f G = .ok r G1 → SI K σ H1 M1 G1 ft1 → Stp σ G H M ft σ G1 H1 M1 ft1 → RvsOk K σ H1 M1 ft1 H r v → WS K XR E σ0 G0 H0 M0 ft0 (k r G1) D → Q1 v H1) : tFA K XR E f σ H Q1 := by
  refine ⟨M, G, ft, S, ?_⟩
  cases e : f G with
  | ok r G1 => rw [e] at h; exact fun v H1 M1 ft1 S1 p R => go r G1 v H1 M1 ft1 e S1 p R h
  | ex x => rw [e] at h; exact fun cls d H' y fr => h cls d H' y (Frm.trans P fr)
  | bad => rw [e] at h; exact h
end
def sNx : Gm → Res Out := fun G => .ok .nx G
def sSeq (f g : Gm → Res Out) : Gm → Res Out := fun G => match f G with
  | .ok .nx G1 => g G1
  | .ok (.rt r) G1 => .ok (.rt r) G1
  | .ok .bk G1 => .ok .bk G1
  | .ok .ct G1 => .ok .ct G1
  | .ex e => .ex e
  | .bad => .bad
def sExpr (f : Gm → Res Rv) : Gm → Res Out := fun G => (f G).bind fun _ G1 => .ok .nx G1
def sRet (f : Gm → Res Rv) : Gm → Res Out := fun G => (f G).bind fun r G1 => .ok (.rt r) G1
def sBk : Gm → Res Out := fun G => .ok .bk G
def sCt : Gm → Res Out := fun G => .ok .ct G
def sIf (t : Gm → Res Bool) (f g : Gm → Res Out) : Gm → Res Out := fun G => (t G).bind fun t G1 => if t then f G1 else g G1
def stor (G : Gm) (i : Nat) (r : Rv) : Res Out := match setSl G i r with
  | some G' => .ok .nx G'
  | none => .bad
def sSet (i : Nat) (f : Gm → Res Rv) : Gm → Res Out := fun G => (f G).bind fun r G1 => stor G1 i r
def intAt (G : Gm) (i : Nat) : Option Int := match G[i]? with
  | some (.d (.int a)) => some a
  | _ => none
def sAug (k : Int → Int → Int) (i : Nat) (f : Gm → Res Rv) : Gm → Res Out := fun G => match intAt G i with
  | some a => (f G).bind fun r G1 => match rd G1 r with
    | some (.int b) => stor G1 i (.d (.int (k a b)))
    | _ => .bad
  | none => .bad
def sRaise (e : Exn) : Gm → Res Out := fun _ => .ex e
section
variable {X : Cx} {XR : XRt} {E : XK} {st : Stmt} {rest a b : List Stmt} {e c : Expr} {f g : Gm → Res Out} {fe : Gm → Res Rv} {t : Gm → Res Bool} {pos : Pos}
theorem fs_nil : PSs X [] (tFS X.K XR E sNx) := PSs.le pss_nil fun D σ H ⟨M, G, ft, S, w⟩ => w.next S .refl
theorem seq_le : ∀ D σ H, tFS X.K XR E (sSeq f g) D σ H → tSeq (tFS X.K XR E f) (tFS X.K XR E g) D σ H := fun D σ H ⟨M, G, ft, S, w⟩ => by
  refine ⟨M, G, ft, S, ?_⟩
  unfold sSeq at w
  cases e : f G with
  | ok o G1 =>
    rw [e] at w
    cases o with
    | nx => exact fun σ' H' M' ft' S' P' => restS S' P' w
    | rt r => exact w
    | bk => exact w
    | ct => exact w
  | ex x => rw [e] at w; exact w
  | bad => rw [e] at w; exact w
theorem fs_cons (h1 : PS X st (tFS X.K XR E f)) (h2 : PSs X rest (tFS X.K XR E g)) : PSs X (st :: rest) (tFS X.K XR E (sSeq f g)) := PSs.le (pss_cons h1 h2) seq_le
theorem fs_one (h1 : PS X st (tFS X.K XR E f)) : PSs X [st] (tFS X.K XR E f) := pss_one h1
theorem fs_pass : PS X (.Pass pos) (tFS X.K XR E sNx) := PS.le ps_pass fun D σ H ⟨M, G, ft, S, w⟩ => w.next S .refl
theorem fs_break : PS X (.Break pos) (tFS X.K XR E sBk) := PS.le ps_break fun D σ H ⟨M, G, ft, S, w⟩ => w σ H M ft S .refl
theorem fs_continue : PS X (.Continue pos) (tFS X.K XR E sCt) := PS.le ps_continue fun D σ H ⟨M, G, ft, S, w⟩ => w σ H M ft S .refl
theorem fs_expr (he : PE X e (tFE X.K XR E fe)) (hs : swapsWith e none pos.line X.env = pure false := by rfl) : PS X (.Expr e pos) (tFS X.K XR E (sExpr fe)) := PS.le (ps_expr he hs) fun D σ H ⟨M, G, ft, S, w⟩ =>
  bindES S .refl w fun r G1 v H1 M1 ft1 _ S1 P1 R1 w1 => w1.next S1 P1
theorem fs_ret (he : PE X e (tFE X.K XR E fe)) : PS X (.Return (some e) pos) (tFS X.K XR E (sRet fe)) := PS.le (ps_ret he) fun D σ H ⟨M, G, ft, S, w⟩ =>
  bindES S .refl w fun r G1 v H1 M1 ft1 _ S1 P1 R1 w1 => w1 σ H1 M1 ft1 S1 P1 v R1
theorem fs_if (hc : PT X c (tFT X.K XR E t)) (ha : PSs X a (tFS X.K XR E f)) (hb : PSs X b (tFS X.K XR E g)) : PS X (.If c a b pos) (tFS X.K XR E (sIf t f g)) := PS.le (ps_if hc ha hb) fun D σ H ⟨M, G, ft, S, w⟩ =>
  bindTS S .refl w fun t G1 H1 M1 ft1 _ S1 P1 w1 => by
    cases t with
    | true => exact restS S1 P1 w1
    | false => exact restS S1 P1 w1
theorem stor_ok {K : PySem.W.Frag} {σ σ0 : L2.St} {G G0 : Gm} {H M H0 M0 Hb : Hp} {ft ft0 : Nat → List Addr} {i : Nat} {r : Rv} {v : V} {D : Ends} (S : SI K σ H M G ft) (P : Stp σ0 G0 H0 M0 ft0 σ G H M ft) (hb : ∀ a, Hb a = none → H0 a = none) (R : RvOk K σ Hb H M ft r v) (w : WS K XR E σ0 G0 H0 M0 ft0 (stor G i r) D) : D.nx (σ.set i (some v)) H := by
  unfold stor at w
  split at w
  · rename_i G' e
    obtain ⟨ft', S', P', _⟩ := setSl_ok S P hb e R
    exact w.next S' P'
  · exact w.elim
theorem fs_set {i : Nat} {x : Str} {pos' : Pos} (hN : X.N.Nodup) (hi : X.N[i]? = some x) (hx : Loc X.env.scope x) (he : PE X e (tFE X.K XR E fe)) (hs : swapsWith e (some (.Name x pos')) pos.line X.env = pure false := by rfl) (hf : X.fn x = true ∨ X.env.scope.names.lookup x = some .local := by first | exact .inl rfl | exact .inr rfl | assumption) :
    PS X (.Assign [.Name x pos'] e pos) (tFS X.K XR E (sSet i fe)) := PS.le (ps_set hN hi hx he hs hf) fun D σ H ⟨M, G, ft, S, w⟩ =>
  bindES S .refl w fun r G1 v H1 M1 ft1 _ S1 P1 R1 w1 => stor_ok S1 P1 (fun a z => z) R1 w1
theorem intAt_ok {K : PySem.W.Frag} {σ : L2.St} {G : Gm} {H M : Hp} {ft : Nat → List Addr} {i : Nat} {a : Int} (S : SI K σ H M G ft) (h : intAt G i = some a) : σ[i]? = some (some (.int a)) := by
  unfold intAt at h
  split at h
  · rename_i b e
    cases h
    obtain ⟨_, v, h1, h2⟩ := S.slot i _ e
    cases h2
    exact h1
  · cases h
theorem fs_aug {i : Nat} {x : Str} {op : Operator} {k : Int → Int → Int} {pos' : Pos} (hN : X.N.Nodup) (hi : X.N[i]? = some x) (hx : Loc X.env.scope x) (he : PE X e (tFE X.K XR E fe)) (ho : PIp X op (ipI k)) (hf : X.fn x = true ∨ X.env.scope.names.lookup x = some .local := by first | exact .inl rfl | exact .inr rfl | assumption) :
    PS X (.AugAssign (.Name x pos') op e pos) (tFS X.K XR E (sAug k i fe)) := PS.le (ps_aug hN hi hx he ho hf) fun D σ H ⟨M, G, ft, S, w⟩ => by
  unfold sAug at w
  split at w
  · rename_i a ea
    refine ⟨.int a, intAt_ok S ea, bindES S .refl w fun r G1 v H1 M1 ft1 _ S1 P1 R1 w1 => ?_⟩
    split at w1
    · rename_i b eb
      cases rd_int S1 eb R1
      exact ⟨a, b, rfl, rfl, stor_ok (Hb := H) (r := .d (.int (k a b))) (v := .int (k a b)) S1 P1 (fun a z => z) (Dd.int _) w1⟩
    · exact w1.elim
  · exact w.elim
theorem fs_raise {C : Addr} {ex : Exn} {t : L2.St → Hp → XK → Prop} (h : PS X st (fun _ σ H => t σ H fun cls d H' => E cls d H')) (ht : ∀ σ H Q, Q (.ref C) none H → t σ H Q) (hx : ∀ H, XR ex (.ref C) none H) : PS X st (tFS X.K XR E (sRaise ex)) := PS.le h fun D σ H ⟨M, G, ft, S, w⟩ =>
  ht σ H _ (w (.ref C) none H (hx H) ⟨fun a o z _ _ => z, fun a o z => ⟨o, z⟩, fun _ t => t, fun a ps z => ⟨ps, z⟩⟩)
end
end Fx
/-! FxH: defs as a whole; calls that change the first argument -/
namespace Fx
open PySem PySem.Spec
open PyProof.Rows L2
def argSl : Sl → Bool
  | .d _ => true
  | .x _ => true
  | _ => false
def outArg (a : Sl) (g : Sl) : Sl := match a with
  | .x _ => g
  | a => a
def outArgs (As G : Gm) : Gm := List.zipWith outArg As G
def fixR (G : Gm) : Rv → Option Rv
  | .d x => some (.d x)
  | .new o => some (.new o)
  | .own i => match G[i]? with
    | some (.l o) => some (.new o)
    | _ => none
def endDef (As : Gm) : Res Out → Res Rv
  | .ok .nx G => .ok (.d .none) (outArgs As G)
  | .ok (.rt r) G => match fixR G r with
    | some r' => .ok r' (outArgs As G)
    | none => .bad
  | .ex e => .ex e
  | _ => .bad
/-- a def: n parameters, m other names -/
def runDef (n m : Nat) (f : Gm → Res Out) : Gm → Res Rv := fun As => if decide (As.length = n) && As.all argSl then endDef As (f (As ++ List.replicate m .no)) else .bad
section
variable {K : PySem.W.Frag} {XR : XRt} {E : XK}
theorem zip_at {As G : Gm} {i : Nat} {a g : Sl} (h1 : As[i]? = some a) (h2 : G[i]? = some g) : (outArgs As G)[i]? = some (outArg a g) := by
  unfold outArgs
  rw [List.getElem?_zipWith, h1, h2]
theorem si_start {vs : List V} {H M : Hp} {As : Gm} {ft : Nat → List Addr} (S : SI K (vs.map some) H M As ft) (m : Nat) : SI K (vs.map some ++ List.replicate m none) H M (As ++ List.replicate m .no) ft where
  len := by rw [List.length_append, List.length_append, S.len, List.length_replicate, List.length_replicate]
  sub := S.sub
  tab := S.tab
  slot := fun i s e => by
    by_cases h : i < As.length
    · rw [List.getElem?_append_left h] at e
      have hv : i < (vs.map some : L2.St).length := by rw [S.len]; exact h
      have q := S.slot i s e
      have es : (vs.map some ++ List.replicate m none : L2.St)[i]? = (vs.map some : L2.St)[i]? := List.getElem?_append_left hv
      cases s with
      | no => exact q
      | d x => obtain ⟨q1, u, q2, q3⟩ := q; exact ⟨q1, u, es.trans q2, q3⟩
      | l o => obtain ⟨p, q2, q3⟩ := q; exact ⟨p, es.trans q2, q3⟩
      | x o => obtain ⟨p, q2, q3⟩ := q; exact ⟨p, es.trans q2, q3⟩
      | k o => obtain ⟨p, q2, q3⟩ := q; exact ⟨p, es.trans q2, q3⟩
    · rw [List.getElem?_append_right (by omega), List.getElem?_replicate] at e
      split at e
      · cases e; exact S.out i (by omega)
      · cases e
  out := fun i hi => S.out i (by rw [List.length_append] at hi; omega)
  disj := S.disj
theorem stp_start {vs : List V} {H M H' M' : Hp} {As G' : Gm} {ft ft' : Nat → List Addr} {m : Nat} {σ' : L2.St} (h : As.length = vs.length) (P : Stp (vs.map some ++ List.replicate m none) (As ++ List.replicate m .no) H M ft σ' G' H' M' ft') :
    ∀ i o, As[i]? = some (.x o) → σ'[i]? = (vs.map some : L2.St)[i]? ∧ ft' i = ft i ∧ ∃ o', G'[i]? = some (.x o') := fun i o e => by
  have hi := (List.getElem?_eq_some_iff.mp e).1
  obtain ⟨q1, q2, q3⟩ := P.kx i o (by rw [List.getElem?_append_left hi]; exact e)
  exact ⟨q1.trans (List.getElem?_append_left (by rw [List.length_map]; omega)), q2, q3⟩
/-- behind a def's body: what its caller sees -/
theorem def_end {vs : List V} {H M : Hp} {As : Gm} {ft : Nat → List Addr} {m : Nat} {f : Gm → Res Out} {Q : VK} (S : SI K (vs.map some) H M As ft) (hA : As.all argSl = true) (w : WP K XR E (ROv K (vs.map some)) (vs.map some) As H M ft (endDef As (f (As ++ List.replicate m .no))) Q) :
    tFS K XR E f { nx := fun _ H' => Q .non H', rt := Q } (vs.map some ++ List.replicate m none) H := by
  have hl : As.length = vs.length := by have := S.len; rw [List.length_map] at this; exact this.symm
  refine ⟨M, As ++ List.replicate m .no, ft, si_start S m, ?_⟩
  have fin : ∀ (r' : Rv) (G' : Gm) (σ' : L2.St) (H' M' : Hp) (ft' : Nat → List Addr) (v : V), SI K σ' H' M' G' ft' → Stp (vs.map some ++ List.replicate m none) (As ++ List.replicate m .no) H M ft σ' G' H' M' ft' → WP K XR E (ROv K (vs.map some)) (vs.map some) As H M ft (.ok r' (outArgs As G')) Q →
      (∀ ftA, (∀ i a, a ∈ ftA i → (∃ o, As[i]? = some (.x o)) ∧ a ∈ ft' i) → RvOk K (vs.map some) H H' M' ftA r' v) → Q v H' := by
    intro r' G' σ' H' M' ft' v S' P' w R
    have hx := stp_start (m := m) hl P'
    have lenG : G'.length = As.length + m := by rw [P'.len, List.length_append, List.length_replicate]
    obtain ⟨isX, hisX⟩ : ∃ isX : Sl → Bool, ∀ s, isX s = true ↔ ∃ o, s = .x o := ⟨fun s => match s with | .x _ => true | _ => false, fun s => by cases s <;> simp⟩
    have slA : ∀ (i : Nat) (s : Sl), As[i]? = some s → (∃ x, s = Sl.d x) ∨ ∃ o, s = Sl.x o := fun i s e => by
      have := List.all_eq_true.mp hA s (List.mem_of_getElem? e)
      cases s with
      | d x => exact .inl ⟨x, rfl⟩
      | x o => exact .inr ⟨o, rfl⟩
      | no => cases this
      | l o => cases this
      | k o => cases this
    obtain ⟨ftA, hftA⟩ : ∃ ftA : Nat → List Addr, ∀ i, ftA i = if (As[i]?.map isX) = some true then ft' i else [] := ⟨_, fun _ => rfl⟩
    have memA : ∀ i a, a ∈ ftA i → (∃ o, As[i]? = some (.x o)) ∧ a ∈ ft' i := fun i a ha => by
      rw [hftA] at ha
      split at ha
      · rename_i c
        cases e : As[i]? with
        | none => rw [e] at c; cases c
        | some s =>
          rw [e] at c
          obtain ⟨o, rfl⟩ := (hisX s).mp (Option.some.inj c)
          exact ⟨⟨o, rfl⟩, ha⟩
      · cases ha
    refine w v H' M' ftA ?_ ?_ (R ftA memA)
    · refine ⟨?_, S'.sub, fun i s e => ?_, S'.tab, fun i hi => ?_, fun i j a ha hb => S'.disj i j a (memA i a ha).2 (memA j a hb).2⟩
      · unfold outArgs
        rw [List.length_map, List.length_zipWith, lenG]; omega
      · have hi : i < As.length := by
          have := (List.getElem?_eq_some_iff.mp e).1
          unfold outArgs at this
          rw [List.length_zipWith] at this; omega
        have e1 := List.getElem?_eq_getElem hi
        have hg : i < G'.length := by omega
        have e2 := List.getElem?_eq_getElem hg
        rw [zip_at e1 e2] at e
        rcases slA i _ e1 with ⟨x, q⟩ | ⟨o, q⟩
        · rw [q] at e e1
          cases e
          obtain ⟨q1, u, q2, q3⟩ := S.slot i _ e1
          refine ⟨?_, u, q2, q3.mono P'.mono⟩
          rw [hftA, e1]
          exact if_neg (fun z => by
            have := (hisX (.d x)).mp (Option.some.inj z)
            obtain ⟨_, y⟩ := this; cases y)
        · rw [q] at e e1
          obtain ⟨q1, q2, o', q3⟩ := hx i o e1
          rw [e2] at q3
          have q3' : G'[i] = .x o' := Option.some.inj q3
          rw [q3'] at e
          cases e
          rw [q3'] at e2
          obtain ⟨p, r1, r2, r3⟩ := S'.slot i _ e2
          have ef : ftA i = ft' i := by
            rw [hftA, e1]
            exact if_pos (by show some (isX (.x o)) = some true; rw [(hisX _).mpr ⟨o, rfl⟩])
          rw [ef]
          exact ⟨p, q1 ▸ r1, r2, r3⟩
      · unfold outArgs at hi
        rw [List.length_zipWith, lenG] at hi
        rw [hftA, List.getElem?_eq_none (by omega)]
        rfl
    · refine ⟨P'.mono, P'.new, P'.frame, P'.tbls, P'.tab, P'.there, fun i a ha => P'.own i a (memA i a ha).2, P'.tups, ?_, fun i o e => ?_, fun i o e => ?_⟩
      · unfold outArgs
        rw [List.length_zipWith, lenG]; omega
      · obtain ⟨q1, q2, o', q3⟩ := hx i o e
        refine ⟨rfl, ?_, o', zip_at e q3⟩
        rw [hftA, e, if_pos (by show some (isX (.x o)) = some true; rw [(hisX _).mpr ⟨o, rfl⟩])]
        exact q2
      · rcases slA i _ e with ⟨x, q⟩ | ⟨o', q⟩
        · cases q
        · cases q
  cases ef : f (As ++ List.replicate m .no) with
  | ok o G' =>
    rw [ef] at w
    cases o with
    | nx => exact fun σ' H' M' ft' S' P' => fin _ G' σ' H' M' ft' .non S' P' w fun ftA hA2 => Dd.non
    | rt r =>
      intro σ' H' M' ft' S' P' v R
      have w' : WP K XR E (ROv K (vs.map some)) (vs.map some) As H M ft (match fixR G' r with | some r' => .ok r' (outArgs As G') | none => .bad) Q := w
      split at w'
      · rename_i r' er
        refine fin r' G' σ' H' M' ft' v S' P' w' fun ftA hA2 => ?_
        cases r with
        | d x => cases er; exact R
        | new o =>
          cases er
          obtain ⟨p, F, q1, q2, q3⟩ := R
          exact ⟨p, F, q1, q2, fun a ha => ⟨(q3 a ha).1, (q3 a ha).2.1, fun i z => (q3 a ha).2.2 i (hA2 i a z).2⟩⟩
        | own i =>
          have er' : (match G'[i]? with | some (.l o) => some (Rv.new o) | _ => none) = some r' := er
          split at er'
          · rename_i o eo
            cases er'
            obtain ⟨p, q1, q2, q3⟩ := S'.slot i _ eo
            have hv : σ'[i]? = some (some v) := R
            rw [q1] at hv; cases hv
            have nox : ∀ j a, a ∈ ft' i → (∃ o, As[j]? = some (.x o)) → a ∈ ft' j → False := fun j a h1 ⟨o2, h2⟩ h3 => by
              have z := S'.disj i j a h1 h3
              subst z
              obtain ⟨_, _, o3, q⟩ := stp_start (m := m) hl P' i o2 h2
              rw [eo] at q; cases q
            refine ⟨p, ft' i, rfl, q2, fun a ha => ⟨q3 a ha, ?_, fun j z => nox j a ha (hA2 j a z).1 (hA2 j a z).2⟩⟩
            rcases P'.own i a ha with ⟨j, z⟩ | z
            · have hj := S.lt z
              have e1 := List.getElem?_eq_getElem hj
              have hs := S.slot j _ e1
              have := List.all_eq_true.mp hA _ (List.mem_of_getElem? e1)
              cases es : As[j] with
              | d x => rw [es] at hs; rw [hs.1] at z; cases z
              | x o2 =>
                rw [es] at e1
                obtain ⟨_, q4, _⟩ := stp_start (m := m) hl P' j o2 e1
                exact (nox j a ha ⟨o2, e1⟩ (by rw [q4]; exact z)).elim
              | no => rw [es] at this; cases this
              | l o2 => rw [es] at this; cases this
              | k o2 => rw [es] at this; cases this
            · exact z
          · cases er'
      · exact w'.elim
    | bk => exact w.elim
    | ct => exact w.elim
  | ex e => rw [ef] at w; exact w
  | bad => rw [ef] at w; exact w.elim
end
section
variable {P : Program} {w : World} {K : PySem.W.Frag} {mg : Str → Option Value} {base : Heap} {XR : XRt}
/-- a def keeps the promise of its function -/
theorem fn_mkX {x qual : Str} {st : Stmt} {f : Addr} {fd : FuncData} {N ps : List Str} {k n m : Nat} {fb : Gm → Res Out} (F : Fun K x qual st f fd) (S : FnScope N ps (defScope st)) (hn : ps.length = n) (hm : N.length = n + m)
    (hbody : ∀ (cdv : Value) (A : Around) (outer : List Env) (s : Shared) (H : Hp) (E : XK), Room k (A.deeper (envOfC qual (defScope st) s.heap.objs.size f cdv)) →
      PSs (cxOf (L2.CX P w) P w K mg base N qual (defScope st) f cdv A outer s H E) (defBody st) (tFS K XR E fb)) : FnOk P w K mg base (L2.CX P w) (k + 1) f fd ps (spF K XR (runDef n m fb)) := by
  have lenOf : ∀ vs H Q E, spF K XR (runDef n m fb) vs H Q E → vs.length = n ∧ ∃ M As ft, SI K (vs.map some) H M As ft ∧ As.all argSl = true ∧ WP K XR E (ROv K (vs.map some)) (vs.map some) As H M ft (endDef As (fb (As ++ List.replicate m .no))) Q := fun vs H Q E ⟨M, As, ft, S, h⟩ => by
    unfold runDef at h
    split at h
    · rename_i c
      simp only [Bool.and_eq_true, decide_eq_true_eq] at c
      have := S.len
      rw [List.length_map] at this
      exact ⟨this.trans c.1, M, As, ft, S, c.2, h⟩
    · exact h.elim
  refine F.okX S (fun vs H Q E h => by rw [hn]; exact (lenOf vs H Q E h).1) (fun cdv A outer s H vs Q E hr h => ?_)
  obtain ⟨hl, M, As, ft, S2, hA, h2⟩ := lenOf vs H Q E h
  refine ⟨_, hbody cdv A outer s H E hr, ?_⟩
  have es : L2.start N vs = vs.map some ++ List.replicate m none := by
    unfold L2.start
    rw [hm, hl, Nat.add_sub_cancel_left]
  rw [es]
  exact def_end S2 hA h2
end
/-! ### calls that change their first argument -/
def kCallM (F : Gm → Res Rv) (G : Gm) : List Rv → Res Rv
  | .own i :: rest => match mutAt G i, argsOf G rest with
    | some o, some (ds, false) => match F (.x o :: ds.map Sl.d) with
      | .ok (.d x) (.x o' :: _) => .ok (.d x) (setOwn G i o')
      | _ => .bad
    | _, _ => .bad
  | _ => .bad
section
variable {K : PySem.W.Frag} {XR : XRt} {E : XK}
theorem snd_callM {F : Gm → Res Rv} : SndL K XR E (fun vs H Q => spF K XR F vs H Q E) (kCallM F) := by
  intro σ H M H0 M0 G G0 ft ft0 rs vs Q S P R w
  unfold kCallM at w
  split at w
  · rename_i i rest
    split at w
    · rename_i o ds eo ea
      cases R with
      | @cons _ _ v _ vs H1 F0 h0 R1 hn t =>
      obtain ⟨ho, hi⟩ := mut_own eo
      obtain ⟨M1, S1, P1, s1, M', t1, t2, D, k1, k2⟩ := args_ok rest S P (fun a z => h0 a z) ea t
      have e' := k2 rfl
      subst e'
      have hσ : σ[i]? = some (some v) := R1.1
      obtain ⟨p, rfl, g1, g2⟩ := own_ok S1 ho hσ
      have SD := si_args ⟨S1.tab.1, nt_args S1 t1 t2 k1⟩ t2 D
      refine ⟨M', .x o :: ds.map Sl.d, fun j => if j = 0 then ft i else [], ?_, ?_⟩
      · refine ⟨?_, t2, fun j s e => ?_, ⟨S1.tab.1, nt_args S1 t1 t2 k1⟩, fun j hj => ?_, fun j k a ha hb => ?_⟩
        · rw [List.length_map, List.length_cons, List.length_cons, List.length_map, D.length]
        · cases j with
          | zero => cases e; exact ⟨p, rfl, g1, g2⟩
          | succ j => exact SD.slot j s (by simpa using e)
        · cases j with
          | zero => simp at hj
          | succ j => rfl
        · by_cases z : j = 0
          · by_cases y : k = 0
            · rw [z, y]
            · rw [if_neg y] at hb; cases hb
          · rw [if_neg z] at ha; cases ha
      · split at w
        · rename_i x o' r' ef
          rw [ef]
          intro v' H' M'' ft'' S'' Q'' R''
          obtain ⟨q1, q2, _⟩ := Q''.kx 0 o rfl
          obtain ⟨p', r1, r2, r3⟩ := S''.slot 0 (.x o') rfl
          have ep : p' = p := by
            have : (some (some (V.ref p)) : Option (Option V)) = some (some (V.ref p')) := r1
            cases this; rfl
          subst ep
          have q2' : ft'' 0 = ft i := q2
          rw [q2'] at r2 r3
          have noj : ∀ a, (∀ j, a ∉ (fun j => if j = 0 then ft i else []) j) ↔ a ∉ ft i := fun a => ⟨fun z => z 0, fun z j => by
            show a ∉ (if j = 0 then ft i else [])
            split
            · exact z
            · exact List.not_mem_nil⟩
          have hk : ∀ a u, H a = some u → (∀ ps, u ≠ .tbl ps) → a ∉ ft i → H' a = some u := fun a u e nt z => Q''.frame a u e nt ((noj a).mpr z)
          have newM : ∀ a u, M'' a = some u → M' a = some u ∨ H a = none ∨ a ∈ ft i ∨ isTup H a := fun a u e => by
            rcases Q''.new a u e with z | z | ⟨j, z⟩ | z
            · exact .inl z
            · exact .inr (.inl z)
            · by_cases y : j = 0
              · subst y; exact .inr (.inr (.inl z))
              · have z' : a ∈ (if j = 0 then ft i else []) := z
                rw [if_neg y] at z'; cases z'
            · exact .inr (.inr (.inr z))
          have hm : ∀ j a, a ∈ ft j → M'' a = none := fun j a ha => by
            by_cases y : a ∈ ft i
            · exact r3 a y
            · obtain ⟨q3, o2, q4, q5⟩ := S1.owned ha
              cases q6 : M'' a with
              | none => rfl
              | some u =>
                rcases newM a u q6 with z | z | z | ⟨xs, z⟩
                · rw [q3] at z; cases z
                · rw [q4] at z; cases z
                · exact absurd z y
                · rw [q4] at z; cases z; exact absurd rfl (q5 xs)
          have SF : SI K σ H' M'' (setOwn G i o') ft := S1.put eo hσ r2 S''.tab S''.sub Q''.mono (fun j a hj ha u e nt => hk a u e nt fun z => hj (S1.disj j i a ha z)) hm
          refine w v' H' M'' ft SF (P1.trans (Stp.put eo Q''.mono (fun a u e => ?_) (fun a u e nt z => hk a u e nt (z i)) Q''.tbls Q''.tab Q''.there Q''.tups)) R''
          rcases newM a u e with z | z | z | z
          · exact .inl z
          · exact .inr (.inl z)
          · exact .inr (.inr (.inl ⟨i, z⟩))
          · exact .inr (.inr (.inr z))
        · exact w.elim
    · exact w.elim
  · exact w.elim
end
section
variable {X : Cx} {XR : XRt} {E : XK} {e : Expr} {es : List Expr} {fs : Gm → Res (List Rv)} {pos p : Pos} {x : Str} {k : Nat} {f : Addr} {fd : FuncData} {ps : List Str} {F : Gm → Res Rv}
theorem fe_callM {CX : CXT} (Fk : FnOk X.prog X.w X.K X.mg X.base CX k f fd ps (spF X.K XR F)) (hr : Room k X.A) (hg : Gl X x) (hm : X.mg x = some (.ref f)) (hk : PySem.W.keepIn X.K (.ref f) = true) (hb : Binds X.K fd ps []) (hx : Passes CX X E) (ha : PA X (e :: es) (tFA X.K XR E fs))
    (hdb : (x == ("__debug__" : Str)) = false := by decide)
    (he : starEach (e :: es) X.env = (false, eval e X.env) :: starEach es X.env := by rfl) (hpl : (backTo pos (starEach es X.env)).any (·.1) = false := by rfl) :
    PE X (.Call (.Name x p) (e :: es) [] pos) (tFE X.K XR E (fCallK (kCallM F) fs)) :=
  PE.le (pe_call Fk hr hg hm hk hb .nil hx ha hdb he hpl) fun σ H Q ⟨M, G, ft, S, w⟩ =>
    bindAE S .refl w fun rs G1 vs H1 M1 ft1 e1 S1 P1 R1 w1 => by
      rw [List.append_nil]
      exact snd_callM σ H1 M1 H M G1 G ft1 ft rs vs Q S1 P1 R1 w1
end
end Fx
/-! FxI: what is walked, targets, for, while -/
namespace Fx
open PySem PySem.Spec
open PyProof.Rows L2
/-! ### locks -/
def lockS : Sl → Sl
  | .l o => .k o
  | .x o => .k o
  | s => s
def unlk (s0 s : Sl) : Sl := match s0, s with
  | .l _, .k o => .l o
  | .x _, .k o => .x o
  | _, s => s
def lockAll (G : Gm) (lk : List Nat) : Gm := G.mapIdx fun i s => if lk.contains i then lockS s else s
def unlockAll (G0 G : Gm) : Gm := List.zipWith unlk G0 G
/-- the same object in another frame of mind -/
theorem SlOk.alike {K : PySem.W.Frag} {σ : L2.St} {H M : Hp} {F : List Addr} {i : Nat} {s : Sl} (h : SlOk K σ H M F i s) : SlOk K σ H M F i (lockS s) ∧ ∀ s0, SlOk K σ H M F i (unlk s0 s) := by
  cases s with
  | no => exact ⟨h, fun s0 => by cases s0 <;> exact h⟩
  | d x => exact ⟨h, fun s0 => by cases s0 <;> exact h⟩
  | l o => exact ⟨h, fun s0 => by cases s0 <;> exact h⟩
  | x o => exact ⟨h, fun s0 => by cases s0 <;> exact h⟩
  | k o => exact ⟨h, fun s0 => by cases s0 <;> exact h⟩
section
variable {K : PySem.W.Frag} {XR : XRt} {E : XK} {σ σ0 σ' : L2.St} {G G0 G2 : Gm} {H M H0 M0 H2 M2 : Hp} {ft ft0 ft2 : Nat → List Addr}
theorem lock_at {lk : List Nat} {i : Nat} : (lockAll G lk)[i]? = (G[i]?).map fun s => if lk.contains i then lockS s else s := by
  unfold lockAll
  rw [List.getElem?_mapIdx]
theorem SI.lock (S : SI K σ H M G ft) (lk : List Nat) : SI K σ H M (lockAll G lk) ft where
  len := by unfold lockAll; rw [List.length_mapIdx]; exact S.len
  sub := S.sub
  tab := S.tab
  slot := fun i s e => by
    rw [lock_at] at e
    cases eg : G[i]? with
    | none => rw [eg] at e; cases e
    | some t =>
      rw [eg] at e
      have q := S.slot i t eg
      have e' : (if lk.contains i then lockS t else t) = s := Option.some.inj e
      rw [← e']
      split
      · exact q.alike.1
      · exact q
  out := fun i hi => S.out i (by unfold lockAll at hi; rw [List.length_mapIdx] at hi; exact hi)
  disj := S.disj
theorem unlock_ok {lk : List Nat} (S : SI K σ' H2 M2 G2 ft2) (P : Stp σ (lockAll G lk) H M ft σ' G2 H2 M2 ft2) : SI K σ' H2 M2 (unlockAll G G2) ft2 ∧ Stp σ G H M ft σ' (unlockAll G G2) H2 M2 ft2 := by
  have hl : G2.length = G.length := by rw [P.len]; unfold lockAll; rw [List.length_mapIdx]
  have at2 : ∀ i s t, G[i]? = some s → G2[i]? = some t → (unlockAll G G2)[i]? = some (unlk s t) := fun i s t h1 h2 => by
    unfold unlockAll
    rw [List.getElem?_zipWith, h1, h2]
  have lenU : (unlockAll G G2).length = G.length := by unfold unlockAll; rw [List.length_zipWith, hl, Nat.min_self]
  refine ⟨⟨by rw [lenU, ← hl]; exact S.len, S.sub, fun i s e => ?_, S.tab, fun i hi => S.out i (by rw [lenU] at hi; omega), S.disj⟩, P.mono, P.new, P.frame, P.tbls, P.tab, P.there, P.own, P.tups, lenU, fun i o e => ?_, fun i o e => ?_⟩
  · have hi : i < G.length := by have := (List.getElem?_eq_some_iff.mp e).1; omega
    have e1 := List.getElem?_eq_getElem hi
    have e2 := List.getElem?_eq_getElem (show i < G2.length by omega)
    rw [at2 i _ _ e1 e2] at e
    have e' := Option.some.inj e
    rw [← e']
    exact (S.slot i _ e2).alike.2 _
  · by_cases c : lk.contains i = true
    · have el : (lockAll G lk)[i]? = some (.k o) := by rw [lock_at, e]; show some (if lk.contains i then lockS (.x o) else .x o) = _; rw [if_pos c]; rfl
      obtain ⟨q1, q2, q3⟩ := P.kk i o el
      exact ⟨q1, q2, o, at2 i _ _ e q3⟩
    · have el : (lockAll G lk)[i]? = some (.x o) := by rw [lock_at, e]; show some (if lk.contains i then lockS (.x o) else .x o) = _; rw [if_neg c]
      obtain ⟨q1, q2, o', q3⟩ := P.kx i o el
      exact ⟨q1, q2, o', at2 i _ _ e q3⟩
  · have el : (lockAll G lk)[i]? = some (.k o) := by
      rw [lock_at, e]
      show some (if lk.contains i then lockS (.k o) else .k o) = _
      split <;> rfl
    obtain ⟨q1, q2, q3⟩ := P.kk i o el
    exact ⟨q1, q2, at2 i _ _ e q3⟩
end
/-! ### what is walked -/
section
variable (K : PySem.W.Frag) (XR : XRt) (E : XK)
/-- from this state on, whatever comes, J yields the items ds -/
def ItOk (σ : L2.St) (G : Gm) (H M : Hp) (ft : Nat → List Addr) (J : It) (ds : List PyData) : Prop :=
  ∀ σ' G' H' M' ft', SI K σ' H' M' G' ft' → Stp σ G H M ft σ' G' H' M' ft' → ∀ i : Nat, (∀ d, ds[i]? = some d → J.go i H' ∧ ∀ x H3, J.yld i H' x H3 → ∃ M3, SI K σ' H3 M3 G' ft' ∧ Stp σ' G' H' M' ft' σ' G' H3 M3 ft' ∧ Dd K M3 x d) ∧ (ds[i]? = none → J.stop i H')
abbrev Itv := List PyData × List Nat
def tFI (f : Gm → Res Itv) : TI := fun σ H R => ∃ M G ft, SI K σ H M G ft ∧ match f G with
  | .ok p G1 => ∀ J H' M' ft', SI K σ H' M' G1 ft' → Stp σ G H M ft σ G1 H' M' ft' → ItOk K σ (lockAll G1 p.2) H' M' ft' J p.1 → R J H'
  | .ex e => ∀ cls d H', XR e cls d H' → Frm H ft H' → E cls d H'
  | .bad => False
end
theorem PI.le {X : Cx} {tg iter : Expr} {t t' : TI} (h : PI X tg iter t) (w : ∀ σ H R, t' σ H R → t σ H R) : PI X tg iter t' := ⟨fun pins s σ H R I q => h.run pins s σ H R I (w σ H R q)⟩
/-- items and locks of an answer that is walked -/
def kItems (G : Gm) (r : Rv) : Res Itv := match r with
  | .d (.list ds) => .ok (ds, []) G
  | .d (.tuple ds) => .ok (ds, []) G
  | .d (.dict [(.none, .list ds)]) => .ok (ds, []) G
  | .new (.lst ds) => .ok (ds, []) G
  | .own i => match ownAt G i with
    | some (.lst ds) => .ok (ds, [i]) G
    | _ => .bad
  | _ => .bad
def iSeq (f : Gm → Res Rv) : Gm → Res Itv := fun G => (f G).bind fun r G1 => kItems G1 r
def wSeq (K : PySem.W.Frag) (tl : TE) : TI := fun σ H R => tl σ H fun x H1 => ∃ a, x = .ref a ∧ (((∃ xs, SqL K H1 a xs) ∧ R (Itl K a) H1) ∨ ((∃ xs, SqT K H1 a xs) ∧ R (Itt K a) H1))
section
variable {X : Cx} {tg : Expr}
theorem pi_seq {l : Expr} {tl : TE} (hl : PE X l tl) : PI X tg l (wSeq X.K tl) := by
  refine ⟨fun pp sh τ Hh Rr Iv goal => ?_⟩
  refine thn (hl.run pp sh τ Hh _ Iv goal) fun vw sh1 ⟨xv, Hn, In1, rn1, qn1⟩ => ?_
  obtain ⟨ad, eq0, qn⟩ := qn1
  subst eq0
  cases rn1
  have fresh : ∀ bd, bd ∈ [sh1.heap.objs.size] → FpOk X pp Hn bd := fun bd mb => by
    have eq0 : bd = sh1.heap.objs.size := by simpa using mb
    subst eq0
    exact In1.fpOk (Nat.le_refl _) (In1.hok.fresh (Nat.le_refl _))
  rcases qn with ⟨⟨vs, sq⟩, qn⟩ | ⟨⟨vs, sq⟩, qn⟩
  · obtain ⟨ts, rl, pL, szv⟩ := In1.list sq
    refine wpAny_pyIter_list pL.isList ?_
    exact ⟨sh1.heap.objs.size, [sh1.heap.objs.size], _, _, Hn, rfl, In1.kept (t' := sh1.toks) fun bd ob eq0 => Heap.get?_push_of_some _ eq0, turn_list ad _, ⟨_, Heap.get?_push_size _ rfl, rfl, rfl⟩, fresh, qn⟩
  · obtain ⟨ts, rl, pL, szv⟩ := In1.tuple sq
    refine wpAny_pyIter_tuple (show sh1.heap.IsTuple ad ts.toArray from pL) ?_
    exact ⟨sh1.heap.objs.size, [sh1.heap.objs.size], _, _, Hn, rfl, In1.kept (t' := sh1.toks) fun bd ob eq0 => Heap.get?_push_of_some _ eq0, turn_tuple ad _, ⟨_, Heap.get?_push_size _ rfl, rfl, rfl⟩, fresh, qn⟩
end
section
variable {K : PySem.W.Frag} {σ : L2.St} {G : Gm} {H M : Hp} {ft : Nat → List Addr}
/-- a list whose place and items stay -/
theorem it_list {a : Addr} {ds : List PyData} (h : ∀ σ' G' H' M' ft', SI K σ' H' M' G' ft' → Stp σ G H M ft σ' G' H' M' ft' → ∃ xs, SqL K H' a xs ∧ DdA K M' xs ds) : ItOk K σ G H M ft (Itl K a) ds := by
  intro σ' G' H' M' ft' S' P' i
  obtain ⟨xs, h1, h2⟩ := h σ' G' H' M' ft' S' P'
  refine ⟨fun d e => ?_, fun e => ⟨xs, h1, by rw [h2.length]; exact List.getElem?_eq_none_iff.mp e⟩⟩
  obtain ⟨v, e1, e2⟩ := h2.get e
  refine ⟨⟨xs, v, h1, e1⟩, fun x H3 ⟨q1, q2⟩ => ?_⟩
  subst q1
  have : some x = some v := (q2 xs h1).symm.trans e1
  cases this
  exact ⟨M', S', .refl, e2⟩
theorem it_tup {a : Addr} {ds : List PyData} (h : ∀ σ' G' H' M' ft', SI K σ' H' M' G' ft' → Stp σ G H M ft σ' G' H' M' ft' → ∃ xs, SqT K H' a xs ∧ DdA K M' xs ds) : ItOk K σ G H M ft (Itt K a) ds := by
  intro σ' G' H' M' ft' S' P' i
  obtain ⟨xs, h1, h2⟩ := h σ' G' H' M' ft' S' P'
  refine ⟨fun d e => ?_, fun e => ⟨xs, h1, by rw [h2.length]; exact List.getElem?_eq_none_iff.mp e⟩⟩
  obtain ⟨v, e1, e2⟩ := h2.get e
  refine ⟨⟨xs, v, h1, e1⟩, fun x H3 ⟨q1, q2⟩ => ?_⟩
  subst q1
  have : some x = some v := (q2 xs h1).symm.trans e1
  cases this
  exact ⟨M', S', .refl, e2⟩
/-- where the items of an answer stand, and that they stay -/
inductive SeqAt (K : PySem.W.Frag) (σ : L2.St) (G : Gm) (H M : Hp) (ft : Nat → List Addr) (v : V) (ds : List PyData) : Prop
  | l (a : Addr) (e : v = .ref a) (h : ∀ σ' G' H' M' ft', SI K σ' H' M' G' ft' → Stp σ G H M ft σ' G' H' M' ft' → ∃ xs, SqL K H' a xs ∧ DdA K M' xs ds)
  | t (a : Addr) (e : v = .ref a) (h : ∀ σ' G' H' M' ft', SI K σ' H' M' G' ft' → Stp σ G H M ft σ' G' H' M' ft' → ∃ xs, SqT K H' a xs ∧ DdA K M' xs ds)
theorem items_ok (S : SI K σ H M G ft) {r : Rv} {v : V} {p : Itv} {G1 : Gm} {Hb : Hp} (h : kItems G r = .ok p G1) (R : RvOk K σ Hb H M ft r v) : G1 = G ∧ SeqAt K σ (lockAll G p.2) H M ft v p.1 := by
  unfold kItems at h
  split at h
  · cases h
    cases R with
    | lst e g => exact ⟨rfl, .l _ rfl fun σ' G' H' M' ft' S' P' => ⟨_, SqL.of (S'.sub _ _ (P'.mono _ _ e)), g.mono P'.mono⟩⟩
  · cases h
    cases R with
    | tup e g => exact ⟨rfl, .t _ rfl fun σ' G' H' M' ft' S' P' => ⟨_, S'.sub.sqT (P'.mono.sqT e), g.mono P'.mono⟩⟩
  · cases h
    cases R with
    | frz e g => exact ⟨rfl, .l _ rfl fun σ' G' H' M' ft' S' P' => ⟨_, S'.sub.sqL (P'.mono.sqL e), g.mono P'.mono⟩⟩
  · cases h
    obtain ⟨q, F, e, ⟨hF, xs, g1, g2⟩, k⟩ := R
    refine ⟨rfl, .l q e fun σ' G' H' M' ft' S' P' => ⟨xs, SqL.of (P'.frame q _ g1 (fun _ z => nomatch z) ?_), g2.mono P'.mono⟩⟩
    exact (k q (by rw [hF]; exact List.mem_singleton.mpr rfl)).2.2
  · rename_i i
    split at h
    · rename_i ds eo
      cases h
      obtain ⟨q, e, _, _⟩ := own_ok S eo R
      subst e
      refine ⟨rfl, .l q rfl fun σ' G' H' M' ft' S' P' => ?_⟩
      have el : (lockAll G [i])[i]? = some (.k (.lst ds)) := by
        rw [lock_at]
        unfold ownAt at eo
        split at eo
        · rename_i o' e'; cases eo; rw [e']; simp [lockS]
        · rename_i o' e'; cases eo; rw [e']; simp [lockS]
        · rename_i o' e'; cases eo; rw [e']; simp [lockS]
        · cases eo
      obtain ⟨q1, q2, q3⟩ := P'.kk i _ el
      obtain ⟨p, r1, ⟨_, xs, g1, g2⟩, _⟩ := S'.slot i _ q3
      have : (some (some (V.ref p)) : Option (Option V)) = some (some (V.ref q)) := r1.symm.trans (q1.trans R)
      cases this
      exact ⟨xs, SqL.of g1, g2⟩
    · cases h
  · cases h
end
section
variable {X : Cx} {XR : XRt} {E : XK} {tg l : Expr} {f : Gm → Res Rv}
theorem fi_seq (hl : PE X l (tFE X.K XR E f)) : PI X tg l (tFI X.K XR E (iSeq f)) := PI.le (pi_seq hl) fun σ H R ⟨M, G, ft, S, w⟩ => by
  refine ⟨M, G, ft, S, ?_⟩
  unfold iSeq at w
  cases e : f G with
  | ok r G1 =>
    rw [e] at w
    intro v H1 M1 ft1 S1 P1 R1
    rw [Res.bind_ok] at w
    cases ek : kItems G1 r with
    | ok p G2 =>
      rw [ek] at w
      obtain ⟨eG, h⟩ := items_ok S1 ek R1
      subst eG
      cases h with
      | l a ea h =>
        obtain ⟨xs, h1, h2⟩ := h σ _ H1 M1 ft1 (S1.lock p.2) .refl
        exact ⟨a, ea, .inl ⟨⟨xs, h1⟩, w _ H1 M1 ft1 S1 P1 (it_list h)⟩⟩
      | t a ea h =>
        obtain ⟨xs, h1, h2⟩ := h σ _ H1 M1 ft1 (S1.lock p.2) .refl
        exact ⟨a, ea, .inr ⟨⟨xs, h1⟩, w _ H1 M1 ft1 S1 P1 (it_tup h)⟩⟩
    | ex x => unfold kItems at ek; split at ek <;> first | (cases ek; done) | (split at ek <;> cases ek)
    | bad => rw [ek] at w; exact w.elim
  | ex x => rw [e] at w; exact w
  | bad => rw [e] at w; exact w
/-- range(n), range(a, b) -/
def iRg1 (f : Gm → Res Rv) : Gm → Res Itv := fun G => (f G).bind fun r G1 => match rd G1 r with
  | some (.int n) => if rgOk 0 n then .ok (rgD 0 n, []) G1 else .bad
  | _ => .bad
def iRg2 (fa fb : Gm → Res Rv) : Gm → Res Itv := fun G => (fa G).bind fun a G1 => (fb G1).bind fun b G2 => match rd G2 a, rd G2 b with
  | some (.int i), some (.int j) => if rgOk i j then .ok (rgD i j, []) G2 else .bad
  | _, _ => .bad
theorem it_range {K : PySem.W.Frag} {σ : L2.St} {G : Gm} {H M : Hp} {ft : Nat → List Addr} (a b : Int) : ItOk K σ G H M ft (Itr a (b - a).toNat) (rgD a b) := by
  intro σ' G' H' M' ft' S' P' i
  unfold rgD
  rw [List.getElem?_map]
  refine ⟨fun d e => ?_, fun e => ?_⟩
  · by_cases h : i < (b - a).toNat
    · rw [List.getElem?_range h] at e
      cases e
      exact ⟨h, fun x H3 ⟨q1, q2⟩ => by subst q1 q2; exact ⟨M', S', .refl, .int _⟩⟩
    · rw [List.getElem?_eq_none (by simpa using h)] at e; cases e
  · by_cases h : i < (b - a).toNat
    · rw [List.getElem?_range h] at e; cases e
    · exact Nat.le_of_not_lt h
theorem fi_rg1 {e : Expr} {p pos : Pos} (hg : Gl X "range") (hm : X.mg "range" = none) (he : PE X e (tFE X.K XR E f)) (hs : starEach [e] X.env = [(false, eval e X.env)] := by rfl) : PI X tg (.Call (.Name "range" p) [e] [] pos) (tFI X.K XR E (iRg1 f)) :=
  PI.le (pi_range1 hg hm (pa_cons he pa_nil (by rw [hs]; rfl)) hs) fun σ H R ⟨M, G, ft, S, w⟩ => by
    refine ⟨M, G, ft, S, ?_⟩
    unfold iRg1 at w
    cases e : f G with
    | ok r G1 =>
      rw [e] at w
      intro v H1 M1 ft1 S1 P1 R1
      rw [Res.bind_ok] at w
      cases er : rd G1 r with
      | none => rw [er] at w; exact w.elim
      | some d =>
        rw [er] at w
        cases d with
        | int n =>
          by_cases c : rgOk 0 n = true
          · have w' : ∀ J H' M' ft', SI X.K σ H' M' G1 ft' → Stp σ G H M ft σ G1 H' M' ft' → ItOk X.K σ (lockAll G1 []) H' M' ft' J (rgD 0 n) → R J H' := by
              have w2 := w
              simp only [c, if_true] at w2
              exact w2
            cases rd_int S1 er R1
            obtain ⟨b1, b2, b3, b4, _⟩ := rgOk_ok c
            refine ⟨n, rfl, b3, b4, ?_⟩
            have := w' (Itr 0 (n - 0).toNat) H1 M1 ft1 S1 P1 (it_range 0 n)
            rw [Int.sub_zero] at this
            exact this
          · simp only [c] at w; exact w.elim
        | none => exact w.elim
        | bool _ => exact w.elim
        | str _ => exact w.elim
        | list _ => exact w.elim
        | tuple _ => exact w.elim
        | dict _ => exact w.elim
    | ex x => rw [e] at w; exact w
    | bad => rw [e] at w; exact w
theorem fi_rg2 {a b : Expr} {fa fb : Gm → Res Rv} {p pos : Pos} (hg : Gl X "range") (hm : X.mg "range" = none) (ha : PE X a (tFE X.K XR E fa)) (hb : PE X b (tFE X.K XR E fb)) (hs : starEach [a, b] X.env = [(false, eval a X.env), (false, eval b X.env)] := by rfl) (hs2 : starEach [b] X.env = [(false, eval b X.env)] := by rfl) :
    PI X tg (.Call (.Name "range" p) [a, b] [] pos) (tFI X.K XR E (iRg2 fa fb)) :=
  PI.le (pi_range2 hg hm (pa_cons ha (pa_cons hb pa_nil (by rw [hs2]; rfl)) (by rw [hs, hs2])) hs hs2) fun σ H R ⟨M, G, ft, S, w⟩ => by
    refine ⟨M, G, ft, S, ?_⟩
    unfold iRg2 at w
    cases e : fa G with
    | ok r G1 =>
      rw [e] at w
      intro v H1 M1 ft1 S1 P1 R1
      rw [Res.bind_ok] at w
      refine ⟨M1, G1, ft1, S1, ?_⟩
      cases e2 : fb G1 with
      | ok r2 G2 =>
        rw [e2] at w
        intro v2 H2 M2 ft2 S2 P2 R2
        rw [Res.bind_ok] at w
        have key : ∃ i j, rd G2 r = some (.int i) ∧ rd G2 r2 = some (.int j) ∧ rgOk i j = true ∧ ∀ J H' M' ft', SI X.K σ H' M' G2 ft' → Stp σ G H M ft σ G2 H' M' ft' → ItOk X.K σ (lockAll G2 []) H' M' ft' J (rgD i j) → R J H' := by
          split at w
          · rename_i p G3 ep
            split at ep
            · rename_i i j e1 e2
              split at ep
              · rename_i c
                cases ep
                exact ⟨i, j, e1, e2, c, w⟩
              · cases ep
            · cases ep
          · rename_i x ep
            split at ep
            · split at ep <;> cases ep
            · cases ep
          · exact w.elim
        obtain ⟨i, j, e1, e2, c, w'⟩ := key
        cases rd_int S2 e1 (R1.later P2)
        cases rd_int S2 e2 R2
        obtain ⟨b1, b2, b3, b4, _⟩ := rgOk_ok c
        exact ⟨i, j, rfl, ⟨b1, b2, b3, b4⟩, w' _ H2 M2 ft2 S2 (P1.trans P2) (it_range i j)⟩
      | ex x => rw [e2] at w; exact fun cls d H' y fr => w cls d H' y (Frm.trans P1 fr)
      | bad => rw [e2] at w; exact w
    | ex x => rw [e] at w; exact w
    | bad => rw [e] at w; exact w
end
end Fx
/-! FxJ: targets, for, while -/
namespace Fx
open PySem PySem.Spec
open PyProof.Rows L2
/-! ### targets -/
section
variable (K : PySem.W.Frag)
/-- tv: the slots that the target may store -/
def tFG (tv : List Nat) (f : PyData → Gm → Option Gm) : TG := fun v σ H Q => ∃ M G ft d, SI K σ H M G ft ∧ Dd K M v d ∧ match f d G with
  | some G' => ∀ σ' H' M' ft', SI K σ' H' M' G' ft' → Stp σ G H M ft σ' G' H' M' ft' → (∀ i, i ∉ tv → σ'[i]? = σ[i]?) → σ'.length = σ.length → Q σ' H'
  | none => False
def tFGs (tv : List Nat) (f : List PyData → Gm → Option Gm) : TGs := fun vs σ H Q => ∃ M G ft ds, SI K σ H M G ft ∧ DdA K M vs ds ∧ match f ds G with
  | some G' => ∀ σ' H' M' ft', SI K σ' H' M' G' ft' → Stp σ G H M ft σ' G' H' M' ft' → (∀ i, i ∉ tv → σ'[i]? = σ[i]?) → σ'.length = σ.length → Q σ' H'
  | none => False
end
theorem PG.le {X : Cx} {tg : Expr} {t t' : TG} (h : PG X tg t) (w : ∀ v σ H Q, t' v σ H Q → t v σ H Q) : PG X tg t' := ⟨fun pins s σ H v u Q I r q => h.run pins s σ H v u Q I r (w v σ H Q q)⟩
theorem PGs.le {X : Cx} {tg : List Expr} {t t' : TGs} (h : PGs X tg t) (w : ∀ v σ H Q, t' v σ H Q → t v σ H Q) : PGs X tg t' := ⟨fun pins s σ H v u Q I r q => h.run pins s σ H v u Q I r (w v σ H Q q)⟩
def gN (i : Nat) : PyData → Gm → Option Gm := fun d G => setSl G i (.d d)
def gsNil : List PyData → Gm → Option Gm
  | [], G => some G
  | _ :: _, _ => none
def gsCons (f : PyData → Gm → Option Gm) (g : List PyData → Gm → Option Gm) : List PyData → Gm → Option Gm
  | d :: ds, G => (f d G).bind (g ds)
  | [], _ => none
def gT (n : Nat) (g : List PyData → Gm → Option Gm) : PyData → Gm → Option Gm
  | .tuple ds, G => if decide (ds.length = n) then g ds G else none
  | _, _ => none
section
variable {X : Cx} {pos : Pos}
theorem fg_name {i : Nat} {x : Str} (h : PG X (.Name x pos) (gName i)) : PG X (.Name x pos) (tFG X.K [i] (gN i)) := PG.le h fun v σ H Q ⟨M, G, ft, d, S, hd, w⟩ => by
  unfold gN at w
  split at w
  · rename_i G' e
    obtain ⟨ft', S', P', _⟩ := setSl_ok (r := .d d) (Hb := H) S .refl (fun a z => z) e hd
    exact w _ H M ft' S' P' (fun j hj => List.getElem?_set_ne (fun z => hj (by rw [z]; exact List.mem_singleton.mpr rfl))) (by rw [List.length_set])
  · exact w.elim
theorem fgs_nil : PGs X [] (tFGs X.K [] gsNil) := PGs.le pgs_nil fun vs σ H Q ⟨M, G, ft, ds, S, hd, w⟩ => by
  cases hd with
  | nil => exact ⟨rfl, w σ H M ft S .refl (fun _ _ => rfl) rfl⟩
  | cons h t => exact w.elim
theorem fgs_cons {e : Expr} {es : List Expr} {tv tw : List Nat} {f : PyData → Gm → Option Gm} {g : List PyData → Gm → Option Gm} (h1 : PG X e (tFG X.K tv f)) (h2 : PGs X es (tFGs X.K tw g))
    (hs : (assignEach (e :: es) X.env).map (·.2) = assign e X.env :: (assignEach es X.env).map (·.2) := by rfl) : PGs X (e :: es) (tFGs X.K (tv ++ tw) (gsCons f g)) := PGs.le (pgs_cons h1 h2 hs) fun vs σ H Q ⟨M, G, ft, ds, S, hd, w⟩ => by
  cases hd with
  | nil => exact w.elim
  | @cons v vs d ds h t =>
    refine ⟨v, vs, rfl, M, G, ft, d, S, h, ?_⟩
    have w' : (match (f d G).bind (g ds) with | some G' => ∀ σ' H' M' ft', SI X.K σ' H' M' G' ft' → Stp σ G H M ft σ' G' H' M' ft' → (∀ i, i ∉ tv ++ tw → σ'[i]? = σ[i]?) → σ'.length = σ.length → Q σ' H' | none => False) := w
    cases e1 : f d G with
    | none => rw [e1] at w'; exact w'.elim
    | some G1 =>
      rw [e1] at w'
      intro σ1 H1 M1 ft1 S1 P1 k1 l1
      refine ⟨M1, G1, ft1, ds, S1, t.mono P1.mono, ?_⟩
      have w2 : (match g ds G1 with | some G' => ∀ σ' H' M' ft', SI X.K σ' H' M' G' ft' → Stp σ G H M ft σ' G' H' M' ft' → (∀ i, i ∉ tv ++ tw → σ'[i]? = σ[i]?) → σ'.length = σ.length → Q σ' H' | none => False) := w'
      cases e2 : g ds G1 with
      | none => rw [e2] at w2; exact w2.elim
      | some G2 =>
        rw [e2] at w2
        exact fun σ2 H2 M2 ft2 S2 P2 k2 l2 => w2 σ2 H2 M2 ft2 S2 (P1.trans P2) (fun i hi => (k2 i fun z => hi (List.mem_append_right _ z)).trans (k1 i fun z => hi (List.mem_append_left _ z))) (l2.trans l1)
theorem fg_tup {es : List Expr} {k n : Nat} {tv : List Nat} {g : List PyData → Gm → Option Gm} (hc : X.calm = true) (h : PGs X es (tFGs X.K tv g)) (hn : (assignEach es X.env).length = n := by rfl) (hst : (assignEach es X.env).findIdx? (·.1) = none := by rfl) : PG X (.Tuple es k pos) (tFG X.K tv (gT n g)) :=
  PG.le (pg_tup (n := n) hc h hn hst) fun v σ H Q ⟨M, G, ft, d, S, hd, w⟩ => by
    unfold gT at w
    split at w
    · rename_i G' e
      split at e
      · rename_i ds
        split at e
        · rename_i c
          cases hd with
          | tup e1 g1 => exact ⟨_, _, rfl, S.sub.sqT e1, by rw [g1.length]; exact of_decide_eq_true c, M, G, ft, _, S, g1, by rw [e]; exact w⟩
        · cases e
      · cases e
    · exact w.elim
end
/-! ### for -/
def loopF (tg : PyData → Gm → Option Gm) (body : Gm → Res Out) : List PyData → Gm → Res Out
  | [], G => .ok .nx G
  | d :: ds, G => match tg d G with
    | none => .bad
    | some G1 => match body G1 with
      | .ok .nx G2 => loopF tg body ds G2
      | .ok .ct G2 => loopF tg body ds G2
      | .ok .bk G2 => .ok .nx G2
      | .ok (.rt r) G2 => .ok (.rt r) G2
      | .ex e => .ex e
      | .bad => .bad
def unlR (G0 : Gm) : Res Out → Res Out
  | .ok o G => .ok o (unlockAll G0 G)
  | .ex e => .ex e
  | .bad => .bad
def sFor (it : Gm → Res Itv) (tg : PyData → Gm → Option Gm) (body : Gm → Res Out) : Gm → Res Out := fun G => (it G).bind fun p G1 => unlR G1 (loopF tg body p.1 (lockAll G1 p.2))
/-- what is wanted of a locked run -/
def WSu (K : PySem.W.Frag) (XR : XRt) (E : XK) (σ0 : L2.St) (G0 : Gm) (H0 M0 : Hp) (ft0 : Nat → List Addr) (GU : Gm) (res : Res Out) (D : Ends) : Prop := WS K XR E σ0 G0 H0 M0 ft0 (unlR GU res) D
section
variable {X : Cx} {XR : XRt} {E : XK} {tg iter : Expr} {body : List Stmt} {it : Gm → Res Itv} {tv : List Nat} {g : PyData → Gm → Option Gm} {fb : Gm → Res Out} {pos : Pos}
theorem fs_for (hp : PassesOwn (model X.prog X.w) X.A X.env X.xe) (hc : X.calm = true) (hi : PI X tg iter (tFI X.K XR E it)) (hg : PG X tg (tFG X.K tv g)) (hb : PSs X body (tFS X.K XR E fb)) (hs : ∀ x, foldedSetIterable iter X.env x = pure x := by intro _; rfl) :
    PS X (.For tg iter body [] pos) (tFS X.K XR E (sFor it g fb)) := PS.le (ps_for hp hc hi hg hb hs) fun D σ H ⟨M, G, ft, S, w⟩ => by
  refine ⟨M, G, ft, S, ?_⟩
  unfold sFor at w
  cases ei : it G with
  | ex x => rw [ei] at w; exact w
  | bad => rw [ei] at w; exact w
  | ok p G1 =>
    rw [ei] at w
    intro J H1 M1 ft1 S1 P1 IO
    rw [Res.bind_ok] at w
    -- the state that is walked from
    refine ⟨fun i m σ' H' => m = p.1.length - i ∧ i ≤ p.1.length ∧ ∃ G' M' ft', SI X.K σ' H' M' G' ft' ∧ Stp σ (lockAll G1 p.2) H1 M1 ft1 σ' G' H' M' ft' ∧ WS X.K XR E σ G H M ft (unlR G1 (loopF g fb (p.1.drop i) G')) D,
      ⟨p.1.length, by simp, Nat.zero_le _, lockAll G1 p.2, M1, ft1, S1.lock _, .refl, by rw [List.drop_zero]; exact w⟩, ?_⟩
    rintro i m σ' H' ⟨rfl, hi, G', M', ft', S', P', w'⟩
    obtain ⟨hgo, hst⟩ := IO σ' G' H' M' ft' S' P' i
    cases ed : p.1[i]? with
    | none =>
      have hz : p.1.drop i = [] := List.drop_eq_nil_of_le (List.getElem?_eq_none_iff.mp ed)
      rw [hz] at w'
      refine .inl ⟨hst ed, ?_⟩
      obtain ⟨SU, PU⟩ := unlock_ok S' P'
      exact w' σ' H' M' ft' SU (P1.trans PU)
    | some d =>
      obtain ⟨h1, h2⟩ := hgo d ed
      have hlt : i < p.1.length := (List.getElem?_eq_some_iff.mp ed).1
      have hz : p.1.drop i = d :: p.1.drop (i + 1) := by
        rw [List.drop_eq_getElem_cons (h := hlt)]
        have : p.1[i] = d := (List.getElem?_eq_some_iff.mp ed).2
        rw [this]
      rw [hz] at w'
      refine .inr ⟨h1, fun σ2 H2 => ∃ G2 M2 ft2, SI X.K σ2 H2 M2 G2 ft2 ∧ Stp σ (lockAll G1 p.2) H1 M1 ft1 σ2 G2 H2 M2 ft2 ∧ WS X.K XR E σ G H M ft (unlR G1 (loopF g fb (p.1.drop (i + 1)) G2)) D, fun σ2 H2 ⟨G2, M2, ft2, S2, P2, w2⟩ => ⟨p.1.length - (i + 1), by omega, rfl, hlt, G2, M2, ft2, S2, P2, w2⟩, fun x H3 hy => ?_⟩
      obtain ⟨M3, S3, P3, D3⟩ := h2 x H3 hy
      have P03 := P'.trans P3
      refine ⟨M3, G', ft', d, S3, D3, ?_⟩
      unfold loopF at w'
      cases eg : g d G' with
      | none => rw [eg] at w'; exact w'.elim
      | some G4 =>
        rw [eg] at w'
        dsimp only at w'
        intro σ4 H4 M4 ft4 S4 P4 _ _
        have P04 := P03.trans P4
        refine ⟨M4, G4, ft4, S4, ?_⟩
        cases eb : fb G4 with
        | ok o G5 =>
          rw [eb] at w'
          intro σ5 H5 M5 ft5 S5 P5
          have P05 := P04.trans P5
          obtain ⟨SU, PU⟩ := unlock_ok S5 P05
          cases o with
          | nx => exact ⟨G5, M5, ft5, S5, P05, w'⟩
          | ct => exact ⟨G5, M5, ft5, S5, P05, w'⟩
          | bk => exact w' σ5 H5 M5 ft5 SU (P1.trans PU)
          | rt r => exact fun v R => w' σ5 H5 M5 ft5 SU (P1.trans PU) v (R.base fun a z => (P1.trans (unlock_ok S4 P04).2).nn z)
        | ex x =>
          rw [eb] at w'
          intro cls d' H5 hx fr
          exact w' cls d' H5 hx (Frm.trans P1 (Frm.trans P04 fr))
        | bad => rw [eb] at w'; exact w'.elim
end
/-! ### while -/
def whileF (t : Gm → Res Bool) (body : Gm → Res Out) : Nat → Gm → Res Out
  | 0, _ => .bad
  | n + 1, G => (t G).bind fun c G1 => if c then match body G1 with
      | .ok .nx G2 => whileF t body n G2
      | .ok .ct G2 => whileF t body n G2
      | .ok .bk G2 => .ok .nx G2
      | .ok (.rt r) G2 => .ok (.rt r) G2
      | .ex e => .ex e
      | .bad => .bad
    else .ok .nx G1
def sWhile (fuel : Nat) (t : Gm → Res Bool) (body : Gm → Res Out) : Gm → Res Out := fun G => whileF t body fuel G
section
variable {X : Cx} {XR : XRt} {E : XK} {c : Expr} {body : List Stmt} {t : Gm → Res Bool} {fb : Gm → Res Out} {pos : Pos}
theorem fs_while (fuel : Nat) (hp : PassesOwn (model X.prog X.w) X.A X.env X.xe) (hc : PT X c (tFT X.K XR E t)) (hb : PSs X body (tFS X.K XR E fb)) : PS X (.While c body [] pos) (tFS X.K XR E (sWhile fuel t fb)) := PS.le (ps_while hp hc hb) fun D σ H ⟨M, G, ft, S, w⟩ => by
  refine ⟨fun m σ' H' => ∃ G' M' ft', SI X.K σ' H' M' G' ft' ∧ Stp σ G H M ft σ' G' H' M' ft' ∧ WS X.K XR E σ G H M ft (whileF t fb m G') D, ⟨fuel, G, M, ft, S, .refl, w⟩, ?_⟩
  rintro m σ' H' ⟨G', M', ft', S', P', w'⟩
  cases m with
  | zero => exact w'.elim
  | succ m =>
    unfold whileF at w'
    refine bindTS S' P' w' fun c G1 H1 M1 ft1 _ S1 P1 w1 => ?_
    cases c with
    | false => exact w1 σ' H1 M1 ft1 S1 (P'.trans P1)
    | true =>
      refine ⟨fun σ2 H2 => ∃ G2 M2 ft2, SI X.K σ2 H2 M2 G2 ft2 ∧ Stp σ G H M ft σ2 G2 H2 M2 ft2 ∧ WS X.K XR E σ G H M ft (whileF t fb m G2) D, fun σ2 H2 h => ⟨m, Nat.lt_succ_self m, h⟩, ?_⟩
      refine ⟨M1, G1, ft1, S1, ?_⟩
      rw [if_pos rfl] at w1
      have P01 := P'.trans P1
      cases eb : fb G1 with
      | ok o G5 =>
        rw [eb] at w1
        intro σ5 H5 M5 ft5 S5 P5
        have P05 := P01.trans P5
        cases o with
        | nx => exact ⟨G5, M5, ft5, S5, P05, w1⟩
        | ct => exact ⟨G5, M5, ft5, S5, P05, w1⟩
        | bk => exact w1 σ5 H5 M5 ft5 S5 P05
        | rt r => exact fun v R => w1 σ5 H5 M5 ft5 S5 P05 v (R.base fun a z => P01.nn z)
      | ex x =>
        rw [eb] at w1
        intro cls d' H5 hx fr
        exact w1 cls d' H5 hx (Frm.trans P01 fr)
      | bad => rw [eb] at w1; exact w1.elim
end
end Fx
/-! FxK: list comprehensions -/
namespace Fx
open PySem PySem.Spec
open PyProof.Rows L2
def wipeG (G : Gm) (vs : List Nat) : Gm := G.mapIdx fun i s => if vs.contains i then .no else s
def unwipe (G0 G : Gm) (vs : List Nat) : Gm := G.mapIdx fun i s => if vs.contains i then G0.getD i .no else s
def plainAt (G : Gm) (vs : List Nat) : Bool := vs.all fun j => match G[j]? with
  | some .no => true
  | some (.d _) => true
  | _ => false
def ftW (ft : Nat → List Addr) (vs : List Nat) : Nat → List Addr := fun i => if vs.contains i then [] else ft i
theorem ftW_sub {ft : Nat → List Addr} {vs : List Nat} {i : Nat} {a : Addr} (h : a ∈ ftW ft vs i) : a ∈ ft i := by
  unfold ftW at h
  split at h
  · cases h
  · exact h
theorem wipe_at (σ : L2.St) : ∀ (vs : List Nat) (i : Nat), i ∉ vs → (wipe σ vs)[i]? = σ[i]?
  | [], _, _ => rfl
  | v :: vs, i, h => by
    unfold wipe
    rw [List.getElem?_set_ne (fun z => h (by rw [z]; exact List.mem_cons_self))]
    exact wipe_at σ vs i fun z => h (List.mem_cons_of_mem _ z)
theorem wipe_in (σ : L2.St) : ∀ (vs : List Nat) (i : Nat), i ∈ vs → i < σ.length → (wipe σ vs)[i]? = some none
  | v :: vs, i, h, hi => by
    unfold wipe
    by_cases z : v = i
    · subst z; exact List.getElem?_set_self (by rw [wipe_length]; exact hi)
    · rw [List.getElem?_set_ne z]
      rcases List.mem_cons.mp h with y | y
      · exact absurd y.symm z
      · exact wipe_in σ vs i y hi
theorem wipe_eq {σ σ' : L2.St} {vs : List Nat} (h : ∀ i, i ∉ vs → σ'[i]? = σ[i]?) (hl : σ'.length = σ.length) : wipe σ' vs = wipe σ vs := by
  apply List.ext_getElem?
  intro i
  by_cases hi : i ∈ vs
  · by_cases hlt : i < σ.length
    · rw [wipe_in σ' vs i hi (by omega), wipe_in σ vs i hi hlt]
    · rw [List.getElem?_eq_none (by rw [wipe_length]; omega), List.getElem?_eq_none (by rw [wipe_length]; omega)]
  · rw [wipe_at σ' vs i hi, wipe_at σ vs i hi, h i hi]
theorem cont_iff {vs : List Nat} {i : Nat} : vs.contains i = true ↔ i ∈ vs := by simp
section
variable {K : PySem.W.Frag} {XR : XRt} {E : XK} {σ σ0 σ' : L2.St} {G G0 G2 : Gm} {H M H0 M0 H2 M2 : Hp} {ft ft0 ft2 : Nat → List Addr} {vs : List Nat}
theorem wipeG_at {i : Nat} : (wipeG G vs)[i]? = (G[i]?).map fun s => if vs.contains i then .no else s := by
  unfold wipeG
  rw [List.getElem?_mapIdx]
theorem wipeG_out {i : Nat} (h : i ∉ vs) : (wipeG G vs)[i]? = G[i]? := by
  rw [wipeG_at]
  cases G[i]? with
  | none => rfl
  | some s => show some (if vs.contains i then Sl.no else s) = _; rw [if_neg (fun z => h (cont_iff.mp z))]
theorem SlOk.other {F : List Addr} {i : Nat} {s : Sl} (h : SlOk K σ H M F i s) (e : σ'[i]? = σ[i]?) : SlOk K σ' H M F i s := by
  cases s with
  | no => exact h
  | d x => obtain ⟨q1, u, q2, q3⟩ := h; exact ⟨q1, u, e.trans q2, q3⟩
  | l o => obtain ⟨p, q2, q3⟩ := h; exact ⟨p, e.trans q2, q3⟩
  | x o => obtain ⟨p, q2, q3⟩ := h; exact ⟨p, e.trans q2, q3⟩
  | k o => obtain ⟨p, q2, q3⟩ := h; exact ⟨p, e.trans q2, q3⟩
theorem SI.wipe (S : SI K σ H M G ft) (h : ∀ i, i ∉ vs → σ'[i]? = σ[i]?) (hl : σ'.length = σ.length) : SI K σ' H M (wipeG G vs) (ftW ft vs) where
  len := by unfold wipeG; rw [List.length_mapIdx, hl]; exact S.len
  sub := S.sub
  tab := S.tab
  slot := fun i s e => by
    rw [wipeG_at] at e
    cases eg : G[i]? with
    | none => rw [eg] at e; cases e
    | some t =>
      rw [eg] at e
      have e' : (if vs.contains i then Sl.no else t) = s := Option.some.inj e
      unfold ftW
      by_cases c : vs.contains i = true
      · rw [if_pos c] at e' ⊢; rw [← e']; exact rfl
      · rw [if_neg c] at e' ⊢; rw [← e']
        exact (S.slot i t eg).other (h i fun z => c (cont_iff.mpr z))
  out := fun i hi => by
    unfold wipeG at hi
    rw [List.length_mapIdx] at hi
    unfold ftW
    split
    · rfl
    · exact S.out i hi
  disj := fun i j a ha hb => S.disj i j a (ftW_sub ha) (ftW_sub hb)
theorem Stp.wipe (P : Stp σ0 G0 H0 M0 ft0 σ G H M ft) (h0 : plainAt G0 vs = true) (h : ∀ i, i ∉ vs → σ'[i]? = σ[i]?) : Stp σ0 G0 H0 M0 ft0 σ' (wipeG G vs) H M (ftW ft vs) := by
  have out : ∀ i s, G0[i]? = some s → (∃ o, s = .x o ∨ s = .k o) → i ∉ vs := fun i s e ⟨o, hs⟩ hi => by
    have := List.all_eq_true.mp h0 i hi
    rw [e] at this
    rcases hs with hs | hs <;> (rw [hs] at this; cases this)
  have ef : ∀ i, i ∉ vs → ftW ft vs i = ft i := fun i hi => by unfold ftW; exact if_neg fun z => hi (cont_iff.mp z)
  refine ⟨P.mono, P.new, P.frame, P.tbls, P.tab, P.there, fun i a ha => P.own i a (ftW_sub ha), P.tups, by unfold wipeG; rw [List.length_mapIdx]; exact P.len, fun i o e => ?_, fun i o e => ?_⟩
  · have hi := out i _ e ⟨o, .inl rfl⟩
    obtain ⟨q1, q2, o', q3⟩ := P.kx i o e
    exact ⟨(h i hi).trans q1, (ef i hi).trans q2, o', (wipeG_out hi).trans q3⟩
  · have hi := out i _ e ⟨o, .inr rfl⟩
    obtain ⟨q1, q2, q3⟩ := P.kk i o e
    exact ⟨(h i hi).trans q1, (ef i hi).trans q2, (wipeG_out hi).trans q3⟩
/-- the def's own slots again -/
theorem unwipe_ok (S : SI K (L2.wipe σ vs) H2 M2 G2 ft2) (S0 : SI K σ H M G ft) (P : Stp σ G H M ft (L2.wipe σ vs) G2 H2 M2 ft2) (h0 : plainAt G vs = true) (hw : ∀ i, i ∈ vs → i < G2.length → G2[i]? = some .no) :
    SI K σ H2 M2 (unwipe G G2 vs) ft2 ∧ Stp σ G H M ft σ (unwipe G G2 vs) H2 M2 ft2 := by
  have at2 : ∀ i, (unwipe G G2 vs)[i]? = (G2[i]?).map fun s => if vs.contains i then G.getD i .no else s := fun i => by unfold unwipe; rw [List.getElem?_mapIdx]
  have lenU : (unwipe G G2 vs).length = G2.length := by unfold unwipe; rw [List.length_mapIdx]
  have outv : ∀ i, i ∉ vs → (unwipe G G2 vs)[i]? = G2[i]? := fun i hi => by
    rw [at2]
    cases G2[i]? with
    | none => rfl
    | some s => show some (if vs.contains i then G.getD i .no else s) = _; rw [if_neg (fun z => hi (cont_iff.mp z))]
  have out : ∀ i s, G[i]? = some s → (∃ o, s = .x o ∨ s = .k o) → i ∉ vs := fun i s e ⟨o, hs⟩ hi => by
    have := List.all_eq_true.mp h0 i hi
    rw [e] at this
    rcases hs with hs | hs <;> (rw [hs] at this; cases this)
  refine ⟨⟨by rw [lenU, ← S.len, wipe_length], S.sub, fun i s e => ?_, S.tab, fun i hi => S.out i (by rw [lenU] at hi; exact hi), S.disj⟩, P.mono, P.new, P.frame, P.tbls, P.tab, P.there, P.own, P.tups, by rw [lenU]; exact P.len, fun i o e => ?_, fun i o e => ?_⟩
  · by_cases hi : i ∈ vs
    · have hlt : i < G2.length := by have := (List.getElem?_eq_some_iff.mp e).1; omega
      have hg : i < G.length := by have := P.len; omega
      rw [at2, List.getElem?_eq_getElem hlt] at e
      have e' : (if vs.contains i then G.getD i .no else G2[i]) = s := Option.some.inj e
      rw [if_pos (cont_iff.mpr hi)] at e'
      have eg := List.getElem?_eq_getElem hg
      have eD : G.getD i .no = G[i] := by rw [List.getD_eq_getElem?_getD, eg]; rfl
      rw [eD] at e'
      have hf : ft2 i = [] := S.slot i .no (hw i hi hlt)
      have hp := List.all_eq_true.mp h0 i hi
      rw [eg] at hp
      have q := S0.slot i _ eg
      rw [← e', hf]
      cases es : G[i] with
      | no => exact rfl
      | d x => rw [es] at q; obtain ⟨_, v, q1, q2⟩ := q; exact ⟨rfl, v, q1, q2.mono P.mono⟩
      | l o => rw [es] at hp; cases hp
      | x o => rw [es] at hp; cases hp
      | k o => rw [es] at hp; cases hp
    · rw [outv i hi] at e
      exact (S.slot i s e).other (wipe_at σ vs i hi).symm
  · have hi := out i _ e ⟨o, .inl rfl⟩
    obtain ⟨q1, q2, o', q3⟩ := P.kx i o e
    exact ⟨rfl, q2, o', (outv i hi).trans q3⟩
  · have hi := out i _ e ⟨o, .inr rfl⟩
    obtain ⟨q1, q2, q3⟩ := P.kk i o e
    exact ⟨rfl, q2, (outv i hi).trans q3⟩
/-! a list that grows beside the state -/
structure Aside (K : PySem.W.Frag) (H M : Hp) (ft : Nat → List Addr) (D : Addr) (acc : List PyData) : Prop where
  at_ : ∃ xs, H D = some (.lst xs) ∧ DdA K M xs acc
  hid : M D = none
  out : ∀ i, D ∉ ft i
theorem Aside.later {D : Addr} {acc : List PyData} {H2 M2 : Hp} {ft2 : Nat → List Addr} (h : Aside K H M ft D acc) (P : Stp σ G H M ft σ' G2 H2 M2 ft2) : Aside K H2 M2 ft2 D acc := by
  obtain ⟨⟨xs, h1, h2⟩, h3, h4⟩ := h
  refine ⟨⟨xs, P.frame D _ h1 (fun _ z => nomatch z) h4, h2.mono P.mono⟩, ?_, fun i z => ?_⟩
  · cases e : M2 D with
    | none => rfl
    | some o =>
      rcases P.new D o e with z | z | ⟨i, z⟩ | ⟨ys, z⟩
      · rw [h3] at z; cases z
      · rw [h1] at z; cases z
      · exact absurd z (h4 i)
      · rw [h1] at z; cases z
  · rcases P.own i D z with ⟨j, y⟩ | y
    · exact h4 j y
    · rw [h1] at y; cases y
theorem SI.poke (S : SI K σ H M G ft) {D : Addr} {u : HO} {ws : List V} (hd : H D = some (.lst ws)) (h3 : M D = none) (h4 : ∀ i, D ∉ ft i) : SI K σ (upd H D u) M G ft where
  len := S.len
  tab := ⟨S.tab.1.upd hd noTab_lst, S.tab.2⟩
  sub := fun a o e => by rw [upd_ne (show a ≠ D from fun z => by subst z; rw [h3] at e; cases e)]; exact S.sub a o e
  slot := fun i s e => (S.slot i s e).keep (Sub.refl _) (fun a ha o q _ => by rw [upd_ne (show a ≠ D from fun z => h4 i (by rw [← z]; exact ha))]; exact q) fun a ha => (S.owned ha).1
  out := S.out
  disj := S.disj
theorem Stp.poke (P : Stp σ0 G0 H0 M0 ft0 σ G H M ft) {D : Addr} {u : HO} {ws : List V} (hd : H D = some (.lst ws)) (h : H0 D = none) : Stp σ0 G0 H0 M0 ft0 σ G (upd H D u) M ft :=
  ⟨P.mono, P.new, fun a o e nt hn => by rw [upd_ne (ne_of_none e h)]; exact P.frame a o e nt hn, fun a ps e => let ⟨ps', q⟩ := P.tbls a ps e; tbls_upd hd noTab_lst a ps' q, fun K t => (P.tab K t).upd hd noTab_lst, fun a o e => by
    by_cases z : a = D
    · subst z; exact ⟨u, upd_same⟩
    · obtain ⟨o', q⟩ := P.there a o e
      exact ⟨o', by rw [upd_ne z]; exact q⟩, P.own, fun a xs e => by rw [upd_ne (ne_of_none e h)]; exact P.tups a xs e, P.len, P.kx, P.kk⟩
end
/-! ### [elt for target in iter if test] -/
def tYesF : Gm → Res Bool := fun G => .ok true G
def compF (vs : List Nat) (tg : PyData → Gm → Option Gm) (tst : Gm → Res Bool) (elt : Gm → Res Rv) : List PyData → List PyData → Gm → Res (List PyData)
  | [], acc, G => .ok acc G
  | d :: ds, acc, G => match tg d G with
    | none => .bad
    | some G1 => match tst G1 with
      | .ok true G2 => match elt G2 with
        | .ok r G3 => match retain G3 r with
          | some (x, G4) => if lim (acc.length + 1) then compF vs tg tst elt ds (acc ++ [x]) (wipeG G4 vs) else .bad
          | none => .bad
        | _ => .bad
      | .ok false G2 => compF vs tg tst elt ds acc (wipeG G2 vs)
      | _ => .bad
def fComp (it : Gm → Res Itv) (vs : List Nat) (tg : PyData → Gm → Option Gm) (tst : Gm → Res Bool) (elt : Gm → Res Rv) : Gm → Res Rv := fun G => (it G).bind fun p G1 =>
  if plainAt G1 vs then match compF vs tg tst elt p.1 [] (wipeG (lockAll G1 p.2) vs) with
    | .ok acc G2 => .ok (.new (.lst acc)) (unlockAll G1 (unwipe (lockAll G1 p.2) G2 vs))
    | _ => .bad
  else .bad
theorem plain_lock {G : Gm} {lk vs : List Nat} (h : plainAt G vs = true) : plainAt (lockAll G lk) vs = true := by
  unfold plainAt at h ⊢
  rw [List.all_eq_true] at h ⊢
  intro j hj
  have q := h j hj
  rw [lock_at]
  cases e : G[j]? with
  | none => rw [e] at q; exact q
  | some s =>
    rw [e] at q
    cases s with
    | no => by_cases c : lk.contains j = true <;> simp [c, lockS]
    | d x => by_cases c : lk.contains j = true <;> simp [c, lockS]
    | l o => cases q
    | x o => cases q
    | k o => cases q
theorem lim_succ {n : Nat} (h : lim (n + 1) = true) : n < sizeLine := by
  have := lim_ok h
  omega
section
variable {K : PySem.W.Frag} {XR : XRt} {E : XK} {it : Gm → Res Itv} {vs tv : List Nat} {tg : PyData → Gm → Option Gm} {tst : Gm → Res Bool} {elt : Gm → Res Rv}
theorem comp_le (htv : ∀ i, i ∈ tv → i ∈ vs) : ∀ σ H Q, tFE K XR E (fComp it vs tg tst elt) σ H Q → tLc (tFI K XR E it) (tFG K tv tg) (tFT K XR E0 tst) (tFE K XR E0 elt) vs σ H Q := fun σ H Q ⟨M, G, ft, S, w⟩ => by
  refine ⟨M, G, ft, S, ?_⟩
  unfold fComp at w
  cases ei : it G with
  | ex x => rw [ei] at w; exact w
  | bad => rw [ei] at w; exact w
  | ok p G1 =>
    rw [ei] at w
    intro J H1 M1 ft1 S1 P1 IO D hD
    rw [Res.bind_ok] at w
    split at w
    · rename_i hpl
      have hpl' := plain_lock (lk := p.2) hpl
      have SL := S1.lock p.2
      -- wiped
      have SW := SL.wipe (vs := vs) (σ' := L2.wipe σ vs) (fun i hi => wipe_at σ vs i hi) (wipe_length σ vs)
      have PW : Stp σ (lockAll G1 p.2) H1 M1 ft1 (L2.wipe σ vs) (wipeG (lockAll G1 p.2) vs) H1 M1 (ftW ft1 vs) := Stp.wipe .refl hpl' fun i hi => wipe_at σ vs i hi
      have hMD : M1 D = none := S1.sub.nn hD
      refine ⟨fun i m H' => m = p.1.length - i ∧ i ≤ p.1.length ∧ ∃ G' M' ft' acc, SI K (L2.wipe σ vs) H' M' G' ft' ∧ Stp σ (lockAll G1 p.2) H1 M1 ft1 (L2.wipe σ vs) G' H' M' ft' ∧ Aside K H' M' ft' D acc ∧ (∀ i, i ∈ vs → i < G'.length → G'[i]? = some .no) ∧
          WP K XR E (ROv K σ) σ G H M ft (match compF vs tg tst elt (p.1.drop i) acc G' with | .ok acc G2 => .ok (.new (.lst acc)) (unlockAll G1 (unwipe (lockAll G1 p.2) G2 vs)) | _ => .bad) Q, ⟨p.1.length, by simp, Nat.zero_le _, wipeG (lockAll G1 p.2) vs, M1, ftW ft1 vs, [], SW.lay hD _, PW.trans (Stp.lay SW hD _), ⟨⟨[], upd_same, .nil⟩, hMD, SW.fresh hD⟩, fun i hi hlt => ?_, by rw [List.drop_zero]; exact w⟩, ?_⟩
      · rw [wipeG_at]
        unfold wipeG at hlt
        rw [List.length_mapIdx] at hlt
        rw [List.getElem?_eq_getElem hlt]
        show some (if vs.contains i then Sl.no else _) = _
        rw [if_pos (cont_iff.mpr hi)]
      · rintro i m H' ⟨rfl, hi, G', M', ft', acc, S', P', A', hw', w'⟩
        obtain ⟨hgo, hst⟩ := IO _ G' H' M' ft' S' P' i
        cases ed : p.1[i]? with
        | none =>
          have hz : p.1.drop i = [] := List.drop_eq_nil_of_le (List.getElem?_eq_none_iff.mp ed)
          rw [hz] at w'
          refine .inl ⟨hst ed, ?_⟩
          obtain ⟨SU, PU⟩ := unwipe_ok S' SL P' hpl' hw'
          obtain ⟨SV, PV⟩ := unlock_ok SU PU
          obtain ⟨xs, a1, a2⟩ := A'.at_
          refine w' (.ref D) H' M' ft' SV (P1.trans PV) ⟨D, [D], rfl, ⟨rfl, xs, a1, a2⟩, fun a ha => ?_⟩
          cases List.mem_singleton.mp ha
          exact ⟨A'.hid, P1.nn hD, A'.out⟩
        | some d =>
          obtain ⟨h1, h2⟩ := hgo d ed
          have hlt : i < p.1.length := (List.getElem?_eq_some_iff.mp ed).1
          have hz : p.1.drop i = d :: p.1.drop (i + 1) := by
            rw [List.drop_eq_getElem_cons (h := hlt)]
            have : p.1[i] = d := (List.getElem?_eq_some_iff.mp ed).2
            rw [this]
          rw [hz] at w'
          refine .inr ⟨h1, fun H' => ∃ G' M' ft' acc, SI K (L2.wipe σ vs) H' M' G' ft' ∧ Stp σ (lockAll G1 p.2) H1 M1 ft1 (L2.wipe σ vs) G' H' M' ft' ∧ Aside K H' M' ft' D acc ∧ (∀ i, i ∈ vs → i < G'.length → G'[i]? = some .no) ∧
            WP K XR E (ROv K σ) σ G H M ft (match compF vs tg tst elt (p.1.drop (i + 1)) acc G' with | .ok acc G2 => .ok (.new (.lst acc)) (unlockAll G1 (unwipe (lockAll G1 p.2) G2 vs)) | _ => .bad) Q, fun H' h => ⟨p.1.length - (i + 1), by omega, rfl, hlt, h⟩, fun x H3 hy => ?_⟩
          obtain ⟨M3, S3, P3, D3⟩ := h2 x H3 hy
          have P03 := P'.trans P3
          refine ⟨M3, G', ft', d, S3, D3, ?_⟩
          unfold compF at w'
          cases eg : tg d G' with
          | none => rw [eg] at w'; exact w'.elim
          | some G4 =>
            rw [eg] at w'
            dsimp only at w'
            intro σ4 H4 M4 ft4 S4 P4 k4 l4
            have P04 := P03.trans P4
            have A4 := (A'.later P3).later P4
            have ks : ∀ i, i ∉ vs → σ4[i]? = (L2.wipe σ vs)[i]? := fun i hi => k4 i fun z => hi (htv i z)
            have ew : L2.wipe σ4 vs = L2.wipe σ vs := by
              rw [wipe_eq ks l4]
              exact wipe_eq (fun i hi => wipe_at σ vs i hi) (wipe_length σ vs)
            have ks' : ∀ i, i ∉ vs → (L2.wipe σ vs)[i]? = σ4[i]? := fun i hi => (ks i hi).symm
            have wn : ∀ {G5 : Gm}, ∀ i, i ∈ vs → i < (wipeG G5 vs).length → (wipeG G5 vs)[i]? = some .no := fun {G5} i hi hlt => by
              rw [wipeG_at]
              unfold wipeG at hlt
              rw [List.length_mapIdx] at hlt
              rw [List.getElem?_eq_getElem hlt]
              show some (if vs.contains i then Sl.no else _) = _
              rw [if_pos (cont_iff.mpr hi)]
            refine ⟨ew, M4, G4, ft4, S4, ?_⟩
            cases et : tst G4 with
            | ex e => rw [et] at w'; exact w'.elim
            | bad => rw [et] at w'; exact w'.elim
            | ok b G5 =>
              rw [et] at w'
              intro b' H5 M5 ft5 S5 P5 eb
              cases eb
              have P05 := P04.trans P5
              have A5 := A4.later P5
              cases b with
              | false =>
                dsimp only at w'
                have S6 := S5.wipe (vs := vs) ks' (by rw [wipe_length]; rw [l4, wipe_length])
                have P6 := P05.wipe hpl' ks'
                exact ⟨wipeG G5 vs, M5, ftW ft5 vs, acc, S6, P6, ⟨A5.at_, A5.hid, fun i z => A5.out i (ftW_sub z)⟩, wn, w'⟩
              | true =>
                dsimp only at w'
                rw [if_pos rfl]
                refine ⟨M5, G5, ft5, S5, ?_⟩
                cases ee : elt G5 with
                | ex e => rw [ee] at w'; exact w'.elim
                | bad => rw [ee] at w'; exact w'.elim
                | ok r G6 =>
                  rw [ee] at w'
                  dsimp only at w'
                  intro y H6 M6 ft6 S6 P6 R6
                  have P06 := P05.trans P6
                  have A6 := A5.later P6
                  cases er : retain G6 r with
                  | none => rw [er] at w'; exact w'.elim
                  | some xg =>
                    obtain ⟨x', G7⟩ := xg
                    rw [er] at w'
                    dsimp only at w'
                    obtain ⟨F, RF⟩ := R6.f
                    obtain ⟨M7, ft7, S7, P7, s7, D7, hf7, hn7⟩ := retain_ok (σ0 := σ4) (G0 := G5) (H0 := H5) (M0 := M5) (ft0 := ft5) S6 P6 (fun a z => z) er RF
                    obtain ⟨xs, a1, a2⟩ := A6.at_
                    by_cases hlim : lim (acc.length + 1) = true
                    · rw [if_pos hlim] at w'
                      refine ⟨xs, a1, by rw [a2.length]; exact lim_succ hlim, ?_⟩
                      have hid7 : M7 D = none := by
                        cases e7 : M7 D with
                        | none => rfl
                        | some o =>
                          rcases hn7 D A6.hid (by rw [e7]; exact Option.some_ne_none _) with z | ⟨j, z⟩
                          · obtain ⟨q1, _⟩ := RF.out D z
                            obtain ⟨xs5, q2, _⟩ := A5.at_
                            rw [q1] at q2; cases q2
                          · exact absurd z (A6.out j)
                      have out7 : ∀ i, D ∉ ft7 i := fun i z => A6.out i (hf7 i D z)
                      have S8 := (S7.wipe (vs := vs) ks' (by rw [wipe_length]; rw [l4, wipe_length])).poke (u := .lst (xs ++ [y])) a1 hid7 (fun i z => out7 i (ftW_sub z))
                      have P8 := ((P05.trans P7).wipe (vs := vs) (σ' := L2.wipe σ vs) hpl' ks').poke (D := D) (u := .lst (xs ++ [y])) a1 hD
                      exact ⟨wipeG G7 vs, M7, ftW ft7 vs, acc ++ [x'], S8, P8, ⟨⟨_, upd_same, (a2.mono s7).append (.one D7)⟩, hid7, fun i z => out7 i (ftW_sub z)⟩, wn, w'⟩
                    · rw [if_neg hlim] at w'; exact w'.elim
    · exact w.elim
end
end Fx
/-! FxL: list comprehensions, two clauses (the second over a range); their terms -/
namespace Fx
open PySem PySem.Spec
open PyProof.Rows L2
/-- an iterator that hangs on no heap -/
def ItU (K : PySem.W.Frag) (J : It) (ds : List PyData) : Prop :=
  ∀ σ' G' H' M' ft', SI K σ' H' M' G' ft' → ∀ i : Nat, (∀ d, ds[i]? = some d → J.go i H' ∧ ∀ x H3, J.yld i H' x H3 → ∃ M3, SI K σ' H3 M3 G' ft' ∧ Stp σ' G' H' M' ft' σ' G' H3 M3 ft' ∧ Dd K M3 x d) ∧ (ds[i]? = none → J.stop i H')
def tFU (K : PySem.W.Frag) (XR : XRt) (E : XK) (f : Gm → Res Itv) : TI := fun σ H R => ∃ M G ft, SI K σ H M G ft ∧ match f G with
  | .ok p G1 => ∀ J H' M' ft', SI K σ H' M' G1 ft' → Stp σ G H M ft σ G1 H' M' ft' → ItU K J p.1 → R J H'
  | .ex e => ∀ cls d H', XR e cls d H' → Frm H ft H' → E cls d H'
  | .bad => False
theorem itU_range {K : PySem.W.Frag} (a b : Int) : ItU K (Itr a (b - a).toNat) (rgD a b) := fun σ' G' H' M' ft' S' i => it_range (σ := σ') (G := G') (H := H') (M := M') (ft := ft') a b σ' G' H' M' ft' S' .refl i
section
variable {X : Cx} {XR : XRt} {E : XK} {tg : Expr} {f : Gm → Res Rv}
theorem fu_rg1 {e : Expr} {p pos : Pos} (hg : Gl X "range") (hm : X.mg "range" = none) (he : PE X e (tFE X.K XR E f)) (hs : starEach [e] X.env = [(false, eval e X.env)] := by rfl) : PI X tg (.Call (.Name "range" p) [e] [] pos) (tFU X.K XR E (iRg1 f)) :=
  PI.le (pi_range1 hg hm (pa_cons he pa_nil (by rw [hs]; rfl)) hs) fun σ H R ⟨M, G, ft, S, w⟩ => by
    refine ⟨M, G, ft, S, ?_⟩
    unfold iRg1 at w
    cases e : f G with
    | ok r G1 =>
      rw [e] at w
      intro v H1 M1 ft1 S1 P1 R1
      rw [Res.bind_ok] at w
      have key : ∃ n, rd G1 r = some (.int n) ∧ rgOk 0 n = true ∧ ∀ J H' M' ft', SI X.K σ H' M' G1 ft' → Stp σ G H M ft σ G1 H' M' ft' → ItU X.K J (rgD 0 n) → R J H' := by
        split at w
        · rename_i p G3 ep
          split at ep
          · rename_i n e1
            split at ep
            · rename_i c
              cases ep
              exact ⟨n, e1, c, w⟩
            · cases ep
          · cases ep
        · rename_i x ep
          split at ep
          · split at ep <;> cases ep
          · cases ep
        · exact w.elim
      obtain ⟨n, er, c, w'⟩ := key
      cases rd_int S1 er R1
      obtain ⟨b1, b2, b3, b4, _⟩ := rgOk_ok c
      refine ⟨n, rfl, b3, b4, ?_⟩
      have := w' (Itr 0 (n - 0).toNat) H1 M1 ft1 S1 P1 (itU_range 0 n)
      rw [Int.sub_zero] at this
      exact this
    | ex x => rw [e] at w; exact w
    | bad => rw [e] at w; exact w
theorem fu_rg2 {a b : Expr} {fa fb : Gm → Res Rv} {p pos : Pos} (hg : Gl X "range") (hm : X.mg "range" = none) (ha : PE X a (tFE X.K XR E fa)) (hb : PE X b (tFE X.K XR E fb)) (hs : starEach [a, b] X.env = [(false, eval a X.env), (false, eval b X.env)] := by rfl) (hs2 : starEach [b] X.env = [(false, eval b X.env)] := by rfl) :
    PI X tg (.Call (.Name "range" p) [a, b] [] pos) (tFU X.K XR E (iRg2 fa fb)) :=
  PI.le (pi_range2 hg hm (pa_cons ha (pa_cons hb pa_nil (by rw [hs2]; rfl)) (by rw [hs, hs2])) hs hs2) fun σ H R ⟨M, G, ft, S, w⟩ => by
    refine ⟨M, G, ft, S, ?_⟩
    unfold iRg2 at w
    cases e : fa G with
    | ok r G1 =>
      rw [e] at w
      intro v H1 M1 ft1 S1 P1 R1
      rw [Res.bind_ok] at w
      refine ⟨M1, G1, ft1, S1, ?_⟩
      cases e2 : fb G1 with
      | ok r2 G2 =>
        rw [e2] at w
        intro v2 H2 M2 ft2 S2 P2 R2
        rw [Res.bind_ok] at w
        have key : ∃ i j, rd G2 r = some (.int i) ∧ rd G2 r2 = some (.int j) ∧ rgOk i j = true ∧ ∀ J H' M' ft', SI X.K σ H' M' G2 ft' → Stp σ G H M ft σ G2 H' M' ft' → ItU X.K J (rgD i j) → R J H' := by
          split at w
          · rename_i p G3 ep
            split at ep
            · rename_i i j e1 e2
              split at ep
              · rename_i c
                cases ep
                exact ⟨i, j, e1, e2, c, w⟩
              · cases ep
            · cases ep
          · rename_i x ep
            split at ep
            · split at ep <;> cases ep
            · cases ep
          · exact w.elim
        obtain ⟨i, j, e1, e2, c, w'⟩ := key
        cases rd_int S2 e1 (R1.later P2)
        cases rd_int S2 e2 R2
        obtain ⟨b1, b2, b3, b4, _⟩ := rgOk_ok c
        exact ⟨i, j, rfl, ⟨b1, b2, b3, b4⟩, w' _ H2 M2 ft2 S2 (P1.trans P2) (itU_range i j)⟩
      | ex x => rw [e2] at w; exact fun cls d H' y fr => w cls d H' y (Frm.trans P1 fr)
      | bad => rw [e2] at w; exact w
    | ex x => rw [e] at w; exact w
    | bad => rw [e] at w; exact w
end
section
variable {K : PySem.W.Frag} {XR : XRt} {E : XK} {vs tv : List Nat} {tg : PyData → Gm → Option Gm} {tst : Gm → Res Bool} {elt : Gm → Res Rv}
theorem wiped_no {G5 : Gm} : ∀ i, i ∈ vs → i < (wipeG G5 vs).length → (wipeG G5 vs)[i]? = some .no := fun i hi hlt => by
  rw [wipeG_at]
  unfold wipeG at hlt
  rw [List.length_mapIdx] at hlt
  rw [List.getElem?_eq_getElem hlt]
  show some (if vs.contains i then Sl.no else _) = _
  rw [if_pos (cont_iff.mpr hi)]
/-- the inner loop of a comprehension, its list D aside; the base knows no D -/
theorem comp_loop {σb σ : L2.St} {Gb G : Gm} {Hb Mb H M : Hp} {ftb ft : Nat → List Addr} {D : Addr} {acc acc' ds : List PyData} {G2 : Gm} {J : It} {Fin : Hp → Prop} (htv : ∀ i, i ∈ tv → i ∈ vs) (hpl : plainAt Gb vs = true)
    (S : SI K σ H M G ft) (P : Stp σb Gb Hb Mb ftb σ G H M ft) (hD : Hb D = none) (A : Aside K H M ft D acc) (IO : ItU K J ds) (hr : compF vs tg tst elt ds acc (wipeG G vs) = .ok acc' G2)
    (fin : ∀ H' M' ft', SI K (L2.wipe σ vs) H' M' G2 ft' → Stp σb Gb Hb Mb ftb (L2.wipe σ vs) G2 H' M' ft' → Aside K H' M' ft' D acc' → Fin H') :
    ∃ W : Nat → Nat → Hp → Prop, (∃ m, W 0 m H) ∧ ∀ i m H, W i m H → (J.stop i H ∧ Fin H) ∨ (J.go i H ∧ ∃ Nx : Hp → Prop, (∀ H', Nx H' → ∃ m', m' < m ∧ W (i + 1) m' H') ∧ ∀ x H', J.yld i H x H' → tFG K tv tg x (L2.wipe σ vs) H' fun σ2 H2 => L2.wipe σ2 vs = L2.wipe σ vs ∧ tFT K XR E0 tst σ2 H2 fun b H3 =>
      if b = true then tFE K XR E0 elt σ2 H3 fun y H4 => ∃ acc, H4 D = some (.lst acc) ∧ acc.length < sizeLine ∧ Nx (upd H4 D (.lst (acc ++ [y]))) else Nx H3) := by
  have SW := S.wipe (vs := vs) (σ' := L2.wipe σ vs) (fun i hi => wipe_at σ vs i hi) (wipe_length σ vs)
  have PW := P.wipe (σ' := L2.wipe σ vs) hpl fun i hi => wipe_at σ vs i hi
  refine ⟨fun i m H' => m = ds.length - i ∧ i ≤ ds.length ∧ ∃ G' M' ft' acc, SI K (L2.wipe σ vs) H' M' G' ft' ∧ Stp σb Gb Hb Mb ftb (L2.wipe σ vs) G' H' M' ft' ∧ Aside K H' M' ft' D acc ∧ compF vs tg tst elt (ds.drop i) acc G' = .ok acc' G2,
    ⟨ds.length, by simp, Nat.zero_le _, wipeG G vs, M, ftW ft vs, acc, SW, PW, ⟨A.at_, A.hid, fun i z => A.out i (ftW_sub z)⟩, by rw [List.drop_zero]; exact hr⟩, ?_⟩
  rintro i m H' ⟨rfl, hi, G', M', ft', acc, S', P', A', w'⟩
  obtain ⟨hgo, hst⟩ := IO _ G' H' M' ft' S' i
  cases ed : ds[i]? with
  | none =>
    have hz : ds.drop i = [] := List.drop_eq_nil_of_le (List.getElem?_eq_none_iff.mp ed)
    rw [hz] at w'
    have w2 : (Res.ok acc G' : Res (List PyData)) = .ok acc' G2 := w'
    cases w2
    exact .inl ⟨hst ed, fin H' M' ft' S' P' A'⟩
  | some d =>
    obtain ⟨h1, h2⟩ := hgo d ed
    have hlt : i < ds.length := (List.getElem?_eq_some_iff.mp ed).1
    have hz : ds.drop i = d :: ds.drop (i + 1) := by
      rw [List.drop_eq_getElem_cons (h := hlt)]
      have : ds[i] = d := (List.getElem?_eq_some_iff.mp ed).2
      rw [this]
    rw [hz] at w'
    refine .inr ⟨h1, fun H' => ∃ G' M' ft' acc, SI K (L2.wipe σ vs) H' M' G' ft' ∧ Stp σb Gb Hb Mb ftb (L2.wipe σ vs) G' H' M' ft' ∧ Aside K H' M' ft' D acc ∧ compF vs tg tst elt (ds.drop (i + 1)) acc G' = .ok acc' G2, fun H' h => ⟨ds.length - (i + 1), by omega, rfl, hlt, h⟩, fun x H3 hy => ?_⟩
    obtain ⟨M3, S3, P3, D3⟩ := h2 x H3 hy
    have P03 := P'.trans P3
    refine ⟨M3, G', ft', d, S3, D3, ?_⟩
    unfold compF at w'
    cases eg : tg d G' with
    | none => rw [eg] at w'; cases w'
    | some G4 =>
      rw [eg] at w'
      dsimp only at w'
      intro σ4 H4 M4 ft4 S4 P4 k4 l4
      have P04 := P03.trans P4
      have A4 := (A'.later P3).later P4
      have ks : ∀ i, i ∉ vs → σ4[i]? = (L2.wipe σ vs)[i]? := fun i hi => k4 i fun z => hi (htv i z)
      have ew : L2.wipe σ4 vs = L2.wipe σ vs := by
        rw [wipe_eq ks l4]
        exact wipe_eq (fun i hi => wipe_at σ vs i hi) (wipe_length σ vs)
      have ks' : ∀ i, i ∉ vs → (L2.wipe σ vs)[i]? = σ4[i]? := fun i hi => (ks i hi).symm
      refine ⟨ew, M4, G4, ft4, S4, ?_⟩
      cases et : tst G4 with
      | ex e => rw [et] at w'; cases w'
      | bad => rw [et] at w'; cases w'
      | ok b G5 =>
        rw [et] at w'
        intro b' H5 M5 ft5 S5 P5 eb
        cases eb
        have P05 := P04.trans P5
        have A5 := A4.later P5
        cases b with
        | false =>
          dsimp only at w'
          have S6 := S5.wipe (vs := vs) ks' (by rw [wipe_length]; rw [l4, wipe_length])
          have P6 := P05.wipe hpl ks'
          exact ⟨wipeG G5 vs, M5, ftW ft5 vs, acc, S6, P6, ⟨A5.at_, A5.hid, fun i z => A5.out i (ftW_sub z)⟩, w'⟩
        | true =>
          dsimp only at w'
          rw [if_pos rfl]
          refine ⟨M5, G5, ft5, S5, ?_⟩
          cases ee : elt G5 with
          | ex e => rw [ee] at w'; cases w'
          | bad => rw [ee] at w'; cases w'
          | ok r G6 =>
            rw [ee] at w'
            dsimp only at w'
            intro y H6 M6 ft6 S6 P6 R6
            have P06 := P05.trans P6
            have A6 := A5.later P6
            cases er : retain G6 r with
            | none => rw [er] at w'; cases w'
            | some xg =>
              obtain ⟨x', G7⟩ := xg
              rw [er] at w'
              dsimp only at w'
              obtain ⟨F, RF⟩ := R6.f
              obtain ⟨M7, ft7, S7, P7, s7, D7, hf7, hn7⟩ := retain_ok (σ0 := σ4) (G0 := G5) (H0 := H5) (M0 := M5) (ft0 := ft5) S6 P6 (fun a z => z) er RF
              obtain ⟨xs, a1, a2⟩ := A6.at_
              by_cases hlim : lim (acc.length + 1) = true
              · rw [if_pos hlim] at w'
                refine ⟨xs, a1, by rw [a2.length]; exact lim_succ hlim, ?_⟩
                have hid7 : M7 D = none := by
                  cases e7 : M7 D with
                  | none => rfl
                  | some o =>
                    rcases hn7 D A6.hid (by rw [e7]; exact Option.some_ne_none _) with z | ⟨j, z⟩
                    · obtain ⟨q1, _⟩ := RF.out D z
                      obtain ⟨xs5, q2, _⟩ := A5.at_
                      rw [q1] at q2; cases q2
                    · exact absurd z (A6.out j)
                have out7 : ∀ i, D ∉ ft7 i := fun i z => A6.out i (hf7 i D z)
                have S8 := (S7.wipe (vs := vs) ks' (by rw [wipe_length]; rw [l4, wipe_length])).poke (u := .lst (xs ++ [y])) a1 hid7 (fun i z => out7 i (ftW_sub z))
                have P8 := ((P05.trans P7).wipe (vs := vs) (σ' := L2.wipe σ vs) hpl ks').poke (D := D) (u := .lst (xs ++ [y])) a1 hD
                exact ⟨wipeG G7 vs, M7, ftW ft7 vs, acc ++ [x'], S8, P8, ⟨⟨_, upd_same, (a2.mono s7).append (.one D7)⟩, hid7, fun i z => out7 i (ftW_sub z)⟩, w'⟩
              · rw [if_neg hlim] at w'; cases w'
end
def comp2F (vs vs1 : List Nat) (tg : PyData → Gm → Option Gm) (tst : Gm → Res Bool) (it1 : Gm → Res Itv) (tg1 : PyData → Gm → Option Gm) (tst1 : Gm → Res Bool) (elt : Gm → Res Rv) : List PyData → List PyData → Gm → Res (List PyData)
  | [], acc, G => .ok acc G
  | d :: ds, acc, G => match tg d G with
    | none => .bad
    | some G1 => match tst G1 with
      | .ok true G2 => match it1 G2 with
        | .ok p G3 => match compF vs1 tg1 tst1 elt p.1 acc (wipeG G3 vs1) with
          | .ok acc' G4 => comp2F vs vs1 tg tst it1 tg1 tst1 elt ds acc' (wipeG G4 vs)
          | _ => .bad
        | _ => .bad
      | .ok false G2 => comp2F vs vs1 tg tst it1 tg1 tst1 elt ds acc (wipeG G2 vs)
      | _ => .bad
def fComp2 (it : Gm → Res Itv) (vs vs1 : List Nat) (tg : PyData → Gm → Option Gm) (tst : Gm → Res Bool) (it1 : Gm → Res Itv) (tg1 : PyData → Gm → Option Gm) (tst1 : Gm → Res Bool) (elt : Gm → Res Rv) : Gm → Res Rv := fun G => (it G).bind fun p G1 =>
  if plainAt G1 vs then match comp2F vs vs1 tg tst it1 tg1 tst1 elt p.1 [] (wipeG (lockAll G1 p.2) vs) with
    | .ok acc G2 => .ok (.new (.lst acc)) (unlockAll G1 (unwipe (lockAll G1 p.2) G2 vs))
    | _ => .bad
  else .bad
theorem plain_sub {G : Gm} {vs vs1 : List Nat} (h : plainAt G vs = true) (hs : ∀ i, i ∈ vs1 → i ∈ vs) : plainAt G vs1 = true := by
  unfold plainAt at h ⊢
  rw [List.all_eq_true] at h ⊢
  exact fun j hj => h j (hs j hj)
section
variable {K : PySem.W.Frag} {XR : XRt} {E : XK} {it it1 : Gm → Res Itv} {vs tv vs1 tv1 : List Nat} {tg tg1 : PyData → Gm → Option Gm} {tst tst1 : Gm → Res Bool} {elt : Gm → Res Rv}
theorem comp2_le (htv : ∀ i, i ∈ tv → i ∈ vs) (htv1 : ∀ i, i ∈ tv1 → i ∈ vs1) (hvs : ∀ i, i ∈ vs1 → i ∈ vs) : ∀ σ H Q, tFE K XR E (fComp2 it vs vs1 tg tst it1 tg1 tst1 elt) σ H Q → tLc2 (tFI K XR E it) (tFG K tv tg) (tFT K XR E0 tst) (tFU K XR E0 it1) (tFG K tv1 tg1) (tFT K XR E0 tst1) (tFE K XR E0 elt) vs vs1 σ H Q := fun σ H Q ⟨M, G, ft, S, w⟩ => by
  refine ⟨M, G, ft, S, ?_⟩
  unfold fComp2 at w
  cases ei : it G with
  | ex x => rw [ei] at w; exact w
  | bad => rw [ei] at w; exact w
  | ok p G1 =>
    rw [ei] at w
    intro J H1 M1 ft1 S1 P1 IO D hD
    rw [Res.bind_ok] at w
    split at w
    · rename_i hpl
      have hpl' := plain_lock (lk := p.2) hpl
      have SL := S1.lock p.2
      have SW := SL.wipe (vs := vs) (σ' := L2.wipe σ vs) (fun i hi => wipe_at σ vs i hi) (wipe_length σ vs)
      have PW : Stp σ (lockAll G1 p.2) H1 M1 ft1 (L2.wipe σ vs) (wipeG (lockAll G1 p.2) vs) H1 M1 (ftW ft1 vs) := Stp.wipe .refl hpl' fun i hi => wipe_at σ vs i hi
      have hMD : M1 D = none := S1.sub.nn hD
      refine ⟨fun i m H' => m = p.1.length - i ∧ i ≤ p.1.length ∧ ∃ G' M' ft' acc, SI K (L2.wipe σ vs) H' M' G' ft' ∧ Stp σ (lockAll G1 p.2) H1 M1 ft1 (L2.wipe σ vs) G' H' M' ft' ∧ Aside K H' M' ft' D acc ∧ (∀ i, i ∈ vs → i < G'.length → G'[i]? = some .no) ∧
          WP K XR E (ROv K σ) σ G H M ft (match comp2F vs vs1 tg tst it1 tg1 tst1 elt (p.1.drop i) acc G' with | .ok acc G2 => .ok (.new (.lst acc)) (unlockAll G1 (unwipe (lockAll G1 p.2) G2 vs)) | _ => .bad) Q, ⟨p.1.length, by simp, Nat.zero_le _, wipeG (lockAll G1 p.2) vs, M1, ftW ft1 vs, [], SW.lay hD _, PW.trans (Stp.lay SW hD _), ⟨⟨[], upd_same, .nil⟩, hMD, SW.fresh hD⟩, wiped_no, by rw [List.drop_zero]; exact w⟩, ?_⟩
      rintro i m H' ⟨rfl, hi, G', M', ft', acc, S', P', A', hw', w'⟩
      obtain ⟨hgo, hst⟩ := IO _ G' H' M' ft' S' P' i
      cases ed : p.1[i]? with
      | none =>
        have hz : p.1.drop i = [] := List.drop_eq_nil_of_le (List.getElem?_eq_none_iff.mp ed)
        rw [hz] at w'
        refine .inl ⟨hst ed, ?_⟩
        obtain ⟨SU, PU⟩ := unwipe_ok S' SL P' hpl' hw'
        obtain ⟨SV, PV⟩ := unlock_ok SU PU
        obtain ⟨xs, a1, a2⟩ := A'.at_
        refine w' (.ref D) H' M' ft' SV (P1.trans PV) ⟨D, [D], rfl, ⟨rfl, xs, a1, a2⟩, fun a ha => ?_⟩
        cases List.mem_singleton.mp ha
        exact ⟨A'.hid, P1.nn hD, A'.out⟩
      | some d =>
        obtain ⟨h1, h2⟩ := hgo d ed
        have hlt : i < p.1.length := (List.getElem?_eq_some_iff.mp ed).1
        have hz : p.1.drop i = d :: p.1.drop (i + 1) := by
          rw [List.drop_eq_getElem_cons (h := hlt)]
          have : p.1[i] = d := (List.getElem?_eq_some_iff.mp ed).2
          rw [this]
        rw [hz] at w'
        refine .inr ⟨h1, fun H' => ∃ G' M' ft' acc, SI K (L2.wipe σ vs) H' M' G' ft' ∧ Stp σ (lockAll G1 p.2) H1 M1 ft1 (L2.wipe σ vs) G' H' M' ft' ∧ Aside K H' M' ft' D acc ∧ (∀ i, i ∈ vs → i < G'.length → G'[i]? = some .no) ∧
          WP K XR E (ROv K σ) σ G H M ft (match comp2F vs vs1 tg tst it1 tg1 tst1 elt (p.1.drop (i + 1)) acc G' with | .ok acc G2 => .ok (.new (.lst acc)) (unlockAll G1 (unwipe (lockAll G1 p.2) G2 vs)) | _ => .bad) Q, fun H' h => ⟨p.1.length - (i + 1), by omega, rfl, hlt, h⟩, fun x H3 hy => ?_⟩
        obtain ⟨M3, S3, P3, D3⟩ := h2 x H3 hy
        have P03 := P'.trans P3
        refine ⟨M3, G', ft', d, S3, D3, ?_⟩
        unfold comp2F at w'
        cases eg : tg d G' with
        | none => rw [eg] at w'; exact w'.elim
        | some G4 =>
          rw [eg] at w'
          dsimp only at w'
          intro σ4 H4 M4 ft4 S4 P4 k4 l4
          have P04 := P03.trans P4
          have A4 := (A'.later P3).later P4
          have ks : ∀ i, i ∉ vs → σ4[i]? = (L2.wipe σ vs)[i]? := fun i hi => k4 i fun z => hi (htv i z)
          have ew : L2.wipe σ4 vs = L2.wipe σ vs := by
            rw [wipe_eq ks l4]
            exact wipe_eq (fun i hi => wipe_at σ vs i hi) (wipe_length σ vs)
          have ks' : ∀ i, i ∉ vs → (L2.wipe σ vs)[i]? = σ4[i]? := fun i hi => (ks i hi).symm
          refine ⟨ew, M4, G4, ft4, S4, ?_⟩
          cases et : tst G4 with
          | ex e => rw [et] at w'; exact w'.elim
          | bad => rw [et] at w'; exact w'.elim
          | ok b G5 =>
            rw [et] at w'
            intro b' H5 M5 ft5 S5 P5 eb
            cases eb
            have P05 := P04.trans P5
            have A5 := A4.later P5
            cases b with
            | false =>
              dsimp only at w'
              have S6 := S5.wipe (vs := vs) ks' (by rw [wipe_length]; rw [l4, wipe_length])
              have P6 := P05.wipe hpl' ks'
              exact ⟨wipeG G5 vs, M5, ftW ft5 vs, acc, S6, P6, ⟨A5.at_, A5.hid, fun i z => A5.out i (ftW_sub z)⟩, wiped_no, w'⟩
            | true =>
              dsimp only at w'
              rw [if_pos rfl]
              refine ⟨M5, G5, ft5, S5, ?_⟩
              cases e1 : it1 G5 with
              | ex e => rw [e1] at w'; exact w'.elim
              | bad => rw [e1] at w'; exact w'.elim
              | ok p1 G6 =>
                rw [e1] at w'
                dsimp only at w'
                intro J1 H6 M6 ft6 S6 P6 IO1
                have P06 := P05.trans P6
                have A6 := A5.later P6
                cases ec : compF vs1 tg1 tst1 elt p1.1 acc (wipeG G6 vs1) with
                | ex e => rw [ec] at w'; exact w'.elim
                | bad => rw [ec] at w'; exact w'.elim
                | ok acc' G7 =>
                  rw [ec] at w'
                  dsimp only at w'
                  refine comp_loop (σb := σ) (Gb := lockAll G1 p.2) (Hb := H1) (Mb := M1) (ftb := ft1) htv1 (plain_sub hpl' hvs) S6 P06 hD A6 IO1 ec fun H7 M7 ft7 S7 P7 A7 => ?_
                  have kw : ∀ i, i ∉ vs → (L2.wipe σ vs)[i]? = (L2.wipe σ4 vs1)[i]? := fun i hi => by rw [wipe_at σ4 vs1 i fun z => hi (hvs i z)]; exact ks' i hi
                  have S8 := S7.wipe (vs := vs) kw (by rw [wipe_length, wipe_length, l4, wipe_length])
                  have P8 := P7.wipe (vs := vs) (σ' := L2.wipe σ vs) hpl' kw
                  exact ⟨wipeG G7 vs, M7, ftW ft7 vs, acc', S8, P8, ⟨A7.at_, A7.hid, fun i z => A7.out i (ftW_sub z)⟩, wiped_no, w'⟩
    · exact w.elim
end
/-! ### as terms -/
theorem PTs.le {X : Cx} {ifs : List Expr} {t t' : TT} (h : PTs X ifs t) (w : ∀ σ H Q, t' σ H Q → t σ H Q) : PTs X ifs t' := ⟨fun pins s σ H Q I q => h.run pins s σ H Q I (w σ H Q q)⟩
section
variable {X : Cx} {XR : XRt} {E : XK}
theorem fts_nil : PTs X [] (tFT X.K XR E tYesF) := PTs.le pts_nil fun σ H Q ⟨M, G, ft, S, w⟩ => w true H M ft S .refl rfl
theorem fts_one {c : Expr} {t : Gm → Res Bool} (h : PT X c (tFT X.K XR E t)) : PTs X [c] (tFT X.K XR E t) := pts_one h
variable {elt tgt iter tgt1 iter1 : Expr} {ifs ifs1 : List Expr} {scope : Scope} {own : List (Str × Nat)} {pos spos : Pos} {it it1 : Gm → Res Itv} {tv tv1 vs1 : List Nat} {tg tg1 : PyData → Gm → Option Gm} {tst tst1 : Gm → Res Bool} {fe : Gm → Res Rv}
theorem fe_lc (hc : X.calm = true) (hN : X.N.Nodup) (hi : PI X tgt iter (tFI X.K XR E it)) (ok : BlkOk X.N X.env.scope scope own) (htv : ∀ i, i ∈ tv → i ∈ own.map (·.2))
    (hg : ∀ (s : Shared) (H : Hp) (C : Addr) (cl : List (Str × Addr)) (fp : List Addr), PG (X.blk s H scope (compEnvC scope cl C X.env) fp) tgt (tFG X.K tv tg)) (ht : ∀ (s : Shared) (H : Hp) (C : Addr) (cl : List (Str × Addr)) (fp : List Addr), PTs (X.blk s H scope (compEnvC scope cl C X.env) fp) ifs (tFT X.K XR E0 tst))
    (he : ∀ (s : Shared) (H : Hp) (C : Addr) (cl : List (Str × Addr)) (fp : List Addr), PE (X.blk s H scope (compEnvC scope cl C X.env) fp) elt (tFE X.K XR E0 fe)) (hs : ∀ x, foldedSetIterable iter X.env x = pure x := by intro _; rfl) :
    PE X (.ListComp elt [⟨tgt, iter, ifs, 0⟩] scope pos) (tFE X.K XR E (fComp it (own.map (·.2)) tg tst fe)) := PE.le (pe_lc hc hN hi ok hg ht he hs) (comp_le htv)
theorem fs_setLc {i : Nat} {y : Str} {py : Pos} (hc : X.calm = true) (hN : X.N.Nodup) (hy : X.N[i]? = some y) (hyl : X.env.scope.names.lookup y = some .local) (hsw : swapsWith (.ListComp elt [⟨tgt, iter, ifs, 0⟩] scope pos) (some (.Name y py)) spos.line X.env = pure true)
    (hi : PI X tgt iter (tFI X.K XR E it)) (ok : BlkOk X.N X.env.scope scope own) (htv : ∀ i, i ∈ tv → i ∈ own.map (·.2))
    (hg : ∀ (s : Shared) (H : Hp) (C : Addr) (cl : List (Str × Addr)) (fp : List Addr), PG (X.blk s H scope (compEnvC scope cl C X.env) fp) tgt (tFG X.K tv tg)) (ht : ∀ (s : Shared) (H : Hp) (C : Addr) (cl : List (Str × Addr)) (fp : List Addr), PTs (X.blk s H scope (compEnvC scope cl C X.env) fp) ifs (tFT X.K XR E0 tst))
    (he : ∀ (s : Shared) (H : Hp) (C : Addr) (cl : List (Str × Addr)) (fp : List Addr), PE (X.blk s H scope (compEnvC scope cl C X.env) fp) elt (tFE X.K XR E0 fe)) (hs : ∀ x, foldedSetIterable iter X.env x = pure x := by intro _; rfl) :
    PS X (.Assign [.Name y py] (.ListComp elt [⟨tgt, iter, ifs, 0⟩] scope pos) spos) (tFS X.K XR E (sSet i (fComp it (own.map (·.2)) tg tst fe))) :=
  PS.le (ps_setLc hc hN hy hyl hsw hi ok hg ht he hs) fun D σ H ⟨M, G, ft, S, w⟩ => comp_le htv σ H _ (bindES S .refl w fun r G1 v H1 M1 ft1 _ S1 P1 R1 w1 => stor_ok S1 P1 (fun a z => z) R1 w1)
theorem fe_lc2 (hc : X.calm = true) (hN : X.N.Nodup) (hi : PI X tgt iter (tFI X.K XR E it)) (ok : BlkOk X.N X.env.scope scope own) (htv : ∀ i, i ∈ tv → i ∈ own.map (·.2)) (htv1 : ∀ i, i ∈ tv1 → i ∈ vs1) (hv : ∀ i ∈ vs1, i ∈ own.map (·.2))
    (hg : ∀ (s : Shared) (H : Hp) (C : Addr) (cl : List (Str × Addr)) (fp : List Addr), PG (X.blk s H scope (compEnvC scope cl C X.env) fp) tgt (tFG X.K tv tg)) (ht : ∀ (s : Shared) (H : Hp) (C : Addr) (cl : List (Str × Addr)) (fp : List Addr), PTs (X.blk s H scope (compEnvC scope cl C X.env) fp) ifs (tFT X.K XR E0 tst))
    (hi1 : ∀ (s : Shared) (H : Hp) (C : Addr) (cl : List (Str × Addr)) (fp : List Addr), PI (X.blk s H scope (compEnvC scope cl C X.env) fp) tgt1 iter1 (tFU X.K XR E0 it1))
    (hg1 : ∀ (s : Shared) (H : Hp) (C : Addr) (cl : List (Str × Addr)) (fp : List Addr), PG (X.blk s H scope (compEnvC scope cl C X.env) fp) tgt1 (tFG X.K tv1 tg1)) (ht1 : ∀ (s : Shared) (H : Hp) (C : Addr) (cl : List (Str × Addr)) (fp : List Addr), PTs (X.blk s H scope (compEnvC scope cl C X.env) fp) ifs1 (tFT X.K XR E0 tst1))
    (he : ∀ (s : Shared) (H : Hp) (C : Addr) (cl : List (Str × Addr)) (fp : List Addr), PE (X.blk s H scope (compEnvC scope cl C X.env) fp) elt (tFE X.K XR E0 fe)) (hs : ∀ x, foldedSetIterable iter X.env x = pure x := by intro _; rfl) (hs1 : ∀ env x, foldedSetIterable iter1 env x = pure x := by intro _ _; rfl) :
    PE X (.ListComp elt [⟨tgt, iter, ifs, 0⟩, ⟨tgt1, iter1, ifs1, 0⟩] scope pos) (tFE X.K XR E (fComp2 it (own.map (·.2)) vs1 tg tst it1 tg1 tst1 fe)) := PE.le (pe_lc2 hc hN hi ok hv hg ht hi1 hg1 ht1 he hs hs1) (comp2_le htv htv1 hv)
theorem fs_setLc2 {i : Nat} {y : Str} {py : Pos} (hc : X.calm = true) (hN : X.N.Nodup) (hy : X.N[i]? = some y) (hyl : X.env.scope.names.lookup y = some .local) (hsw : swapsWith (.ListComp elt [⟨tgt, iter, ifs, 0⟩, ⟨tgt1, iter1, ifs1, 0⟩] scope pos) (some (.Name y py)) spos.line X.env = pure true)
    (hi : PI X tgt iter (tFI X.K XR E it)) (ok : BlkOk X.N X.env.scope scope own) (htv : ∀ i, i ∈ tv → i ∈ own.map (·.2)) (htv1 : ∀ i, i ∈ tv1 → i ∈ vs1) (hv : ∀ i ∈ vs1, i ∈ own.map (·.2))
    (hg : ∀ (s : Shared) (H : Hp) (C : Addr) (cl : List (Str × Addr)) (fp : List Addr), PG (X.blk s H scope (compEnvC scope cl C X.env) fp) tgt (tFG X.K tv tg)) (ht : ∀ (s : Shared) (H : Hp) (C : Addr) (cl : List (Str × Addr)) (fp : List Addr), PTs (X.blk s H scope (compEnvC scope cl C X.env) fp) ifs (tFT X.K XR E0 tst))
    (hi1 : ∀ (s : Shared) (H : Hp) (C : Addr) (cl : List (Str × Addr)) (fp : List Addr), PI (X.blk s H scope (compEnvC scope cl C X.env) fp) tgt1 iter1 (tFU X.K XR E0 it1))
    (hg1 : ∀ (s : Shared) (H : Hp) (C : Addr) (cl : List (Str × Addr)) (fp : List Addr), PG (X.blk s H scope (compEnvC scope cl C X.env) fp) tgt1 (tFG X.K tv1 tg1)) (ht1 : ∀ (s : Shared) (H : Hp) (C : Addr) (cl : List (Str × Addr)) (fp : List Addr), PTs (X.blk s H scope (compEnvC scope cl C X.env) fp) ifs1 (tFT X.K XR E0 tst1))
    (he : ∀ (s : Shared) (H : Hp) (C : Addr) (cl : List (Str × Addr)) (fp : List Addr), PE (X.blk s H scope (compEnvC scope cl C X.env) fp) elt (tFE X.K XR E0 fe)) (hs : ∀ x, foldedSetIterable iter X.env x = pure x := by intro _; rfl) (hs1 : ∀ env x, foldedSetIterable iter1 env x = pure x := by intro _ _; rfl) :
    PS X (.Assign [.Name y py] (.ListComp elt [⟨tgt, iter, ifs, 0⟩, ⟨tgt1, iter1, ifs1, 0⟩] scope pos) spos) (tFS X.K XR E (sSet i (fComp2 it (own.map (·.2)) vs1 tg tst it1 tg1 tst1 fe))) :=
  PS.le (ps_setLc2 hc hN hy hyl hsw hi ok hv hg ht hi1 hg1 ht1 he hs hs1) fun D σ H ⟨M, G, ft, S, w⟩ => comp2_le htv htv1 hv σ H _ (bindES S .refl w fun r G1 v H1 M1 ft1 _ S1 P1 R1 w1 => stor_ok S1 P1 (fun a z => z) R1 w1)
end
end Fx
/-! FxM: products, methods, stores by place, several targets -/
namespace Fx
open PySem PySem.Spec
open PyProof.Rows L2
theorem tuple_mul1 (ad0 : Addr) (xs0 : Array Value) (n0 : Nat) (dd0 : Option Addr) (sl0 : Array (Option Value)) (tok : Tok) :
    Meets (Builtin.«tuple.__mul__» ⟨[.ref ad0, .int 1 tok], []⟩) (fun _ Rs sh => sh.heap.get? ad0 = some { cls := .type "tuple", dict := dd0, data := .seq xs0 n0, slots := sl0 } ∧ Rs (.ok (.ret (Value.ref ad0))) sh) :=
  .of_wp fun pg wd ar Rs sh goal => by
    obtain ⟨hpX, gnX, drX, tkX, osX⟩ := sh
    obtain ⟨at0, goal⟩ := goal
    have f1 := AutoSeq1.idx_int
    have c1 : (xs0.isEmpty || (1 : Int) == 1) = true := by simp
    wp_walk using (wpAny_loadPart' at0)
    exact ⟨_, rfl, goal⟩
def rRep1 (K : PySem.W.Frag) : R2 := fun xv yv Hh Qp => ∃ ad0 xs, xv = .ref ad0 ∧ yv = .int 1 ∧ SqT K Hh ad0 xs ∧ Qp (.ref ad0) Hh
theorem op_rep1 {X : Cx} : OpR X (binaryOp .Mult) (rRep1 X.K) := by
  intro pp sh τ Hh xv yv vw tok Qp Iv rpx rpy goal
  obtain ⟨ad0, xs, rfl, rfl, sqT, qe⟩ := goal
  cases rpx
  obtain ⟨tq, rfl⟩ := rpy
  obtain ⟨ts, rl, ⟨⟨kl, dd0, dat, sl0⟩, atO, eC, n0, eD⟩, eS⟩ := Iv.tuple sqT
  simp only at eC eD
  subst eC eD
  exact wpAny_binaryOp_repeat_ref (T := "tuple") (U := "int") (by decide) ⟨_, atO, rfl⟩ (fun s' => typeIs_int s' 1 tq) noFill_tuple_mul F.fills_int_mul F.slot_int_rmul repeat_tuple F.slot_int_index.lookup
    (call_meets F.slot_int_rmul (typeIs_int sh 1 tq) F.entry_int_rmul (F.args_int_rmul_2 _ _) (int_rmul_tuple 1 tq ad0 ts.toArray n0 dd0 sl0)
      ⟨atO, rfl, ⟨_, atO, rfl⟩, call_meets F.slot_tuple_mul ⟨_, atO, rfl⟩ F.entry_tuple_mul (F.args_tuple_mul_2 _ _) (tuple_mul1 ad0 ts.toArray n0 dd0 sl0 tq) ⟨atO, ⟨.ref ad0, Hh, Iv, rfl, qe⟩⟩⟩)
def rMulA (K : PySem.W.Frag) : R2 := fun xv yv Hh Qp => rI CMul (fun i j => .int (i * j)) xv yv Hh Qp ∨ (rRep xv yv Hh Qp ∨ (rRepT K xv yv Hh Qp ∨ rRep1 K xv yv Hh Qp))
theorem op_mulA {X : Cx} : OpR X (binaryOp .Mult) (rMulA X.K) := op_mul.or (op_rep.or (op_repT.or op_rep1))
def mulOk (i j : Int) : Bool := (decide (-(2 ^ 64) < i) && decide (i < 2 ^ 64)) || (decide (-(2 ^ 64) < j) && decide (j < 2 ^ 64))
def rep (xs : List PyData) (k : Int) : List PyData := (List.replicate k.toNat xs).flatten
def kMul : Gm → Rv → Rv → Res Rv := fun G a b => match rd G a, rd G b with
  | some (.int i), some (.int j) => if mulOk i j then .ok (.d (.int (i * j))) G else .bad
  | some (.list xs), some (.int k) => if decide (xs.length ≤ 1000) && decide (0 ≤ k) && decide (k ≤ 1000) then .ok (.new (.lst (rep xs k))) G else .bad
  | some (.tuple xs), some (.int k) => if decide (xs.length ≤ 1000) && decide (1 ≤ k) && decide (k ≤ 1000) && decide (xs ≠ [] ) then .ok (.d (.tuple (rep xs k))) G else .bad
  | _, _ => .bad
instance (xs : List PyData) : Decidable (xs ≠ []) := match xs with
  | [] => isFalse fun h => h rfl
  | _ :: _ => isTrue fun h => nomatch h
section
variable {K : PySem.W.Frag} {XR : XRt} {E : XK}
theorem snd_mul : Snd2 K XR E (rMulA K) kMul := by
  intro σ H M Ha Hb H0 M0 G G0 ft ft0 a b x y Q S P Ra Rb w
  unfold kMul at w
  split at w
  · rename_i i j ea eb
    cases rd_int S ea Ra
    cases rd_int S eb Rb
    split at w
    · rename_i c
      unfold mulOk at c
      simp only [Bool.or_eq_true, Bool.and_eq_true, decide_eq_true_eq] at c
      exact .inl ⟨i, j, rfl, rfl, c, WP.done w S P (.int _)⟩
    · exact w.elim
  · rename_i xs k ea eb
    cases rd_int S eb Rb
    obtain ⟨p, us, rfl, e1, g1⟩ := rd_list S ea Ra
    split at w
    · rename_i c
      simp only [Bool.and_eq_true, decide_eq_true_eq] at c
      refine .inr (.inl ⟨p, k, us, rfl, rfl, e1, by omega, by omega, ?_, fun l hl => w.lst S P (g1.rep k.toNat) hl⟩)
      rw [g1.length, sizeLine_eq]
      have : xs.length * k.toNat ≤ 1000 * 1000 := Nat.mul_le_mul c.1.1 (by omega)
      omega
    · exact w.elim
  · rename_i xs k ea eb
    cases rd_int S eb Rb
    obtain ⟨p, us, rfl, e1, g1⟩ := rd_tup S ea Ra
    split at w
    · rename_i c
      simp only [Bool.and_eq_true, decide_eq_true_eq] at c
      by_cases hk : k = 1
      · subst hk
        refine .inr (.inr (.inr ⟨p, us, rfl, rfl, S.sub.sqT e1, ?_⟩))
        have er : rep xs 1 = xs := by show (List.replicate 1 xs).flatten = xs; simp
        rw [er] at w
        exact WP.done w S P (.tup e1 g1)
      · exact .inr (.inr (.inl ⟨p, k, us, rfl, rfl, S.sub.sqT e1, fun z => c.2 (g1.nil_iff.mp z), by omega, by omega, by rw [g1.length]; exact c.1.1.1, fun l hl => w.tup S P (g1.rep k.toNat) hl⟩))
    · exact w.elim
  · exact w.elim
end
/-! ### methods of an owned list -/
def SndM (K : PySem.W.Frag) (XR : XRt) (E : XK) (r : V → List V → Hp → VK → Prop) (k : Gm → Nat → List Rv → Res Rv) : Prop :=
  ∀ (σ : L2.St) (H M H0 M0 : Hp) (G G0 : Gm) (ft ft0 : Nat → List Addr) (i : Nat) (rs : List Rv) (v : V) (vs : List V) (Q : VK), SI K σ H M G ft → Stp σ G0 H0 M0 ft0 σ G H M ft → σ[i]? = some (some v) → RvsOk K σ H M ft H0 rs vs → WP K XR E (ROv K σ) σ G0 H0 M0 ft0 (k G i rs) Q → r v vs H Q
def isLst (G : Gm) (i : Nat) : Bool := match ownAt G i with
  | some (.lst _) => true
  | _ => false
def fMeth (k : Gm → Nat → List Rv → Res Rv) (fo : Gm → Res Rv) (fs : Gm → Res (List Rv)) : Gm → Res Rv := fun G => (fo G).bind fun r G1 => match r with
  | .own i => if isLst G1 i then (fs G1).bind fun rs G2 => k G2 i rs else .bad
  | _ => .bad
section
variable {X : Cx} {XR : XRt} {E : XK} {o e : Expr} {es : List Expr} {fo : Gm → Res Rv} {fs : Gm → Res (List Rv)} {name : Str} {apos cpos : Pos} {id : String} {r : V → List V → Hp → VK → Prop} {k : Gm → Nat → List Rv → Res Rv}
theorem lst_ty {K : PySem.W.Frag} {σ : L2.St} {G : Gm} {H M : Hp} {ft : Nat → List Addr} {i : Nat} {v : V} (S : SI K σ H M G ft) (h : isLst G i = true) (hv : σ[i]? = some (some v)) : tyV K "list" v H := by
  unfold isLst at h
  split at h
  · rename_i ds e
    obtain ⟨p, rfl, ⟨_, xs, h1, _⟩, _⟩ := own_ok S e hv
    exact .inl ⟨rfl, xs, SqL.of h1⟩
  · cases h
theorem fe_meth (slot : Slot "list" name id) (hty : typeOf (.builtin id) = pure (.type "method_descriptor")) (hm : MtR X id r) (hk : SndM X.K XR E r k) (ho : PE X o (tFE X.K XR E fo)) (ha : PA X (e :: es) (tFA X.K XR E fs))
    (hbase : attributeBase o name X.env (eval o X.env) = eval o X.env := by rfl) (hfew : ((backTo cpos (starEach (e :: es) X.env)).all (fun x => !x.1) &&
      (backToKw cpos (keywordEach [] X.env)).all (fun x => x.1.isSome) && decide ((e :: es).length +
      ([] : List Keyword).length + (if ([] : List Keyword).isEmpty then 0 else 1) < 30)) = true := by rfl)
    (hline : (apos.endLine == cpos.line) = true := by rfl)
    (hs : starEach (e :: es) X.env = (false, eval e X.env) :: starEach es X.env := by rfl) (hplain : (backTo cpos (starEach es X.env)).any (·.1) = false := by rfl) :
    PE X (.Call (.Attribute o name apos) (e :: es) [] cpos) (tFE X.K XR E (fMeth k fo fs)) := PE.le (pe_bm PySem.F.plainAttrs_list slot hty hm ho ha hbase hfew hline hs hplain) fun σ H Q ⟨M, G, ft, S, w⟩ =>
  bindEE S .refl w fun r G1 v H1 M1 ft1 _ S1 P1 R1 w1 => by
    cases r with
    | d x => exact w1.elim
    | new o => exact w1.elim
    | own i =>
      dsimp only at w1
      split at w1
      · rename_i c
        exact ⟨lst_ty S1 c R1, bindAE S1 P1 w1 fun rs G2 vs H2 M2 ft2 _ S2 P2 R2 w2 => hk σ H2 M2 H M G2 G ft2 ft i rs v vs Q S2 (P1.trans P2) R1 (R2.base fun a z => P1.nn z) w2⟩
      · exact w1.elim
theorem fe_meth0 (slot : Slot "list" name id) (hty : typeOf (.builtin id) = pure (.type "method_descriptor")) (hm : MtR X id r) (hk : SndM X.K XR E r k) (ho : PE X o (tFE X.K XR E fo))
    (hbase : attributeBase o name X.env (eval o X.env) = eval o X.env := by rfl) (hline : (apos.endLine == cpos.line) = true := by rfl) : PE X (.Call (.Attribute o name apos) [] [] cpos) (tFE X.K XR E (fMeth k fo fNil)) := PE.le (pe_bm0 PySem.F.plainAttrs_list slot hty hm ho hbase hline) fun σ H Q ⟨M, G, ft, S, w⟩ =>
  bindEE S .refl w fun r G1 v H1 M1 ft1 _ S1 P1 R1 w1 => by
    cases r with
    | d x => exact w1.elim
    | new o => exact w1.elim
    | own i =>
      dsimp only at w1
      split at w1
      · rename_i c
        exact ⟨lst_ty S1 c R1, hk σ H1 M1 H M G1 G ft1 ft i [] v [] Q S1 P1 R1 .nil w1⟩
      · exact w1.elim
end
def kAppend (G : Gm) (i : Nat) : List Rv → Res Rv
  | [r] => match retain G r with
    | some (d, G1) => match mutAt G1 i with
      | some (.lst ds) => if lim (ds.length + 1) then .ok (.d .none) (setOwn G1 i (.lst (ds ++ [d]))) else .bad
      | _ => .bad
    | none => .bad
  | _ => .bad
def kPopAt (G : Gm) (i : Nat) : List Rv → Res Rv
  | [r] => match rd G r, mutAt G i with
    | some (.int n), some (.lst ds) => match ixN ds.length n with
      | some j => match ds[j]? with
        | some d => if decide (-100000 ≤ n) && decide (n ≤ 100000) then .ok (.d d) (setOwn G i (.lst (ds.eraseIdx j))) else .bad
        | none => .bad
      | none => .bad
    | _, _ => .bad
  | _ => .bad
def kPop (G : Gm) (i : Nat) : List Rv → Res Rv
  | [] => match mutAt G i with
    | some (.lst ds) => match ds[ds.length - 1]? with
      | some d => .ok (.d d) (setOwn G i (.lst ds.dropLast))
      | none => .bad
    | _ => .bad
  | _ => .bad
section
variable {K : PySem.W.Frag} {XR : XRt} {E : XK}
theorem DdA.dropLast {M : Hp} {vs : List V} {ds : List PyData} (h : DdA K M vs ds) : DdA K M vs.dropLast ds.dropLast := by
  rw [List.dropLast_eq_take, List.dropLast_eq_take, h.length]
  exact h.take _
theorem mut_list {σ : L2.St} {G : Gm} {H M : Hp} {ft : Nat → List Addr} {i : Nat} {v : V} {ds : List PyData} (S : SI K σ H M G ft) (h : mutAt G i = some (.lst ds)) (hv : σ[i]? = some (some v)) : ∃ p xs, v = .ref p ∧ H p = some (.lst xs) ∧ DdA K M xs ds := by
  obtain ⟨p, rfl, ⟨_, xs, h1, h2⟩, _⟩ := own_ok S (mut_own h).1 hv
  exact ⟨p, xs, rfl, h1, h2⟩
theorem snd_append : SndM K XR E rAppend kAppend := by
  intro σ H M H0 M0 G G0 ft ft0 i rs v vs Q S P hv R w
  unfold kAppend at w
  split at w
  · rename_i r
    split at w
    · rename_i d G1 er
      split at w
      · rename_i ds em
        split at w
        · rename_i c
          cases R with
          | @cons _ _ u _ us H1 F h0 RF hn t =>
          cases t
          obtain ⟨M1, ft1, S1, P1, s1, D1, _, _⟩ := retain_ok S P (fun a z => z) er RF
          obtain ⟨p, xs, rfl, h1, h2⟩ := mut_list S1 em hv
          obtain ⟨S2, P2⟩ := S1.putL (ds' := ds ++ [d]) em hv (h2.append (.one D1))
          exact ⟨p, xs, u, rfl, rfl, h1, by rw [h2.length]; exact lim_succ c, WP.done w S2 (P1.trans P2) .non⟩
        · exact w.elim
      · exact w.elim
    · exact w.elim
  · exact w.elim
theorem snd_popAt : SndM K XR E rPopAt kPopAt := by
  intro σ H M H0 M0 G G0 ft ft0 i rs v vs Q S P hv R w
  unfold kPopAt at w
  split at w
  · rename_i r
    split at w
    · rename_i n ds er em
      split at w
      · rename_i j ej
        split at w
        · rename_i d ed
          split at w
          · rename_i c
            simp only [Bool.and_eq_true, decide_eq_true_eq] at c
            obtain ⟨u, rfl, R1⟩ := R.one
            cases rd_int S er R1
            obtain ⟨p, xs, rfl, h1, h2⟩ := mut_list S em hv
            obtain ⟨S2, P2⟩ := S.putL (ds' := ds.eraseIdx j) em hv (h2.erase j)
            obtain ⟨y, hy, hd⟩ := h2.get ed
            obtain ⟨q1, q2, q3, q4⟩ := ixN_seq ej
            exact ⟨p, xs, n, j, y, rfl, rfl, h1, by omega, by omega, by rw [h2.length]; exact q1, hy, WP.done w S2 (P.trans P2) hd⟩
          · exact w.elim
        · exact w.elim
      · exact w.elim
    · exact w.elim
  · exact w.elim
theorem snd_pop : SndM K XR E rPop kPop := by
  intro σ H M H0 M0 G G0 ft ft0 i rs v vs Q S P hv R w
  unfold kPop at w
  split at w
  · split at w
    · rename_i ds em
      split at w
      · rename_i d ed
        cases R
        obtain ⟨p, xs, rfl, h1, h2⟩ := mut_list S em hv
        obtain ⟨S2, P2⟩ := S.putL (ds' := ds.dropLast) em hv h2.dropLast
        obtain ⟨y, hy, hd⟩ := h2.get ed
        exact ⟨p, xs, y, rfl, rfl, h1, by rw [h2.length]; exact hy, WP.done w S2 (P.trans P2) hd⟩
      · exact w.elim
    · exact w.elim
  · exact w.elim
end
/-! ### xs[i] = e -/
def kSetItem (G : Gm) (j : Nat) (ri r : Rv) : Res Out := match retain G r with
  | some (d, G1) => match rd G1 ri, mutAt G1 j with
    | some (.int k), some (.lst ds) => match ixN ds.length k with
      | some m => .ok .nx (setOwn G1 j (.lst (ds.set m d)))
      | none => .bad
    | _, _ => .bad
  | none => .bad
def sSetItem (fe fo fi : Gm → Res Rv) : Gm → Res Out := fun G => (fe G).bind fun r G1 => (fo G1).bind fun ro G2 => (fi G2).bind fun ri G3 => match ro with
  | .own j => kSetItem G3 j ri r
  | _ => .bad
/-! ### targets of any kind -/
def kAsg (tg : PyData → Gm → Option Gm) (G : Gm) (r : Rv) : Res Out := match retain G r with
  | some (d, G1) => match tg d G1 with
    | some G2 => .ok .nx G2
    | none => .bad
  | none => .bad
def sAsg (tg : PyData → Gm → Option Gm) (f : Gm → Res Rv) : Gm → Res Out := fun G => (f G).bind fun r G1 => kAsg tg G1 r
def plainR : Rv → Bool
  | .own _ => false
  | _ => true
def sPar (i j : Nat) (fs : Gm → Res (List Rv)) : Gm → Res Out := fun G => (fs G).bind fun rs G1 => match rs with
  | [a, b] => if plainR a && plainR b then match setSl G1 i a with
    | some G2 => match setSl G2 j b with
      | some G3 => .ok .nx G3
      | none => .bad
    | none => .bad
    else .bad
  | _ => .bad
def sPar3 (i j k : Nat) (fs : Gm → Res (List Rv)) : Gm → Res Out := fun G => (fs G).bind fun rs G1 => match rs with
  | [a, b, c] => if plainR a && plainR b && plainR c then match setSl G1 i a with
    | some G2 => match setSl G2 j b with
      | some G3 => match setSl G3 k c with
        | some G4 => .ok .nx G4
        | none => .bad
      | none => .bad
    | none => .bad
    else .bad
  | _ => .bad
section
variable {X : Cx} {XR : XRt} {E : XK} {o i e : Expr} {fe fo fi : Gm → Res Rv} {fs : Gm → Res (List Rv)} {pos : Pos}
theorem snd_setItem {K : PySem.W.Frag} {σ : L2.St} {H M H0 M0 : Hp} {G G0 : Gm} {ft ft0 : Nat → List Addr} {j : Nat} {r ri : Rv} {v vi vo : V} {Hi : Hp} {D : Ends} (S : SI K σ H M G ft) (P : Stp σ G0 H0 M0 ft0 σ G H M ft) (hv : σ[j]? = some (some vo)) (R : RvOk K σ H0 H M ft r v) (Ri : RvOk K σ Hi H M ft ri vi)
    (w : WS K XR E σ G0 H0 M0 ft0 (kSetItem G j ri r) D) : rSetL vo vi v H fun H' => D.nx σ H' := by
  unfold kSetItem at w
  split at w
  · rename_i d G1 er
    split at w
    · rename_i k ds ek em
      split at w
      · rename_i m ex
        obtain ⟨F, RF⟩ := R.f
        obtain ⟨M1, ft1, S1, P1, s1, D1, hf1, _⟩ := retain_ok S P (fun a z => z) er RF
        have Ri' : vi = .int k := by
          cases ri with
          | d x => cases ek; cases Ri; rfl
          | own n =>
            have h' : (ownAt G1 n).bind aoD = some (.int k) := ek
            cases e : ownAt G1 n with
            | none => (rw [e] at h'; exact nomatch h')
            | some q => rw [e] at h'; cases q <;> cases h'
          | new q => cases q <;> cases ek
        subst Ri'
        obtain ⟨p, xs, rfl, h1, h2⟩ := mut_list S1 em hv
        obtain ⟨S2, P2⟩ := S1.putL (ds' := ds.set m d) em hv (h2.set D1 m)
        exact ⟨p, xs, k, m, rfl, rfl, h1, by rw [h2.length]; exact ex, w.next S2 (P1.trans P2)⟩
      · exact w.elim
    · exact w.elim
  · exact w.elim
theorem fs_setItem {ps : Pos} (he : PE X e (tFE X.K XR E fe)) (ho : PE X o (tFE X.K XR E fo)) (hi : PE X i (tFE X.K XR E fi))
    (ha : ∀ v, assign (.Subscript o i ps) X.env v = (do
      let own ← holding [v] (eval o X.env)
      let at_ ← holding [v, own] (eval i X.env)
      standAt ps
      holding [v, own, at_] (setItem own at_ v)
      release [v, own, at_] []) := by intro _; rfl)
    (hs : swapsWithSole [.Subscript o i ps] e pos.line X.env = pure false := by rfl) (hw : swappedStores [.Subscript o i ps] e X.env = pure none := by rfl)
    (h1 : (assignEach [.Subscript o i ps] X.env).map (·.2) = [assign (.Subscript o i ps) X.env] := by rfl) : PS X (.Assign [.Subscript o i ps] e pos) (tFS X.K XR E (sSetItem fe fo fi)) :=
  PS.le (ps_asg he (pg_sub ho hi set_list ha) hs hw h1) fun D σ H ⟨M, G, ft, S, w⟩ => bindES S .refl w fun r G1 v H1 M1 ft1 _ S1 P1 R1 w1 =>
    bindES S1 P1 w1 fun ro G2 vo H2 M2 ft2 _ S2 P2 R2 w2 => bindES S2 (P1.trans P2) w2 fun ri G3 vi H3 M3 ft3 _ S3 P3 R3 w3 => by
      cases ro with
      | d x => exact w3.elim
      | new q => exact w3.elim
      | own j => exact snd_setItem S3 ((P1.trans P2).trans P3) R2 ((R1.later P2).later P3) R3 w3
theorem fs_asg {tgt : Expr} {tv : List Nat} {tg : PyData → Gm → Option Gm} (he : PE X e (tFE X.K XR E fe)) (hg : PG X tgt (tFG X.K tv tg)) (hs : swapsWithSole [tgt] e pos.line X.env = pure false := by rfl) (hw : swappedStores [tgt] e X.env = pure none := by rfl)
    (h1 : (assignEach [tgt] X.env).map (·.2) = [assign tgt X.env] := by rfl) : PS X (.Assign [tgt] e pos) (tFS X.K XR E (sAsg tg fe)) := PS.le (ps_asg he hg hs hw h1) fun D σ H ⟨M, G, ft, S, w⟩ =>
  bindES S .refl w fun r G1 v H1 M1 ft1 _ S1 P1 R1 w1 => by
    unfold kAsg at w1
    split at w1
    · rename_i d G2 er
      split at w1
      · rename_i G3 eg
        obtain ⟨F, RF⟩ := R1.f
        obtain ⟨M2, ft2, S2, P2, s2, D2, _, _⟩ := retain_ok S1 P1 (fun a z => z) er RF
        refine ⟨M2, G2, ft2, d, S2, D2, ?_⟩
        rw [eg]
        exact fun σ' H' M' ft' S' P' _ _ => w1.next S' (P2.trans P')
      · exact w1.elim
    · exact w1.elim
theorem set2 {K : PySem.W.Frag} {σ σ0 : L2.St} {H M H0 M0 : Hp} {G G0 G1 : Gm} {ft ft0 : Nat → List Addr} {i : Nat} {a b : Rv} {x y : V} {Ha : Hp} {Fb : List Addr} (S : SI K σ H M G ft) (P : Stp σ0 G0 H0 M0 ft0 σ G H M ft) (pa : plainR a = true) (pb : plainR b = true) (h : setSl G i a = some G1) {Fa : List Addr}
    (RFa : RvF K σ Ha H M ft Fa a x) (ha0 : ∀ c, Ha c = none → H0 c = none) {Hb : Hp} (RFb : RvF K σ Hb H M ft Fb b y) (hab : ∀ c ∈ Fa, Hb c ≠ none) : ∃ ft', SI K (σ.set i (some x)) H M G1 ft' ∧ Stp σ0 G0 H0 M0 ft0 (σ.set i (some x)) G1 H M ft' ∧ RvF K (σ.set i (some x)) Hb H M ft' Fb b y ∧
      (∀ j c, c ∈ ft' j → (∃ k, c ∈ ft k) ∨ c ∈ Fa) := by
  obtain ⟨ft', S', P', k⟩ := setSl_ok S P ha0 h RFa.ok
  have kk : ∀ j c, c ∈ ft' j → (∃ k, c ∈ ft k) ∨ c ∈ Fa := fun j c hc => by
    rcases k j c hc with z | ⟨o, p, F, e1, e2, g, hF⟩
    · exact .inl z
    · subst e1 e2
      obtain ⟨p', e3, g', _⟩ := RFa
      cases e3
      refine .inr ?_
      cases o with
      | lst ds => rw [g'.1]; rw [g.1] at hF; exact hF
      | dct kvs => rw [g'.1]; rw [g.1] at hF; exact hF
      | mat rows =>
        obtain ⟨ps, f1, _, f3, _⟩ := g
        obtain ⟨ps', f1', _, f3', _⟩ := g'
        rw [f3] at f3'
        have e5 : ps.map V.ref = ps'.map V.ref := HO.lst.inj (Option.some.inj f3')
        have e6 : ps = ps' := (List.map_inj_right (fun _ _ h => by cases h; rfl)).mp e5
        rw [f1', ← e6, ← f1]; exact hF
  refine ⟨ft', S', P', ?_, kk⟩
  cases b with
  | d z => exact RFb
  | own n => cases pb
  | new o =>
    obtain ⟨p, e, g, q⟩ := RFb
    refine ⟨p, e, g, fun c hc => ⟨(q c hc).1, (q c hc).2.1, fun j z => ?_⟩⟩
    rcases kk j c z with ⟨n, w⟩ | w
    · exact (q c hc).2.2 n w
    · exact hab c w (q c hc).2.1
theorem fs_par {n m : Nat} {x y : Str} {a b : Expr} {px py pt : Pos} {kt k2 pt2} (hc : X.calm = true) (hN : X.N.Nodup) (hi : X.N[n]? = some x) (hj : X.N[m]? = some y) (hij : n ≠ m) (hx : X.env.scope.names.lookup x = some .local) (hy : X.env.scope.names.lookup y = some .local) (ha : PA X [a, b] (tFA X.K XR E fs))
    (hw : swappedStores [.Tuple [.Name x px, .Name y py] kt pt] (.Tuple [a, b] k2 pt2) X.env = pure (some [x, y])) (hs : swapsWithSole [.Tuple [.Name x px, .Name y py] kt pt] (.Tuple [a, b] k2 pt2) pos.line X.env = pure false := by rfl) :
    PS X (.Assign [.Tuple [.Name x px, .Name y py] kt pt] (.Tuple [a, b] k2 pt2) pos) (tFS X.K XR E (sPar n m fs)) := PS.le (ps_par hc hN hi hj hij hx hy ha hw hs) fun D σ H ⟨M, G, ft, S, w⟩ =>
  bindAS S .refl w fun rs G1 vs H1 M1 ft1 hq S1 P1 R1 w1 => by
    split at w1
    · rename_i ra rb
      split at w1
      · rename_i c
        simp only [Bool.and_eq_true] at c
        split at w1
        · rename_i G2 e2
          split at w1
          · rename_i G3 e3
            cases R1 with
            | @cons _ _ u _ us Ha Fa h0 RFa hna t =>
            cases t with
            | @cons _ _ u2 _ us2 Hb Fb h1 RFb hnb t2 =>
            cases t2
            refine ⟨u, u2, rfl, ?_⟩
            obtain ⟨ft2, S2, P2, RFb', _⟩ := set2 S1 P1 c.1 c.2 e2 RFa (fun a z => z) RFb hna
            obtain ⟨ft3, S3, P3, _⟩ := setSl_ok S2 P2 h0 e3 RFb'.ok
            exact w1.next S3 P3
          · exact w1.elim
        · exact w1.elim
      · exact w1.elim
    · exact w1.elim
theorem fs_par3 {n m l : Nat} {x y z : Str} {a b c : Expr} {px py pz pt : Pos} {kt k2 pt2} (hc : X.calm = true) (hN : X.N.Nodup) (hi : X.N[n]? = some x) (hj : X.N[m]? = some y) (hl : X.N[l]? = some z) (hij : n ≠ m) (hil : n ≠ l) (hjl : m ≠ l)
    (hx : X.env.scope.names.lookup x = some .local) (hy : X.env.scope.names.lookup y = some .local) (hz : X.env.scope.names.lookup z = some .local) (ha : PA X [a, b, c] (tFA X.K XR E fs))
    (hw : swappedStores [.Tuple [.Name x px, .Name y py, .Name z pz] kt pt] (.Tuple [a, b, c] k2 pt2) X.env = pure (some [x, y, z])) (hs : swapsWithSole [.Tuple [.Name x px, .Name y py, .Name z pz] kt pt] (.Tuple [a, b, c] k2 pt2) pos.line X.env = pure false := by rfl) :
    PS X (.Assign [.Tuple [.Name x px, .Name y py, .Name z pz] kt pt] (.Tuple [a, b, c] k2 pt2) pos) (tFS X.K XR E (sPar3 n m l fs)) := PS.le (ps_par3 hc hN hi hj hl hij hil hjl hx hy hz ha hw hs) fun D σ H ⟨M, G, ft, S, w⟩ =>
  bindAS S .refl w fun rs G1 vs H1 M1 ft1 hq S1 P1 R1 w1 => by
    split at w1
    · rename_i ra rb rc
      split at w1
      · rename_i c
        simp only [Bool.and_eq_true] at c
        split at w1
        · rename_i G2 e2
          split at w1
          · rename_i G3 e3
            split at w1
            · rename_i G4 e4
              cases R1 with
              | @cons _ _ u _ us Ha Fa h0 RFa hna t =>
              cases t with
              | @cons _ _ u2 _ us2 Hb Fb h1 RFb hnb t2 =>
              cases t2 with
              | @cons _ _ u3 _ us3 Hc Fc h2 RFc hnc t3 =>
              cases t3
              refine ⟨u, u2, u3, rfl, ?_⟩
              obtain ⟨ft2, S2, P2, RFb', k2⟩ := set2 S1 P1 c.1.1 c.1.2 e2 RFa (fun a z => z) RFb hna
              obtain ⟨_, _, _, RFc', _⟩ := set2 S1 P1 c.1.1 c.2 e2 RFa (fun a z => z) RFc (fun q hq z => hna q hq (h1 q z))
              have RFc2 : RvF X.K (σ.set n (some u)) Hb H1 M1 ft2 Fc rc u3 := by
                cases rc with
                | d w => exact RFc
                | own w => cases c.2
                | new o =>
                  obtain ⟨p, e, g, q⟩ := RFc
                  refine ⟨p, e, g, fun d hd => ⟨(q d hd).1, (q d hd).2.1, fun j z => ?_⟩⟩
                  rcases k2 j d z with ⟨n, w⟩ | w
                  · exact (q d hd).2.2 n w
                  · exact hna d w (h1 d (q d hd).2.1)
              obtain ⟨ft3, S3, P3, RFc3, _⟩ := set2 S2 P2 c.1.2 c.2 e3 RFb' h0 RFc2 hnb
              obtain ⟨ft4, S4, P4, _⟩ := setSl_ok S3 P3 (fun a z => h0 a (h1 a z)) e4 RFc3.ok
              exact w1.next S4 P4
            · exact w1.elim
          · exact w1.elim
        · exact w1.elim
      · exact w1.elim
    · exact w1.elim
end
end Fx
/-! FxN: enumerate of lists and tuples, zip -/
namespace Fx
open PySem PySem.Spec
open PyProof.Rows L2
theorem meets_enum_newT (at0 : Addr) (xs0 : Array Value) (n0 : Nat) (d0 : Option Addr) (s0 : Array (Option Value)) :
    Meets (Builtin.«enumerate.__new__» ⟨[.type "enumerate", .ref at0], []⟩) (fun _ R sh => sh.heap.get? at0 = some { cls := .type "tuple", dict := d0, data := .seq xs0 n0, slots := s0 } ∧
      R (.ok (.ret (.ref (sh.heap.push { cls := .type "tuple_iterator", data := .fields #[.ref at0, .int 0 0] }).objs.size)))
        { sh with heap := (sh.heap.push { cls := .type "tuple_iterator", data := .fields #[.ref at0, .int 0 0] }).push { cls := .type "enumerate", data := .fields #[.none, .bool false, .ref sh.heap.objs.size, rawInt 0, .none, .none] } }) :=
  .of_wp fun pg wd ar R sh h => by
    obtain ⟨hp, g, d, tk, os⟩ := sh; obtain ⟨hl, h⟩ := h
    have hsub := sub_enumerate
    have hL : Heap.IsTuple (Shared.heap ⟨hp, g, d, tk, os⟩) at0 xs0 := ⟨_, hl, rfl, n0, rfl⟩
    wp_walk using AutoSeq1.wpAny_loadPart' hl
    refine wpAny_stack_any fun S0 => wpAny_pure ?_
    split
    · rename_i c _ _ _ _ _
      rcases (c == Value.type "enumerate") with _ | _
      · wp_walk using AutoSeq1.wpAny_loadPart' hl, wpAny_pyIter_tuple hL
        exact ⟨_, rfl, h⟩
      · wp_walk using AutoSeq1.wpAny_loadPart' hl, wpAny_pyIter_tuple hL
        exact ⟨_, rfl, h⟩
    · wp_walk using AutoSeq1.wpAny_loadPart' hl, wpAny_pyIter_tuple hL
      exact ⟨_, rfl, h⟩
section
variable {pg : Program} {wd : World} {ar : Around} {ek : Value → Shared → Prop} {sh : Shared}
theorem call_enum_tuple {at0 : Addr} {xs0 : Array Value} {Q : Value → Shared → Prop} (hL : sh.heap.IsTuple at0 xs0)
    (h : ∀ h', IsEnum h' (sh.heap.objs.size + 1) sh.heap.objs.size 0 .none → h'.IsTupleIter sh.heap.objs.size at0 0 → h'.objs.size = sh.heap.objs.size + 2 →
      (∀ ad ob, sh.heap.get? ad = some ob → h'.get? ad = some ob) → Q (.ref (sh.heap.objs.size + 1)) { sh with heap := h' }) :
    wpAny (model pg wd) ar (call (.type "enumerate") [.ref at0]) Q ek sh := by
  obtain ⟨⟨c, d0, dt, s0⟩, hl, ec, n0, ed⟩ := hL
  replace ec : c = .type "tuple" := ec
  replace ed : dt = .seq xs0 n0 := ed
  subst ec ed
  refine callType_new F.called_enumerate (by decide) (F.typeCall_enumerate_1 _) (F.newCall_enumerate_1 _)
    (fun _ => F.args_object_init_2 _ _) F.entry_enumerate_new (meets_enum_newT at0 xs0 n0 d0 s0) ⟨hl, ?_⟩
  have hl2 : (sh.heap.push { cls := .type "tuple_iterator", data := .fields #[.ref at0, .int 0 0] }).objs.size = sh.heap.objs.size + 1 := Heap.size_push ..
  show _ ∧ _
  rw [hl2]
  have hE : IsEnum ((sh.heap.push { cls := .type "tuple_iterator", data := .fields #[.ref at0, .int 0 0] }).push
      { cls := .type "enumerate", data := .fields #[.none, .bool false, .ref sh.heap.objs.size, rawInt 0, .none, .none] }) (sh.heap.objs.size + 1) sh.heap.objs.size 0 .none := by
    have := Heap.get?_push_size (sh.heap.push { cls := .type "tuple_iterator", data := .fields #[.ref at0, .int 0 0] })
      (o := { cls := .type "enumerate", data := .fields #[.none, .bool false, .ref sh.heap.objs.size, rawInt 0, .none, .none] }) rfl
    rw [hl2] at this; exact this
  refine ⟨⟨_, hE, rfl⟩, h _ hE ⟨_, Heap.get?_push_of_some _ (Heap.get?_push_size _ rfl), rfl, rfl⟩ (by rw [Heap.size_push, hl2]) fun ad ob y0 => Heap.get?_push_of_some _ (Heap.get?_push_of_some _ y0)⟩
end
/-- the tuple at a, each item in a mk pair -/
def IteT (K : PySem.W.Frag) (a : Addr) : It :=
  ⟨fun i Hh => ∃ (us0 : List V) (y0 : V), SqT K Hh a us0 ∧ us0[i]? = some y0, fun i Hh v H' => ∃ T y0, v = .ref T ∧ Hh T = none ∧ H' = upd Hh T (.tup [.int (i : Nat), y0]) ∧ ∀ us0, SqT K Hh a us0 → us0[i]? = some y0, fun i Hh => ∃ us0 : List V, SqT K Hh a us0 ∧ us0.length ≤ i⟩
theorem turn_enumT {P : Program} {wd : World} {K : PySem.W.Frag} {elts : List Expr} {kk : Nat} {tpos : Pos} (a e it : Addr) :
    Turn P wd K (.Tuple elts kk tpos) (IteT K a) [e, it] e (fun i h => (∃ ol, IsEnum h e it ((i : Nat) : Int) ol) ∧ h.IsTupleIter it a i ∧ e ≠ it ∧ a ≠ it ∧ e ≠ a) where
  mem := by simp
  obj := fun i h S0 ad mb => by
    obtain ⟨⟨ol, hE⟩, ⟨ob, eo, ec, ed⟩, _⟩ := S0
    have eqb : ad = e ∨ ad = it := by simpa using mb
    rcases eqb with zz | zz
    · rw [zz]; exact ⟨_, hE, fun v q => nomatch q⟩
    · rw [zz]; exact ⟨ob, eo, fun v q => by rw [ed] at q; cases q⟩
  keep := fun i h h' S0 k => let ⟨⟨ol, hE⟩, hi, n1⟩ := S0; ⟨⟨ol, k e (by simp) _ hE⟩, hi.at fun ob q => k it (by simp) ob q, n1⟩
  item := by
    intro X eP eW eK ec i pp sh τ Hh ek J fr S0 gq
    subst eP eW eK
    obtain ⟨⟨ol, hE⟩, hI, n1, n2, n3⟩ := S0
    obtain ⟨us0, y0, gq2, gx⟩ := gq
    obtain ⟨ts, rl, pT, hl2⟩ := J.tuple gq2
    obtain ⟨u0, gu, su⟩ := rl.get gx
    have el : e < sh.heap.objs.size := Heap.lt_size hE
    have il : it < sh.heap.objs.size := by obtain ⟨_, q, _⟩ := hI; exact Heap.lt_size q
    have jlt : i < ts.toArray.size := by
      have := (List.getElem?_eq_some_iff.mp gu).1
      simpa using this
    refine wpAny_pyNext_enum_itemD (Draws.tuple (prog := X.prog) (w := X.w) (A := X.A.in1) (J.ok.hd ec) it a n2 ts.toArray) hE ⟨hI, pT⟩ jlt n1 (by simp [n1, n3]) fun x' h' tk hx' eo st' tT hZ kp => ?_
    have ex : x' = u0 := by
      have q1 : ts.toArray[i]? = some x' := hx'
      have q2 : ts.toArray[i]? = some u0 := by simpa using gu
      rw [q1] at q2; cases q2; rfl
    subst ex
    refine ⟨_, rfl, wpAny_letOwnedTupleGo_enum (s := { sh with heap := h', toks := tk + 1 }) eo fun h'' he' sb => ?_⟩
    have tT2 : h''.get? sh.heap.objs.size = some { cls := .type "tuple", data := .seq #[.int i tk, x'] } := (sb.2 _ (Nat.ne_of_gt el)).trans tT
    have mk : ObjOk X.prog X.w (upd Hh sh.heap.objs.size (.tup [.int (i : Nat), y0])) h'' sh.heap.objs.size (.tup [.int (i : Nat), y0]) :=
      ⟨by show 2 ≤ sizeLine; decide, [.int i tk, x'], .cons ⟨_, rfl⟩ (.cons su .nil), ⟨_, tT2, rfl, _, rfl⟩⟩
    have J1 : Inv X pp τ (upd Hh sh.heap.objs.size (.tup [.int (i : Nat), y0])) { sh with heap := h'', toks := tk + 1 } :=
      J.turnedNew (ch := [e, it]) (fun ad ob mb q => (sb.2 ad (fun zz => mb (by simp [zz]))).trans (kp ad ob (fun zz => mb (by simp [zz])) (fun zz => mb (by simp [zz])) q)) fr (Nat.le_refl _) mk
    refine ⟨.ref sh.heap.objs.size, _, J1, rfl, ⟨_, y0, rfl, J.hok.fresh (Nat.le_refl _), rfl, fun ys hy => by rw [J.tuple_inj hy gq2]; exact gx⟩, ⟨⟨x', ?_⟩, st'.1.at fun ob q => (sb.2 it (Ne.symm n1)).trans q, n1, n2, n3⟩, fun ad mb => ?_⟩
    · have eN : ((i + 1 : Nat) : Int) = (i : Int) + 1 := by omega
      rw [eN]; exact he'
    · have mb2 : ad < sh.heap.objs.size := by
        have eqb : ad = e ∨ ad = it := by simpa using mb
        rcases eqb with zz | zz
        · rw [zz]; exact el
        · rw [zz]; exact il
      rw [upd_ne (Nat.ne_of_lt mb2)]
      exact (fr ad mb).1
  done := by
    intro X eP eW eK ec i pp sh τ Hh ek J fr S0 gq
    subst eP eW eK
    obtain ⟨⟨ol, hE⟩, hI, n1, n2, n3⟩ := S0
    obtain ⟨us0, gq2, gx⟩ := gq
    obtain ⟨ts, rl, pT, hl2⟩ := J.tuple gq2
    obtain ⟨f0, f1, f2, f3, f4, f5⟩ := fr it (by simp)
    have hl := rl.length
    have tT : sh.TypeIs (.ref e) "enumerate" := ⟨_, hE, rfl⟩
    unfold pyNext
    refine wpAny_bind (wpAny_attempt (wpAny_callSpecial?_slot (name := Str.ofString "__next__") tT F.slot_enumerate_next
      (wpAny_call_entry F.slot_enumerate_next tT F.entry_enumerate_next ?_ (F.args_enumerate_next_1 _))))
    show wpAny _ _ ((field (.ref e) 2) >>= _) _ _ _
    refine wpAny_bind (wpAny_field hE rfl (x := .ref it) rfl ?_)
    refine wpAny_bind (wpAny_nextOf_tuple_end (J.ok.hd ec) hI pT (by simp; omega) fun h' y0 he' hx' => ?_)
    obtain ⟨ob, eo, hc2⟩ := hx'
    refine wpAny_bind (wpAny_isInstance (T := "StopIteration") (b := true) ⟨ob, eo, hc2⟩ isSubtype_stop ?_)
    exact wpAny_pure ⟨rfl, J.turned (t' := sh.toks) (fun ad ob mb q => he' ad ob mb q) f0 f1 f3 f4 f5⟩
  self := fun ar i sh Q ek S0 h => let ⟨⟨_, hE⟩, _⟩ := S0; wpAny_pyIter_enum hE h
def wEnum (K : PySem.W.Frag) (te : TE) : TI := fun τ Hh R => te τ Hh fun y0 H1 => ∃ a, y0 = .ref a ∧ (((∃ us0, SqL K H1 a us0) ∧ R (Ite K a) H1) ∨ ((∃ us0, SqT K H1 a us0) ∧ R (IteT K a) H1))
theorem pi_enumA {X : Cx} {e : Expr} {te : TE} {pT pos tpos : Pos} {elts : List Expr} {kk : Nat} (gq : Gl X "enumerate") (hm : X.mg "enumerate" = none) (hE : PE X e te) (hs : starEach [e] X.env = [(false, eval e X.env)] := by rfl) :
    PI X (.Tuple elts kk tpos) (.Call (.Name "enumerate" pT) [e] [] pos) (wEnum X.K te) := by
  refine ⟨fun pp sh τ Hh R J h => ?_⟩
  have ha : PA X [e] (tCons te tNil) := pa_cons hE pa_nil (by rw [hs]; rfl)
  have h' : tCons te tNil τ Hh (fun vs H1 => ∃ a, vs = [.ref a] ∧ (((∃ us0, SqL X.K H1 a us0) ∧ R (Ite X.K a) H1) ∨ ((∃ us0, SqT X.K H1 a us0) ∧ R (IteT X.K a) H1))) := by
    have eN : (fun (y0 : V) (H1 : Hp) => ∃ a, y0 = .ref a ∧ (((∃ us0, SqL X.K H1 a us0) ∧ R (Ite X.K a) H1) ∨ ((∃ us0, SqT X.K H1 a us0) ∧ R (IteT X.K a) H1))) = fun y0 H1 => ∃ a, [y0] = [V.ref a] ∧ (((∃ us0, SqL X.K H1 a us0) ∧ R (Ite X.K a) H1) ∨ ((∃ us0, SqT X.K H1 a us0) ∧ R (IteT X.K a) H1)) := by
      funext y0 H1
      simp only [List.cons.injEq, and_true]
    show te τ Hh fun y0 H1 => ∃ a, [y0] = [V.ref a] ∧ _
    rw [← eN]
    exact h
  refine Call_ (ld_blt J gq hm boot_enumerate (PyProof.Rows.callWith_type1 (thn (ha.run pos pp sh τ Hh _ J h') fun us s1 ⟨vs, H1, J1, r1, q1⟩ => ?_) hs rfl))
  obtain ⟨a, ex, q⟩ := q1
  subst ex
  cases r1 with
  | cons r rr =>
    cases rr
    cases r
    have fresh2 : ∀ ad, ad ∈ [s1.heap.objs.size + 1, s1.heap.objs.size] → FpOk X pp H1 ad := fun ad mb => by
      have eqb : ad = s1.heap.objs.size + 1 ∨ ad = s1.heap.objs.size := by simpa using mb
      have geq : s1.heap.objs.size ≤ ad := by
        rcases eqb with zz | zz
        · rw [zz]; exact Nat.le_add_right _ _
        · rw [zz]; exact Nat.le_refl _
      exact J1.fpOk geq (J1.hok.fresh geq)
    rcases q with ⟨⟨us0, gq2⟩, q⟩ | ⟨⟨us0, gq2⟩, q⟩
    · obtain ⟨ts, rl, p', hl2⟩ := J1.list gq2
      refine call_enumerate_list p'.isList fun h' hE hI hZ kp => wpAny_pyIter_enum hE ?_
      have J2 : Inv X pp τ H1 { s1 with heap := h' } := J1.kept (t' := s1.toks) kp
      exact ⟨s1.heap.objs.size + 1, [s1.heap.objs.size + 1, s1.heap.objs.size], _, _, H1, rfl, J2, turn_enum a (s1.heap.objs.size + 1) s1.heap.objs.size, ⟨⟨.none, hE⟩, hI, Nat.succ_ne_self _⟩, fresh2, q⟩
    · obtain ⟨ts, rl, p', hl2⟩ := J1.tuple gq2
      obtain ⟨o1, ho1, _⟩ := id p'
      have hla : a < s1.heap.objs.size := Heap.lt_size ho1
      refine call_enum_tuple (show s1.heap.IsTuple a ts.toArray from p') fun h' hE hI hZ kp => wpAny_pyIter_enum hE ?_
      have J2 : Inv X pp τ H1 { s1 with heap := h' } := J1.kept (t' := s1.toks) kp
      exact ⟨s1.heap.objs.size + 1, [s1.heap.objs.size + 1, s1.heap.objs.size], _, _, H1, rfl, J2, turn_enumT a (s1.heap.objs.size + 1) s1.heap.objs.size, ⟨⟨.none, hE⟩, hI, Nat.succ_ne_self _, Nat.ne_of_lt hla, Nat.ne_of_gt (Nat.lt_succ_of_lt hla)⟩, fresh2, q⟩
/-! ### the rules by functions -/
def enumD (ds : List PyData) : List PyData := ds.mapIdx fun i d => .tuple [.int (i : Nat), d]
def enumR : Res Itv → Res Itv
  | .ok p G => .ok (enumD p.1, p.2) G
  | r => r
def iEnum (f : Gm → Res Rv) : Gm → Res Itv := fun G => (f G).bind fun r G1 => enumR (kItems G1 r)
section
variable {K : PySem.W.Frag} {σ : L2.St} {G : Gm} {H M : Hp} {ft : Nat → List Addr}
/-- a new pair is shown -/
theorem pair_shown {σ' : L2.St} {G' : Gm} {H' M' : Hp} {ft' : Nat → List Addr} (S' : SI K σ' H' M' G' ft') {T : Addr} {x y : V} {dx dy : PyData} (hT : H' T = none) (hx : Dd K M' x dx) (hy : Dd K M' y dy) :
    ∃ M3, SI K σ' (upd H' T (.tup [x, y])) M3 G' ft' ∧ Stp σ' G' H' M' ft' σ' G' (upd H' T (.tup [x, y])) M3 ft' ∧ Dd K M3 (.ref T) (.tuple [dx, dy]) := by
  have hm := S'.sub.nn hT
  exact ⟨upd M' T (.tup [x, y]), (S'.lay hT _).show upd_same hm (S'.fresh hT), (Stp.lay S' hT _).show hm (.inl hT), Dd.newT hm (.cons hx (.one hy))⟩
theorem enumD_at {ds : List PyData} {i : Nat} : (enumD ds)[i]? = (ds[i]?).map fun d => .tuple [.int (i : Nat), d] := by
  unfold enumD
  rw [List.getElem?_mapIdx]
theorem it_enumL {a : Addr} {ds : List PyData} (h : ∀ σ' G' H' M' ft', SI K σ' H' M' G' ft' → Stp σ G H M ft σ' G' H' M' ft' → ∃ xs, SqL K H' a xs ∧ DdA K M' xs ds) : ItOk K σ G H M ft (Ite K a) (enumD ds) := by
  intro σ' G' H' M' ft' S' P' i
  obtain ⟨xs, h1, h2⟩ := h σ' G' H' M' ft' S' P'
  rw [enumD_at]
  refine ⟨fun d e => ?_, fun e => ?_⟩
  · cases ed : ds[i]? with
    | none => rw [ed] at e; cases e
    | some d0 =>
      rw [ed] at e; cases e
      obtain ⟨v, e1, e2⟩ := h2.get ed
      refine ⟨⟨xs, v, h1, e1⟩, fun x H3 ⟨T, y, q1, q2, q3, q4⟩ => ?_⟩
      subst q1 q3
      have : some y = some v := (q4 xs h1).symm.trans e1
      cases this
      exact pair_shown S' q2 (.int _) e2
  · cases ed : ds[i]? with
    | none => exact ⟨xs, h1, by rw [h2.length]; exact List.getElem?_eq_none_iff.mp ed⟩
    | some d0 => rw [ed] at e; cases e
theorem it_enumT {a : Addr} {ds : List PyData} (h : ∀ σ' G' H' M' ft', SI K σ' H' M' G' ft' → Stp σ G H M ft σ' G' H' M' ft' → ∃ xs, SqT K H' a xs ∧ DdA K M' xs ds) : ItOk K σ G H M ft (IteT K a) (enumD ds) := by
  intro σ' G' H' M' ft' S' P' i
  obtain ⟨xs, h1, h2⟩ := h σ' G' H' M' ft' S' P'
  rw [enumD_at]
  refine ⟨fun d e => ?_, fun e => ?_⟩
  · cases ed : ds[i]? with
    | none => rw [ed] at e; cases e
    | some d0 =>
      rw [ed] at e; cases e
      obtain ⟨v, e1, e2⟩ := h2.get ed
      refine ⟨⟨xs, v, h1, e1⟩, fun x H3 ⟨T, y, q1, q2, q3, q4⟩ => ?_⟩
      subst q1 q3
      have : some y = some v := (q4 xs h1).symm.trans e1
      cases this
      exact pair_shown S' q2 (.int _) e2
  · cases ed : ds[i]? with
    | none => exact ⟨xs, h1, by rw [h2.length]; exact List.getElem?_eq_none_iff.mp ed⟩
    | some d0 => rw [ed] at e; cases e
end
theorem kItems_noex {G : Gm} {r : Rv} {e : Exn} : kItems G r ≠ .ex e := fun h => by
  unfold kItems at h
  split at h <;> first | (cases h; done) | (split at h <;> cases h)
section
variable {X : Cx} {XR : XRt} {E : XK} {e : Expr} {f : Gm → Res Rv} {p pos tpos : Pos} {elts : List Expr} {kk : Nat}
theorem fi_enum (hg : Gl X "enumerate") (hm : X.mg "enumerate" = none) (he : PE X e (tFE X.K XR E f)) (hs : starEach [e] X.env = [(false, eval e X.env)] := by rfl) : PI X (.Tuple elts kk tpos) (.Call (.Name "enumerate" p) [e] [] pos) (tFI X.K XR E (iEnum f)) :=
  PI.le (pi_enumA hg hm he hs) fun σ H R ⟨M, G, ft, S, w⟩ => by
    refine ⟨M, G, ft, S, ?_⟩
    unfold iEnum at w
    cases e : f G with
    | ok r G1 =>
      rw [e] at w
      intro v H1 M1 ft1 S1 P1 R1
      rw [Res.bind_ok] at w
      cases ek : kItems G1 r with
      | ok p G2 =>
        rw [ek] at w
        obtain ⟨eG, h⟩ := items_ok S1 ek R1
        subst eG
        cases h with
        | l a ea h =>
          obtain ⟨xs, h1, h2⟩ := h σ _ H1 M1 ft1 (S1.lock p.2) .refl
          exact ⟨a, ea, .inl ⟨⟨xs, h1⟩, w _ H1 M1 ft1 S1 P1 (it_enumL h)⟩⟩
        | t a ea h =>
          obtain ⟨xs, h1, h2⟩ := h σ _ H1 M1 ft1 (S1.lock p.2) .refl
          exact ⟨a, ea, .inr ⟨⟨xs, h1⟩, w _ H1 M1 ft1 S1 P1 (it_enumT h)⟩⟩
      | ex x => exact absurd ek kItems_noex
      | bad => rw [ek] at w; exact w.elim
    | ex x => rw [e] at w; exact w
    | bad => rw [e] at w; exact w
end
end Fx
/-! FxO: sorted of lists and tuples of ints or of tuples of ints, any length -/
namespace Fx
open PySem PySem.Spec
open PyProof.Rows L2
section
variable {pgm : Program} {wrl : World} {arn : Around} {ekk : Value → Shared → Prop} {shr : Shared}
theorem collect_tup {ad0 : Addr} {vls : List Value} {Q : List Value → Shared → Prop} (jl0 : shr.heap.IsTuple ad0 vls.toArray)
    (jh0 : Q vls { shr with heap := (shr.heap.push (seqObj "list" #[] 0)).update shr.heap.objs.size (Obj.mapSeq (· ++ vls.toArray)) }) (zsz : vls.length ≤ sizeLine) :
    wpAny (model pgm wrl) arn (collect (.ref ad0)) Q ekk shr := by
  obtain ⟨obb, eob, ecb, nn0, edb⟩ := id jl0
  delta collect
  apply wpAny_bind; apply wpAny_runValue
  refine codeAny_builtin entry_proto_collect' ?_
  show wpAny _ _ (do again (.builtin "list.__iadd__" ⟨[← newList [], .ref ad0], []⟩)) _ _ shr
  refine wpAny_bind (wpAny_newList (wpAny_pure ?_))
  refine ⟨Code.quiet_builtin _ (by decide +kernel), ?_⟩
  refine codeAny_builtin entry_list_iadd' ?_
  show wpAny _ _ (Builtin.List.listExtendWith (.ref shr.heap.objs.size) (.ref ad0) (.ref shr.heap.objs.size)) _ _ { shr with heap := shr.heap.push (seqObj "list" #[] 0) }
  delta Builtin.List.listExtendWith
  have ho' : (shr.heap.push (seqObj "list" #[] 0)).get? ad0 = some obb := Heap.get?_push_of_some _ eob
  refine wpAny_bind (wpAny_typeOf (T := "tuple") ⟨obb, ho', ecb⟩ ?_)
  have et0 : (Value.type "tuple" == Value.type "tuple") = true := by rfl
  rw [if_pos (by rw [et0]; simp)]
  have last := Heap.get?_push_size shr.heap (o := seqObj "list" #[] 0) rfl
  refine wpAny_bind (listItems_at ho' edb (wpAny_bind (listItems_at (xs := #[]) (n := 0) last rfl ?_)))
  rw [if_neg (by simp)]
  refine wpAny_bind (listUpdate_at (xs := #[]) (n := 0) (Heap.get?_push_size _ rfl) rfl ?_ (Nat.zero_le _) (by show (#[] ++ vls.toArray).size ≤ sizeLine + 1; simp only [Array.size_append, List.size_toArray, List.length_nil]; omega))
  refine wpAny_pure ?_
  show wpAny (model pgm wrl) arn (do
      let o ← load shr.heap.objs.size
      match o.data with
      | .seq xs _ => pure xs.toList
      | _ => unsupported "internal:collect") Q ekk { shr with heap := (shr.heap.push (seqObj "list" #[] 0)).update shr.heap.objs.size (Obj.mapSeq (· ++ vls.toArray)) }
  refine wpAny_bind (wpAny_load (get?_update_seq last _) ?_)
  show wpAny _ _ (pure ((#[] : Array Value) ++ vls.toArray).toList) Q ekk _
  rw [show ((#[] : Array Value) ++ vls.toArray).toList = vls by simp]
  exact wpAny_pure jh0
theorem collect_seq {ad0 : Addr} {vls : List Value} {Q : List Value → Shared → Prop} (jl0 : shr.heap.IsList ad0 vls.toArray ∨ shr.heap.IsTuple ad0 vls.toArray)
    (jh0 : Q vls { shr with heap := (shr.heap.push (seqObj "list" #[] 0)).update shr.heap.objs.size (Obj.mapSeq (· ++ vls.toArray)) }) (zsz : vls.length ≤ sizeLine) :
    wpAny (model pgm wrl) arn (collect (.ref ad0)) Q ekk shr := jl0.elim (fun jl0 => collect_list jl0 jh0 zsz) fun jl0 => collect_tup jl0 jh0 zsz
theorem sorted_of {ad0 : Addr} {vls : List Value} {kws : List (Str × Value)} {Q : Value → Shared → Prop} (jl0 : shr.heap.IsList ad0 vls.toArray ∨ shr.heap.IsTuple ad0 vls.toArray) (mL : vls.length ≤ sizeLine) (ma1 : argsOk "sorted" ⟨[.ref ad0], kws⟩) (ha2 : ∀ x, argsOk "list.sort" ⟨[.ref x], kws⟩)
    (body : ∀ E' : Value → Shared → Prop, wpAny (model pgm wrl) arn.in1.in1 (Builtin.«list.sort» ⟨[.ref (shr.heap.objs.size + 1)], kws⟩) (fun f s' => f = .done (.ret .none) ∧ Q (.ref (shr.heap.objs.size + 1)) s') E' { shr with heap := PySem.W.copyHeap shr.heap vls }) :
    wpAny (model pgm wrl) arn (call (.builtin "sorted") [.ref ad0] kws) Q ekk shr := by
  refine call_function_entry_kw kind_sorted plain_sorted entry_sorted ma1 ?_
  unfold Builtin.«sorted»
  refine wpAny_bind (m := checkCount "sorted" 1 1 _) (wpAny_pure (wpAny_bind (collect_seq jl0 ?_ mL)))
  refine wpAny_bind (wpAny_newList ?_ mL)
  have zsz : ((shr.heap.push (seqObj "list" #[] 0)).update shr.heap.objs.size (Obj.mapSeq (· ++ vls.toArray))).objs.size = shr.heap.objs.size + 1 := by
    rw [Heap.size_update]; rw [size_push']
  show wpAny _ _ _ _ _ { shr with heap := PySem.W.copyHeap shr.heap vls }
  rw [zsz]
  refine wpAny_bind (wpAny_holding (wpAny_call_entry_kw slot_list_sort ⟨_, PySem.W.copyHeap_at shr.heap vls, rfl⟩ entry_list_sort ?body (ha2 _)))
  refine wpAny_mono (body _) (fun f s' gq1 => ?_) fun _ _ e => e
  obtain ⟨rfl, gq1⟩ := gq1
  exact ⟨_, rfl, wpAny_pure ⟨_, rfl, gq1⟩⟩
/-! tuples that need not have an item: the first has none -/
theorem call_tup_lt {Q : Value → Shared → Prop} {ad0 b : Addr} {items items2 : Array Value} {e r : Nat → Bool} (jl0 : shr.heap.IsTuple ad0 items) (mb1 : shr.heap.IsTuple b items2)
    (he : ∀ j (h1 : j < items.size) (h2 : j < items2.size), PySem.SeqAt.EqAt arn.in1 shr items[j] items2[j] (e j)) (hr : ∀ j (h1 : j < items.size) (h2 : j < items2.size), e j = false → PySem.SeqAt.RcLt arn.in1 shr items[j] items2[j] (r j))
    (jh0 : Q (.bool (PySem.SeqAt.firstLt e r (decide (items.size < items2.size)) (List.range (min items.size items2.size)))) shr) : wpAny (model pgm wrl) arn (call (.builtin "tuple.__lt__") [.ref ad0, .ref b]) Q ekk shr := by
  obtain ⟨⟨clz, dd1, dt1, sl1⟩, eob, ecb, nn0, edb⟩ := id jl0
  obtain ⟨⟨clz2, dd3, dt3, sl3⟩, eo2, ec2, n2, ed2⟩ := id mb1
  simp only at ecb edb ec2 ed2
  subst ecb edb ec2 ed2
  exact call_meets F.slot_tuple_lt ⟨_, eob, rfl⟩ F.entry_tuple_lt (F.args_tuple_lt_2 _ _) (PySem.SeqAt.tuple_ltAt ad0 b items items2 nn0 n2 dd1 dd3 sl1 sl3 e r) ⟨eob, eo2, he, hr, jh0⟩
/-- as sorting compares two tuples by their own < -/
theorem oneLt_tups {xs ys : List PyData} {a b : Value} {as bs : List Addr} {Q : Bool → Shared → Prop} (ra : Reads shr.heap a (.tuple xs) as) (rb : Reads shr.heap b (.tuple ys) bs) (hal : PySem.W.alikeAll xs ys = true)
    (hu : arn.units + min (PyData.tuple xs).depth (PyData.tuple ys).depth < cLine) (gq1 : Q (PySem.W.dataLt (.tuple xs) (.tuple ys)) shr) : wpAny (model pgm wrl) arn (oneLt' true a b) Q ekk shr := by
  cases ra with
  | @tuple ad0 obb vls nn0 _ as₁ h1 h2 h3 h4 =>
    cases rb with
    | @tuple ad1 ob1 vs' n' _ bs₁ k1 k2 k3 k4 =>
      have n1 : vls.size = xs.length := by simpa using PySem.SeqAt.ReadsAll.length _ _ _ h4
      have n2 : vs'.size = ys.length := by simpa using PySem.SeqAt.ReadsAll.length _ _ _ k4
      rw [PySem.W.dataLt_tuple, ← PySem.W.firstLt_toks xs ys hal, ← n1, ← n2] at gq1
      rw [oneLt'_eq]
      simp only [if_true]
      refine wpAny_bind (wpAny_cRoomFor (PySem.SeqAt.room_here hu) ?_)
      refine wpAny_bind (wpAny_callSpecialIfBound?_slot (T := "tuple") ⟨_, h1, h2⟩ F.slot_tuple_lt (call_tup_lt (e := PySem.SeqAt.pairEq xs ys) (r := fun j => PySem.W.dataLt (xs.getD j .none) (ys.getD j .none)) ⟨_, h1, h2, _, h3⟩ ⟨_, k1, k2, _, k3⟩ (fun j j1 j2 => ?_) (fun j j1 j2 hj => ?_) ?_))
      · have := PySem.W.eqAt_alikeAll xs ys arn.in1 shr vls.toList vs'.toList _ _ h4 k4 hal (PySem.SeqAt.room_in hu) j (by simpa using j1) (by simpa using j2)
        simpa using this
      · have := PySem.W.rcLt_alikeAll xs ys arn.in1 shr vls.toList vs'.toList _ _ h4 k4 hal (PySem.SeqAt.room_in hu) j (by simpa using j1) (by simpa using j2) hj
        simpa using this
      · exact wpAny_truthy_bool gq1
end
end Fx
/-! FxP: sorted, the rule -/
namespace Fx
open PySem PySem.Spec
open PyProof.Rows L2
open PySem.W (EachIs AllAlike Sortable SortsAt dataKind dataLe dataLt alike alikeAll)
def isIntD : PyData → Bool
  | .int _ => true
  | _ => false
def isITup : PyData → Bool
  | .tuple ds => ds.all isIntD
  | _ => false
def okS (d : PyData) : Bool := isIntD d || isITup d
def neTup : PyData → Bool
  | .tuple (_ :: _) => true
  | _ => false
def sortOk (ds : List PyData) : Bool := ds.all isIntD || (ds.all isITup && (ds.all neTup || (match ds with | .tuple [] :: _ => true | _ => false)))
def sortD (ds : List PyData) : List PyData := ds.mergeSort (dataLe false fun d => d)
theorem isIntD_iff {d : PyData} (h : isIntD d = true) : ∃ i, d = .int i := by
  cases d <;> first | exact ⟨_, rfl⟩ | cases h
theorem isITup_iff {d : PyData} (h : isITup d = true) : ∃ ds, d = .tuple ds ∧ ds.all isIntD = true := by
  cases d <;> first | exact ⟨_, rfl, h⟩ | cases h
theorem alikeAll_ints : ∀ {xs ys : List PyData}, xs.all isIntD = true → ys.all isIntD = true → alikeAll xs ys = true
  | [], _, _, _ => by simp [alikeAll]
  | _ :: _, [], _, _ => by simp [alikeAll]
  | x :: xs, y :: ys, h, g => by
    rw [List.all_cons, Bool.and_eq_true] at h g
    obtain ⟨i, rfl⟩ := isIntD_iff h.1
    obtain ⟨j, rfl⟩ := isIntD_iff g.1
    rw [alikeAll, alikeAll_ints h.2 g.2]
    simp [alike]
theorem depthAll_ints : ∀ {xs : List PyData}, xs.all isIntD = true → PyData.depthAll xs = 0
  | [], _ => by simp [PyData.depthAll]
  | x :: xs, h => by
    rw [List.all_cons] at h; rw [Bool.and_eq_true] at h
    obtain ⟨i, rfl⟩ := isIntD_iff h.1
    rw [PyData.depthAll, depthAll_ints h.2]
    simp [PyData.depth]
theorem okS_depth {d : PyData} (h : okS d = true) : d.depth ≤ 1 := by
  unfold okS at h
  rw [Bool.or_eq_true] at h
  rcases h with h | h
  · obtain ⟨i, rfl⟩ := isIntD_iff h
    simp [PyData.depth]
  · obtain ⟨ds, rfl, h⟩ := isITup_iff h
    simp [PyData.depth, depthAll_ints h]
theorem sortOk_okS {ds : List PyData} (h : sortOk ds = true) : ∀ d ∈ ds, okS d = true := fun d hd => by
  unfold sortOk at h
  unfold okS
  rw [Bool.or_eq_true] at h ⊢
  rcases h with h | h
  · exact .inl (List.all_eq_true.mp h d hd)
  · rw [Bool.and_eq_true] at h
    exact .inr (List.all_eq_true.mp h.1 d hd)
theorem sortOk_alike {ds : List PyData} (h : sortOk ds = true) : AllAlike ds := fun d hd d' hd' => by
  unfold sortOk at h
  rw [Bool.or_eq_true] at h
  rcases h with h | h
  · obtain ⟨i, rfl⟩ := isIntD_iff (List.all_eq_true.mp h d hd)
    obtain ⟨j, rfl⟩ := isIntD_iff (List.all_eq_true.mp h d' hd')
    simp [alike]
  · rw [Bool.and_eq_true] at h
    obtain ⟨xs, rfl, h1⟩ := isITup_iff (List.all_eq_true.mp h.1 d hd)
    obtain ⟨ys, rfl, h2⟩ := isITup_iff (List.all_eq_true.mp h.1 d' hd')
    simp [alike, alikeAll_ints h1 h2]
theorem readsAll_ints {K : PySem.W.Frag} {M : Hp} {h : Heap} : ∀ {xs : List V} {its : List Value} {ds : List PyData}, DdA K M xs ds → Vals xs its → ds.all isIntD = true → ReadsAll h its ds []
  | _, _, _, .nil, rv, _ => by cases rv; exact .nil
  | _, _, _, .cons d t, rv, hi => by
    rw [List.all_cons, Bool.and_eq_true] at hi
    obtain ⟨i, rfl⟩ := isIntD_iff hi.1
    cases d
    cases rv with
    | cons r rr =>
      obtain ⟨tk, rfl⟩ := r
      exact ReadsAll.cons (as := []) (bs := []) (.int _ _) (readsAll_ints t rr hi.2)
section
variable {X : Cx} {pins : List (Addr × Obj)} {σ : L2.St} {H M : Hp} {s : Shared}
theorem reads_of (I : Inv X pins σ H s) (sub : Sub M H) {v : V} {u : Value} {d : PyData} (h : Dd X.K M v d) (r : L2.RelV v u) (o : okS d = true) : ∃ as, Reads s.heap u d as := by
  unfold okS at o
  rw [Bool.or_eq_true] at o
  rcases o with o | o
  · obtain ⟨i, rfl⟩ := isIntD_iff o
    cases h
    obtain ⟨tk, rfl⟩ := r
    exact ⟨_, .int _ _⟩
  · obtain ⟨ds, rfl, o⟩ := isITup_iff o
    cases h with
    | tup e g =>
      obtain rfl : u = _ := r
      obtain ⟨its, rv, ⟨ob, h1, h2, n, h3⟩, _⟩ := I.tuple (sub.sqT e)
      exact ⟨_, .tuple h1 h2 h3 (by simpa using readsAll_ints g rv o)⟩
theorem each_of : ∀ {ys : List V} {its : List Value} {ds : List PyData}, Vals ys its → DdA X.K M ys ds → EachIs (fun u (p : V × PyData) => L2.RelV p.1 u) its (ys.zip ds)
  | _, _, _, .nil, .nil => .nil
  | _, _, _, .cons r rr, .cons d t => .cons r (each_of rr t)
theorem each_reads (I : Inv X pins σ H s) (sub : Sub M H) : ∀ {ys : List V} {its : List Value} {ds : List PyData}, Vals ys its → DdA X.K M ys ds → (∀ d ∈ ds, okS d = true) → EachIs (fun u (p : V × PyData) => ∃ as, Reads s.heap u p.2 as) its (ys.zip ds)
  | _, _, _, .nil, .nil, _ => .nil
  | _, _, _, .cons r rr, .cons d t, o => .cons (reads_of I sub d r (o _ List.mem_cons_self)) (each_reads I sub rr t fun d hd => o d (List.mem_cons_of_mem _ hd))
end
theorem zip_snd {K : PySem.W.Frag} {M : Hp} : ∀ {ys : List V} {ds : List PyData}, DdA K M ys ds → (ys.zip ds).map Prod.snd = ds
  | _, _, .nil => rfl
  | _, _, .cons _ t => by
    rw [List.zip_cons_cons, List.map_cons, zip_snd t]
theorem zip_dd {K : PySem.W.Frag} {M : Hp} : ∀ {ys : List V} {ds : List PyData}, DdA K M ys ds → ∀ p ∈ ys.zip ds, Dd K M p.1 p.2
  | _, _, .nil, _, jh0 => by cases jh0
  | _, _, .cons drw t, pp0, jh0 => by
    rw [List.zip_cons_cons] at jh0
    obtain rfl | jh0 := List.mem_cons.mp jh0
    · exact drw
    · exact zip_dd t pp0 jh0
theorem ddA_of {K : PySem.W.Frag} {M : Hp} : ∀ {ps : List (V × PyData)}, (∀ pp0 ∈ ps, Dd K M pp0.1 pp0.2) → DdA K M (ps.map Prod.fst) (ps.map Prod.snd)
  | [], _ => .nil
  | pp0 :: ps, jh0 => .cons (jh0 pp0 List.mem_cons_self) (ddA_of fun q gq1 => jh0 q (List.mem_cons_of_mem _ gq1))
theorem vals_of_each : ∀ {us : List Value} {ps : List (V × PyData)}, EachIs (fun u (pp0 : V × PyData) => L2.RelV pp0.1 u) us ps → Vals (ps.map Prod.fst) us
  | _, _, .nil => .nil
  | _, _, .cons rr0 t => .cons rr0 (vals_of_each t)
section
variable {pgm : Program} {wrl : World} {arn : Around} {ekk : Value → Shared → Prop} {shr : Shared}
theorem firsts_tup (M : Model) (arn : Around) (ekk : Value → Shared → Prop) : ∀ {vls : List Value}, (∀ v ∈ vls, ∃ xs as, Reads shr.heap v (.tuple xs) as) → ∃ fs : List (Option Value), ∀ (Q : List (Option Value) → Shared → Prop), Q fs shr → wpAny M arn (vls.mapM firstOfTuple') Q ekk shr
  | [], _ => ⟨[], fun Q jh0 => by rw [List.mapM_nil]; exact wpAny_pure jh0⟩
  | v :: vls, hv => by
    obtain ⟨fs, hf⟩ := firsts_tup M arn ekk fun u mu0 => hv u (List.mem_cons_of_mem _ mu0)
    obtain ⟨xs, as, rr0⟩ := hv v List.mem_cons_self
    cases rr0 with
    | @tuple aa0 obb its nn0 _ _ h1 h2 h3 h4 =>
      refine ⟨its[0]? :: fs, fun Q jh0 => ?_⟩
      rw [List.mapM_cons]
      refine wpAny_bind ?_
      rw [PySem.W.kas_first_eq]
      refine wpAny_bind (PySem.W.Looks.here (show PySem.W.Looks M shr.heap (typeOf (.ref aa0)) obb.cls from (PySem.W.Looks.ld h1).andThen .now) ?_)
      rw [h2, if_neg (by first | decide | simp)]
      refine wpAny_bind (listItems_at h1 h3 (wpAny_pure ?_))
      exact wpAny_bind (hf _ (wpAny_pure jh0))
theorem kind_tupE {M : Model} {v : Value} {vls : List Value} {Q : SortKind → Shared → Prop} (h0 : ∃ as, Reads shr.heap v (.tuple []) as) (hv : ∀ u ∈ vls, ∃ xs as, Reads shr.heap u (.tuple xs) as) (jh0 : Q oneType' shr) : wpAny M arn (keyKind' (v :: vls).toArray) Q ekk shr := by
  obtain ⟨fs, hf⟩ := firsts_tup M arn ekk hv
  have hT : ∀ u ∈ v :: vls, PySem.W.Looks M shr.heap (typeOf u) (Value.type "tuple") := fun u mu0 => by
    obtain rfl | mu0 := List.mem_cons.mp mu0
    · obtain ⟨as, rr0⟩ := h0
      exact PySem.W.looks_reads rr0
    · obtain ⟨xs, as, rr0⟩ := hv u mu0
      exact PySem.W.looks_reads rr0
  rw [keyKind'_eq, List.mapM_toArray]
  rw [map_eq_pure_bind]
  obtain ⟨as, rr0⟩ := h0
  cases rr0 with
  | @tuple aa0 obb its nn0 _ _ h1 h2 h3 h4 =>
    have zsz2 : its[0]? = none := by
      have ee0 : its.toList = [] := by
        cases q : its.toList with
        | nil => rfl
        | cons aa0 b => rw [q] at h4; cases h4
      rw [← Array.getElem?_toList, ee0]
      rfl
    apply wpAny_bind; apply wpAny_bind
    rw [List.mapM_cons]
    refine wpAny_bind ?_
    rw [PySem.W.kas_first_eq]
    refine wpAny_bind (PySem.W.Looks.here (show PySem.W.Looks M shr.heap (typeOf (.ref aa0)) obb.cls from (PySem.W.Looks.ld h1).andThen .now) ?_)
    rw [h2, if_neg (by first | decide | simp)]
    refine wpAny_bind (listItems_at h1 h3 (wpAny_pure ?_))
    rw [zsz2]
    refine wpAny_bind (hf _ (wpAny_pure ?_))
    refine wpAny_pure ?_
    rw [if_neg (by simp)]; rw [if_neg (by simp)]
    rw [oneTypeOnly'_eq, List.mapM_toArray]; rw [map_eq_pure_bind]
    refine wpAny_bind (wpAny_bind (wpAny_bind (PySem.W.kas_mapM (r := Value.type "tuple") _ (fun v hv Q' gq1 => (hT v hv).here gq1) (wpAny_pure ?_))))
    have hall : ((List.map (fun _ => Value.type "tuple") (Value.ref aa0 :: vls)).toArray.all fun x => x == Value.type "tuple") = true := by
      simp only [List.all_map, List.all_toArray, List.all_eq_true]
      intro _ _
      exact beq_self_eq_true _
    have h0 : (List.map (fun _ => Value.type "tuple") (Value.ref aa0 :: vls)).toArray[0]? = some (Value.type "tuple") := by simp
    rw [h0]
    simp only [hall, if_true]
    exact wpAny_pure (wpAny_pure jh0)
theorem sortsAt_tupE {vls : List Value} {ds : List PyData} (ee0 : EachIs (fun v drw => ∃ as, Reads shr.heap v drw as) vls (.tuple [] :: ds)) (hal : AllAlike (.tuple [] :: ds)) (ht : ∀ drw ∈ ds, ∃ xs, drw = .tuple xs) (mu0 : ∀ drw, drw ∈ PyData.tuple [] :: ds → arn.units + drw.depth < cLine) :
    SortsAt pgm wrl arn shr (dataKind shr.heap (.tuple [] :: ds)) vls := by
  have room : ∀ {drw d' : PyData}, drw ∈ PyData.tuple [] :: ds → arn.units + min drw.depth d'.depth < cLine := fun {drw d'} edb => Nat.lt_of_le_of_lt (Nat.add_le_add_left (Nat.min_le_left _ _) _) (mu0 drw edb)
  have ht' : ∀ drw ∈ PyData.tuple [] :: ds, ∃ xs, drw = .tuple xs := fun drw edb => by
    obtain rfl | edb := List.mem_cons.mp edb
    · exact ⟨_, rfl⟩
    · exact ht drw edb
  refine ⟨fun v hv => ?_, oneType', ?_, fun h2 ekk Q gq1 => ?_⟩
  · obtain ⟨drw, edb, as, rr0⟩ := ee0.left v hv
    exact ⟨_, PySem.W.dataKind_some hal edb rr0⟩
  · intro ekk x y aa0 b Q ha hb gq1
    obtain ⟨drw, as, edb, ra, rfl⟩ := PySem.W.dataKind_inv ha
    obtain ⟨d', as', hd', rb, rfl⟩ := PySem.W.dataKind_inv hb
    rw [keyLt'_oneType]
    have hdd := hal drw edb d' hd'
    have hr := room (d' := d') edb
    obtain ⟨xs, rfl⟩ := ht' drw edb
    obtain ⟨ys, rfl⟩ := ht' d' hd'
    exact oneLt_tups ra rb (by simpa [alike] using hdd) hr gq1
  · cases ee0 with
    | cons h0 t =>
      refine kind_tupE h0 (fun u mu0 => ?_) gq1
      obtain ⟨drw, edb, as, rr0⟩ := t.left u mu0
      obtain ⟨xs, rfl⟩ := ht drw edb
      exact ⟨xs, as, rr0⟩
theorem sortsAt_ok {vls : List Value} {ds : List PyData} (ee0 : EachIs (fun v drw => ∃ as, Reads shr.heap v drw as) vls ds) (jh0 : sortOk ds = true) (mu0 : arn.units + 1 < cLine) : SortsAt pgm wrl arn shr (dataKind shr.heap ds) vls := by
  have hal := sortOk_alike jh0
  have hu' : ∀ drw, drw ∈ ds → arn.units + drw.depth < cLine := fun drw edb => by
    have := okS_depth (sortOk_okS jh0 drw edb)
    omega
  unfold sortOk at jh0
  rw [Bool.or_eq_true] at jh0
  rcases jh0 with jh0 | jh0
  · refine SortsAt.data ee0 hal (.inr fun drw edb => ?_) hu'
    obtain ⟨i, rfl⟩ := isIntD_iff (List.all_eq_true.mp jh0 drw edb)
    exact ⟨fun z => (nomatch z), fun _ z => (nomatch z)⟩
  · rw [Bool.and_eq_true, Bool.or_eq_true] at jh0
    obtain ⟨h1, h2⟩ := jh0
    rcases h2 with h2 | h2
    · refine SortsAt.data ee0 hal (.inl fun drw edb => ?_) hu'
      have q := List.all_eq_true.mp h2 drw edb
      unfold neTup at q
      split at q
      · exact ⟨_, _, rfl⟩
      · cases q
    · split at h2
      · refine sortsAt_tupE ee0 hal (fun drw edb => ?_) hu'
        obtain ⟨xs, rfl, _⟩ := isITup_iff (List.all_eq_true.mp h1 drw (List.mem_cons_of_mem _ edb))
        exact ⟨xs, rfl⟩
      · cases h2
end
end Fx
/-! FxR: sorted(xs), by function -/
namespace Fx
open PySem PySem.Spec
open PyProof.Rows L2
open PySem.W (EachIs AllAlike Sortable SortsAt dataKind dataLe dataLt alike alikeAll)
def rSortA (K : PySem.W.Frag) : List V → Hp → VK → Prop := fun vs H Q => ∃ (M : Hp) (p : Addr) (ys : List V) (ds : List PyData), vs = [.ref p] ∧ (SqL K H p ys ∨ SqT K H p ys) ∧ Sub M H ∧ DdA K M ys ds ∧ sortOk ds = true ∧
  ∀ l zs, H l = none → DdA K M zs (sortD ds) → Q (.ref l) (upd H l (.lst zs))
theorem IsTup.tuple {h : Heap} {a : Addr} {its : Array Value} (p : IsTup h a its) : h.IsTuple a its := p
section
variable {X : Cx}
theorem call_sortedA (hu : X.A.units + 64 < cLine) : CallR X (.builtin "sorted") (rSortA X.K) := by
  intro pins s σ H vs us Q I r h
  obtain ⟨M, p, ys, ds, rfl, hq, sub, D, so, q⟩ := h
  rw [Vals.ref1 r]
  obtain ⟨its, rv, hl, hz⟩ : ∃ its : List Value, Vals ys its ∧ (s.heap.IsList p its.toArray ∨ s.heap.IsTuple p its.toArray) ∧ ys.length ≤ sizeLine := by
    rcases hq with hq | hq
    · obtain ⟨its, rv, pl, hz⟩ := I.list hq
      exact ⟨its, rv, .inl pl.isList, hz⟩
    · obtain ⟨its, rv, pl, hz⟩ := I.tuple hq
      exact ⟨its, rv, .inr pl, hz⟩
  have hL : its.length ≤ sizeLine := by rw [← rv.length]; exact hz
  have er := each_reads I sub rv D (sortOk_okS so)
  have eR := each_of rv D
  have es : (ys.zip ds).map Prod.snd = ds := zip_snd D
  have er' : EachIs (fun v (p : V × PyData) => ∃ as, Reads (PySem.W.sortingHeap (PySem.W.copyHeap s.heap its) (s.heap.objs.size + 1) its) v p.2 as) its (ys.zip ds) := er.mono fun _ _ ⟨as, r⟩ => ⟨as, PyProof.Rows.Reads.keeps (fun _ _ => PySem.W.sorting_copy_old) r⟩
  have hal : AllAlike ((ys.zip ds).map Prod.snd) := by rw [es]; exact sortOk_alike so
  have S : SortsAt X.prog X.w X.A.in1.in1 { s with heap := PySem.W.sortingHeap (PySem.W.copyHeap s.heap its) (s.heap.objs.size + 1) its } (dataKind (PySem.W.sortingHeap (PySem.W.copyHeap s.heap its) (s.heap.objs.size + 1) its) ((ys.zip ds).map Prod.snd)) its := by
    refine sortsAt_ok (shr := { s with heap := PySem.W.sortingHeap (PySem.W.copyHeap s.heap its) (s.heap.objs.size + 1) its }) ?_ (by rw [es]; exact so) ?_
    · exact PySem.W.each_map (R := fun v d => ∃ as, Reads (PySem.W.sortingHeap (PySem.W.copyHeap s.heap its) (s.heap.objs.size + 1) its) v d as) Prod.snd er'
    · show X.A.units + 1 + 1 + 1 < cLine
      omega
  have eo := PySem.W.sortVals_data false eR er' hal
  refine sorted_of hl hL (args_sorted1 _) (fun _ => args_list_sort _) fun E' => PySem.W.list_sort_vals (s := { s with heap := PySem.W.copyHeap s.heap its }) (PySem.W.copyHeap_at s.heap its) S hL ⟨rfl, ?_⟩
  have rz := vals_of_each eo
  have pm := List.mergeSort_perm (ys.zip ds) (dataLe false Prod.snd)
  have Dz : DdA X.K M (((ys.zip ds).mergeSort (dataLe false Prod.snd)).map Prod.fst) (sortD ds) := by
    have e : ((ys.zip ds).mergeSort (dataLe false Prod.snd)).map Prod.snd = sortD ds := by
      unfold sortD
      have q2 := PySem.W.sort_maps (l := ys.zip ds) (r := dataLe false Prod.snd) (s := dataLe false fun d => d) Prod.snd (fun a _ b _ => rfl)
      rw [q2, es]
    rw [← e]
    exact ddA_of fun p hp => zip_dd D p (pm.mem_iff.mp hp)
  have hlen : (((ys.zip ds).mergeSort (dataLe false Prod.snd)).map Prod.fst).length ≤ sizeLine := by
    rw [List.length_map, pm.length_eq, List.length_zip, ← D.length, Nat.min_self]
    exact hz
  obtain ⟨ep, he'⟩ := PyProof.Rows.sortedAll_at s.heap its (PySem.W.sortVals (dataKind (PySem.W.sortingHeap (PySem.W.copyHeap s.heap its) (s.heap.objs.size + 1) its) ((ys.zip ds).map Prod.snd)) false its its).toArray
  exact ⟨.ref _, upd H (s.heap.objs.size + 1) (.lst (((ys.zip ds).mergeSort (dataLe false Prod.snd)).map Prod.fst)), I.laid (t' := s.toks) (fun _ _ => PyProof.Rows.sortedAll_old) (Nat.le_succ _) ⟨hlen, _, ep, rz, he'⟩, rfl, q _ _ (I.hok.fresh (Nat.le_succ _)) Dz⟩
end
def kSorted : Gm → List Rv → Res Rv := k1 fun G d => match d with
  | .list ds => if sortOk ds then .ok (.new (.lst (sortD ds))) G else .bad
  | .tuple ds => if sortOk ds then .ok (.new (.lst (sortD ds))) G else .bad
  | _ => .bad
section
variable {K : PySem.W.Frag} {XR : XRt} {E : XK}
theorem snd_sorted : SndL K XR E (rSortA K) kSorted := snd_k1 fun σ H M H0 M0 G G0 ft ft0 a v d Q S P R e w => by
  split at w
  · obtain ⟨p, xs, rfl, e2, g⟩ := rd_list S e R
    split at w
    · rename_i so
      exact ⟨M, p, xs, _, rfl, .inl (SqL.of e2), S.sub, g, so, fun l zs hl D => w.lst S P D hl⟩
    · exact w.elim
  · obtain ⟨p, xs, rfl, e2, g⟩ := rd_tup S e R
    split at w
    · rename_i so
      exact ⟨M, p, xs, _, rfl, .inr (S.sub.sqT e2), S.sub, g, so, fun l zs hl D => w.lst S P D hl⟩
    · exact w.elim
  · exact w.elim
end
end Fx
/-! FxS: a lambda as a key: its body, pure -/
namespace Fx
open PySem PySem.Spec
open PyProof.Rows L2
open PySem.W (EachIs AllAlike Sortable SortsAt dataKind dataLe dataLt alike alikeAll KeyPure)
/-- e gives the datum d wherever all of s₀ is kept, and keeps all -/
def KP (prog : Program) (w : World) (A : Around) (env : Env) (s₀ : Shared) (e : Expr) (d : PyData) : Prop :=
  ∀ (E : Value → Shared → Prop) (h : Heap) (tk : Nat), (∀ b o, s₀.heap.get? b = some o → h.get? b = some o) → wpAny (model prog w) A (eval e env) (KeyPure d { s₀ with heap := h, toks := tk }) E { s₀ with heap := h, toks := tk }
section
variable {prog : Program} {w : World} {A : Around} {env : Env} {s₀ : Shared}
theorem kp_local {x : Str} {pos : Pos} {m : Str → Option Value} {v : Value} {d : PyData} (hk : env.scope.kind = .function) (hl : env.kindOf x = some .local) (hn : s₀.heap.Ns env.locals m) (hv : m x = some v) (hr : Reads s₀.heap v d [])
    (hd : (x == ("__debug__" : Str)) = false := by decide) : KP prog w A env s₀ (.Name x pos) d := fun E h tk k =>
  wpAny_Name (wpAny_loadName_local hk hl (hn.keeps k) hv ⟨h, tk, rfl, fun _ _ e => e, PyProof.Rows.Reads.keeps k hr⟩) hd
theorem kp_free {x : Str} {pos : Pos} {c : Addr} {v : Value} {d : PyData} (hk : env.scope.kind = .function) (hl : env.kindOf x = some .free) (hc : env.cells.lookup x = some c) (hi : s₀.heap.IsCell c (some v)) (hr : Reads s₀.heap v d [])
    (hd : (x == ("__debug__" : Str)) = false := by decide) (hcd : (x == ("__classdict__" : Str)) = false := by decide) : KP prog w A env s₀ (.Name x pos) d := fun E h tk k =>
  wpAny_Name (wpAny_loadName_free hk hl hc (show Heap.IsCell h c (some v) from let ⟨o, ho, q⟩ := hi; ⟨o, k _ _ ho, q⟩) ⟨h, tk, rfl, fun _ _ e => e, PyProof.Rows.Reads.keeps k hr⟩ hcd) hd
theorem KeyPure.run {k d : PyData} {s : Shared} {v : Value} {s1 s2 : Shared} (h : KeyPure k s v s1) (h2 : KeyPure d s1 v s2) : KeyPure d s v s2 := by
  obtain ⟨h1, t1, rfl, k1, _⟩ := h
  obtain ⟨h2, t2, rfl, k2, r2⟩ := h2
  exact ⟨h2, t2, rfl, fun b o e => k2 b o (k1 b o e), r2⟩
theorem kp_neg {e : Expr} {pos : Pos} {i : Int} (h : KP prog w A env s₀ e (.int i)) : KP prog w A env s₀ (.UnaryOp .USub e pos) (.int (-i)) := fun E hp tk k => by
  refine UnaryOp_ (wpAny_mono (h E hp tk k) (fun v s1 hv => ?_) fun _ _ x => x)
  obtain ⟨h1, t1, rfl, k1, r1⟩ := hv
  cases r1
  exact P.neg_int ⟨h1, t1 + 1, rfl, k1, .int _ _⟩
theorem readsAll_at {h : Heap} : ∀ {vs : List Value} {ds : List PyData} {as : List Addr}, ReadsAll h vs ds as → as = [] → ∀ {j : Nat} {d : PyData}, ds[j]? = some d → ∃ v, vs[j]? = some v ∧ Reads h v d []
  | _, _, _, .nil, _, _, _, e => by cases e
  | _, _, _, .cons (as := a1) (bs := b1) r rr, ea, j, d, e => by
    obtain ⟨rfl, rfl⟩ := List.append_eq_nil_iff.mp ea
    cases j with
    | zero => cases e; exact ⟨_, rfl, r⟩
    | succ j => exact readsAll_at rr rfl (by simpa using e)
theorem kp_idx {a b : Expr} {pos : Pos} {ds : List PyData} {i : Int} {d : PyData} (ha : KP prog w A env s₀ a (.tuple ds)) (hb : KP prog w A env s₀ b (.int i)) (hi : atI ds i = some d) (hz : ds.length ≤ sizeLine) (hs : PlainIx b) : KP prog w A env s₀ (.Subscript a b pos) d := fun E hp tk k => by
  refine Subscript_ (wpAny_mono (ha E hp tk k) (fun v s1 hv => ?_) fun _ _ x => x)
  obtain ⟨h1, t1, rfl, k1, r1⟩ := hv
  refine wpAny_mono (hb E h1 t1 fun b o e => k1 b o (k b o e)) (fun u s2 hu => ?_) fun _ _ x => x
  obtain ⟨h2, t2, rfl, k2, r2⟩ := hu
  cases r2
  have r1' := PyProof.Rows.Reads.keeps k2 r1
  generalize ea : ([] : List Addr) = as at r1'
  cases r1' with
  | @tuple l o its n _ _ e1 e2 e3 e4 =>
    obtain ⟨j, q1, q2, q3, q4, q5⟩ := atI_get hi
    obtain ⟨x, ex, rx⟩ := readsAll_at e4 ea.symm q2
    have hl : its.toList.length = ds.length := PySem.SeqAt.ReadsAll.length _ _ _ e4
    have hn := line63
    have pl : Heap.IsTuple h2 l its := ⟨o, e1, e2, n, e3⟩
    exact subscriptTail_builtinR (x := x) (show Shared.TypeIs { s₀ with heap := h2, toks := t2 } (.ref l) "tuple" from ⟨o, e1, e2⟩) slot_tuple_getitem.lookup
      (getItem_tuple (s := { s₀ with heap := h2, toks := t2 }) (j := j) (Q := fun r s' => r = x ∧ KeyPure d { s₀ with heap := hp, toks := tk } r s') pl (by omega) (by omega) (by rw [← Array.length_toList, hl]; exact q1) (by simpa using ex) ⟨rfl, h2, t2, rfl, fun b o e => k2 b o (k1 b o e), rx⟩) (hs _ _)
theorem kp_tup2 {a b : Expr} {x1 : Nat} {pos : Pos} {d d' : PyData} (ha : KP prog w A env s₀ a d) (hb : KP prog w A env s₀ b d') (hs : starEach [a, b] env = [(false, eval a env), (false, eval b env)] := by rfl) : KP prog w A env s₀ (.Tuple [a, b] x1 pos) (.tuple [d, d']) := fun E hp tk k => by
  refine wpAny_Tuple_spliced ?_
  rw [hs]
  show wpAny _ _ (spliced [(false, eval a env), (false, eval b env)]) _ _ _
  refine Calls.spliced_cons (wpAny_mono (ha E hp tk k) (fun v s1 hv => ?_) fun _ _ x => x)
  obtain ⟨h1, t1, rfl, k1, r1⟩ := hv
  refine Calls.spliced_cons (wpAny_mono (hb E h1 t1 fun b o e => k1 b o (k b o e)) (fun u s2 hu => ?_) fun _ _ x => x)
  obtain ⟨h2, t2, rfl, k2, r2⟩ := hu
  refine Calls.spliced_nil ⟨by simp [sizeLine_eq], ?_⟩
  have kp : ∀ b o, h2.get? b = some o → (h2.push { cls := .type "tuple", data := .seq [v, u].toArray }).get? b = some o := fun b o e => Heap.get?_push_of_some _ e
  refine ⟨_, t2, rfl, fun b o e => kp b o (k2 b o (k1 b o e)), ?_⟩
  exact Reads.tuple (Heap.get?_push_size _ rfl) rfl rfl (ReadsAll.cons (as := []) (bs := []) (PyProof.Rows.Reads.keeps (fun b o e => kp b o (k2 b o e)) r1) (ReadsAll.cons (as := []) (bs := []) (PyProof.Rows.Reads.keeps kp r2) .nil))
end
abbrev envL (q : Str) (scope : Scope) (clo : List (Str × Addr)) (L f c' : Addr) : Env := PySem.W.envX q scope L f (.ref c') clo
section
variable {prog : Program} {w : World}
variable {A : Around} {s : Shared}
/-- a lambda of one parameter is called: its body's datum -/
theorem lam_call {f c' : Addr} {q x : Str} {params : Arguments} {body : Expr} {scope : Scope} {clo : List (Str × Addr)} {pm ctv v : Value} {d : PyData} {E : Value → Shared → Prop} (hd : A.depth < recursionLimit)
    (ho : s.heap.get? f = some (PySem.W.kla_obj "<lambda>" q params body scope clo pm c' ctv)) (hk : scope.kind = .function) (hco : scope.isCoroutine = false) (hgen : scope.isGenerator = false) (hcell : ∀ y ∈ scope.names, y.2 ≠ .cell) (hloc : scope.names.lookup x = some .local)
    (hcr : s.heap.CodeRec (.ref c') q) (hb : bindArgs (PySem.W.kla_fn "<lambda>" q params body scope clo pm (.ref c') ctv) ⟨[v], []⟩ = pure [(x, v)]) (hlim : s.heap.NoLimit)
    (hbody : ∀ (h₁ : Heap) (tk : Nat), (∀ b o, s.heap.get? b = some o → h₁.get? b = some o) → h₁.Ns s.heap.objs.size (fun y => ([(x, v)] : List (Str × Value)).reverse.lookup y) →
      KP prog w (A.deeper (envL q scope clo s.heap.objs.size f c')) (envL q scope clo s.heap.objs.size f c') { s with heap := h₁, toks := tk } body d) :
    wpAny (model prog w) A (call (.ref f) [v]) (KeyPure d s) E s := by
  have rc : codeAny (model prog w) A (.call (.ref f) ⟨[v], []⟩) (fun r s' => ∃ u, r = .ok (.ret u) ∧ KeyPure d s u s') s := by
    refine PySem.W.kla_callFunE hd ho rfl hco hgen rfl hcr ?_
    rw [hb]
    refine wpAny_pure (wpAny_newFunctionEnv hcell (fun y hy => ?_) (fun h₁ hns hsb => ⟨hlim.fresh _ hsb, ?_⟩) hk)
    · rw [List.mem_singleton.mp hy]; exact hloc
    · have kp : ∀ b o, s.heap.get? b = some o → h₁.get? b = some o := fun b o e => hsb.extBut b o (Nat.ne_of_lt (Heap.lt_size e)) (Heap.get?_push_of_some _ e)
      show codeAny _ _ (.expr body (envL q scope clo s.heap.objs.size f c')) _ _
      refine PySem.W.kla_codeExpr (wpAny_mono (hbody h₁ 0 kp hns _ h₁ _ fun _ _ e => e) (fun u s' hq => ?_) fun e s' hq => hq)
      obtain ⟨h2, t2, rfl, k2, r2⟩ := hq
      exact ⟨u, rfl, h2, t2, rfl, fun b o e => k2 b o (kp b o e), r2⟩
  refine wpAny_call (codeAny_mono rc fun r s' hq => ?_)
  obtain ⟨u, rfl, hq⟩ := hq
  exact hq
end
end Fx
/-! FxU: sorted(xs, key=lambda x: (-row[x], x)) -/
namespace Fx
open PySem PySem.Spec
open PyProof.Rows L2
open PySem.W (EachIs AllAlike Sortable SortsAt dataKind dataLe dataLt alike alikeAll KeyPure)
/-- what the making of a lambda changes -/
structure LamStp (H H1 : Hp) (q : Str) : Prop where
  keep : ∀ b o, H b = some o → (∀ ps, o ≠ .tbl ps) → H1 b = some o
  tbls : ∀ b ps, H b = some (.tbl ps) → ∃ ps', H1 b = some (.tbl ps')
  tabs : ∀ P', LamX.TabS H P' q → LamX.TabS H1 P' q
theorem LamStp.refl {H : Hp} {q : Str} : LamStp H H q := ⟨fun _ _ e _ => e, fun b ps e => ⟨ps, e⟩, fun _ h => h⟩
section
variable {X : Cx} {pp : List (Addr × Obj)} {τ : L2.St} {Hh : Hp} {sh : Shared}
theorem lam_make {cnt pT : Addr} {prm : Arguments} {bdy : Expr} {scp : Scope} {ps0 : Pos} {ek : Value → Shared → Prop} {Qp : Value → Shared → Prop} (Iv : Inv X pp τ Hh sh) (tb : LamX.TabB X.base X.mg cnt pT) (cdE : X.env.code = .ref cnt)
    (tT : LamX.TabS Hh pT (X.env.qual ++ "<lambda>")) (dfl : defaultsOf prm X.env = ([], [])) (fre : ∀ y ∈ scp.names, y.2 = .free → ∃ cnt, X.env.cells.lookup y.1 = some cnt)
    (goal : ∀ (fn cD : Addr) (pmv ctw : Value) (Hn : Hp) (sh1 : Shared), Inv X pp τ Hn sh1 → LamStp Hh Hn (X.env.qual ++ "<lambda>") →
      sh1.heap.get? fn = some (PySem.W.kla_obj "<lambda>" (X.env.qual ++ "<lambda>") prm bdy scp (cloFrom X.env.cells scp.names []) pmv cD ctw) → sh1.heap.CodeRec (.ref cD) (X.env.qual ++ "<lambda>") → Qp (.ref fn) sh1) :
    wpAny (model X.prog X.w) X.A (eval (.Lambda prm bdy scp ps0) X.env) Qp ek sh := by
  obtain ⟨tbl, atT, tripl, among⟩ := tT
  have tT0 : LamX.TabS Hh pT (X.env.qual ++ "<lambda>") := ⟨tbl, atT, tripl, among⟩
  refine PySem.W.kla_eval dfl ?_
  have bltT : sh.heap.BuiltinsAt X.mg pT := tb.bm.keeps Iv.bk
  have atT2 : sh.heap.get? pT = some { cls := .none, data := .fields tbl } := Iv.hok pT _ atT
  cases hit : codeAmong ps0 tbl.toList with
  | none =>
    refine PySem.W.kla_makeFunction (mg := X.mg) (c := cnt) (P := pT) (ps := tbl) (closure_ok fre) Iv.ok.glob (Iv.mod.glob.keeps Iv.bk) cdE (tb.code.keeps Iv.bk) atT2 tripl hit tb.gP bltT fun cD ctw hp1 tks memH fresh lt1 rec1 tab1 => ?_
    obtain ⟨cD2, oC, fl, tp, eqC, atC, datC, vvC⟩ := rec1
    cases eqC
    have newC : Hh cD = none := Iv.hok.fresh fresh
    have newT : pT ≠ cD := ne_of_none atT newC
    have rec2 : (hp1.push (PySem.W.kla_obj "<lambda>" (X.env.qual ++ "<lambda>") prm bdy scp (cloFrom X.env.cells scp.names []) ((X.mg "__name__").getD .none) cD ctw)).CodeRec (.ref cD) (X.env.qual ++ "<lambda>") := ⟨cD, oC, fl, tp, rfl, Heap.get?_push_of_some _ atC, datC, vvC⟩
    have In1 := LamX.inv_table (t' := tks) (more := #[rawInt ps0.line, rawInt ps0.col, .ref cD]) (h' := hp1.push (PySem.W.kla_obj "<lambda>" (X.env.qual ++ "<lambda>") prm bdy scp (cloFrom X.env.cells scp.names []) ((X.mg "__name__").getD .none) cD ctw)) Iv atT
      (fun ad ob eqb ev => Heap.get?_push_of_some _ (memH ad ob eqb ev)) (Heap.get?_push_of_some _ tab1) fresh ⟨oC, fl, tp, Heap.get?_push_of_some _ atC, datC, vvC⟩
    have eqL : (tbl ++ #[rawInt ps0.line, rawInt ps0.col, .ref cD]).toList = tbl.toList ++ [rawInt ps0.line, rawInt ps0.col, .ref cD] := by simp
    have kp1 : ∀ ad ob, Hh ad = some ob → (∀ tbl, ob ≠ .tbl tbl) → (upd (upd Hh pT (.tbl (tbl ++ #[rawInt ps0.line, rawInt ps0.col, .ref cD]))) cD (LamX.CodeO cD (X.env.qual ++ "<lambda>"))) ad = some ob := fun ad ob ev nt => by
      rw [upd_ne (ne_of_none ev newC), upd_ne (fun zz => nt tbl (Option.some.inj (ev.symm.trans (by rw [zz]; exact atT))))]
      exact ev
    have atT3 : (upd (upd Hh pT (.tbl (tbl ++ #[rawInt ps0.line, rawInt ps0.col, .ref cD]))) cD (LamX.CodeO cD (X.env.qual ++ "<lambda>"))) pT = some (.tbl (tbl ++ #[rawInt ps0.line, rawInt ps0.col, .ref cD])) := by rw [upd_ne newT, upd_same]
    refine goal hp1.objs.size cD ((X.mg "__name__").getD .none) ctw _ _ In1 ⟨kp1, fun ad tbl2 ev => ?_, fun pT2 tT2 => ?_⟩ (Heap.get?_push_size _ rfl) rec2
    · by_cases eqb : ad = pT
      · rw [eqb]; exact ⟨_, atT3⟩
      · exact ⟨tbl2, by rw [upd_ne (ne_of_none ev newC), upd_ne eqb]; exact ev⟩
    · obtain ⟨tbl2, b1, b2, b3⟩ := tT2
      by_cases eqb : pT2 = pT
      · rw [eqb, atT] at b1
        cases b1
        rw [eqb]
        refine ⟨_, atT3, by rw [eqL]; exact PySem.TriplesOk_snoc _ _ _ _ tripl, fun pq cw hcw => ?_⟩
        rw [eqL] at hcw
        rcases LamX.among_app _ tripl hcw with zz | zz
        · obtain ⟨cD0, ev1, eqC⟩ := among pq cw zz
          exact ⟨cD0, ev1, kp1 _ _ eqC LamX.codeO_ne⟩
        · exact ⟨cD, zz, upd_same⟩
      · refine ⟨tbl2, by rw [upd_ne (ne_of_none b1 newC), upd_ne eqb]; exact b1, b2, fun pq cw hcw => ?_⟩
        obtain ⟨cD0, ev1, eqC⟩ := b3 pq cw hcw
        exact ⟨cD0, ev1, kp1 _ _ eqC LamX.codeO_ne⟩
  | some cw =>
    obtain ⟨cD, ev, atC0⟩ := among ps0 cw hit
    subst ev
    obtain ⟨⟨oC, fl, tp, atC, datC0, vvC0⟩, _, _⟩ := Iv.hok cD _ atC0
    refine PySem.W.kla_makeFunctionHit (mg := X.mg) (c := cnt) (P := pT) (ps := tbl) (closure_ok fre) Iv.ok.glob (Iv.mod.glob.keeps Iv.bk) cdE (tb.code.keeps Iv.bk) atT2 tripl hit bltT fun ctw hp1 tks memH szq => ?_
    have In1 : Inv X pp τ Hh { sh with heap := hp1.push (PySem.W.kla_obj "<lambda>" (X.env.qual ++ "<lambda>") prm bdy scp (cloFrom X.env.cells scp.names []) ((X.mg "__name__").getD .none) cD ctw), toks := tks } := Iv.kept fun ad ob ev => Heap.get?_push_of_some _ (memH ad ob ev)
    exact goal hp1.objs.size cD ((X.mg "__name__").getD .none) ctw Hh _ In1 .refl (Heap.get?_push_size _ rfl) ⟨cD, oC, fl, tp, rfl, Heap.get?_push_of_some _ (memH _ _ atC), datC0, vvC0⟩
end
/-- sorted(xs, key=fn) of a list or a tuple -/
theorem sorted_key_seq {pg : Program} {wd : World} {ar : Around} {ek : Value → Shared → Prop} {sh : Shared} {B : Type} {Rel : Value → B → Prop} {fl : List Value} {items : List B} {at0 fn : Addr} {Qp : Value → Shared → Prop} (key : B → PyData) (sqH : sh.heap.IsList at0 fl.toArray ∨ sh.heap.IsTuple at0 fl.toArray) (ev : EachIs Rel fl items) (alk : AllAlike (items.map key)) (srt : Sortable (items.map key)) (short : items.length ≤ sizeLine)
    (units : ∀ xw, xw ∈ items → ar.units + 2 + (key xw).depth < cLine)
    (each : ∀ (vw : Value) (xw : B), Rel vw xw → xw ∈ items → ∀ (goal : Heap) (tks : Nat), (∀ ad ob, sh.heap.get? ad = some ob → goal.get? ad = some ob) →
      wpAny (model pg wd) ar.in1.in1 (call (.ref fn) [vw]) (KeyPure (key xw) { sh with heap := goal, toks := tks }) (fun _ _ => False) { sh with heap := goal, toks := tks })
    (goal : ∀ res cnt hp1 tks, (∀ ad ob, sh.heap.get? ad = some ob → hp1.get? ad = some ob) → hp1.get? (sh.heap.objs.size + 1) = some (seqObj "list" (List.toArray res) cnt) → res.length = items.length → EachIs Rel res (items.mergeSort (dataLe false key)) →
      Qp (.ref (sh.heap.objs.size + 1)) { sh with heap := hp1, toks := tks }) :
    wpAny (model pg wd) ar (call (.builtin "sorted") [.ref at0] [(Str.ofString "key", .ref fn)]) Qp ek sh := by
  have keepUp : ∀ {gh : Heap}, PySem.W.KeepsBut (sh.heap.objs.size + 1) (PySem.W.copyHeap sh.heap fl) gh → ∀ ad ob, sh.heap.get? ad = some ob → gh.get? ad = some ob := fun {gh} kpG ad ob qe =>
    kpG ad ob (Nat.ne_of_lt (Nat.lt_succ_of_lt (Heap.lt_size qe))) (PySem.W.copyHeap_old qe)
  refine sorted_of sqH (by rw [ev.length]; exact short) (ksk_s1 _ _) (fun _ => ksk_l1 _ _) fun ek2 => ?_
  rw [ksk_t1]
  refine PySem.W.keyH_tree (kz := items.map key) (s := { sh with heap := PySem.W.copyHeap sh.heap fl }) (PySem.W.copyHeap_at sh.heap fl) (by rw [List.length_map]; exact ev.length.symm) (by rw [ev.length]; exact short) alk srt (PySem.W.bound_map (A := ar.in1.in1) units)
    (PySem.W.keyH_turns (s := { sh with heap := PySem.W.copyHeap sh.heap fl }) ev fun vw xw relH memH goal tks kpG => each vw xw relH memH goal tks (keepUp kpG)) fun hp1 tks res cnt kpG there keyd => ⟨rfl, ?_⟩
  exact goal res cnt hp1 tks (keepUp kpG) there ((keyd.length (by rw [List.length_map]; exact ev.length.symm)).trans ev.length) (PySem.W.keyedOut_each key keyd ev)
end Fx
/-! FxV: the rule of sorted(xs, key=lambda x: (-row[x], x)) -/
namespace Fx
open PySem PySem.Spec
open PyProof.Rows L2
open PySem.W (EachIs AllAlike Sortable SortsAt dataKind dataLe dataLt alike alikeAll KeyPure)
def keyN (rds : List PyData) (d : PyData) : PyData := match d with
  | .int i => match atI rds i with
    | some (.int x) => .tuple [.int (-x), .int i]
    | _ => .none
  | _ => .none
def negOk (rds ds : List PyData) : Bool := rds.all isIntD && ds.all fun d => neTup (keyN rds d)
def sortN (rds ds : List PyData) : List PyData := ds.mergeSort (dataLe false (keyN rds))
theorem keyN_iff {rds : List PyData} {d : PyData} (h : neTup (keyN rds d) = true) : ∃ i x, d = .int i ∧ atI rds i = some (.int x) ∧ keyN rds d = .tuple [.int (-x), .int i] := by
  unfold keyN at h ⊢
  split at h
  · split at h
    · rename_i i _ x e
      exact ⟨_, _, rfl, e, by first | rfl | (dsimp only; rw [e])⟩
    · cases h
  · cases h
def tSortNeg (K : PySem.W.Frag) (ir : Nat) (ta : TA) : TE := fun σ H Q => ta σ H fun vs H1 => ∃ (M : Hp) (a : Addr) (ys : List V) (ds : List PyData) (b : Addr) (rvs : List V) (rds : List PyData), vs = [.ref a] ∧ (SqL K H1 a ys ∨ SqT K H1 a ys) ∧ Sub M H1 ∧ DdA K M ys ds ∧
  σ[ir]? = some (some (.ref b)) ∧ SqT K M b rvs ∧ DdA K M rvs rds ∧ negOk rds ds = true ∧ TabI K H1 ∧ ∀ H2, LamStp H1 H2 lamQ → ∀ l zs, H2 l = none → DdA K M zs (sortN rds ds) → Q (.ref l) (upd H2 l (.lst zs))
theorem pe_sortNeg {X : Cx} {e : Expr} {ta : TA} {p kp lpos p1 p2 p3 p4 p5 p6 pos : Pos} {x1 : Nat} {rw_ gd : Str} {params : Arguments} {scope : Scope} {c P : Addr} {k ir : Nat} (hr : Room k X.A) (hg : Gl X "sorted") (hm : X.mg "sorted" = none) (TB : LamX.TabB X.base X.mg c P) (hcode : X.env.code = .ref c) (hq : X.env.qual ++ "<lambda>" = lamQ)
    (ht : PySem.W.tabIn X.K lamDef = some (c, P)) (hN : X.N[ir]? = some rw_) (hv : X.env.scope.names.lookup rw_ = some .cell) (ha : PA X [e] ta) (hs : starEach [e] X.env = [(false, eval e X.env)] := by rfl)
    (hdef : defaultsOf params X.env = ([], []) := by rfl) (hk : scope.kind = .function := by rfl) (hco : scope.isCoroutine = false := by rfl) (hgen : scope.isGenerator = false := by rfl) (hcell : ∀ y ∈ scope.names, y.2 ≠ .cell := by decide) (hloc : scope.names.lookup gd = some .local := by rfl) (hfr : scope.names.lookup rw_ = some .free := by rfl)
    (hfree : ∀ y ∈ scope.names, y.2 = .free → X.env.scope.names.lookup y.1 = some .cell := by decide)
    (hbind : ∀ (q : Str) (cl : List (Str × Addr)) (pm cv ctv v : Value) (body : Expr), bindArgs (PySem.W.kla_fn "<lambda>" q params body scope cl pm cv ctv) ⟨[v], []⟩ = pure [(gd, v)] := by intros; rfl)
    (hd1 : (gd == ("__debug__" : Str)) = false := by decide) (hd2 : (rw_ == ("__debug__" : Str)) = false := by decide) (hd3 : (rw_ == ("__classdict__" : Str)) = false := by decide) :
    PE X (.Call (.Name "sorted" p) [e] [⟨some "key", .Lambda params (.Tuple [.UnaryOp .USub (.Subscript (.Name rw_ p1) (.Name gd p2) p3) p4, .Name gd p5] x1 p6) scope lpos, kp⟩] pos) (tSortNeg X.K ir ta) := by
  refine ⟨fun pins s σ H Q I h => ?_⟩
  refine wpAny_Call_Name_kw (ld_blt I hg hm boot_sorted ?_)
  refine PyProof.Rows.callWith_kw (thn (ha.run pos pins s σ H _ I h) fun us s1 ⟨vs, H1, I1, r1, q1⟩ => ?_) (by rw [hs]; rfl) (by rw [hs]; rfl) (by rfl) (by rfl)
  obtain ⟨M, a, ys, ds, b, rvs, rds, rfl, hsq, sub, D, eσ, hb, Dr, ok, tb, q⟩ := q1
  show wpAny _ _ (evalAll [do let v ← eval (.Lambda params _ scope lpos) X.env; standAt pos; pure v]) _ _ s1
  have hfr' : ∀ y ∈ scope.names, y.2 = .free → ∃ c, X.env.cells.lookup y.1 = some c := fun y hy e => I1.ok.has _ (.inl (hfree y hy e))
  refine wpAny_evalAll_cons (wpAny_bind (lam_make I1 TB hcode (by rw [hq]; exact tb c P ht) hdef hfr' fun f c' pm ctv H2 s2 I2 LS hf hcr => wpAny_bind (wpAny_standAt (wpAny_pure (wpAny_evalAll_nil ?_)))))
  show wpAny _ _ (call (.builtin "sorted") us [(Str.ofString "key", .ref f)]) _ _ s2
  rw [hq] at LS
  rw [Vals.ref1 r1]
  have nL : ∀ {xs : List V} {d : Addr}, SqL X.K H1 d xs → SqL X.K H2 d xs := fun {xs d} z => by
    rcases z with z | z
    · rcases z with z | ⟨o, z⟩
      · exact .inl (.inl (LS.keep _ _ z (fun _ y => nomatch y)))
      · exact .inl (.inr ⟨o, LS.keep _ _ z (fun _ y => nomatch y)⟩)
    · exact .inr z
  have nT : ∀ {xs : List V} {d : Addr}, SqT X.K H1 d xs → SqT X.K H2 d xs := fun {xs d} z => by
    rcases z with z | z
    · rcases z with z | ⟨o, z⟩
      · exact .inl (.inl (LS.keep _ _ z (fun _ y => nomatch y)))
      · exact .inl (.inr ⟨o, LS.keep _ _ z (fun _ y => nomatch y)⟩)
    · exact .inr z
  obtain ⟨its, rv, hl, hz⟩ : ∃ its : List Value, Vals ys its ∧ (s2.heap.IsList a its.toArray ∨ s2.heap.IsTuple a its.toArray) ∧ ys.length ≤ sizeLine := by
    rcases hsq with hq | hq
    · obtain ⟨its, rv, pl, hz⟩ := I2.list (nL hq)
      exact ⟨its, rv, .inl pl.isList, hz⟩
    · obtain ⟨its, rv, pl, hz⟩ := I2.tuple (nT hq)
      exact ⟨its, rv, .inr pl, hz⟩
  unfold negOk at ok
  rw [Bool.and_eq_true] at ok
  obtain ⟨okr, okk⟩ := ok
  have eR := each_of rv D
  have es : (ys.zip ds).map Prod.snd = ds := zip_snd D
  have mem : ∀ p ∈ ys.zip ds, p.2 ∈ ds := fun p hp => (List.of_mem_zip (a := p.1) (b := p.2) hp).2
  have key : ∀ p ∈ ys.zip ds, ∃ i x, p.2 = .int i ∧ atI rds i = some (.int x) ∧ keyN rds p.2 = .tuple [.int (-x), .int i] := fun p hp => keyN_iff (List.all_eq_true.mp okk _ (mem p hp))
  -- the row
  obtain ⟨rits, rrv, ⟨ro, ho1, ho2, rn, ho3⟩, rz⟩ := I2.tuple (nT (sub.sqT hb))
  have rdR : Reads s2.heap (.ref b) (.tuple rds) [] := .tuple ho1 ho2 ho3 (by simpa using readsAll_ints Dr rrv okr)
  have rl : rds.length ≤ sizeLine := by rw [← Dr.length]; exact rz
  obtain ⟨m, hns, hlk⟩ := I2.loc
  obtain ⟨ru, rru, rlook⟩ := hlk ir rw_ (.ref b) hN eσ (.inr (.inl hv))
  obtain rfl : ru = Value.ref b := rru
  obtain ⟨rc, hrc, hrcell⟩ : ∃ rc, X.env.cells.lookup rw_ = some rc ∧ s2.heap.IsCell rc (some (.ref b)) := by
    rcases rlook with ⟨z, _⟩ | ⟨_, z⟩
    · have z' : X.env.scope.names.lookup rw_ = some .local := z
      rw [hv] at z'; cases z'
    · exact z
  have hclo : (cloFrom X.env.cells scope.names []).lookup rw_ = some rc := by
    obtain ⟨c2, h2⟩ := mem_lookup (cloFrom_has (cells := X.env.cells) (acc := []) (PySem.mem_of_lookup hfr))
    rcases cloFrom_mem (PySem.mem_of_lookup h2) with z | ⟨_, z⟩
    · cases z
    · rw [h2, z, hrc]; rfl
  have hkeys : ∀ (p : V × PyData), p ∈ ys.zip ds → okS (keyN rds p.2) = true := fun p hp => by
    obtain ⟨i, x, _, _, e3⟩ := key p hp
    rw [e3]; rfl
  have hun := hr.units
  refine sorted_key_seq (Rel := fun u (p : V × PyData) => L2.RelV p.1 u) (fun p => keyN rds p.2) hl eR (fun d hd d' hd' => ?_) (.inl fun d hd => ?_) (by rw [List.length_zip, ← D.length, Nat.min_self]; exact hz) (fun p hp => ?_) (fun v p hR hp h tk kp => ?_) fun out cc h' tk kp he _ eo => ?_
  · obtain ⟨p, hp, rfl⟩ := List.mem_map.mp hd
    obtain ⟨p', hp', rfl⟩ := List.mem_map.mp hd'
    obtain ⟨i, x, _, _, e3⟩ := key p hp
    obtain ⟨i', x', _, _, e3'⟩ := key p' hp'
    rw [e3, e3']
    simp [alike, alikeAll]
  · obtain ⟨p, hp, rfl⟩ := List.mem_map.mp hd
    obtain ⟨i, x, _, _, e3⟩ := key p hp
    exact ⟨_, _, e3⟩
  · have := okS_depth (hkeys p hp)
    show X.A.units + 2 + (keyN rds p.2).depth < cLine
    omega
  · obtain ⟨i, x, e1, e2, e3⟩ := key p hp
    obtain ⟨tk0, rfl⟩ : ∃ tk0, v = .int i tk0 := by
      have dd := zip_dd D p hp
      rw [e1] at dd
      have hR' : L2.RelV p.1 v := hR
      generalize p.1 = pv at dd hR'
      cases dd
      exact hR'
    show wpAny _ _ _ (KeyPure (keyN rds p.2) _) _ _
    rw [e3]
    have lim : Heap.NoLimit h := I2.nolimit.keeps kp
    obtain ⟨cr1, oc, cvs, ct, cr2, cr3, cr4, cr5⟩ := hcr
    refine lam_call (s := { s2 with heap := h, toks := tk }) (x := gd) (show X.A.in1.in1.depth < recursionLimit from hr.depth) (kp _ _ hf) hk hco hgen hcell hloc ⟨cr1, oc, cvs, ct, cr2, kp _ _ cr3, cr4, cr5⟩ (hbind _ _ _ _ _ _ _) lim fun h₁ tk1 kp1 hns1 => ?_
    have lg : KP X.prog X.w (X.A.in1.in1.deeper (envL (X.env.qual ++ "<lambda>") scope (cloFrom X.env.cells scope.names []) h.objs.size f c')) (envL (X.env.qual ++ "<lambda>") scope (cloFrom X.env.cells scope.names []) h.objs.size f c') { s2 with heap := h₁, toks := tk1 } (.Name gd p2) (.int i) :=
      kp_local (v := .int i tk0) hk hloc hns1 (by simp) (.int _ _) hd1
    have lg5 : KP X.prog X.w (X.A.in1.in1.deeper (envL (X.env.qual ++ "<lambda>") scope (cloFrom X.env.cells scope.names []) h.objs.size f c')) (envL (X.env.qual ++ "<lambda>") scope (cloFrom X.env.cells scope.names []) h.objs.size f c') { s2 with heap := h₁, toks := tk1 } (.Name gd p5) (.int i) :=
      kp_local (v := .int i tk0) hk hloc hns1 (by simp) (.int _ _) hd1
    have lr : KP X.prog X.w (X.A.in1.in1.deeper (envL (X.env.qual ++ "<lambda>") scope (cloFrom X.env.cells scope.names []) h.objs.size f c')) (envL (X.env.qual ++ "<lambda>") scope (cloFrom X.env.cells scope.names []) h.objs.size f c') { s2 with heap := h₁, toks := tk1 } (.Name rw_ p1) (.tuple rds) :=
      kp_free (v := .ref b) (c := rc) hk hfr hclo (by obtain ⟨o, q1, q2⟩ := hrcell; exact ⟨o, kp1 _ _ (kp _ _ q1), q2⟩) (PyProof.Rows.Reads.keeps (fun b o z => kp1 b o (kp b o z)) rdR) hd2 hd3
    exact kp_tup2 (kp_neg (kp_idx lr lg e2 rl (fun _ _ => rfl))) lg5
  · have rz2 := vals_of_each eo
    have pm := List.mergeSort_perm (ys.zip ds) (dataLe false fun (p : V × PyData) => keyN rds p.2)
    have Dz : DdA X.K M (((ys.zip ds).mergeSort (dataLe false fun (p : V × PyData) => keyN rds p.2)).map Prod.fst) (sortN rds ds) := by
      have e : ((ys.zip ds).mergeSort (dataLe false fun (p : V × PyData) => keyN rds p.2)).map Prod.snd = sortN rds ds := by
        unfold sortN
        have q2 := PySem.W.sort_maps (l := ys.zip ds) (r := dataLe false fun (p : V × PyData) => keyN rds p.2) (s := dataLe false (keyN rds)) Prod.snd (fun a _ b _ => rfl)
        rw [q2, es]
      rw [← e]
      exact ddA_of fun p hp => zip_dd D p (pm.mem_iff.mp hp)
    have hlen : (((ys.zip ds).mergeSort (dataLe false fun (p : V × PyData) => keyN rds p.2)).map Prod.fst).length ≤ sizeLine := by
      rw [List.length_map, pm.length_eq, List.length_zip, ← D.length, Nat.min_self]
      exact hz
    exact ⟨.ref _, upd H2 (s2.heap.objs.size + 1) (.lst (((ys.zip ds).mergeSort (dataLe false fun (p : V × PyData) => keyN rds p.2)).map Prod.fst)), I2.laid (t' := tk) kp (Nat.le_succ _) ⟨hlen, _, cc, rz2, he⟩, rfl, q _ LS _ _ (I2.hok.fresh (Nat.le_succ _)) Dz⟩
end Fx
/-! FxW: sorted by a lambda, by function -/
namespace Fx
open PySem PySem.Spec
open PyProof.Rows L2
section
variable {K : PySem.W.Frag} {σ : L2.St} {G : Gm} {H M H2 : Hp} {ft : Nat → List Addr}
theorem LamStp.there {H1 H2 : Hp} {q : Str} (LS : LamStp H1 H2 q) : ∀ a o, H1 a = some o → ∃ o', H2 a = some o' := fun a o e => by
  by_cases h : ∃ ps, o = .tbl ps
  · obtain ⟨ps, rfl⟩ := h
    obtain ⟨ps', h⟩ := LS.tbls a ps e
    exact ⟨_, h⟩
  · exact ⟨o, LS.keep a o e fun ps z => h ⟨ps, z⟩⟩
theorem LamStp.sub (LS : LamStp H H2 lamQ) (S : SI K σ H M G ft) : Sub M H2 := fun a o e => LS.keep a o (S.sub a o e) fun ps z => S.tab.2 a ps (by rw [e, z])
theorem SI.lam (S : SI K σ H M G ft) (LS : LamStp H H2 lamQ) : SI K σ H2 M G ft where
  len := S.len
  sub := LS.sub S
  slot := fun i s e => (S.slot i s e).keep (Sub.refl _) (fun a ha o q nt => LS.keep a o q nt) fun a ha => (S.owned ha).1
  tab := ⟨fun c P q => LS.tabs P (S.tab.1 c P q), S.tab.2⟩
  out := S.out
  disj := S.disj
theorem Stp.lam (LS : LamStp H H2 lamQ) : Stp σ G H M ft σ G H2 M ft :=
  ⟨Sub.refl _, fun _ _ e => .inl e, fun a o e nt _ => LS.keep a o e nt, LS.tbls, fun K t c P q => LS.tabs P (t c P q), LS.there, fun i _ h => .inl ⟨i, h⟩, fun a xs e => LS.keep a _ e (fun _ z => nomatch z), rfl, fun _ o e => ⟨rfl, rfl, o, e⟩, fun _ _ e => ⟨rfl, rfl, e⟩⟩
end
def kSortNeg (ir : Nat) (G : Gm) : List Rv → Res Rv
  | [r] => match rd G r, G[ir]? with
    | some (.list ds), some (.d (.tuple rds)) => if negOk rds ds then .ok (.new (.lst (sortN rds ds))) G else .bad
    | some (.tuple ds), some (.d (.tuple rds)) => if negOk rds ds then .ok (.new (.lst (sortN rds ds))) G else .bad
    | _, _ => .bad
  | _ => .bad
def fSortNeg (ir : Nat) (fs : Gm → Res (List Rv)) : Gm → Res Rv := fun G => (fs G).bind fun rs G1 => kSortNeg ir G1 rs
theorem fe_sortNeg {X : Cx} {XR : XRt} {E : XK} {e : Expr} {fe : Gm → Res Rv} {p kp lpos p1 p2 p3 p4 p5 p6 pos : Pos} {x1 : Nat} {rw_ gd : Str} {params : Arguments} {scope : Scope} {c P : Addr} {k ir : Nat} (hr : Room k X.A) (hg : Gl X "sorted") (hm : X.mg "sorted" = none) (TB : LamX.TabB X.base X.mg c P) (hcode : X.env.code = .ref c) (hq : X.env.qual ++ "<lambda>" = lamQ)
    (ht : PySem.W.tabIn X.K lamDef = some (c, P)) (hN : X.N[ir]? = some rw_) (hv : X.env.scope.names.lookup rw_ = some .cell) (ha : PE X e (tFE X.K XR E fe)) (hs : starEach [e] X.env = [(false, eval e X.env)] := by rfl)
    (hdef : defaultsOf params X.env = ([], []) := by rfl) (hk : scope.kind = .function := by rfl) (hco : scope.isCoroutine = false := by rfl) (hgen : scope.isGenerator = false := by rfl) (hcell : ∀ y ∈ scope.names, y.2 ≠ .cell := by decide) (hloc : scope.names.lookup gd = some .local := by rfl) (hfr : scope.names.lookup rw_ = some .free := by rfl)
    (hfree : (scope.names.all fun y => !decide (y.2 = .free) || decide (X.env.scope.names.lookup y.1 = some .cell)) = true := by rfl)
    (hbind : ∀ (q : Str) (cl : List (Str × Addr)) (pm cv ctv v : Value) (body : Expr), bindArgs (PySem.W.kla_fn "<lambda>" q params body scope cl pm cv ctv) ⟨[v], []⟩ = pure [(gd, v)] := by intros; rfl)
    (hd1 : (gd == ("__debug__" : Str)) = false := by decide) (hd2 : (rw_ == ("__debug__" : Str)) = false := by decide) (hd3 : (rw_ == ("__classdict__" : Str)) = false := by decide) :
    PE X (.Call (.Name "sorted" p) [e] [⟨some "key", .Lambda params (.Tuple [.UnaryOp .USub (.Subscript (.Name rw_ p1) (.Name gd p2) p3) p4, .Name gd p5] x1 p6) scope lpos, kp⟩] pos) (tFE X.K XR E (fSortNeg ir (fCons fe fNil))) :=
  PE.le (pe_sortNeg hr hg hm TB hcode hq ht hN hv (fa_cons ha fa_nil hs) hs hdef hk hco hgen hcell hloc hfr (fun y hy e => by have q := List.all_eq_true.mp hfree y hy; simpa [e] using q) hbind hd1 hd2 hd3) fun σ H Q ⟨M, G, ft, S, w⟩ =>
    bindAE S .refl w fun rs G1 vs H1 M1 ft1 _ S1 P1 R1 w1 => by
      unfold kSortNeg at w1
      split at w1
      · rename_i r
        obtain ⟨v, rfl, Rv1⟩ := R1.one
        split at w1
        · rename_i ds rds e1 e2
          split at w1
          · rename_i ok
            obtain ⟨q, xs, rfl, h2, g⟩ := rd_list S1 e1 Rv1
            obtain ⟨_, u, h3, h4⟩ := S1.slot ir _ e2
            cases h4 with
            | tup h5 h6 => exact ⟨M1, q, xs, ds, _, _, rds, rfl, .inl (SqL.of h2), S1.sub, g, h3, h5, h6, ok, S1.tab.1, fun H2 LS l zs hl D => w1.lst (S1.lam LS) (P1.trans (.lam LS)) D hl⟩
          · exact w1.elim
        · rename_i ds rds e1 e2
          split at w1
          · rename_i ok
            obtain ⟨q, xs, rfl, h2, g⟩ := rd_tup S1 e1 Rv1
            obtain ⟨_, u, h3, h4⟩ := S1.slot ir _ e2
            cases h4 with
            | tup h5 h6 => exact ⟨M1, q, xs, ds, _, _, rds, rfl, .inr (S1.sub.sqT h2), S1.sub, g, h3, h5, h6, ok, S1.tab.1, fun H2 LS l zs hl D => w1.lst (S1.lam LS) (P1.trans (.lam LS)) D hl⟩
          · exact w1.elim
        · exact w1.elim
      · exact w1.elim
end Fx
/-! FxX: try with several clauses 'except x as n' -/
namespace Fx
open PySem PySem.Spec
open PyProof.Rows L2
/-- a clause: its class, its name's slot, its suite -/
abbrev Clause := Value × Nat × (Addr → Value → Option Addr → TS)
def endsAs (i : Nat) (D : Ends) : Ends := { nx := fun σ' H' => D.nx (σ'.set i none) H', rt := D.rt, bk := fun σ' H' => D.bk (σ'.set i none) H', ct := fun σ' H' => D.ct (σ'.set i none) H' }
def wClauses (K : PySem.W.Frag) (Wout : WX) (D : Ends) : List Clause → WX
  | [] => Wout
  | (c, i, ts) :: r => fun cls d σ H => ∃ b, PySem.W.exmOne K cls c = some b ∧ (b = true → ∀ a, H a = none → ts a cls d (endsAs i D) (σ.set i (some (.ref a))) H) ∧ (b = false → wClauses K Wout D r cls d σ H)
inductive ClausesOk (X : Cx) : List ExceptHandler → List Clause → Prop
  | nil : ClausesOk X [] []
  | cons {nm as_ : Str} {cl : Value} {sl : Nat} {tS : Addr → Value → Option Addr → TS} {b0 : Stmt} {su : List Stmt} {npos posE : Pos} {hds : List ExceptHandler} {l : List Clause} (atI : X.N[sl]? = some as_) (loc : X.env.kindOf as_ = some .local) (nmd : Names X nm cl)
      (run : ∀ (ea : Addr) (ob : Obj) (kl : Value) (dct : Option Addr) (pn : List (Addr × Obj)), Zc kl dct ob → (∃ fld, ob.data = .fields fld) → PSs (X.suite ea ((ea, ob) :: pn)) (b0 :: su) (tS ea kl dct)) (rs : ClausesOk X hds l) :
      ClausesOk X (.ExceptHandler (some (.Name nm npos)) (some as_) (b0 :: su) posE :: hds) ((cl, sl, tS) :: l)
theorem ps_try_clauses {X : Cx} {body : List Stmt} {h₀ : ExceptHandler} {hds : List ExceptHandler} {l : List Clause} {pos : Pos} {tb : WX → TS} {Wout : WX} (stE : X.stack = X.env :: X.outer) (frE : X.env.frame = some X.env.locals) (ndN : X.N.Nodup) (tks : Takes X Wout)
    (bodyOk : ∀ (W : WX) (pn : List (Addr × Obj)) (xe : Value → Shared → Prop), Takes (X.tr pn xe) W → PassesOwn (model X.prog X.w) X.A X.env xe → PSs (X.tr pn xe) body (tb W))
    (hdsOk : ClausesOk X (h₀ :: hds) l) : PS X (.Try body (h₀ :: hds) [] [] pos) (fun En τ Hh => tb (wClauses X.K Wout En l) En τ Hh) := by
  refine ⟨fun pp sh τ Hh En Iv pre => ?_⟩
  have good := Iv.ok
  have stk : X.A.frames = some (X.env :: X.outer) := by rw [good.frames, stE]
  refine wpAny_Try_except ?_
  refine wpAny_mono ((bodyOk (wClauses X.K Wout En l) (X.pn ++ pp) (fun ev t₁ => wpAny (model X.prog X.w) X.A (noteFrame ev X.env) (fun _ t₂ => wpAny (model X.prog X.w) X.A (setFlight ev none) (fun _ t₃ =>
    wpAny (model X.prog X.w) X.A (handleBy ev X.env (h₀ :: hds)) (SP X pp En) X.xe t₃) X.xe t₂) X.xe t₁) (fun uu sh' raised => ?_) PassesOwn.looking).run [] sh τ Hh En (Iv.toTry _) pre) (fun fl sh1 said => ?_) (fun ev sh1 at0 => at0)
  · obtain ⟨ea, Bd, sIn, pp', τ', Hh', kl, dct, rfl, Jr, nbk, upw, sk, nfree, oss, agr, tail⟩ := raised
    have Jn : Inv X pp τ' Hh' sIn := Jr.ofTry good
    have sk' : Sky Bd (X.env :: X.outer) ea (Zc kl dct) X.env.locals sh'.heap := by rw [← stE]; exact sk
    show wpAny (model X.prog X.w) X.A (noteFrame (.ref ea) X.env) _ _ _
    refine Sky.land Zc.steady stk frE sk' fun hp3 fly3 upw3 => ?_
    have Jn3 : Inv X pp τ' Hh' { sh' with heap := hp3 } := Jn.landed nbk fly3.1 (upw.trans upw3) oss agr
    obtain ⟨ob3, fld3, at3, zc3, dat3⟩ := fly3.there
    have offFr : ∀ {pre : Heap} {oo : Obj} {fld : Array Value}, pre.FunFrames Bd (X.env :: X.outer) → pre.get? ea = some oo → oo.data = .fields fld → ea ∉ frs (X.env :: X.outer) := fun {pre oo fld} frm ev ddt mm => by
      obtain ⟨_, ob', ev', nnf⟩ := frm.mem mm
      rw [ev] at ev'; cases ev'
      exact nnf _ ddt
    have off := offFr fly3.2.2.1 at3 dat3
    have offL : ea ≠ X.env.locals := fun z => off (List.mem_filterMap.mpr ⟨X.env, List.mem_cons_self, by rw [frE, z]⟩)
    have offF : ea ∉ X.fs := fun mm => by
      obtain ⟨ev, at0, qq⟩ := List.mem_filterMap.mp mm
      exact off (List.mem_filterMap.mpr ⟨ev, List.mem_cons_of_mem _ at0, qq⟩)
    have Su3 := Jn3.suite at3 dat3 nfree offL offF
    have walk : ∀ {rest : List ExceptHandler} {cls' : List Clause}, ClausesOk X rest cls' → wClauses X.K Wout En cls' kl dct τ' Hh' →
        wpAny (model X.prog X.w) X.A (handleBy (.ref ea) X.env rest) (SP X pp En) X.xe { sh' with heap := hp3 } := by
      intro rest cls' ok2
      induction ok2 with
      | nil =>
        intro tail
        refine wpAny_handleBy_nil ?_
        obtain ⟨q1, q2, q3, ob, fld, Tr, obT, trs, at0, zc0, dat0, e1, er⟩ := id fly3
        unfold PySem.passOn
        refine wpAny_bind (wpAny_field at0 dat0 e1 ?_)
        rw [if_neg (show ¬ ((Value.ref Tr == Value.none) = true) from by simp)]
        have out : wpAny (model X.prog X.w) X.A (setFlight (.ref ea) X.env.frame) (fun _ sh4 => wpAny (model X.prog X.w) X.A (throw (.ref ea) : Sem Flow) (SP X pp En) X.xe sh4) X.xe { sh' with heap := hp3 } := by
          rw [frE]
          refine HandSPX.setFlight_upZ fly3 fun hp4 sit4 upw4 => wpAny_throw (tks _ _ ?_)
          exact ⟨ea, Bd, sIn, pp, τ', Hh', kl, dct, rfl, Jn, nbk, (upw.trans upw3).trans upw4, .inr (.inr (by rw [stE]; exact sit4)), nfree, oss, agr, tail⟩
        first
          | exact wpAny_bind (wpAny_pure (wpAny_bind out))
          | exact wpAny_bind out
      | @cons nm as_ cl sl tS b0 su npos posE more cl2 atI loc nmd run rs hyp =>
        intro tail
        obtain ⟨yes, eb, onY, onN⟩ := tail
        have lo : Loc X.env.scope as_ := .inl loc
        refine wpAny_handleBy_cons (codeAny_handlers_test ?_) (by intro qq; cases qq)
        have lkT : PySem.W.Looks (model X.prog X.w) hp3 (typeOf (.ref ea)) kl := fun A Q E sh kk qq => wpAny_typeOf_ref (kk _ _ at3) (by rw [zc3.1]; exact qq)
        have lkM := PySem.W.exm_one (M := model X.prog X.w) (Jn3.kIn) lkT eb
        have look : ∀ {Q : Value → Shared → Prop} {E : Value → Shared → Prop}, Q cl { sh' with heap := hp3 } → wpAny (model X.prog X.w) (X.A.mark (some (.ref ea))) (eval (.Name nm npos) X.env) Q E { sh' with heap := hp3 } := fun {Q E} qq => by
          obtain ⟨nglob, ndbg, mm | ⟨mm, vv, nnn⟩⟩ := nmd
          · exact ld_glob (X := X.suite ea ((ea, ob3) :: (X.pn ++ pp))) Su3 nglob mm qq ndbg
          · exact ld_blt (X := X.suite ea ((ea, ob3) :: (X.pn ++ pp))) Su3 nglob mm vv qq nnn ndbg
        refine look (lkM.here ?_)
        cases yes with
        | true =>
          apply codeAny_handlers_suite_as
          refine HandSPX.lands_againZ fly3 fun hp4 fly4 upw4 => ?_
          have Jn4 : Inv X pp τ' Hh' { sh' with heap := hp4 } := Jn.landed nbk fly4.1 ((upw.trans upw3).trans upw4) oss agr
          obtain ⟨ob4, fld4, at4, zc4, dat4⟩ := fly4.there
          have Su4 := Jn4.suite at4 dat4 nfree offL offF
          refine store_ok (X := X.suite ea ((ea, ob4) :: (X.pn ++ pp))) (v := .ref ea) Su4 ndN atI lo rfl (fun sh5 Su5 => ?_) (.inr loc)
          refine wpAny_mono ((run ea ob4 kl dct (X.pn ++ pp) zc4 ⟨_, dat4⟩).run [] sh5 _ Hh' _ Su5 (onY rfl ea nfree)) (fun fl sh6 said => ?_) (fun _ _ z => False.elim z)
          have fini : ∀ {τ6 : L2.St} {Hh6 : Hp} {Q : Shared → Prop}, Inv (X.suite ea ((ea, ob4) :: (X.pn ++ pp))) [] τ6 Hh6 sh6 → (∀ sh7, Inv X pp (τ6.set sl none) Hh6 sh7 → Q sh7) →
              wpAny (model X.prog X.w) X.A (do bindName X.env as_ .none; unbindBehindTheSuite X.env as_ posE) (fun _ sh7 => Q sh7) X.xe sh6 := fun {τ6 Hh6 Q} Su6 hq => gone_ok (Su6.unsuite good) ndN atI loc hq
          cases fl with
          | next =>
            obtain ⟨τ6, Hh6, Su6, w6⟩ := said
            exact fini Su6 fun sh7 Jn7 => ⟨_, _, Jn7, w6⟩
          | brk =>
            obtain ⟨τ6, Hh6, Su6, w6⟩ := said
            exact fini Su6 fun sh7 Jn7 => ⟨_, _, Jn7, w6⟩
          | cont =>
            obtain ⟨τ6, Hh6, Su6, w6⟩ := said
            exact fini Su6 fun sh7 Jn7 => ⟨_, _, Jn7, w6⟩
          | ret uu =>
            obtain ⟨u6, τ6, Hh6, Su6, ru6, w6⟩ := said
            exact fini Su6 fun sh7 Jn7 => ⟨_, _, _, Jn7, ru6, w6⟩
        | false =>
          show wpAny _ X.A (handleBy (.ref ea) X.env more) _ _ _
          exact hyp (onN rfl)
    exact walk hdsOk tail
  · cases fl with
    | next =>
      obtain ⟨τ', Hh', Jr, qq⟩ := said
      exact wpAny_execs_nil ⟨τ', Hh', Jr.ofTry good, qq⟩
    | brk =>
      obtain ⟨τ', Hh', Jr, qq⟩ := said
      exact ⟨τ', Hh', Jr.ofTry good, qq⟩
    | cont =>
      obtain ⟨τ', Hh', Jr, qq⟩ := said
      exact ⟨τ', Hh', Jr.ofTry good, qq⟩
    | ret uu =>
      obtain ⟨v, τ', Hh', Jr, rs, qq⟩ := said
      exact ⟨v, τ', Hh', Jr.ofTry good, rs, qq⟩
end Fx
/-! FxY: a suite that asks isinstance(e, F); a def that tells the word of an exception -/
namespace Fx
open PySem PySem.Spec
open PyProof.Rows L2
theorem suite_isi {X : Cx} {a D F : Addr} {i : Nat} {n x m o : Str} {oe : Obj} {cls : Value} {d : Option Addr} {pn : List (Addr × Obj)} {k1 k2 : Nat} {p1 p2 p3 p4 p5 p6 p7 p8 : Pos} (C : ExcC X.K D) (hg : Gl X "isinstance") (hm : X.mg "isinstance" = none) (hgF : Gl X x) (hF : X.mg x = some (.ref F)) (hk : PySem.W.kitOne X.K (.ref D) (.ref F) = some true)
    (hN : X.N[i]? = some n) (hv : Vis X.env.scope n) (hz : Zc cls d oe) (hf : ∃ vs, oe.data = .fields vs) (h1 : (n == ("__debug__" : Str)) = false := by decide) (h2 : (n == ("__classdict__" : Str)) = false := by decide) (h3 : (x == ("__debug__" : Str)) = false := by decide) :
    PSs (X.suite a ((a, oe) :: pn)) [.Return (some (.IfExp (.Call (.Name "isinstance" p1) [.Name n p2, .Name x p3] [] p4) (.Constant (.str m) k1 p5) (.Constant (.str o) k2 p6) p7)) p8] (fun Dn σ H => cls = .ref D ∧ d = none ∧ σ[i]? = some (some (.ref a)) ∧ Dn.rt (.str m) H) :=
  ⟨fun pins s σ H Dn I ⟨e1, e2, e3, q⟩ => by
    subst e1 e2
    have hN' : (X.suite a ((a, oe) :: pn)).N[i]? = some n := hN
    refine (pss_one (ps_ret (pe_ifExp (pt_val (pe_callB (call_isE C hz hf) hg hm boot_isinstance (pa_cons (pe_var (i := i) hN' hv h1 h2) (pa_cons (pe_glob (v := .ref F) hgF hF rfl h3) pa_nil)))) pe_str pe_str))).run pins s σ H Dn I ?_
    exact ⟨.ref a, e3, ⟨.ref F, .ref F, true, rfl, fun u hu => hu, hk, true, rfl, q⟩⟩⟩
/-- how an exception lies: of the class at CM -/
def XRm (CM : Addr) : XRt := fun e cls d _ => match e with
  | .mal => cls = .ref CM ∧ d = none
  | .rf _ => False
def wordF (Fc : Gm → Res Rv) : Gm → Res Rv
  | [.d x] => match Fc [.d x] with
    | .ok _ _ => .ok (.d (.str "none")) [.d x]
    | .ex .mal => .ok (.d (.str "malformed")) [.d x]
    | _ => .bad
  | _ => .bad
theorem no_own {K : PySem.W.Frag} {σ : L2.St} {H M : Hp} {ft : Nat → List Addr} {x : PyData} (S : SI K σ H M [.d x] ft) : ∀ i, ft i = [] := fun i => by
  cases i with
  | zero => exact (S.slot 0 _ rfl).1
  | succ j => exact S.out (j + 1) (by simp)
section
variable {P : Program} {w : World} {K : PySem.W.Frag}
variable {mg : Str → Option Value} {base : Heap}
theorem fn_word {qual : Str} {x xc : Str} {st : Stmt} {f fc : Addr} {fd fdc : FuncData} {psc : List Str} {k : Nat} {Fc : Gm → Res Rv} {CM CF CR : Addr} {k1 k2 k3 : Nat} {p1 p2 p3 p4 p5 p6 p7 p8 p9 p10 p11 p12 p13 p14 p15 p16 p17 p18 p19 : Pos} {suite2 : List Stmt} {b2 : Stmt}
    (F : Fun K x qual st f fd) (S : FnScope ["call", "e"] ["call"] (defScope st)) (okc : FnOk P w K mg base (L2.CX P w) k fc fdc psc (spF K (XRm CM) Fc)) (gc : mg xc = some (.ref fc)) (kc : PySem.W.keepIn K (.ref fc) = true) (bc : Binds K fdc psc [])
    (C : ExcC K CM) (ni : mg "isinstance" = none) (gM : mg "Malformed" = some (.ref CM)) (gF : mg "Fault" = some (.ref CF)) (gR : mg "Refused" = some (.ref CR)) (kk : PySem.W.kitOne K (.ref CM) (.ref CF) = some true) (xm : PySem.W.exmOne K (.ref CM) (.ref CM) = some true)
    (hxc : (defScope st).names.lookup xc = some .globalImplicit) (h1 : (defScope st).names.lookup (Str.ofString "isinstance") = some .globalImplicit) (h2 : (defScope st).names.lookup (Str.ofString "Malformed") = some .globalImplicit) (h3 : (defScope st).names.lookup (Str.ofString "Fault") = some .globalImplicit) (h4 : (defScope st).names.lookup (Str.ofString "Refused") = some .globalImplicit) (he : (defScope st).names.lookup (Str.ofString "e") = some .local) (hcl : (defScope st).names.lookup (Str.ofString "call") = some .local)
    (hst : defBody st = [.Try [.Expr (.Call (.Name xc p1) [.Name "call" p2] [] p3) p4] [.ExceptHandler (some (.Name "Malformed" p5)) (some "e") [.Return (some (.IfExp (.Call (.Name "isinstance" p6) [.Name "e" p7, .Name "Fault" p8] [] p9) (.Constant (.str "malformed") k1 p10) (.Constant (.str "other") k2 p11) p12)) p13] p14,
      .ExceptHandler (some (.Name "Refused" p15)) (some "e") (b2 :: suite2) p16] [] [] p17, .Return (some (.Constant (.str "none") k3 p18)) p19]) (hdb : (xc == ("__debug__" : Str)) = false) : FnOk P w K mg base (L2.CX P w) (k + 1) f fd ["call"] (spF K (XRm CM) (wordF Fc)) := by
  have hsp : ∀ vs H Q E, spF K (XRm CM) (wordF Fc) vs H Q E → ∃ v d M ft, vs = [v] ∧ SI K [some v] H M [.d d] ft ∧ WP K (XRm CM) E (ROv K [some v]) [some v] [.d d] H M ft (wordF Fc [.d d]) Q := fun vs H Q E ⟨M, As, ft, S, h⟩ => by
    unfold wordF at h
    split at h
    · rename_i d
      have hl : vs.length = 1 := by have := S.len; simpa using this
      match vs, hl with
      | [v], _ => exact ⟨v, d, M, ft, rfl, S, h⟩
    · exact h.elim
  refine F.okX S (fun vs H Q E h => by obtain ⟨v, d, M, ft, rfl, _⟩ := hsp vs H Q E h; rfl) (fun cdv A outer s H vs Q E hr h => ?_)
  obtain ⟨v, d, M, ft, rfl, S0, h0⟩ := hsp vs H Q E h
  rw [hst]
  have nd := S.nd
  refine ⟨_, pss_cons (ps_try_clauses (l := [(.ref CM, 1, fun a cls d' Dn σ H => cls = .ref CM ∧ d' = none ∧ σ[1]? = some (some (.ref a)) ∧ Dn.rt (.str "malformed") H), (.ref CR, 1, fun _ _ _ => tNever)]) rfl rfl nd (takes_of rfl rfl rfl rfl)
    (fun W pn xe tk _ => pss_one (ps_expr (pe_callS (E := WE W) okc hr hxc gc kc bc (fun σ => passAt tk σ) (pa_cons (pe_var (i := 0) rfl (.inl hcl)) pa_nil) hdb)))
    (.cons (sl := 1) rfl he ⟨h2, by decide, .inl gM⟩ (fun a oe cls d' pn hz hf => suite_isi (X := cxOf (L2.CX P w) P w K mg base ["call", "e"] qual (defScope st) f cdv A outer s H E) C h1 ni h3 gF kk (i := 1) rfl (.inl he) hz hf) (.cons (sl := 1) rfl he ⟨h4, by decide, .inl gR⟩ (fun a oe cls d' pn hz hf => pss_never) .nil)))
    (pss_one (ps_ret pe_str)), ?_⟩
  have nft := no_own S0
  have hs0 := S0.slot 0 _ rfl
  obtain ⟨_, v', ev, Dv⟩ := hs0
  cases ev
  -- behind the call
  show ∃ u, (L2.start ["call", "e"] [v])[0]? = some (some u) ∧ _
  refine ⟨v, rfl, ?_⟩
  refine ⟨M, [.d d], ft, S0, ?_⟩
  replace h0 : WP K (XRm CM) E (ROv K [some v]) [some v] [.d d] H M ft (match Fc [.d d] with
    | .ok _ _ => .ok (.d (.str "none")) [.d d]
    | .ex .mal => .ok (.d (.str "malformed")) [.d d]
    | _ => .bad) Q := h0
  cases ec : Fc [.d d] with
  | bad => rw [ec] at h0; exact h0.elim
  | ok r G' =>
    rw [ec] at h0
    intro u H' M' ft' S' P' R'
    have SF : SI K [some v] H' M' [.d d] (fun _ => []) := {
      len := rfl
      sub := S'.sub
      slot := fun i s e => by
        cases i with
        | zero => cases e; exact ⟨rfl, v, rfl, Dv.mono P'.mono⟩
        | succ j => cases e
      tab := S'.tab
      out := fun _ _ => rfl
      disj := fun i j a h => by cases h }
    exact h0 (.str "none") H' M' (fun _ => []) SF ⟨P'.mono, P'.new, P'.frame, P'.tbls, P'.tab, P'.there, fun i a z => (by cases z), P'.tups, rfl, fun i o e => (by cases i with | zero => cases e | succ j => cases e), fun i o e => (by cases i with | zero => cases e | succ j => cases e)⟩ (Dd.str _)
  | ex e =>
    rw [ec] at h0
    cases e with
    | rf r => exact h0.elim
    | mal =>
      intro cls d' H' hx fr
      obtain ⟨rfl, rfl⟩ := hx
      refine ⟨true, xm, fun _ a na => ⟨rfl, rfl, rfl, ?_⟩, fun z => (by cases z)⟩
      have subM : Sub M H' := fun b o e => fr.1 b o (S0.sub b o e) (fun ps z => S0.tab.2 b ps (by rw [e, z])) fun i z => (by rw [nft i] at z; cases z)
      have SF : SI K [some v] H' M [.d d] ft := {
        len := rfl
        sub := subM
        slot := fun i s e => by
          cases i with
          | zero => cases e; exact ⟨nft 0, v, rfl, Dv⟩
          | succ j => cases e
        tab := ⟨fr.2.2.1 K S0.tab.1, S0.tab.2⟩
        out := S0.out
        disj := S0.disj }
      exact h0 (.str "malformed") H' M ft SF ⟨Sub.refl _, fun _ _ e => .inl e, fun b o e nt _ => fr.1 b o e nt fun i z => (by rw [nft i] at z; cases z), fr.2.2.2, fr.2.2.1, fr.2.1, fun i a z => (by rw [nft i] at z; cases z), fun b xs e => fr.1 b _ e (fun _ z => nomatch z) fun i z => (by rw [nft i] at z; cases z), rfl, fun i o e => (by cases i with | zero => cases e | succ j => cases e), fun i o e => (by cases i with | zero => cases e | succ j => cases e)⟩ (Dd.str _)
end
section
variable {P : Program} {w : World} {K : PySem.W.Frag}
variable {mg : Str → Option Value} {base : Heap} {XR : XRt}
/-- a def's body as a function, the code object told -/
theorem fn_mkXc {x qual : Str} {st : Stmt} {f : Addr} {fd : FuncData} {N ps : List Str} {k n m : Nat} {fb : Gm → Res Out} (F : Fun K x qual st f fd) (S : FnScope N ps (defScope st)) (hn : ps.length = n) (hm : N.length = n + m)
    (hbody : ∀ (cdv : Value), fd.code = cdv → ∀ (A : Around) (outer : List Env) (s : Shared) (H : Hp) (E : XK), Room k (A.deeper (envOfC qual (defScope st) s.heap.objs.size f cdv)) →
      PSs (cxOf (L2.CX P w) P w K mg base N qual (defScope st) f cdv A outer s H E) (defBody st) (tFS K XR E fb)) : FnOk P w K mg base (L2.CX P w) (k + 1) f fd ps (spF K XR (runDef n m fb)) := by
  have lenOf : ∀ vs H Q E, spF K XR (runDef n m fb) vs H Q E → vs.length = n ∧ ∃ M As ft, SI K (vs.map some) H M As ft ∧ As.all argSl = true ∧ WP K XR E (ROv K (vs.map some)) (vs.map some) As H M ft (endDef As (fb (As ++ List.replicate m .no))) Q := fun vs H Q E ⟨M, As, ft, S, h⟩ => by
    unfold runDef at h
    split at h
    · rename_i c
      simp only [Bool.and_eq_true, decide_eq_true_eq] at c
      have := S.len
      rw [List.length_map] at this
      exact ⟨this.trans c.1, M, As, ft, S, c.2, h⟩
    · exact h.elim
  obtain ⟨ocl, od, kV, doc, pm, an, cdv, ct, osl, rfl, lk, hcd⟩ := F.ex
  refine fn_of lk hcd S (fun vs H Q E h => by rw [hn]; exact (lenOf vs H Q E h).1) fun A outer s H vs Q E hr h => ?_
  obtain ⟨hl, M, As, ft, S2, hA, h2⟩ := lenOf vs H Q E h
  refine ⟨_, hbody cdv rfl A outer s H E hr, ?_⟩
  have es : L2.start N vs = vs.map some ++ List.replicate m none := by
    unfold L2.start
    rw [hm, hl, Nat.add_sub_cancel_left]
  rw [es]
  exact def_end S2 hA h2
theorem pe_globI {X : Cx} {x : Str} {pos : Pos} {i : Int} (hg : Gl X x) (hm : ∃ t, X.mg x = some (.int i t)) (hd : (x == ("__debug__" : Str)) = false := by decide) : PE X (.Name x pos) (tC (.int i)) := by
  obtain ⟨t, hm⟩ := hm
  exact pe_glob hg hm ⟨_, rfl⟩ hd
end
end Fx
namespace D71
open PySem PySem.Spec PyProof.Rows L2 Fx
def wfuel : Nat := 1000
def f_is_whole : Gm → Res Out := (sRet (fAnd (fUn (kIsi "int") (fVar 0)) (fNot (fUn (kIsi "bool") (fVar 0)))))
def F_is_whole : Gm → Res Rv := runDef 1 0 f_is_whole
def f_is_wishes : Gm → Res Out := (sSeq (sIf (tOr' (tNot' (fTest (fUn (kIsi "tuple") (fVar 0)))) (fTest (fOp2 kNe (fCallK kLen (fCons (fVar 0) fNil)) (fVar 1)))) (sRet (fC (.bool false))) sNx)
  (sRet (fCallK kAll (fCons (fComp (iSeq (fVar 0)) [2] (gN 2) tYesF (fAnd (fCallK (kCall F_is_whole) (fCons (fVar 2) fNil)) (fChn kLe kLe (fC (.int 1)) (fVar 2) (fC (.int 1000))))) fNil))))
def F_is_wishes : Gm → Res Rv := runDef 2 1 f_is_wishes
def f_is_game : Gm → Res Out := (sSeq (sIf (tOr' (tNot' (fTest (fUn (kIsi "tuple") (fVar 0)))) (tOr' (tNot' (fTest (fChn kLe kLe (fC (.int 1)) (fCallK kLen (fCons (fVar 0) fNil)) (fC (.int 6))))) (tNot' (fTest (fUn (kIsi "tuple") (fOp2 kIdx (fVar 0) (fC (.int 0)))))))) (sRet (fC (.bool false))) sNx)
  (sRet (fAnd (fChn kLe kLe (fC (.int 1)) (fCallK kLen (fCons (fOp2 kIdx (fVar 0) (fC (.int 0))) fNil)) (fC (.int 10))) (fCallK kAll (fCons (fComp (iSeq (fVar 0)) [1] (gN 1) tYesF (fCallK (kCall F_is_wishes) (fCons (fVar 1) (fCons (fCallK kLen (fCons (fOp2 kIdx (fVar 0) (fC (.int 0))) fNil)) fNil)))) fNil)))))
def F_is_game : Gm → Res Rv := runDef 1 1 f_is_game
def f_check_game : Gm → Res Out := (sIf (tNot' (fTest (fCallK (kCall F_is_game) (fCons (fVar 0) fNil)))) (sRaise .mal) sNx)
def F_check_game : Gm → Res Rv := runDef 1 0 f_check_game
def f_fits_owners : Gm → Res Out := (sSeq (sIf (tOr' (tNot' (fTest (fUn (kIsi "tuple") (fVar 1)))) (fTest (fOp2 kNe (fCallK kLen (fCons (fVar 1) fNil)) (fCallK kLen (fCons (fOp2 kIdx (fVar 0) (fC (.int 0))) fNil))))) (sRet (fC (.bool false))) sNx)
  (sRet (fCallK kAll (fCons (fComp (iSeq (fVar 1)) [2] (gN 2) tYesF (fAnd (fCallK (kCall F_is_whole) (fCons (fVar 2) fNil)) (fChn kLe kLt (fC (.int 0)) (fVar 2) (fCallK kLen (fCons (fVar 0) fNil))))) fNil))))
def F_fits_owners : Gm → Res Rv := runDef 2 1 f_fits_owners
def f_check_share : Gm → Res Out := (sSeq (sExpr (fCallK (kCall F_check_game) (fCons (fVar 0) fNil)))
  (sIf (tNot' (fTest (fCallK (kCall F_fits_owners) (fCons (fVar 0) (fCons (fVar 1) fNil))))) (sRaise .mal) sNx))
def F_check_share : Gm → Res Rv := runDef 2 0 f_check_share
def f_parts_of : Gm → Res Out := (sSeq (sSet 2 (fComp (iRg1 (fVar 0)) [3] (gN 3) tYesF (fTup fNil)))
  (sSeq (sFor (iEnum (fVar 1)) (gT 2 (gsCons (gN 4) (gsCons (gN 5) gsNil)))
  (sSetItem (fOp2 kAdd (fOp2 kIdx (fVar 2) (fVar 5)) (fTup (fCons (fVar 4) fNil))) (fVar 2) (fVar 5)))
  (sRet (fVar 2))))
def F_parts_of : Gm → Res Rv := runDef 2 4 f_parts_of
def f_worth : Gm → Res Out := (sRet (fCallK kSum (fCons (fComp (iSeq (fVar 1)) [2] (gN 2) tYesF (fOp2 kIdx (fVar 0) (fVar 2))) fNil)))
def F_worth : Gm → Res Rv := runDef 2 1 f_worth
def f_is_hidden : Gm → Res Out := (sSeq (sIf (tOr' (tNot' (fTest (fUn (kIsi "tuple") (fVar 1)))) (tNot' (fTest (fCallK kAll (fCons (fComp (iSeq (fVar 1)) [2] (gN 2) tYesF (fCallK (kCall F_is_whole) (fCons (fVar 2) fNil))) fNil))))) (sRet (fC (.bool false))) sNx)
  (sSeq (sIf (tNot' (fTest (fCallK kAll (fCons (fComp (iSeq (fVar 1)) [2] (gN 2) tYesF (fChn kLe kLt (fC (.int 0)) (fVar 2) (fCallK kLen (fCons (fOp2 kIdx (fVar 0) (fC (.int 0))) fNil)))) fNil)))) (sRet (fC (.bool false))) sNx)
  (sRet (fCallK kAll (fCons (fComp (iRg2 (fC (.int 1)) (fCallK kLen (fCons (fVar 1) fNil))) [3] (gN 3) tYesF (fOp2 kLt (fOp2 kIdx (fVar 1) (fOp2 kSub (fVar 3) (fC (.int 1)))) (fOp2 kIdx (fVar 1) (fVar 3)))) fNil)))))
def F_is_hidden : Gm → Res Rv := runDef 2 2 f_is_hidden
def f_seen_objection : Gm → Res Out := (sSeq (sExpr (fCallK (kCall F_check_share) (fCons (fVar 0) (fCons (fVar 1) fNil))))
  (sSeq (sIf (tNot' (fTest (fCallK (kCall F_is_hidden) (fCons (fVar 0) (fCons (fVar 2) fNil))))) (sRaise .mal) sNx)
  (sSeq (sSet 3 (fCallK (kCall F_parts_of) (fCons (fCallK kLen (fCons (fVar 0) fNil)) (fCons (fVar 1) fNil))))
  (sSeq (sFor (iEnum (fVar 0)) (gT 2 (gsCons (gN 4) (gsCons (gN 5) gsNil)))
  (sSeq (sSet 6 (fCallK (kCall F_worth) (fCons (fVar 5) (fCons (fOp2 kIdx (fVar 3) (fVar 4)) fNil))))
  (sFor (iEnum (fVar 3)) (gT 2 (gsCons (gN 7) (gsCons (gN 8) gsNil)))
  (sIf (tAnd' (fTest (fOp2 kNe (fVar 7) (fVar 4))) (fTest (fOp2 kGt (fCallK (kCall F_worth) (fCons (fVar 5) (fCons (fComp (iSeq (fVar 8)) [9] (gN 9) (fTest (fOp2 kNin (fVar 9) (fVar 2))) (fVar 9)) fNil))) (fVar 6)))) (sRet (fTup (fCons (fVar 4) (fCons (fVar 7) fNil)))) sNx))))
  (sRet (fC .none))))))
def F_seen_objection : Gm → Res Rv := runDef 3 7 f_seen_objection
def f_does_hide : Gm → Res Out := (sRet (fOp2 kIsN (fCallK (kCall F_seen_objection) (fCons (fVar 0) (fCons (fVar 1) (fCons (fVar 2) fNil)))) (fC .none)))
def F_does_hide : Gm → Res Rv := runDef 3 0 f_does_hide
def f_rows_of : Gm → Res Out := (sSeq (sSet 2 (fLst (fCons (fTup fNil) fNil)))
  (sSeq (sFor (iRg1 (fVar 1)) (gN 3)
  (sSet 2 (fComp2 (iSeq (fVar 2)) [4, 5] [5] (gN 4) tYesF (iRg2 (fIf (fTest (fOp2 kGt (fCallK kLen (fCons (fVar 4) fNil)) (fC (.int 0)))) (fOp2 kAdd (fOp2 kIdx (fVar 4) (fUn kNeg (fC (.int 1)))) (fC (.int 1))) (fC (.int 0))) (fVar 0)) (gN 5) tYesF (fOp2 kAdd (fVar 4) (fTup (fCons (fVar 5) fNil))))))
  (sRet (fVar 2))))
def F_rows_of : Gm → Res Rv := runDef 2 4 f_rows_of
def f_least_hidden : Gm → Res Out := (sSeq (sExpr (fCallK (kCall F_check_share) (fCons (fVar 0) (fCons (fVar 1) fNil))))
  (sSeq (sFor (iRg1 (fOp2 kAdd (fCallK kLen (fCons (fOp2 kIdx (fVar 0) (fC (.int 0))) fNil)) (fC (.int 1)))) (gN 2)
  (sFor (iSeq (fCallK (kCall F_rows_of) (fCons (fCallK kLen (fCons (fOp2 kIdx (fVar 0) (fC (.int 0))) fNil)) (fCons (fVar 2) fNil)))) (gN 3)
  (sIf (fTest (fCallK (kCall F_does_hide) (fCons (fVar 0) (fCons (fVar 1) (fCons (fVar 3) fNil))))) (sRet (fVar 3)) sNx)))
  (sRet (fRg1 kRgT (fCallK kLen (fCons (fOp2 kIdx (fVar 0) (fC (.int 0))) fNil))))))
def F_least_hidden : Gm → Res Rv := runDef 2 2 f_least_hidden
def f_hidden_of : Gm → Res Out := (sSeq (sExpr (fCallK (kCall F_check_share) (fCons (fVar 0) (fCons (fVar 1) fNil))))
  (sSeq (sSet 2 (fLst fNil))
  (sSeq (sFor (iEnum (fVar 0)) (gT 2 (gsCons (gN 3) (gsCons (gN 4) gsNil)))
  (sSeq (sSet 5 (fCallK (kCall F_parts_of) (fCons (fCallK kLen (fCons (fVar 0) fNil)) (fCons (fVar 1) fNil))))
  (sSeq (sPar 6 7 (fCons (fCallK (kCall F_worth) (fCons (fVar 4) (fCons (fOp2 kIdx (fVar 5) (fVar 3)) fNil))) (fCons (fLst fNil) fNil)))
  (sSeq (sFor (iEnum (fVar 5)) (gT 2 (gsCons (gN 8) (gsCons (gN 9) gsNil)))
  (sSeq (sSet 10 (fSortNeg 4 (fCons (fVar 9) fNil)))
  (sWhile wfuel (tAnd' (fTest (fOp2 kNe (fVar 8) (fVar 3))) (fTest (fOp2 kGt (fCallK (kCall F_worth) (fCons (fVar 4) (fCons (fVar 10) fNil))) (fVar 6))))
  (sExpr (fMeth kAppend (fVar 7) (fCons (fMeth kPopAt (fVar 10) (fCons (fC (.int 0)) fNil)) fNil))))))
  (sExpr (fMeth kAppend (fVar 2) (fCons (fCallK kTuple (fCons (fCallK kSorted (fCons (fVar 7) fNil)) fNil)) fNil)))))))
  (sRet (fCallK kTuple (fCons (fVar 2) fNil))))))
def F_hidden_of : Gm → Res Rv := runDef 2 9 f_hidden_of
def f_law_draw : Gm → Res Out := (sSeq (sSet 1 (fC (.int 7)))
  (sSeq (sFor (iSeq (fVar 0)) (gN 2)
  (sSet 1 (fOp2 kMod (fCallK kInt (fCons (fOp2 kAdd (fOp2 kAdd (fOp2 kMul (fVar 1) (fC (.int 48271))) (fOp2 kMod (fCallK kAbs (fCons (fCallK kInt (fCons (fVar 2) fNil)) fNil)) (fC (.int 65521)))) (fC (.int 1))) fNil)) (fC (.int 2147483647)))))
  (sRet (fLst (fCons (fComp (iSeq (fVar 0)) [2] (gN 2) tYesF (fCallK kAbs (fCons (fCallK kInt (fCons (fVar 2) fNil)) fNil))) (fCons (fUn kNeg (fC (.int 1))) (fCons (fC (.int 0)) (fCons (fVar 1) fNil))))))))
def F_law_draw : Gm → Res Rv := runDef 1 2 f_law_draw
def f_law_take : Gm → Res Out := (sSeq (sIf (fTest (fOp2 kEq (fOp2 kIdx (fVar 0) (fC (.int 2))) (fC (.int 0)))) (sSeq (sSetItem (fOp2 kAdd (fOp2 kIdx (fVar 0) (fC (.int 1))) (fC (.int 1))) (fVar 0) (fC (.int 1)))
  (sSeq (sIf (fTest (fOp2 kLt (fOp2 kIdx (fVar 0) (fC (.int 1))) (fCallK kLen (fCons (fOp2 kIdx (fVar 0) (fC (.int 0))) fNil)))) (sSetItem (fOp2 kIdx (fOp2 kIdx (fVar 0) (fC (.int 0))) (fOp2 kIdx (fVar 0) (fC (.int 1)))) (fVar 0) (fC (.int 2))) sNx)
  (sIf (fTest (fOp2 kEq (fOp2 kIdx (fVar 0) (fC (.int 2))) (fC (.int 0)))) (sSeq (sSetItem (fOp2 kMod (fCallK kInt (fCons (fOp2 kAdd (fOp2 kMul (fOp2 kIdx (fVar 0) (fC (.int 3))) (fC (.int 48271))) (fC (.int 11))) fNil)) (fC (.int 2147483647))) (fVar 0) (fC (.int 3)))
  (sSetItem (fOp2 kIdx (fVar 0) (fC (.int 3))) (fVar 0) (fC (.int 2)))) sNx))) sNx)
  (sSeq (sSet 2 (fOp2 kMod (fCallK kInt (fCons (fOp2 kIdx (fVar 0) (fC (.int 2))) fNil)) (fVar 1)))
  (sSeq (sSetItem (fOp2 kDiv (fOp2 kIdx (fVar 0) (fC (.int 2))) (fVar 1)) (fVar 0) (fC (.int 2)))
  (sRet (fVar 2)))))
def F_law_take : Gm → Res Rv := runDef 2 1 f_law_take
def f_law_game : Gm → Res Out := (sSeq (sPar 4 5 (fCons (fOp2 kAdd (fC (.int 1)) (fCallK (kCallM F_law_take) (fCons (fVar 0) (fCons (fVar 1) fNil)))) (fCons (fOp2 kAdd (fC (.int 1)) (fCallK (kCallM F_law_take) (fCons (fVar 0) (fCons (fVar 2) fNil)))) fNil)))
  (sSeq (sSet 6 (fOp2 kIdx (fLst (fCons (fC (.int 2)) (fCons (fC (.int 4)) (fCons (fVar 3) fNil)))) (fCallK (kCallM F_law_take) (fCons (fVar 0) (fCons (fC (.int 3)) fNil)))))
  (sSeq (sSet 7 (fLst fNil))
  (sSeq (sFor (iRg1 (fVar 4)) (gN 8)
  (sSeq (sSet 9 (fCallK kTuple (fCons (fComp (iRg1 (fVar 5)) [10] (gN 10) tYesF (fOp2 kAdd (fC (.int 1)) (fCallK (kCallM F_law_take) (fCons (fVar 0) (fCons (fVar 6) fNil))))) fNil)))
  (sExpr (fMeth kAppend (fVar 7) (fCons (fIf (tAnd' (fTest (fOp2 kNe (fVar 7) (fLst fNil))) (fTest (fOp2 kEq (fCallK (kCallM F_law_take) (fCons (fVar 0) (fCons (fC (.int 4)) fNil))) (fC (.int 0))))) (fOp2 kIdx (fVar 7) (fCallK (kCallM F_law_take) (fCons (fVar 0) (fCons (fCallK kLen (fCons (fVar 7) fNil)) fNil)))) (fVar 9)) fNil)))))
  (sRet (fCallK kTuple (fCons (fVar 7) fNil)))))))
def F_law_game : Gm → Res Rv := runDef 4 7 f_law_game
def f_law_owners : Gm → Res Out := (sRet (fCallK kTuple (fCons (fComp (iSeq (fOp2 kIdx (fVar 1) (fC (.int 0)))) [2] (gN 2) tYesF (fCallK (kCallM F_law_take) (fCons (fVar 0) (fCons (fCallK kLen (fCons (fVar 1) fNil)) fNil)))) fNil)))
def F_law_owners : Gm → Res Rv := runDef 2 1 f_law_owners
def f_law_worth : Gm → Res Out := (sRet (fCallK kSum (fCons (fComp (iRg1 (fCallK kLen (fCons (fVar 1) fNil))) [4] (gN 4) (fTest (fOp2 kEq (fOp2 kIdx (fVar 1) (fVar 4)) (fVar 3))) (fOp2 kIdx (fOp2 kIdx (fVar 0) (fVar 2)) (fVar 4))) fNil)))
def F_law_worth : Gm → Res Rv := runDef 4 1 f_law_worth
def f_law_bad_game : Gm → Res Out := (sSeq (sSet 2 (fLst (fCons (fC .none) (fCons (fTup fNil) (fCons (fC (.int 5)) (fCons (fCallK kList (fCons (fVar 1) fNil)) (fCons (fTup (fCons (fTup fNil) fNil)) (fCons (fOp2 kAdd (fVar 1) (fTup (fCons (fOp2 kMul (fTup (fCons (fC (.int 1)) fNil)) (fOp2 kAdd (fCallK kLen (fCons (fOp2 kIdx (fVar 1) (fC (.int 0))) fNil)) (fC (.int 1)))) fNil))) (fCons (fOp2 kAdd (fSlice (fVar 1) fNoPart (fPart (fUn kNeg (fC (.int 1))))) (fTup (fCons (fOp2 kMul (fTup (fCons (fC (.int 0)) fNil)) (fCallK kLen (fCons (fOp2 kIdx (fVar 1) (fC (.int 0))) fNil))) fNil))) (fCons (fOp2 kAdd (fSlice (fVar 1) fNoPart (fPart (fUn kNeg (fC (.int 1))))) (fTup (fCons (fOp2 kMul (fTup (fCons (fC (.int 1001)) fNil)) (fCallK kLen (fCons (fOp2 kIdx (fVar 1) (fC (.int 0))) fNil))) fNil))) fNil))))))))))
  (sSeq (sSet 2 (fOp2 kAdd (fVar 2) (fLst (fCons (fOp2 kMul (fTup (fCons (fTup (fCons (fC (.int 1)) fNil)) fNil)) (fC (.int 7))) (fCons (fTup (fCons (fOp2 kMul (fTup (fCons (fC (.int 1)) fNil)) (fC (.int 11))) fNil)) (fCons (fOp2 kAdd (fSlice (fVar 1) fNoPart (fPart (fUn kNeg (fC (.int 1))))) (fTup (fCons (fOp2 kMul (fLst (fCons (fC (.int 1)) fNil)) (fCallK kLen (fCons (fOp2 kIdx (fVar 1) (fC (.int 0))) fNil))) fNil))) (fCons (fOp2 kAdd (fSlice (fVar 1) fNoPart (fPart (fUn kNeg (fC (.int 1))))) (fTup (fCons (fOp2 kMul (fTup (fCons (fC (.bool true)) fNil)) (fCallK kLen (fCons (fOp2 kIdx (fVar 1) (fC (.int 0))) fNil))) fNil))) (fCons (fC (.str (Str.ofString "game"))) fNil))))))))
  (sRet (fOp2 kIdx (fVar 2) (fCallK (kCallM F_law_take) (fCons (fVar 0) (fCons (fC (.int 13)) fNil)))))))
def F_law_bad_game : Gm → Res Rv := runDef 2 1 f_law_bad_game
def f_law_bad_owners : Gm → Res Out := (sRet (fOp2 kIdx (fLst (fCons (fC .none) (fCons (fTup fNil) (fCons (fOp2 kAdd (fVar 2) (fTup (fCons (fC (.int 0)) fNil))) (fCons (fCallK kList (fCons (fVar 2) fNil)) (fCons (fOp2 kAdd (fSlice (fVar 2) fNoPart (fPart (fUn kNeg (fC (.int 1))))) (fTup (fCons (fCallK kLen (fCons (fVar 1) fNil)) fNil))) (fCons (fOp2 kAdd (fSlice (fVar 2) fNoPart (fPart (fUn kNeg (fC (.int 1))))) (fTup (fCons (fUn kNeg (fC (.int 1))) fNil))) (fCons (fOp2 kMul (fTup (fCons (fC .none) fNil)) (fCallK kLen (fCons (fVar 2) fNil))) (fCons (fC (.str (Str.ofString "0"))) fNil))))))))) (fCallK (kCallM F_law_take) (fCons (fVar 0) (fCons (fC (.int 8)) fNil)))))
def F_law_bad_owners : Gm → Res Rv := runDef 3 0 f_law_bad_owners
def f_law_call : Gm → Res Out := (sSeq (sAsg (gT 4 (gsCons (gN 1) (gsCons (gN 2) (gsCons (gN 3) (gsCons (gN 4) gsNil))))) (fVar 0))
  (sIf (fTest (fOp2 kEq (fVar 1) (fC (.int 0)))) (sExpr (fCallK (kCall F_seen_objection) (fCons (fVar 2) (fCons (fVar 3) (fCons (fVar 4) fNil))))) (sIf (fTest (fOp2 kEq (fVar 1) (fC (.int 1)))) (sExpr (fCallK (kCall F_does_hide) (fCons (fVar 2) (fCons (fVar 3) (fCons (fVar 4) fNil))))) (sIf (fTest (fOp2 kEq (fVar 1) (fC (.int 2)))) (sExpr (fCallK (kCall F_least_hidden) (fCons (fVar 2) (fCons (fVar 3) fNil)))) (sExpr (fCallK (kCall F_hidden_of) (fCons (fVar 2) (fCons (fVar 3) fNil))))))))
def F_law_call : Gm → Res Rv := runDef 1 4 f_law_call
def F_law_word : Gm → Res Rv := wordF F_law_call
def f_law_envies : Gm → Res Out := (sSeq (sSet 5 (fCallK kSum (fCons (fComp (iRg1 (fCallK kLen (fCons (fVar 1) fNil))) [6] (gN 6) (tAnd' (fTest (fOp2 kEq (fOp2 kIdx (fVar 1) (fVar 6)) (fVar 4))) (fTest (fOp2 kNin (fVar 6) (fVar 2)))) (fOp2 kIdx (fOp2 kIdx (fVar 0) (fVar 3)) (fVar 6))) fNil)))
  (sRet (fOp2 kGt (fVar 5) (fCallK (kCall F_law_worth) (fCons (fVar 0) (fCons (fVar 1) (fCons (fVar 3) (fCons (fVar 3) fNil))))))))
def F_law_envies : Gm → Res Rv := runDef 5 2 f_law_envies
def f_law_objection : Gm → Res Out := (sSeq (sFor (iRg1 (fCallK kLen (fCons (fVar 0) fNil))) (gN 3)
  (sFor (iRg1 (fCallK kLen (fCons (fVar 0) fNil))) (gN 4)
  (sIf (tAnd' (fTest (fOp2 kNe (fVar 3) (fVar 4))) (fTest (fCallK (kCall F_law_envies) (fCons (fVar 0) (fCons (fVar 1) (fCons (fVar 2) (fCons (fVar 3) (fCons (fVar 4) fNil)))))))) (sRet (fTup (fCons (fVar 3) (fCons (fVar 4) fNil)))) sNx)))
  (sRet (fC .none)))
def F_law_objection : Gm → Res Rv := runDef 3 2 f_law_objection
def f_law_sets : Gm → Res Out := (sSeq (sSet 1 (fLst (fCons (fTup fNil) fNil)))
  (sSeq (sFor (iRg1 (fVar 0)) (gN 2)
  (sSet 1 (fOp2 kAdd (fVar 1) (fComp (iSeq (fVar 1)) [3] (gN 3) tYesF (fOp2 kAdd (fVar 3) (fTup (fCons (fVar 2) fNil)))))))
  (sSeq (sSet 4 (fLst fNil))
  (sSeq (sFor (iRg1 (fOp2 kAdd (fVar 0) (fC (.int 1)))) (gN 5)
  (sSet 4 (fOp2 kAdd (fVar 4) (fComp (iSeq (fCallK kSorted (fCons (fVar 1) fNil))) [3] (gN 3) (fTest (fOp2 kEq (fCallK kLen (fCons (fVar 3) fNil)) (fVar 5))) (fVar 3)))))
  (sRet (fVar 4))))))
def F_law_sets : Gm → Res Rv := runDef 1 5 f_law_sets
def f_law : Gm → Res Out := (sSeq (sSet 1 (fCallK (kCall F_law_draw) (fCons (fVar 0) fNil)))
  (sSeq (sSet 2 (fCallK (kCallM F_law_game) (fCons (fVar 1) (fCons (fC (.int 4)) (fCons (fC (.int 6)) (fCons (fC (.int 30)) fNil))))))
  (sSeq (sPar 3 4 (fCons (fCallK kLen (fCons (fVar 2) fNil)) (fCons (fCallK kLen (fCons (fOp2 kIdx (fVar 2) (fC (.int 0))) fNil)) fNil)))
  (sSeq (sSet 5 (fCallK (kCall F_law_sets) (fCons (fVar 4) fNil)))
  (sSeq (sFor (iRg1 (fC (.int 2))) (gN 6)
  (sSeq (sSet 7 (fCallK (kCallM F_law_owners) (fCons (fVar 1) (fCons (fVar 2) fNil))))
  (sSeq (sFor (iRg1 (fC (.int 4))) (gN 8)
  (sSeq (sSet 9 (fOp2 kIdx (fVar 5) (fCallK (kCallM F_law_take) (fCons (fVar 1) (fCons (fCallK kLen (fCons (fVar 5) fNil)) fNil)))))
  (sSeq (sSet 10 (fCallK (kCall F_law_objection) (fCons (fVar 2) (fCons (fVar 7) (fCons (fVar 9) fNil)))))
  (sSeq (sSet 11 (fCallK (kCall F_does_hide) (fCons (fVar 2) (fCons (fVar 7) (fCons (fVar 9) fNil)))))
  (sIf (tOr' (fTest (fOp2 kNe (fCallK (kCall F_seen_objection) (fCons (fVar 2) (fCons (fVar 7) (fCons (fVar 9) fNil)))) (fVar 10))) (tOr' (tNot' (fTest (fUn (kIsi "bool") (fVar 11)))) (fTest (fOp2 kNe (fVar 11) (fOp2 kIsN (fVar 10) (fC .none)))))) (sRet (fC (.bool false))) sNx)))))
  (sSeq (sSet 12 (fOp2 kIdx (fComp (iSeq (fVar 5)) [13] (gN 13) (fTest (fOp2 kIsN (fCallK (kCall F_law_objection) (fCons (fVar 2) (fCons (fVar 7) (fCons (fVar 13) fNil)))) (fC .none))) (fVar 13)) (fC (.int 0))))
  (sSeq (sIf (fTest (fOp2 kNe (fCallK (kCall F_least_hidden) (fCons (fVar 2) (fCons (fVar 7) fNil))) (fVar 12))) (sRet (fC (.bool false))) sNx)
  (sSeq (sSet 14 (fCallK (kCall F_hidden_of) (fCons (fVar 2) (fCons (fVar 7) fNil))))
  (sSeq (sIf (tOr' (tNot' (fTest (fUn (kIsi "tuple") (fVar 14)))) (fTest (fOp2 kNe (fCallK kLen (fCons (fVar 14) fNil)) (fVar 3)))) (sRet (fC (.bool false))) sNx)
  (sFor (iRg1 (fVar 3)) (gN 15)
  (sSeq (sSet 10 (fLst fNil))
  (sSeq (sFor (iRg1 (fVar 3)) (gN 16)
  (sSeq (sSet 17 (fCallK kSorted (fCons (fComp (iRg1 (fVar 4)) [18] (gN 18) (tAnd' (fTest (fOp2 kEq (fOp2 kIdx (fVar 7) (fVar 18)) (fVar 16))) (fTest (fOp2 kNe (fVar 16) (fVar 15)))) (fTup (fCons (fUn kNeg (fOp2 kIdx (fOp2 kIdx (fVar 2) (fVar 15)) (fVar 18))) (fCons (fVar 18) fNil)))) fNil)))
  (sSeq (sSet 19 (fComp (iSeq (fVar 17)) [13] (gN 13) tYesF (fOp2 kIdx (fVar 13) (fC (.int 1)))))
  (sSeq (sSet 20 (fComp (iRg1 (fOp2 kAdd (fCallK kLen (fCons (fVar 19) fNil)) (fC (.int 1)))) [21] (gN 21) (tOr' (fTest (fOp2 kEq (fVar 16) (fVar 15))) (tNot' (fTest (fCallK (kCall F_law_envies) (fCons (fVar 2) (fCons (fVar 7) (fCons (fCallK kTuple (fCons (fSlice (fVar 19) fNoPart (fPart (fVar 21))) fNil)) (fCons (fVar 15) (fCons (fVar 16) fNil))))))))) (fVar 21)))
  (sSet 10 (fOp2 kAdd (fVar 10) (fSlice (fVar 19) fNoPart (fPart (fOp2 kIdx (fVar 20) (fC (.int 0)))))))))))
  (sSeq (sIf (tOr' (fTest (fOp2 kNe (fOp2 kIdx (fVar 14) (fVar 15)) (fCallK kTuple (fCons (fCallK kSorted (fCons (fVar 10) fNil)) fNil)))) (fTest (fOp2 kNe (fComp (iRg1 (fVar 3)) [16] (gN 16) (tAnd' (fTest (fOp2 kNe (fVar 16) (fVar 15))) (fTest (fCallK (kCall F_law_envies) (fCons (fVar 2) (fCons (fVar 7) (fCons (fOp2 kIdx (fVar 14) (fVar 15)) (fCons (fVar 15) (fCons (fVar 16) fNil)))))))) (fVar 16)) (fLst fNil)))) (sRet (fC (.bool false))) sNx)
  (sSeq (sSet 22 (fComp (iSeq (fVar 5)) [13] (gN 13) (fTest (fOp2 kLt (fCallK kLen (fCons (fVar 13) fNil)) (fCallK kLen (fCons (fOp2 kIdx (fVar 14) (fVar 15)) fNil)))) (fVar 13)))
  (sFor (iSeq (fVar 22)) (gN 13)
  (sIf (fTest (fOp2 kEq (fComp (iRg1 (fVar 3)) [16] (gN 16) (tAnd' (fTest (fOp2 kNe (fVar 16) (fVar 15))) (fTest (fCallK (kCall F_law_envies) (fCons (fVar 2) (fCons (fVar 7) (fCons (fVar 13) (fCons (fVar 15) (fCons (fVar 16) fNil)))))))) (fVar 16)) (fLst fNil))) (sRet (fC (.bool false))) sNx))))))))))))))
  (sSeq (sAsg (gT 2 (gsCons (gN 23) (gsCons (gN 24) gsNil))) (fTup (fCons (fCallK (kCallM F_law_bad_game) (fCons (fVar 1) (fCons (fVar 2) fNil))) (fCons (fCallK (kCallM F_law_bad_owners) (fCons (fVar 1) (fCons (fVar 2) (fCons (fVar 7) fNil)))) fNil))))
  (sSeq (sSet 25 (fOp2 kIdx (fLst (fCons (fC .none) (fCons (fLst (fCons (fC (.int 0)) fNil)) (fCons (fTup (fCons (fVar 4) fNil)) (fCons (fTup (fCons (fUn kNeg (fC (.int 1))) fNil)) (fCons (fTup (fCons (fC (.int 0)) (fCons (fC (.int 0)) fNil))) (fCons (fTup (fCons (fC (.bool true)) fNil)) (fCons (fC (.str (Str.ofString "0"))) (fCons (fC (.int 0)) fNil))))))))) (fCallK (kCallM F_law_take) (fCons (fVar 1) (fCons (fC (.int 8)) fNil)))))
  (sSeq (sSet 26 (fOp2 kAdd (fOp2 kAdd (fComp (iRg1 (fC (.int 4))) [27] (gN 27) tYesF (fTup (fCons (fVar 27) (fCons (fVar 23) (fCons (fVar 7) (fCons (fTup fNil) fNil)))))) (fComp (iRg1 (fC (.int 4))) [27] (gN 27) tYesF (fTup (fCons (fVar 27) (fCons (fVar 2) (fCons (fVar 24) (fCons (fTup fNil) fNil))))))) (fComp (iRg1 (fC (.int 2))) [27] (gN 27) tYesF (fTup (fCons (fVar 27) (fCons (fVar 2) (fCons (fVar 7) (fCons (fVar 25) fNil))))))))
  (sRet (fOp2 kEq (fComp (iSeq (fVar 26)) [28] (gN 28) (fTest (fOp2 kNe (fCallK (kCall F_law_word) (fCons (fVar 28) fNil)) (fC (.str (Str.ofString "malformed"))))) (fVar 28)) (fLst fNil)))))))))))
def F_law : Gm → Res Rv := runDef 1 28 f_law
end D71
namespace D71
open PySem PySem.Spec PyProof.Rows L2 Fx
def topS (i : Nat) : Stmt := PySem.Challenge.pw_fairfields_k71_whole_hidden_goods.main.body.getD i (.Pass ⟨0, 0, 0, 0⟩)
abbrev st_is_whole : Stmt := topS 5
theorem sc_is_whole : FnScope ["value"] ["value"] (defScope st_is_whole) := ⟨rfl, rfl, rfl, by decide +kernel, rfl, by decide +kernel, by decide +kernel⟩
abbrev st_is_wishes : Stmt := topS 10
theorem sc_is_wishes : FnScope ["value", "size", "item"] ["value", "size"] (defScope st_is_wishes) := ⟨rfl, rfl, rfl, by decide +kernel, rfl, by decide +kernel, by decide +kernel⟩
abbrev st_is_game : Stmt := topS 11
theorem sc_is_game : FnScope ["value", "row"] ["value"] (defScope st_is_game) := ⟨rfl, rfl, rfl, by decide +kernel, rfl, by decide +kernel, by decide +kernel⟩
abbrev st_check_game : Stmt := topS 12
theorem sc_check_game : FnScope ["game"] ["game"] (defScope st_check_game) := ⟨rfl, rfl, rfl, by decide +kernel, rfl, by decide +kernel, by decide +kernel⟩
abbrev st_fits_owners : Stmt := topS 13
theorem sc_fits_owners : FnScope ["game", "value", "owner"] ["game", "value"] (defScope st_fits_owners) := ⟨rfl, rfl, rfl, by decide +kernel, rfl, by decide +kernel, by decide +kernel⟩
abbrev st_check_share : Stmt := topS 14
theorem sc_check_share : FnScope ["game", "owners"] ["game", "owners"] (defScope st_check_share) := ⟨rfl, rfl, rfl, by decide +kernel, rfl, by decide +kernel, by decide +kernel⟩
abbrev st_parts_of : Stmt := topS 15
theorem sc_parts_of : FnScope ["n", "owners", "found", "_", "good", "owner"] ["n", "owners"] (defScope st_parts_of) := ⟨rfl, rfl, rfl, by decide +kernel, rfl, by decide +kernel, by decide +kernel⟩
abbrev st_worth : Stmt := topS 16
theorem sc_worth : FnScope ["row", "goods", "good"] ["row", "goods"] (defScope st_worth) := ⟨rfl, rfl, rfl, by decide +kernel, rfl, by decide +kernel, by decide +kernel⟩
abbrev st_is_hidden : Stmt := topS 18
theorem sc_is_hidden : FnScope ["game", "value", "good", "k"] ["game", "value"] (defScope st_is_hidden) := ⟨rfl, rfl, rfl, by decide +kernel, rfl, by decide +kernel, by decide +kernel⟩
abbrev st_seen_objection : Stmt := topS 19
theorem sc_seen_objection : FnScope ["game", "owners", "hidden", "parts", "i", "row", "own", "k", "part", "good"] ["game", "owners", "hidden"] (defScope st_seen_objection) := ⟨rfl, rfl, rfl, by decide +kernel, rfl, by decide +kernel, by decide +kernel⟩
abbrev st_does_hide : Stmt := topS 20
theorem sc_does_hide : FnScope ["game", "owners", "hidden"] ["game", "owners", "hidden"] (defScope st_does_hide) := ⟨rfl, rfl, rfl, by decide +kernel, rfl, by decide +kernel, by decide +kernel⟩
abbrev st_rows_of : Stmt := topS 21
theorem sc_rows_of : FnScope ["goods", "size", "found", "_", "row", "good"] ["goods", "size"] (defScope st_rows_of) := ⟨rfl, rfl, rfl, by decide +kernel, rfl, by decide +kernel, by decide +kernel⟩
abbrev st_least_hidden : Stmt := topS 22
theorem sc_least_hidden : FnScope ["game", "owners", "size", "row"] ["game", "owners"] (defScope st_least_hidden) := ⟨rfl, rfl, rfl, by decide +kernel, rfl, by decide +kernel, by decide +kernel⟩
abbrev st_hidden_of : Stmt := topS 23
theorem sc_hidden_of : FnScope ["game", "owners", "found", "i", "row", "parts", "own", "out", "k", "part", "left"] ["game", "owners"] (defScope st_hidden_of) := ⟨rfl, rfl, rfl, by decide +kernel, rfl, by decide +kernel, by decide +kernel⟩
abbrev st_law_draw : Stmt := topS 25
theorem sc_law_draw : FnScope ["script", "seed", "cell"] ["script"] (defScope st_law_draw) := ⟨rfl, rfl, rfl, by decide +kernel, rfl, by decide +kernel, by decide +kernel⟩
abbrev st_law_take : Stmt := topS 26
theorem sc_law_take : FnScope ["draw", "many", "found"] ["draw", "many"] (defScope st_law_take) := ⟨rfl, rfl, rfl, by decide +kernel, rfl, by decide +kernel, by decide +kernel⟩
abbrev st_law_game : Stmt := topS 28
theorem sc_law_game : FnScope ["draw", "people", "goods", "most", "n", "m", "top", "rows", "i", "row", "good"] ["draw", "people", "goods", "most"] (defScope st_law_game) := ⟨rfl, rfl, rfl, by decide +kernel, rfl, by decide +kernel, by decide +kernel⟩
abbrev st_law_owners : Stmt := topS 29
theorem sc_law_owners : FnScope ["draw", "game", "good"] ["draw", "game"] (defScope st_law_owners) := ⟨rfl, rfl, rfl, by decide +kernel, rfl, by decide +kernel, by decide +kernel⟩
abbrev st_law_worth : Stmt := topS 30
theorem sc_law_worth : FnScope ["game", "owners", "i", "k", "good"] ["game", "owners", "i", "k"] (defScope st_law_worth) := ⟨rfl, rfl, rfl, by decide +kernel, rfl, by decide +kernel, by decide +kernel⟩
abbrev st_law_bad_game : Stmt := topS 35
theorem sc_law_bad_game : FnScope ["draw", "game", "found"] ["draw", "game"] (defScope st_law_bad_game) := ⟨rfl, rfl, rfl, by decide +kernel, rfl, by decide +kernel, by decide +kernel⟩
abbrev st_law_bad_owners : Stmt := topS 36
theorem sc_law_bad_owners : FnScope ["draw", "game", "owners"] ["draw", "game", "owners"] (defScope st_law_bad_owners) := ⟨rfl, rfl, rfl, by decide +kernel, rfl, by decide +kernel, by decide +kernel⟩
abbrev st_law_call : Stmt := topS 37
theorem sc_law_call : FnScope ["call", "which", "game", "owners", "hidden"] ["call"] (defScope st_law_call) := ⟨rfl, rfl, rfl, by decide +kernel, rfl, by decide +kernel, by decide +kernel⟩
abbrev st_law_word : Stmt := topS 38
theorem sc_law_word : FnScope ["call", "e"] ["call"] (defScope st_law_word) := ⟨rfl, rfl, rfl, by decide +kernel, rfl, by decide +kernel, by decide +kernel⟩
abbrev st_law_envies : Stmt := topS 39
theorem sc_law_envies : FnScope ["game", "owners", "hidden", "i", "k", "seen", "good"] ["game", "owners", "hidden", "i", "k"] (defScope st_law_envies) := ⟨rfl, rfl, rfl, by decide +kernel, rfl, by decide +kernel, by decide +kernel⟩
abbrev st_law_objection : Stmt := topS 40
theorem sc_law_objection : FnScope ["game", "owners", "hidden", "i", "k"] ["game", "owners", "hidden"] (defScope st_law_objection) := ⟨rfl, rfl, rfl, by decide +kernel, rfl, by decide +kernel, by decide +kernel⟩
abbrev st_law_sets : Stmt := topS 41
theorem sc_law_sets : FnScope ["m", "rows", "good", "row", "found", "size"] ["m"] (defScope st_law_sets) := ⟨rfl, rfl, rfl, by decide +kernel, rfl, by decide +kernel, by decide +kernel⟩
abbrev st_law : Stmt := topS 42
theorem sc_law : FnScope ["script", "draw", "game", "n", "m", "sets", "turn", "owners", "more", "hidden", "due", "said", "first", "row", "told", "i", "k", "own", "good", "out", "few", "size", "fewer", "bad", "wrong", "odd", "calls", "which", "call"] ["script"] (defScope st_law) := ⟨rfl, rfl, rfl, by decide +kernel, rfl, by decide +kernel, by decide +kernel⟩
structure Fa where
  f_is_whole : Addr
  d_is_whole : FuncData
  f_is_wishes : Addr
  d_is_wishes : FuncData
  f_is_game : Addr
  d_is_game : FuncData
  f_check_game : Addr
  d_check_game : FuncData
  f_fits_owners : Addr
  d_fits_owners : FuncData
  f_check_share : Addr
  d_check_share : FuncData
  f_parts_of : Addr
  d_parts_of : FuncData
  f_worth : Addr
  d_worth : FuncData
  f_is_hidden : Addr
  d_is_hidden : FuncData
  f_seen_objection : Addr
  d_seen_objection : FuncData
  f_does_hide : Addr
  d_does_hide : FuncData
  f_rows_of : Addr
  d_rows_of : FuncData
  f_least_hidden : Addr
  d_least_hidden : FuncData
  f_hidden_of : Addr
  d_hidden_of : FuncData
  f_law_draw : Addr
  d_law_draw : FuncData
  f_law_take : Addr
  d_law_take : FuncData
  f_law_game : Addr
  d_law_game : FuncData
  f_law_owners : Addr
  d_law_owners : FuncData
  f_law_worth : Addr
  d_law_worth : FuncData
  f_law_bad_game : Addr
  d_law_bad_game : FuncData
  f_law_bad_owners : Addr
  d_law_bad_owners : FuncData
  f_law_call : Addr
  d_law_call : FuncData
  f_law_word : Addr
  d_law_word : FuncData
  f_law_envies : Addr
  d_law_envies : FuncData
  f_law_objection : Addr
  d_law_objection : FuncData
  f_law_sets : Addr
  d_law_sets : FuncData
  f_law : Addr
  d_law : FuncData
  CM : Addr
  CF : Addr
  CR : Addr
  lC : Addr
  lP : Addr
structure Tk (K : PySem.W.Frag) (mg : Str → Option Value) (base : Heap) (a : Fa) : Prop where
  F_is_whole : Fun K "is_whole" "is_whole" st_is_whole a.f_is_whole a.d_is_whole
  g_is_whole : mg "is_whole" = some (.ref a.f_is_whole)
  b_is_whole : Binds K a.d_is_whole ["value"] []
  F_is_wishes : Fun K "is_wishes" "is_wishes" st_is_wishes a.f_is_wishes a.d_is_wishes
  g_is_wishes : mg "is_wishes" = some (.ref a.f_is_wishes)
  b_is_wishes : Binds K a.d_is_wishes ["value", "size"] []
  F_is_game : Fun K "is_game" "is_game" st_is_game a.f_is_game a.d_is_game
  g_is_game : mg "is_game" = some (.ref a.f_is_game)
  b_is_game : Binds K a.d_is_game ["value"] []
  F_check_game : Fun K "check_game" "check_game" st_check_game a.f_check_game a.d_check_game
  g_check_game : mg "check_game" = some (.ref a.f_check_game)
  b_check_game : Binds K a.d_check_game ["game"] []
  F_fits_owners : Fun K "fits_owners" "fits_owners" st_fits_owners a.f_fits_owners a.d_fits_owners
  g_fits_owners : mg "fits_owners" = some (.ref a.f_fits_owners)
  b_fits_owners : Binds K a.d_fits_owners ["game", "value"] []
  F_check_share : Fun K "check_share" "check_share" st_check_share a.f_check_share a.d_check_share
  g_check_share : mg "check_share" = some (.ref a.f_check_share)
  b_check_share : Binds K a.d_check_share ["game", "owners"] []
  F_parts_of : Fun K "parts_of" "parts_of" st_parts_of a.f_parts_of a.d_parts_of
  g_parts_of : mg "parts_of" = some (.ref a.f_parts_of)
  b_parts_of : Binds K a.d_parts_of ["n", "owners"] []
  F_worth : Fun K "worth" "worth" st_worth a.f_worth a.d_worth
  g_worth : mg "worth" = some (.ref a.f_worth)
  b_worth : Binds K a.d_worth ["row", "goods"] []
  F_is_hidden : Fun K "is_hidden" "is_hidden" st_is_hidden a.f_is_hidden a.d_is_hidden
  g_is_hidden : mg "is_hidden" = some (.ref a.f_is_hidden)
  b_is_hidden : Binds K a.d_is_hidden ["game", "value"] []
  F_seen_objection : Fun K "seen_objection" "seen_objection" st_seen_objection a.f_seen_objection a.d_seen_objection
  g_seen_objection : mg "seen_objection" = some (.ref a.f_seen_objection)
  b_seen_objection : Binds K a.d_seen_objection ["game", "owners", "hidden"] []
  F_does_hide : Fun K "does_hide" "does_hide" st_does_hide a.f_does_hide a.d_does_hide
  g_does_hide : mg "does_hide" = some (.ref a.f_does_hide)
  b_does_hide : Binds K a.d_does_hide ["game", "owners", "hidden"] []
  F_rows_of : Fun K "rows_of" "rows_of" st_rows_of a.f_rows_of a.d_rows_of
  g_rows_of : mg "rows_of" = some (.ref a.f_rows_of)
  b_rows_of : Binds K a.d_rows_of ["goods", "size"] []
  F_least_hidden : Fun K "least_hidden" "least_hidden" st_least_hidden a.f_least_hidden a.d_least_hidden
  g_least_hidden : mg "least_hidden" = some (.ref a.f_least_hidden)
  b_least_hidden : Binds K a.d_least_hidden ["game", "owners"] []
  F_hidden_of : Fun K "hidden_of" "hidden_of" st_hidden_of a.f_hidden_of a.d_hidden_of
  g_hidden_of : mg "hidden_of" = some (.ref a.f_hidden_of)
  b_hidden_of : Binds K a.d_hidden_of ["game", "owners"] []
  F_law_draw : Fun K "_law_draw" "_law_draw" st_law_draw a.f_law_draw a.d_law_draw
  g_law_draw : mg "_law_draw" = some (.ref a.f_law_draw)
  b_law_draw : Binds K a.d_law_draw ["script"] []
  F_law_take : Fun K "_law_take" "_law_take" st_law_take a.f_law_take a.d_law_take
  g_law_take : mg "_law_take" = some (.ref a.f_law_take)
  b_law_take : Binds K a.d_law_take ["draw", "many"] []
  F_law_game : Fun K "_law_game" "_law_game" st_law_game a.f_law_game a.d_law_game
  g_law_game : mg "_law_game" = some (.ref a.f_law_game)
  b_law_game : Binds K a.d_law_game ["draw", "people", "goods", "most"] []
  F_law_owners : Fun K "_law_owners" "_law_owners" st_law_owners a.f_law_owners a.d_law_owners
  g_law_owners : mg "_law_owners" = some (.ref a.f_law_owners)
  b_law_owners : Binds K a.d_law_owners ["draw", "game"] []
  F_law_worth : Fun K "_law_worth" "_law_worth" st_law_worth a.f_law_worth a.d_law_worth
  g_law_worth : mg "_law_worth" = some (.ref a.f_law_worth)
  b_law_worth : Binds K a.d_law_worth ["game", "owners", "i", "k"] []
  F_law_bad_game : Fun K "_law_bad_game" "_law_bad_game" st_law_bad_game a.f_law_bad_game a.d_law_bad_game
  g_law_bad_game : mg "_law_bad_game" = some (.ref a.f_law_bad_game)
  b_law_bad_game : Binds K a.d_law_bad_game ["draw", "game"] []
  F_law_bad_owners : Fun K "_law_bad_owners" "_law_bad_owners" st_law_bad_owners a.f_law_bad_owners a.d_law_bad_owners
  g_law_bad_owners : mg "_law_bad_owners" = some (.ref a.f_law_bad_owners)
  b_law_bad_owners : Binds K a.d_law_bad_owners ["draw", "game", "owners"] []
  F_law_call : Fun K "_law_call" "_law_call" st_law_call a.f_law_call a.d_law_call
  g_law_call : mg "_law_call" = some (.ref a.f_law_call)
  b_law_call : Binds K a.d_law_call ["call"] []
  F_law_word : Fun K "_law_word" "_law_word" st_law_word a.f_law_word a.d_law_word
  g_law_word : mg "_law_word" = some (.ref a.f_law_word)
  b_law_word : Binds K a.d_law_word ["call"] []
  F_law_envies : Fun K "_law_envies" "_law_envies" st_law_envies a.f_law_envies a.d_law_envies
  g_law_envies : mg "_law_envies" = some (.ref a.f_law_envies)
  b_law_envies : Binds K a.d_law_envies ["game", "owners", "hidden", "i", "k"] []
  F_law_objection : Fun K "_law_objection" "_law_objection" st_law_objection a.f_law_objection a.d_law_objection
  g_law_objection : mg "_law_objection" = some (.ref a.f_law_objection)
  b_law_objection : Binds K a.d_law_objection ["game", "owners", "hidden"] []
  F_law_sets : Fun K "_law_sets" "_law_sets" st_law_sets a.f_law_sets a.d_law_sets
  g_law_sets : mg "_law_sets" = some (.ref a.f_law_sets)
  b_law_sets : Binds K a.d_law_sets ["m"] []
  F_law : Fun K "law" "law" st_law a.f_law a.d_law
  g_law : mg "law" = some (.ref a.f_law)
  b_law : Binds K a.d_law ["script"] []
  n_abs : mg "abs" = none
  n_all : mg "all" = none
  n_bool : mg "bool" = none
  n_enumerate : mg "enumerate" = none
  n_int : mg "int" = none
  n_isinstance : mg "isinstance" = none
  n_len : mg "len" = none
  n_list : mg "list" = none
  n_range : mg "range" = none
  n_sorted : mg "sorted" = none
  n_sum : mg "sum" = none
  n_tuple : mg "tuple" = none
  m_MOST_GOODS : ∃ t, mg "MOST_GOODS" = some (.int 10 t)
  m_MOST_PEOPLE : ∃ t, mg "MOST_PEOPLE" = some (.int 6 t)
  m_MOST_WISH : ∃ t, mg "MOST_WISH" = some (.int 1000 t)
  gM : mg "Malformed" = some (.ref a.CM)
  kM : PySem.W.keepIn K (.ref a.CM) = true
  xM : PySem.W.excIn K a.CM [.type "ValueError", .type "Exception", .type "BaseException", .type "object"] "ValueError.__new__" = true
  bM : PySem.W.subIn K (.ref a.CM) (.type "BaseException") = some true
  tM : PySem.W.typeIn K (.ref a.CM) = some (.type "type")
  cM : ExcC K a.CM
  gF : mg "Fault" = some (.ref a.CF)
  gR : mg "Refused" = some (.ref a.CR)
  kMF : PySem.W.kitOne K (.ref a.CM) (.ref a.CF) = some true
  eMM : PySem.W.exmOne K (.ref a.CM) (.ref a.CM) = some true
  lb : LamX.TabB base mg a.lC a.lP
  lc : a.d_hidden_of.code = .ref a.lC
  lt : PySem.W.tabIn K lamDef = some (a.lC, a.lP)
section
variable {P : Program} {w : World} {K : PySem.W.Frag} {mg : Str → Option Value} {base : Heap} {a : Fa}
theorem ok_is_whole (T : Tk K mg base a) : FnOk P w K mg base (L2.CX P w) 1 a.f_is_whole a.d_is_whole ["value"] (spF K (XRm a.CM) F_is_whole) := fn_mkX T.F_is_whole sc_is_whole rfl rfl fun cdv A outer s H E hr =>
    (fs_one (fs_ret (fe_and (fe_isi isi_int (by rfl) T.n_isinstance (by rfl) T.n_int (by decide +kernel) (fe_var (pv 0))) (fe_one (fe_not (fe_isi isi_bool (by rfl) T.n_isinstance (by rfl) T.n_bool (by decide +kernel) (fe_var (pv 0))))))))
theorem ok_is_wishes (T : Tk K mg base a) : FnOk P w K mg base (L2.CX P w) 2 a.f_is_wishes a.d_is_wishes ["value", "size"] (spF K (XRm a.CM) F_is_wishes) := fn_mkX T.F_is_wishes sc_is_wishes rfl rfl fun cdv A outer s H E hr =>
    (fs_cons (fs_if (PW.pt (fw_or (ft_not (ft_val (fe_isi isi_tuple (by rfl) T.n_isinstance (by rfl) T.n_tuple (by decide +kernel) (fe_var (pv 0))))) (fw_or1 (ft_cmp (op_neD hr.units) snd_ne (fe_callB call_lenA snd_len (by rfl) T.n_len (by decide +kernel) (fa_cons (fe_var (pv 0)) fa_nil)) (fe_var (pv 1)) (nomark _))))) (fs_one (fs_ret fe_bl)) fs_nil)
    (fs_one (fs_ret (fe_callB (cr_all rfl) snd_all (by rfl) T.n_all (by decide +kernel) (fa_cons (fe_lc (own := [("item", 2)]) rfl sc_is_wishes.nd (fi_seq (fe_var (pv 0))) (blkOk_by (own := [("item", 2)]) (N := ["value", "size", "item"]) (sc := defScope st_is_wishes) (by decide +kernel)) (fun _ h => h) (fun _ _ _ _ _ => (fg_name (pg_name (i := 2) sc_is_wishes.nd rfl (.inl rfl)))) (fun _ _ _ _ _ => fts_nil) (fun _ _ _ _ _ => (fe_and (fe_call (ok_is_whole T) (hr.mono (by decide)) (by rfl) T.g_is_whole T.F_is_whole.kp T.b_is_whole passL (fa_cons (fe_var (pv 2)) fa_nil)) (fe_one (fe_chain op_le snd_le op_le snd_le fe_int (fe_var (pv 2)) (fe_c (pe_globI (by rfl) T.m_MOST_WISH) (fun _ => .int 1000))))))) fa_nil)))))
theorem ok_is_game (T : Tk K mg base a) : FnOk P w K mg base (L2.CX P w) 3 a.f_is_game a.d_is_game ["value"] (spF K (XRm a.CM) F_is_game) := fn_mkX T.F_is_game sc_is_game rfl rfl fun cdv A outer s H E hr =>
    (fs_cons (fs_if (PW.pt (fw_or (ft_not (ft_val (fe_isi isi_tuple (by rfl) T.n_isinstance (by rfl) T.n_tuple (by decide +kernel) (fe_var (pv 0))))) (fw_or (ft_not (ft_chain op_le snd_le op_le snd_le fe_int (fe_callB call_lenA snd_len (by rfl) T.n_len (by decide +kernel) (fa_cons (fe_var (pv 0)) fa_nil)) (fe_c (pe_globI (by rfl) T.m_MOST_PEOPLE) (fun _ => .int 6)))) (fw_or1 (ft_not (ft_val (fe_isi isi_tuple (by rfl) T.n_isinstance (by rfl) T.n_tuple (by decide +kernel) (fe_idx (fe_var (pv 0)) fe_int)))))))) (fs_one (fs_ret fe_bl)) fs_nil)
    (fs_one (fs_ret (fe_and (fe_chain op_le snd_le op_le snd_le fe_int (fe_callB call_lenA snd_len (by rfl) T.n_len (by decide +kernel) (fa_cons (fe_idx (fe_var (pv 0)) fe_int) fa_nil)) (fe_c (pe_globI (by rfl) T.m_MOST_GOODS) (fun _ => .int 10))) (fe_one (fe_callB (cr_all rfl) snd_all (by rfl) T.n_all (by decide +kernel) (fa_cons (fe_lc (own := [("row", 1)]) rfl sc_is_game.nd (fi_seq (fe_var (pv 0))) (blkOk_by (own := [("row", 1)]) (N := ["value", "row"]) (sc := defScope st_is_game) (by decide +kernel)) (fun _ h => h) (fun _ _ _ _ _ => (fg_name (pg_name (i := 1) sc_is_game.nd rfl (.inl rfl)))) (fun _ _ _ _ _ => fts_nil) (fun _ _ _ _ _ => (fe_call (ok_is_wishes T) (hr.mono (by decide)) (by rfl) T.g_is_wishes T.F_is_wishes.kp T.b_is_wishes passL (fa_cons (fe_var (pv 1)) (fa_cons (fe_callB call_lenA snd_len (by rfl) T.n_len (by decide +kernel) (fa_cons (fe_idx (fe_var (pv 0)) fe_int) fa_nil)) fa_nil))))) fa_nil)))))))
theorem ok_check_game (T : Tk K mg base a) : FnOk P w K mg base (L2.CX P w) 4 a.f_check_game a.d_check_game ["game"] (spF K (XRm a.CM) F_check_game) := fn_mkX T.F_check_game sc_check_game rfl rfl fun cdv A outer s H E hr =>
    (fs_one (fs_if (ft_not (ft_val (fe_call (ok_is_game T) (hr.mono (by decide)) (by rfl) T.g_is_game T.F_is_game.kp T.b_is_game (passes_call (takes_of rfl rfl rfl rfl) (fun _ _ _ _ h => h)) (fa_cons (fe_var (pv 0)) fa_nil)))) (fs_one (fs_raise (ps_raise rfl (takes_of rfl rfl rfl rfl) (pmk_own PySem.F.excBase_ValueError T.xM T.gM T.kM (raises_own T.bM T.tM) (by rfl))) (fun _ _ _ h => h) (fun _ => ⟨rfl, rfl⟩))) fs_nil))
theorem ok_fits_owners (T : Tk K mg base a) : FnOk P w K mg base (L2.CX P w) 2 a.f_fits_owners a.d_fits_owners ["game", "value"] (spF K (XRm a.CM) F_fits_owners) := fn_mkX T.F_fits_owners sc_fits_owners rfl rfl fun cdv A outer s H E hr =>
    (fs_cons (fs_if (PW.pt (fw_or (ft_not (ft_val (fe_isi isi_tuple (by rfl) T.n_isinstance (by rfl) T.n_tuple (by decide +kernel) (fe_var (pv 1))))) (fw_or1 (ft_cmp (op_neD hr.units) snd_ne (fe_callB call_lenA snd_len (by rfl) T.n_len (by decide +kernel) (fa_cons (fe_var (pv 1)) fa_nil)) (fe_callB call_lenA snd_len (by rfl) T.n_len (by decide +kernel) (fa_cons (fe_idx (fe_var (pv 0)) fe_int) fa_nil)) (nomark _))))) (fs_one (fs_ret fe_bl)) fs_nil)
    (fs_one (fs_ret (fe_callB (cr_all rfl) snd_all (by rfl) T.n_all (by decide +kernel) (fa_cons (fe_lc (own := [("owner", 2)]) rfl sc_fits_owners.nd (fi_seq (fe_var (pv 1))) (blkOk_by (own := [("owner", 2)]) (N := ["game", "value", "owner"]) (sc := defScope st_fits_owners) (by decide +kernel)) (fun _ h => h) (fun _ _ _ _ _ => (fg_name (pg_name (i := 2) sc_fits_owners.nd rfl (.inl rfl)))) (fun _ _ _ _ _ => fts_nil) (fun _ _ _ _ _ => (fe_and (fe_call (ok_is_whole T) (hr.mono (by decide)) (by rfl) T.g_is_whole T.F_is_whole.kp T.b_is_whole passL (fa_cons (fe_var (pv 2)) fa_nil)) (fe_one (fe_chain op_le snd_le op_lt snd_lt fe_int (fe_var (pv 2)) (fe_callB call_lenA snd_len (by rfl) T.n_len (by decide +kernel) (fa_cons (fe_var (pv 0)) fa_nil))))))) fa_nil)))))
theorem ok_check_share (T : Tk K mg base a) : FnOk P w K mg base (L2.CX P w) 5 a.f_check_share a.d_check_share ["game", "owners"] (spF K (XRm a.CM) F_check_share) := fn_mkX T.F_check_share sc_check_share rfl rfl fun cdv A outer s H E hr =>
    (fs_cons (fs_expr (fe_call (ok_check_game T) (hr.mono (by decide)) (by rfl) T.g_check_game T.F_check_game.kp T.b_check_game (passes_call (takes_of rfl rfl rfl rfl) (fun _ _ _ _ h => h)) (fa_cons (fe_var (pv 0)) fa_nil)))
    (fs_one (fs_if (ft_not (ft_val (fe_call (ok_fits_owners T) (hr.mono (by decide)) (by rfl) T.g_fits_owners T.F_fits_owners.kp T.b_fits_owners (passes_call (takes_of rfl rfl rfl rfl) (fun _ _ _ _ h => h)) (fa_cons (fe_var (pv 0)) (fa_cons (fe_var (pv 1)) fa_nil))))) (fs_one (fs_raise (ps_raise rfl (takes_of rfl rfl rfl rfl) (pmk_own PySem.F.excBase_ValueError T.xM T.gM T.kM (raises_own T.bM T.tM) (by rfl))) (fun _ _ _ h => h) (fun _ => ⟨rfl, rfl⟩))) fs_nil)))
theorem ok_parts_of (T : Tk K mg base a) : FnOk P w K mg base (L2.CX P w) 1 a.f_parts_of a.d_parts_of ["n", "owners"] (spF K (XRm a.CM) F_parts_of) := fn_mkX T.F_parts_of sc_parts_of rfl rfl fun cdv A outer s H E hr =>
    (fs_cons (fs_setLc (own := [("_", 3)]) (i := 2) rfl sc_parts_of.nd rfl rfl (sw_true rfl rfl rfl (by decide +kernel)) (fi_rg1 (by rfl) T.n_range (fe_var (pv 0))) (blkOk_by (own := [("_", 3)]) (N := ["n", "owners", "found", "_", "good", "owner"]) (sc := defScope st_parts_of) (by decide +kernel)) (fun _ h => h) (fun _ _ _ _ _ => (fg_name (pg_name (i := 3) sc_parts_of.nd rfl (.inl rfl)))) (fun _ _ _ _ _ => fts_nil) (fun _ _ _ _ _ => (fe_tup fa_nil)))
    (fs_cons (fs_for (passes_of rfl) rfl (fi_enum (by rfl) T.n_enumerate (fe_var (pv 1))) (fg_tup rfl (fgs_cons (fg_name (pg_name (i := 4) sc_parts_of.nd rfl (.inl rfl))) (fgs_cons (fg_name (pg_name (i := 5) sc_parts_of.nd rfl (.inl rfl))) fgs_nil)))
    (fs_one (fs_setItem (fe_op op_addA snd_add (fe_idx (fe_var (pv 2)) (fe_var (pv 5))) (fe_tup (fa_cons (fe_var (pv 4)) fa_nil))) (fe_var (pv 2)) (fe_var (pv 5)))))
    (fs_one (fs_ret (fe_var (pv 2))))))
theorem ok_worth (T : Tk K mg base a) : FnOk P w K mg base (L2.CX P w) 1 a.f_worth a.d_worth ["row", "goods"] (spF K (XRm a.CM) F_worth) := fn_mkX T.F_worth sc_worth rfl rfl fun cdv A outer s H E hr =>
    (fs_one (fs_ret (fe_callB (cr_sum rfl) snd_sum (by rfl) T.n_sum (by decide +kernel) (fa_cons (fe_lc (own := [("good", 2)]) rfl sc_worth.nd (fi_seq (fe_var (pv 1))) (blkOk_by (own := [("good", 2)]) (N := ["row", "goods", "good"]) (sc := defScope st_worth) (by decide +kernel)) (fun _ h => h) (fun _ _ _ _ _ => (fg_name (pg_name (i := 2) sc_worth.nd rfl (.inl rfl)))) (fun _ _ _ _ _ => fts_nil) (fun _ _ _ _ _ => (fe_idx (fe_var (pv 0)) (fe_var (pv 2))))) fa_nil))))
theorem ok_is_hidden (T : Tk K mg base a) : FnOk P w K mg base (L2.CX P w) 2 a.f_is_hidden a.d_is_hidden ["game", "value"] (spF K (XRm a.CM) F_is_hidden) := fn_mkX T.F_is_hidden sc_is_hidden rfl rfl fun cdv A outer s H E hr =>
    (fs_cons (fs_if (PW.pt (fw_or (ft_not (ft_val (fe_isi isi_tuple (by rfl) T.n_isinstance (by rfl) T.n_tuple (by decide +kernel) (fe_var (pv 1))))) (fw_or1 (ft_not (ft_val (fe_callB (cr_all rfl) snd_all (by rfl) T.n_all (by decide +kernel) (fa_cons (fe_lc (own := [("good", 2)]) rfl sc_is_hidden.nd (fi_seq (fe_var (pv 1))) (blkOk_by (own := [("good", 2)]) (N := ["game", "value", "good", "k"]) (sc := defScope st_is_hidden) (by decide +kernel)) (fun _ h => h) (fun _ _ _ _ _ => (fg_name (pg_name (i := 2) sc_is_hidden.nd rfl (.inl rfl)))) (fun _ _ _ _ _ => fts_nil) (fun _ _ _ _ _ => (fe_call (ok_is_whole T) (hr.mono (by decide)) (by rfl) T.g_is_whole T.F_is_whole.kp T.b_is_whole passL (fa_cons (fe_var (pv 2)) fa_nil)))) fa_nil))))))) (fs_one (fs_ret fe_bl)) fs_nil)
    (fs_cons (fs_if (ft_not (ft_val (fe_callB (cr_all rfl) snd_all (by rfl) T.n_all (by decide +kernel) (fa_cons (fe_lc (own := [("good", 2)]) rfl sc_is_hidden.nd (fi_seq (fe_var (pv 1))) (blkOk_by (own := [("good", 2)]) (N := ["game", "value", "good", "k"]) (sc := defScope st_is_hidden) (by decide +kernel)) (fun _ h => h) (fun _ _ _ _ _ => (fg_name (pg_name (i := 2) sc_is_hidden.nd rfl (.inl rfl)))) (fun _ _ _ _ _ => fts_nil) (fun _ _ _ _ _ => (fe_chain op_le snd_le op_lt snd_lt fe_int (fe_var (pv 2)) (fe_callB call_lenA snd_len (by rfl) T.n_len (by decide +kernel) (fa_cons (fe_idx (fe_var (pv 0)) fe_int) fa_nil))))) fa_nil)))) (fs_one (fs_ret fe_bl)) fs_nil)
    (fs_one (fs_ret (fe_callB (cr_all rfl) snd_all (by rfl) T.n_all (by decide +kernel) (fa_cons (fe_lc (own := [("k", 3)]) rfl sc_is_hidden.nd (fi_rg2 (by rfl) T.n_range fe_int (fe_callB call_lenA snd_len (by rfl) T.n_len (by decide +kernel) (fa_cons (fe_var (pv 1)) fa_nil))) (blkOk_by (own := [("k", 3)]) (N := ["game", "value", "good", "k"]) (sc := defScope st_is_hidden) (by decide +kernel)) (fun _ h => h) (fun _ _ _ _ _ => (fg_name (pg_name (i := 3) sc_is_hidden.nd rfl (.inl rfl)))) (fun _ _ _ _ _ => fts_nil) (fun _ _ _ _ _ => (fe_cmp op_lt snd_lt (fe_idx (fe_var (pv 1)) (fe_op op_sub snd_sub (fe_var (pv 3)) fe_int)) (fe_idx (fe_var (pv 1)) (fe_var (pv 3))) (nomark _)))) fa_nil))))))
theorem ok_seen_objection (T : Tk K mg base a) : FnOk P w K mg base (L2.CX P w) 6 a.f_seen_objection a.d_seen_objection ["game", "owners", "hidden"] (spF K (XRm a.CM) F_seen_objection) := fn_mkX T.F_seen_objection sc_seen_objection rfl rfl fun cdv A outer s H E hr =>
    (fs_cons (fs_expr (fe_call (ok_check_share T) (hr.mono (by decide)) (by rfl) T.g_check_share T.F_check_share.kp T.b_check_share (passes_call (takes_of rfl rfl rfl rfl) (fun _ _ _ _ h => h)) (fa_cons (fe_var (pv 0)) (fa_cons (fe_var (pv 1)) fa_nil))))
    (fs_cons (fs_if (ft_not (ft_val (fe_call (ok_is_hidden T) (hr.mono (by decide)) (by rfl) T.g_is_hidden T.F_is_hidden.kp T.b_is_hidden (passes_call (takes_of rfl rfl rfl rfl) (fun _ _ _ _ h => h)) (fa_cons (fe_var (pv 0)) (fa_cons (fe_var (pv 2)) fa_nil))))) (fs_one (fs_raise (ps_raise rfl (takes_of rfl rfl rfl rfl) (pmk_own PySem.F.excBase_ValueError T.xM T.gM T.kM (raises_own T.bM T.tM) (by rfl))) (fun _ _ _ h => h) (fun _ => ⟨rfl, rfl⟩))) fs_nil)
    (fs_cons (fs_set (i := 3) sc_seen_objection.nd rfl (.inl rfl) (fe_call (ok_parts_of T) (hr.mono (by decide)) (by rfl) T.g_parts_of T.F_parts_of.kp T.b_parts_of (passes_call (takes_of rfl rfl rfl rfl) (fun _ _ _ _ h => h)) (fa_cons (fe_callB call_lenA snd_len (by rfl) T.n_len (by decide +kernel) (fa_cons (fe_var (pv 0)) fa_nil)) (fa_cons (fe_var (pv 1)) fa_nil))))
    (fs_cons (fs_for (passes_of rfl) rfl (fi_enum (by rfl) T.n_enumerate (fe_var (pv 0))) (fg_tup rfl (fgs_cons (fg_name (pg_name (i := 4) sc_seen_objection.nd rfl (.inl rfl))) (fgs_cons (fg_name (pg_name (i := 5) sc_seen_objection.nd rfl (.inl rfl))) fgs_nil)))
    (fs_cons (fs_set (i := 6) sc_seen_objection.nd rfl (.inl rfl) (fe_call (ok_worth T) (hr.mono (by decide)) (by rfl) T.g_worth T.F_worth.kp T.b_worth (passes_call (takes_of rfl rfl rfl rfl) (fun _ _ _ _ h => h)) (fa_cons (fe_var (pv 5)) (fa_cons (fe_idx (fe_var (pv 3)) (fe_var (pv 4))) fa_nil))))
    (fs_one (fs_for (passes_of rfl) rfl (fi_enum (by rfl) T.n_enumerate (fe_var (pv 3))) (fg_tup rfl (fgs_cons (fg_name (pg_name (i := 7) sc_seen_objection.nd rfl (.inl rfl))) (fgs_cons (fg_name (pg_name (i := 8) sc_seen_objection.nd rfl (.inl rfl))) fgs_nil)))
    (fs_one (fs_if (PW.pt (fw_and (ft_cmp (op_neD hr.units) snd_ne (fe_var (pv 7)) (fe_var (pv 4)) (nomark _)) (fw_and1 (ft_cmp op_gt snd_gt (fe_call (ok_worth T) (hr.mono (by decide)) (by rfl) T.g_worth T.F_worth.kp T.b_worth (passes_call (takes_of rfl rfl rfl rfl) (fun _ _ _ _ h => h)) (fa_cons (fe_var (pv 5)) (fa_cons (fe_lc (own := [("good", 9)]) rfl sc_seen_objection.nd (fi_seq (fe_var (pv 8))) (blkOk_by (own := [("good", 9)]) (N := ["game", "owners", "hidden", "parts", "i", "row", "own", "k", "part", "good"]) (sc := defScope st_seen_objection) (by decide +kernel)) (fun _ h => h) (fun _ _ _ _ _ => (fg_name (pg_name (i := 9) sc_seen_objection.nd rfl (.inl rfl)))) (fun _ _ _ _ _ => (fts_one (ft_cmp op_notIn_seq snd_nin (fe_var (pv 9)) (fe_var (pv 2)) (by rfl)))) (fun _ _ _ _ _ => (fe_var (pv 9)))) fa_nil))) (fe_var (pv 6)) (nomark _))))) (fs_one (fs_ret (fe_tup (fa_cons (fe_var (pv 4)) (fa_cons (fe_var (pv 7)) fa_nil))))) fs_nil))))))
    (fs_one (fs_ret fe_non))))))
theorem ok_does_hide (T : Tk K mg base a) : FnOk P w K mg base (L2.CX P w) 7 a.f_does_hide a.d_does_hide ["game", "owners", "hidden"] (spF K (XRm a.CM) F_does_hide) := fn_mkX T.F_does_hide sc_does_hide rfl rfl fun cdv A outer s H E hr =>
    (fs_one (fs_ret (fe_cmp op_isN snd_isN (fe_call (ok_seen_objection T) (hr.mono (by decide)) (by rfl) T.g_seen_objection T.F_seen_objection.kp T.b_seen_objection (passes_call (takes_of rfl rfl rfl rfl) (fun _ _ _ _ h => h)) (fa_cons (fe_var (pv 0)) (fa_cons (fe_var (pv 1)) (fa_cons (fe_var (pv 2)) fa_nil)))) fe_non (nomark _))))
theorem ok_rows_of (T : Tk K mg base a) : FnOk P w K mg base (L2.CX P w) 1 a.f_rows_of a.d_rows_of ["goods", "size"] (spF K (XRm a.CM) F_rows_of) := fn_mkX T.F_rows_of sc_rows_of rfl rfl fun cdv A outer s H E hr =>
    (fs_cons (fs_set (i := 2) sc_rows_of.nd rfl (.inl rfl) (fe_lst (fa_cons (fe_tup fa_nil) fa_nil)))
    (fs_cons (fs_for (passes_of rfl) rfl (fi_rg1 (by rfl) T.n_range (fe_var (pv 1))) (fg_name (pg_name (i := 3) sc_rows_of.nd rfl (.inl rfl)))
    (fs_one (fs_setLc2 (own := [("row", 4), ("good", 5)]) (i := 2) rfl sc_rows_of.nd rfl rfl (sw_true rfl rfl rfl (by decide +kernel)) (fi_seq (fe_var (pv 2))) (blkOk_by (own := [("row", 4), ("good", 5)]) (N := ["goods", "size", "found", "_", "row", "good"]) (sc := defScope st_rows_of) (by decide +kernel)) (by decide) (fun _ h => h) (vs1 := [5]) (by decide) (fun _ _ _ _ _ => (fg_name (pg_name (i := 4) sc_rows_of.nd rfl (.inl rfl)))) (fun _ _ _ _ _ => fts_nil) (fun _ _ _ _ _ => (fu_rg2 (by rfl) T.n_range (fe_if (ft_cmp op_gt snd_gt (fe_callB call_lenA snd_len (by rfl) T.n_len (by decide +kernel) (fa_cons (fe_var (pv 4)) fa_nil)) fe_int (nomark _)) (fe_op op_addA snd_add (fe_idx (fe_var (pv 4)) (fe_neg fe_int)) fe_int) fe_int) (fe_var (pv 0)))) (fun _ _ _ _ _ => (fg_name (pg_name (i := 5) sc_rows_of.nd rfl (.inl rfl)))) (fun _ _ _ _ _ => fts_nil) (fun _ _ _ _ _ => (fe_op op_addA snd_add (fe_var (pv 4)) (fe_tup (fa_cons (fe_var (pv 5)) fa_nil)))))))
    (fs_one (fs_ret (fe_var (pv 2))))))
theorem ok_least_hidden (T : Tk K mg base a) : FnOk P w K mg base (L2.CX P w) 8 a.f_least_hidden a.d_least_hidden ["game", "owners"] (spF K (XRm a.CM) F_least_hidden) := fn_mkX T.F_least_hidden sc_least_hidden rfl rfl fun cdv A outer s H E hr =>
    (fs_cons (fs_expr (fe_call (ok_check_share T) (hr.mono (by decide)) (by rfl) T.g_check_share T.F_check_share.kp T.b_check_share (passes_call (takes_of rfl rfl rfl rfl) (fun _ _ _ _ h => h)) (fa_cons (fe_var (pv 0)) (fa_cons (fe_var (pv 1)) fa_nil))))
    (fs_cons (fs_for (passes_of rfl) rfl (fi_rg1 (by rfl) T.n_range (fe_op op_addA snd_add (fe_callB call_lenA snd_len (by rfl) T.n_len (by decide +kernel) (fa_cons (fe_idx (fe_var (pv 0)) fe_int) fa_nil)) fe_int)) (fg_name (pg_name (i := 2) sc_least_hidden.nd rfl (.inl rfl)))
    (fs_one (fs_for (passes_of rfl) rfl (fi_seq (fe_call (ok_rows_of T) (hr.mono (by decide)) (by rfl) T.g_rows_of T.F_rows_of.kp T.b_rows_of (passes_call (takes_of rfl rfl rfl rfl) (fun _ _ _ _ h => h)) (fa_cons (fe_callB call_lenA snd_len (by rfl) T.n_len (by decide +kernel) (fa_cons (fe_idx (fe_var (pv 0)) fe_int) fa_nil)) (fa_cons (fe_var (pv 2)) fa_nil)))) (fg_name (pg_name (i := 3) sc_least_hidden.nd rfl (.inl rfl)))
    (fs_one (fs_if (ft_val (fe_call (ok_does_hide T) (hr.mono (by decide)) (by rfl) T.g_does_hide T.F_does_hide.kp T.b_does_hide (passes_call (takes_of rfl rfl rfl rfl) (fun _ _ _ _ h => h)) (fa_cons (fe_var (pv 0)) (fa_cons (fe_var (pv 1)) (fa_cons (fe_var (pv 3)) fa_nil))))) (fs_one (fs_ret (fe_var (pv 3)))) fs_nil)))))
    (fs_one (fs_ret (fe_tupRg1 rfl (by rfl) T.n_tuple (prg_1 (by rfl) T.n_range (fe_callB call_lenA snd_len (by rfl) T.n_len (by decide +kernel) (fa_cons (fe_idx (fe_var (pv 0)) fe_int) fa_nil))))))))
theorem ok_hidden_of (T : Tk K mg base a) : FnOk P w K mg base (L2.CX P w) 6 a.f_hidden_of a.d_hidden_of ["game", "owners"] (spF K (XRm a.CM) F_hidden_of) := fn_mkXc T.F_hidden_of sc_hidden_of rfl rfl fun cdv hc A outer s H E hr =>
    (fs_cons (fs_expr (fe_call (ok_check_share T) (hr.mono (by decide)) (by rfl) T.g_check_share T.F_check_share.kp T.b_check_share (passes_call (takes_of rfl rfl rfl rfl) (fun _ _ _ _ h => h)) (fa_cons (fe_var (pv 0)) (fa_cons (fe_var (pv 1)) fa_nil))))
    (fs_cons (fs_set (i := 2) sc_hidden_of.nd rfl (.inl rfl) (fe_lst fa_nil))
    (fs_cons (fs_for (passes_of rfl) rfl (fi_enum (by rfl) T.n_enumerate (fe_var (pv 0))) (fg_tup rfl (fgs_cons (fg_name (pg_name (i := 3) sc_hidden_of.nd rfl (.inl rfl))) (fgs_cons (fg_name (pg_name (i := 4) sc_hidden_of.nd rfl (.inr rfl))) fgs_nil)))
    (fs_cons (fs_set (i := 5) sc_hidden_of.nd rfl (.inl rfl) (fe_call (ok_parts_of T) (hr.mono (by decide)) (by rfl) T.g_parts_of T.F_parts_of.kp T.b_parts_of (passes_call (takes_of rfl rfl rfl rfl) (fun _ _ _ _ h => h)) (fa_cons (fe_callB call_lenA snd_len (by rfl) T.n_len (by decide +kernel) (fa_cons (fe_var (pv 0)) fa_nil)) (fa_cons (fe_var (pv 1)) fa_nil))))
    (fs_cons (fs_par (n := 6) (m := 7) rfl sc_hidden_of.nd rfl rfl (by decide) rfl rfl (fa_cons (fe_call (ok_worth T) (hr.mono (by decide)) (by rfl) T.g_worth T.F_worth.kp T.b_worth (passes_call (takes_of rfl rfl rfl rfl) (fun _ _ _ _ h => h)) (fa_cons (fe_var (pv 4)) (fa_cons (fe_idx (fe_var (pv 5)) (fe_var (pv 3))) fa_nil))) (fa_cons (fe_lst fa_nil) fa_nil)) (by rfl))
    (fs_cons (fs_for (passes_of rfl) rfl (fi_enum (by rfl) T.n_enumerate (fe_var (pv 5))) (fg_tup rfl (fgs_cons (fg_name (pg_name (i := 8) sc_hidden_of.nd rfl (.inl rfl))) (fgs_cons (fg_name (pg_name (i := 9) sc_hidden_of.nd rfl (.inl rfl))) fgs_nil)))
    (fs_cons (fs_set (i := 10) sc_hidden_of.nd rfl (.inl rfl) (fe_sortNeg (ir := 4) hr (by rfl) T.n_sorted T.lb (hc.symm.trans T.lc) (by rfl) T.lt rfl rfl (fe_var (pv 9))))
    (fs_one (fs_while wfuel (passes_of rfl) (PW.pt (fw_and (ft_cmp (op_neD hr.units) snd_ne (fe_var (pv 8)) (fe_var (pv 3)) (nomark _)) (fw_and1 (ft_cmp op_gt snd_gt (fe_call (ok_worth T) (hr.mono (by decide)) (by rfl) T.g_worth T.F_worth.kp T.b_worth (passes_call (takes_of rfl rfl rfl rfl) (fun _ _ _ _ h => h)) (fa_cons (fe_var (pv 4)) (fa_cons (fe_var (pv 10)) fa_nil))) (fe_var (pv 6)) (nomark _)))))
    (fs_one (fs_expr (fe_meth PySem.F.slot_list_append PySem.F.type_list_append mt_append snd_append (fe_var (pv 7)) (fa_cons (fe_meth PySem.F.slot_list_pop PySem.F.type_list_pop mt_popAt snd_popAt (fe_var (pv 10)) (fa_cons fe_int fa_nil)) fa_nil))))))))
    (fs_one (fs_expr (fe_meth PySem.F.slot_list_append PySem.F.type_list_append mt_append snd_append (fe_var (pv 2)) (fa_cons (fe_callTy call_tuple_of snd_tuple (by rfl) T.n_tuple (by decide +kernel) (fa_cons (fe_callB (call_sortedA hr.units) snd_sorted (by rfl) T.n_sorted (by decide +kernel) (fa_cons (fe_var (pv 7)) fa_nil)) fa_nil)) fa_nil))))))))
    (fs_one (fs_ret (fe_callTy call_tuple_of snd_tuple (by rfl) T.n_tuple (by decide +kernel) (fa_cons (fe_var (pv 2)) fa_nil)))))))
theorem ok_law_draw (T : Tk K mg base a) : FnOk P w K mg base (L2.CX P w) 1 a.f_law_draw a.d_law_draw ["script"] (spF K (XRm a.CM) F_law_draw) := fn_mkX T.F_law_draw sc_law_draw rfl rfl fun cdv A outer s H E hr =>
    (fs_cons (fs_set (i := 1) sc_law_draw.nd rfl (.inl rfl) fe_int)
    (fs_cons (fs_for (passes_of rfl) rfl (fi_seq (fe_var (pv 0))) (fg_name (pg_name (i := 2) sc_law_draw.nd rfl (.inl rfl)))
    (fs_one (fs_set (i := 1) sc_law_draw.nd rfl (.inl rfl) (fe_op op_modN snd_mod (fe_callTy call_int1 snd_int (by rfl) T.n_int (by decide +kernel) (fa_cons (fe_op op_addA snd_add (fe_op op_addA snd_add (fe_op op_mulA snd_mul (fe_var (pv 1)) fe_int) (fe_op op_modN snd_mod (fe_callB call_abs snd_abs (by rfl) T.n_abs (by decide +kernel) (fa_cons (fe_callTy call_int1 snd_int (by rfl) T.n_int (by decide +kernel) (fa_cons (fe_var (pv 2)) fa_nil)) fa_nil)) fe_int)) fe_int) fa_nil)) fe_int))))
    (fs_one (fs_ret (fe_lst (fa_cons (fe_lc (own := [("cell", 2)]) rfl sc_law_draw.nd (fi_seq (fe_var (pv 0))) (blkOk_by (own := [("cell", 2)]) (N := ["script", "seed", "cell"]) (sc := defScope st_law_draw) (by decide +kernel)) (fun _ h => h) (fun _ _ _ _ _ => (fg_name (pg_name (i := 2) sc_law_draw.nd rfl (.inl rfl)))) (fun _ _ _ _ _ => fts_nil) (fun _ _ _ _ _ => (fe_callB call_abs snd_abs (by rfl) T.n_abs (by decide +kernel) (fa_cons (fe_callTy call_int1 snd_int (by rfl) T.n_int (by decide +kernel) (fa_cons (fe_var (pv 2)) fa_nil)) fa_nil)))) (fa_cons (fe_neg fe_int) (fa_cons fe_int (fa_cons (fe_var (pv 1)) fa_nil)))))))))
theorem ok_law_take (T : Tk K mg base a) : FnOk P w K mg base (L2.CX P w) 1 a.f_law_take a.d_law_take ["draw", "many"] (spF K (XRm a.CM) F_law_take) := fn_mkX T.F_law_take sc_law_take rfl rfl fun cdv A outer s H E hr =>
    (fs_cons (fs_if (ft_cmp (op_eqD hr.units) snd_eq (fe_idx (fe_var (pv 0)) fe_int) fe_int (nomark _)) (fs_cons (fs_setItem (fe_op op_addA snd_add (fe_idx (fe_var (pv 0)) fe_int) fe_int) (fe_var (pv 0)) fe_int)
    (fs_cons (fs_if (ft_cmp op_lt snd_lt (fe_idx (fe_var (pv 0)) fe_int) (fe_callB call_lenA snd_len (by rfl) T.n_len (by decide +kernel) (fa_cons (fe_idx (fe_var (pv 0)) fe_int) fa_nil)) (nomark _)) (fs_one (fs_setItem (fe_idx (fe_idx (fe_var (pv 0)) fe_int) (fe_idx (fe_var (pv 0)) fe_int)) (fe_var (pv 0)) fe_int)) fs_nil)
    (fs_one (fs_if (ft_cmp (op_eqD hr.units) snd_eq (fe_idx (fe_var (pv 0)) fe_int) fe_int (nomark _)) (fs_cons (fs_setItem (fe_op op_modN snd_mod (fe_callTy call_int1 snd_int (by rfl) T.n_int (by decide +kernel) (fa_cons (fe_op op_addA snd_add (fe_op op_mulA snd_mul (fe_idx (fe_var (pv 0)) fe_int) fe_int) fe_int) fa_nil)) fe_int) (fe_var (pv 0)) fe_int)
    (fs_one (fs_setItem (fe_idx (fe_var (pv 0)) fe_int) (fe_var (pv 0)) fe_int))) fs_nil)))) fs_nil)
    (fs_cons (fs_set (i := 2) sc_law_take.nd rfl (.inl rfl) (fe_op op_modN snd_mod (fe_callTy call_int1 snd_int (by rfl) T.n_int (by decide +kernel) (fa_cons (fe_idx (fe_var (pv 0)) fe_int) fa_nil)) (fe_var (pv 1))))
    (fs_cons (fs_setItem (fe_op op_divA snd_div (fe_idx (fe_var (pv 0)) fe_int) (fe_var (pv 1))) (fe_var (pv 0)) fe_int)
    (fs_one (fs_ret (fe_var (pv 2)))))))
theorem ok_law_game (T : Tk K mg base a) : FnOk P w K mg base (L2.CX P w) 2 a.f_law_game a.d_law_game ["draw", "people", "goods", "most"] (spF K (XRm a.CM) F_law_game) := fn_mkX T.F_law_game sc_law_game rfl rfl fun cdv A outer s H E hr =>
    (fs_cons (fs_par (n := 4) (m := 5) rfl sc_law_game.nd rfl rfl (by decide) rfl rfl (fa_cons (fe_op op_addA snd_add fe_int (fe_callM (ok_law_take T) (hr.mono (by decide)) (by rfl) T.g_law_take T.F_law_take.kp T.b_law_take (passes_call (takes_of rfl rfl rfl rfl) (fun _ _ _ _ h => h)) (fa_cons (fe_var (pv 0)) (fa_cons (fe_var (pv 1)) fa_nil)))) (fa_cons (fe_op op_addA snd_add fe_int (fe_callM (ok_law_take T) (hr.mono (by decide)) (by rfl) T.g_law_take T.F_law_take.kp T.b_law_take (passes_call (takes_of rfl rfl rfl rfl) (fun _ _ _ _ h => h)) (fa_cons (fe_var (pv 0)) (fa_cons (fe_var (pv 2)) fa_nil)))) fa_nil)) (by rfl))
    (fs_cons (fs_set (i := 6) sc_law_game.nd rfl (.inr rfl) (fe_idx (fe_lst (fa_cons fe_int (fa_cons fe_int (fa_cons (fe_var (pv 3)) fa_nil)))) (fe_callM (ok_law_take T) (hr.mono (by decide)) (by rfl) T.g_law_take T.F_law_take.kp T.b_law_take (passes_call (takes_of rfl rfl rfl rfl) (fun _ _ _ _ h => h)) (fa_cons (fe_var (pv 0)) (fa_cons fe_int fa_nil)))))
    (fs_cons (fs_set (i := 7) sc_law_game.nd rfl (.inl rfl) (fe_lst fa_nil))
    (fs_cons (fs_for (passes_of rfl) rfl (fi_rg1 (by rfl) T.n_range (fe_var (pv 4))) (fg_name (pg_name (i := 8) sc_law_game.nd rfl (.inl rfl)))
    (fs_cons (fs_set (i := 9) sc_law_game.nd rfl (.inl rfl) (fe_callTy call_tuple_of snd_tuple (by rfl) T.n_tuple (by decide +kernel) (fa_cons (fe_lc (own := [("good", 10)]) rfl sc_law_game.nd (fi_rg1 (by rfl) T.n_range (fe_var (pv 5))) (blkOk_by (own := [("good", 10)]) (N := ["draw", "people", "goods", "most", "n", "m", "top", "rows", "i", "row", "good"]) (sc := defScope st_law_game) (by decide +kernel)) (fun _ h => h) (fun _ _ _ _ _ => (fg_name (pg_name (i := 10) sc_law_game.nd rfl (.inl rfl)))) (fun _ _ _ _ _ => fts_nil) (fun _ _ _ _ _ => (fe_op op_addA snd_add fe_int (fe_callM (ok_law_take T) (hr.mono (by decide)) (by rfl) T.g_law_take T.F_law_take.kp T.b_law_take passL (fa_cons (fe_var (pv 0)) (fa_cons (fe_var (pv 6)) fa_nil)))))) fa_nil)))
    (fs_one (fs_expr (fe_meth PySem.F.slot_list_append PySem.F.type_list_append mt_append snd_append (fe_var (pv 7)) (fa_cons (fe_if (PW.pt (fw_and (ft_cmp (op_neD hr.units) snd_ne (fe_var (pv 7)) (fe_lst fa_nil) (nomark _)) (fw_and1 (ft_cmp (op_eqD hr.units) snd_eq (fe_callM (ok_law_take T) (hr.mono (by decide)) (by rfl) T.g_law_take T.F_law_take.kp T.b_law_take (passes_call (takes_of rfl rfl rfl rfl) (fun _ _ _ _ h => h)) (fa_cons (fe_var (pv 0)) (fa_cons fe_int fa_nil))) fe_int (nomark _))))) (fe_idx (fe_var (pv 7)) (fe_callM (ok_law_take T) (hr.mono (by decide)) (by rfl) T.g_law_take T.F_law_take.kp T.b_law_take (passes_call (takes_of rfl rfl rfl rfl) (fun _ _ _ _ h => h)) (fa_cons (fe_var (pv 0)) (fa_cons (fe_callB call_lenA snd_len (by rfl) T.n_len (by decide +kernel) (fa_cons (fe_var (pv 7)) fa_nil)) fa_nil)))) (fe_var (pv 9))) fa_nil))))))
    (fs_one (fs_ret (fe_callTy call_tuple_of snd_tuple (by rfl) T.n_tuple (by decide +kernel) (fa_cons (fe_var (pv 7)) fa_nil))))))))
theorem ok_law_owners (T : Tk K mg base a) : FnOk P w K mg base (L2.CX P w) 2 a.f_law_owners a.d_law_owners ["draw", "game"] (spF K (XRm a.CM) F_law_owners) := fn_mkX T.F_law_owners sc_law_owners rfl rfl fun cdv A outer s H E hr =>
    (fs_one (fs_ret (fe_callTy call_tuple_of snd_tuple (by rfl) T.n_tuple (by decide +kernel) (fa_cons (fe_lc (own := [("good", 2)]) rfl sc_law_owners.nd (fi_seq (fe_idx (fe_var (pv 1)) fe_int)) (blkOk_by (own := [("good", 2)]) (N := ["draw", "game", "good"]) (sc := defScope st_law_owners) (by decide +kernel)) (fun _ h => h) (fun _ _ _ _ _ => (fg_name (pg_name (i := 2) sc_law_owners.nd rfl (.inl rfl)))) (fun _ _ _ _ _ => fts_nil) (fun _ _ _ _ _ => (fe_callM (ok_law_take T) (hr.mono (by decide)) (by rfl) T.g_law_take T.F_law_take.kp T.b_law_take passL (fa_cons (fe_var (pv 0)) (fa_cons (fe_callB call_lenA snd_len (by rfl) T.n_len (by decide +kernel) (fa_cons (fe_var (pv 1)) fa_nil)) fa_nil))))) fa_nil))))
theorem ok_law_worth (T : Tk K mg base a) : FnOk P w K mg base (L2.CX P w) 1 a.f_law_worth a.d_law_worth ["game", "owners", "i", "k"] (spF K (XRm a.CM) F_law_worth) := fn_mkX T.F_law_worth sc_law_worth rfl rfl fun cdv A outer s H E hr =>
    (fs_one (fs_ret (fe_callB (cr_sum rfl) snd_sum (by rfl) T.n_sum (by decide +kernel) (fa_cons (fe_lc (own := [("good", 4)]) rfl sc_law_worth.nd (fi_rg1 (by rfl) T.n_range (fe_callB call_lenA snd_len (by rfl) T.n_len (by decide +kernel) (fa_cons (fe_var (pv 1)) fa_nil))) (blkOk_by (own := [("good", 4)]) (N := ["game", "owners", "i", "k", "good"]) (sc := defScope st_law_worth) (by decide +kernel)) (fun _ h => h) (fun _ _ _ _ _ => (fg_name (pg_name (i := 4) sc_law_worth.nd rfl (.inl rfl)))) (fun _ _ _ _ _ => (fts_one (ft_cmp (op_eqD hr.units) snd_eq (fe_idx (fe_var (pv 1)) (fe_var (pv 4))) (fe_var (pv 3)) (nomark _)))) (fun _ _ _ _ _ => (fe_idx (fe_idx (fe_var (pv 0)) (fe_var (pv 2))) (fe_var (pv 4))))) fa_nil))))
theorem ok_law_bad_game (T : Tk K mg base a) : FnOk P w K mg base (L2.CX P w) 2 a.f_law_bad_game a.d_law_bad_game ["draw", "game"] (spF K (XRm a.CM) F_law_bad_game) := fn_mkX T.F_law_bad_game sc_law_bad_game rfl rfl fun cdv A outer s H E hr =>
    (fs_cons (fs_set (i := 2) sc_law_bad_game.nd rfl (.inl rfl) (fe_lst (fa_cons fe_non (fa_cons (fe_tup fa_nil) (fa_cons fe_int (fa_cons (fe_callTy call_list_of snd_list (by rfl) T.n_list (by decide +kernel) (fa_cons (fe_var (pv 1)) fa_nil)) (fa_cons (fe_tup (fa_cons (fe_tup fa_nil) fa_nil)) (fa_cons (fe_op op_addA snd_add (fe_var (pv 1)) (fe_tup (fa_cons (fe_op op_mulA snd_mul (fe_tup (fa_cons fe_int fa_nil)) (fe_op op_addA snd_add (fe_callB call_lenA snd_len (by rfl) T.n_len (by decide +kernel) (fa_cons (fe_idx (fe_var (pv 1)) fe_int) fa_nil)) fe_int)) fa_nil))) (fa_cons (fe_op op_addA snd_add (fe_slice (fe_var (pv 1)) fo_none (fo_some (fe_neg fe_int))) (fe_tup (fa_cons (fe_op op_mulA snd_mul (fe_tup (fa_cons fe_int fa_nil)) (fe_callB call_lenA snd_len (by rfl) T.n_len (by decide +kernel) (fa_cons (fe_idx (fe_var (pv 1)) fe_int) fa_nil))) fa_nil))) (fa_cons (fe_op op_addA snd_add (fe_slice (fe_var (pv 1)) fo_none (fo_some (fe_neg fe_int))) (fe_tup (fa_cons (fe_op op_mulA snd_mul (fe_tup (fa_cons fe_int fa_nil)) (fe_callB call_lenA snd_len (by rfl) T.n_len (by decide +kernel) (fa_cons (fe_idx (fe_var (pv 1)) fe_int) fa_nil))) fa_nil))) fa_nil))))))))))
    (fs_cons (fs_set (i := 2) sc_law_bad_game.nd rfl (.inl rfl) (fe_op op_addA snd_add (fe_var (pv 2)) (fe_lst (fa_cons (fe_op op_mulA snd_mul (fe_tup (fa_cons (fe_tup (fa_cons fe_int fa_nil)) fa_nil)) fe_int) (fa_cons (fe_tup (fa_cons (fe_op op_mulA snd_mul (fe_tup (fa_cons fe_int fa_nil)) fe_int) fa_nil)) (fa_cons (fe_op op_addA snd_add (fe_slice (fe_var (pv 1)) fo_none (fo_some (fe_neg fe_int))) (fe_tup (fa_cons (fe_op op_mulA snd_mul (fe_lst (fa_cons fe_int fa_nil)) (fe_callB call_lenA snd_len (by rfl) T.n_len (by decide +kernel) (fa_cons (fe_idx (fe_var (pv 1)) fe_int) fa_nil))) fa_nil))) (fa_cons (fe_op op_addA snd_add (fe_slice (fe_var (pv 1)) fo_none (fo_some (fe_neg fe_int))) (fe_tup (fa_cons (fe_op op_mulA snd_mul (fe_tup (fa_cons fe_bl fa_nil)) (fe_callB call_lenA snd_len (by rfl) T.n_len (by decide +kernel) (fa_cons (fe_idx (fe_var (pv 1)) fe_int) fa_nil))) fa_nil))) (fa_cons fe_str fa_nil))))))))
    (fs_one (fs_ret (fe_idx (fe_var (pv 2)) (fe_callM (ok_law_take T) (hr.mono (by decide)) (by rfl) T.g_law_take T.F_law_take.kp T.b_law_take (passes_call (takes_of rfl rfl rfl rfl) (fun _ _ _ _ h => h)) (fa_cons (fe_var (pv 0)) (fa_cons fe_int fa_nil))))))))
theorem ok_law_bad_owners (T : Tk K mg base a) : FnOk P w K mg base (L2.CX P w) 2 a.f_law_bad_owners a.d_law_bad_owners ["draw", "game", "owners"] (spF K (XRm a.CM) F_law_bad_owners) := fn_mkX T.F_law_bad_owners sc_law_bad_owners rfl rfl fun cdv A outer s H E hr =>
    (fs_one (fs_ret (fe_idx (fe_lst (fa_cons fe_non (fa_cons (fe_tup fa_nil) (fa_cons (fe_op op_addA snd_add (fe_var (pv 2)) (fe_tup (fa_cons fe_int fa_nil))) (fa_cons (fe_callTy call_list_of snd_list (by rfl) T.n_list (by decide +kernel) (fa_cons (fe_var (pv 2)) fa_nil)) (fa_cons (fe_op op_addA snd_add (fe_slice (fe_var (pv 2)) fo_none (fo_some (fe_neg fe_int))) (fe_tup (fa_cons (fe_callB call_lenA snd_len (by rfl) T.n_len (by decide +kernel) (fa_cons (fe_var (pv 1)) fa_nil)) fa_nil))) (fa_cons (fe_op op_addA snd_add (fe_slice (fe_var (pv 2)) fo_none (fo_some (fe_neg fe_int))) (fe_tup (fa_cons (fe_neg fe_int) fa_nil))) (fa_cons (fe_op op_mulA snd_mul (fe_tup (fa_cons fe_non fa_nil)) (fe_callB call_lenA snd_len (by rfl) T.n_len (by decide +kernel) (fa_cons (fe_var (pv 2)) fa_nil))) (fa_cons fe_str fa_nil))))))))) (fe_callM (ok_law_take T) (hr.mono (by decide)) (by rfl) T.g_law_take T.F_law_take.kp T.b_law_take (passes_call (takes_of rfl rfl rfl rfl) (fun _ _ _ _ h => h)) (fa_cons (fe_var (pv 0)) (fa_cons fe_int fa_nil))))))
theorem ok_law_call (T : Tk K mg base a) : FnOk P w K mg base (L2.CX P w) 9 a.f_law_call a.d_law_call ["call"] (spF K (XRm a.CM) F_law_call) := fn_mkX T.F_law_call sc_law_call rfl rfl fun cdv A outer s H E hr =>
    (fs_cons (fs_asg (fe_var (pv 0)) (fg_tup rfl (fgs_cons (fg_name (pg_name (i := 1) sc_law_call.nd rfl (.inl rfl))) (fgs_cons (fg_name (pg_name (i := 2) sc_law_call.nd rfl (.inl rfl))) (fgs_cons (fg_name (pg_name (i := 3) sc_law_call.nd rfl (.inl rfl))) (fgs_cons (fg_name (pg_name (i := 4) sc_law_call.nd rfl (.inl rfl))) fgs_nil))))))
    (fs_one (fs_if (ft_cmp (op_eqD hr.units) snd_eq (fe_var (pv 1)) fe_int (nomark _)) (fs_one (fs_expr (fe_call (ok_seen_objection T) (hr.mono (by decide)) (by rfl) T.g_seen_objection T.F_seen_objection.kp T.b_seen_objection (passes_call (takes_of rfl rfl rfl rfl) (fun _ _ _ _ h => h)) (fa_cons (fe_var (pv 2)) (fa_cons (fe_var (pv 3)) (fa_cons (fe_var (pv 4)) fa_nil)))))) (fs_one (fs_if (ft_cmp (op_eqD hr.units) snd_eq (fe_var (pv 1)) fe_int (nomark _)) (fs_one (fs_expr (fe_call (ok_does_hide T) (hr.mono (by decide)) (by rfl) T.g_does_hide T.F_does_hide.kp T.b_does_hide (passes_call (takes_of rfl rfl rfl rfl) (fun _ _ _ _ h => h)) (fa_cons (fe_var (pv 2)) (fa_cons (fe_var (pv 3)) (fa_cons (fe_var (pv 4)) fa_nil)))))) (fs_one (fs_if (ft_cmp (op_eqD hr.units) snd_eq (fe_var (pv 1)) fe_int (nomark _)) (fs_one (fs_expr (fe_call (ok_least_hidden T) (hr.mono (by decide)) (by rfl) T.g_least_hidden T.F_least_hidden.kp T.b_least_hidden (passes_call (takes_of rfl rfl rfl rfl) (fun _ _ _ _ h => h)) (fa_cons (fe_var (pv 2)) (fa_cons (fe_var (pv 3)) fa_nil))))) (fs_one (fs_expr (fe_call (ok_hidden_of T) (hr.mono (by decide)) (by rfl) T.g_hidden_of T.F_hidden_of.kp T.b_hidden_of (passes_call (takes_of rfl rfl rfl rfl) (fun _ _ _ _ h => h)) (fa_cons (fe_var (pv 2)) (fa_cons (fe_var (pv 3)) fa_nil))))))))))))
theorem ok_law_word (T : Tk K mg base a) : FnOk P w K mg base (L2.CX P w) 10 a.f_law_word a.d_law_word ["call"] (spF K (XRm a.CM) F_law_word) :=
  fn_word T.F_law_word sc_law_word (ok_law_call T) T.g_law_call T.F_law_call.kp T.b_law_call T.cM T.n_isinstance T.gM T.gF T.gR T.kMF T.eMM rfl rfl rfl rfl rfl rfl rfl rfl (by decide)
theorem ok_law_envies (T : Tk K mg base a) : FnOk P w K mg base (L2.CX P w) 2 a.f_law_envies a.d_law_envies ["game", "owners", "hidden", "i", "k"] (spF K (XRm a.CM) F_law_envies) := fn_mkX T.F_law_envies sc_law_envies rfl rfl fun cdv A outer s H E hr =>
    (fs_cons (fs_set (i := 5) sc_law_envies.nd rfl (.inl rfl) (fe_callB (cr_sum rfl) snd_sum (by rfl) T.n_sum (by decide +kernel) (fa_cons (fe_lc (own := [("good", 6)]) rfl sc_law_envies.nd (fi_rg1 (by rfl) T.n_range (fe_callB call_lenA snd_len (by rfl) T.n_len (by decide +kernel) (fa_cons (fe_var (pv 1)) fa_nil))) (blkOk_by (own := [("good", 6)]) (N := ["game", "owners", "hidden", "i", "k", "seen", "good"]) (sc := defScope st_law_envies) (by decide +kernel)) (fun _ h => h) (fun _ _ _ _ _ => (fg_name (pg_name (i := 6) sc_law_envies.nd rfl (.inl rfl)))) (fun _ _ _ _ _ => (fts_one (PW.pt (fw_and (ft_cmp (op_eqD hr.units) snd_eq (fe_idx (fe_var (pv 1)) (fe_var (pv 6))) (fe_var (pv 4)) (nomark _)) (fw_and1 (ft_cmp op_notIn_seq snd_nin (fe_var (pv 6)) (fe_var (pv 2)) (by rfl))))))) (fun _ _ _ _ _ => (fe_idx (fe_idx (fe_var (pv 0)) (fe_var (pv 3))) (fe_var (pv 6))))) fa_nil)))
    (fs_one (fs_ret (fe_cmp op_gt snd_gt (fe_var (pv 5)) (fe_call (ok_law_worth T) (hr.mono (by decide)) (by rfl) T.g_law_worth T.F_law_worth.kp T.b_law_worth (passes_call (takes_of rfl rfl rfl rfl) (fun _ _ _ _ h => h)) (fa_cons (fe_var (pv 0)) (fa_cons (fe_var (pv 1)) (fa_cons (fe_var (pv 3)) (fa_cons (fe_var (pv 3)) fa_nil))))) (nomark _)))))
theorem ok_law_objection (T : Tk K mg base a) : FnOk P w K mg base (L2.CX P w) 3 a.f_law_objection a.d_law_objection ["game", "owners", "hidden"] (spF K (XRm a.CM) F_law_objection) := fn_mkX T.F_law_objection sc_law_objection rfl rfl fun cdv A outer s H E hr =>
    (fs_cons (fs_for (passes_of rfl) rfl (fi_rg1 (by rfl) T.n_range (fe_callB call_lenA snd_len (by rfl) T.n_len (by decide +kernel) (fa_cons (fe_var (pv 0)) fa_nil))) (fg_name (pg_name (i := 3) sc_law_objection.nd rfl (.inl rfl)))
    (fs_one (fs_for (passes_of rfl) rfl (fi_rg1 (by rfl) T.n_range (fe_callB call_lenA snd_len (by rfl) T.n_len (by decide +kernel) (fa_cons (fe_var (pv 0)) fa_nil))) (fg_name (pg_name (i := 4) sc_law_objection.nd rfl (.inl rfl)))
    (fs_one (fs_if (PW.pt (fw_and (ft_cmp (op_neD hr.units) snd_ne (fe_var (pv 3)) (fe_var (pv 4)) (nomark _)) (fw_and1 (ft_val (fe_call (ok_law_envies T) (hr.mono (by decide)) (by rfl) T.g_law_envies T.F_law_envies.kp T.b_law_envies (passes_call (takes_of rfl rfl rfl rfl) (fun _ _ _ _ h => h)) (fa_cons (fe_var (pv 0)) (fa_cons (fe_var (pv 1)) (fa_cons (fe_var (pv 2)) (fa_cons (fe_var (pv 3)) (fa_cons (fe_var (pv 4)) fa_nil)))))))))) (fs_one (fs_ret (fe_tup (fa_cons (fe_var (pv 3)) (fa_cons (fe_var (pv 4)) fa_nil))))) fs_nil)))))
    (fs_one (fs_ret fe_non)))
theorem ok_law_sets (T : Tk K mg base a) : FnOk P w K mg base (L2.CX P w) 1 a.f_law_sets a.d_law_sets ["m"] (spF K (XRm a.CM) F_law_sets) := fn_mkX T.F_law_sets sc_law_sets rfl rfl fun cdv A outer s H E hr =>
    (fs_cons (fs_set (i := 1) sc_law_sets.nd rfl (.inl rfl) (fe_lst (fa_cons (fe_tup fa_nil) fa_nil)))
    (fs_cons (fs_for (passes_of rfl) rfl (fi_rg1 (by rfl) T.n_range (fe_var (pv 0))) (fg_name (pg_name (i := 2) sc_law_sets.nd rfl (.inr rfl)))
    (fs_one (fs_set (i := 1) sc_law_sets.nd rfl (.inl rfl) (fe_op op_addA snd_add (fe_var (pv 1)) (fe_lc (own := [("row", 3)]) rfl sc_law_sets.nd (fi_seq (fe_var (pv 1))) (blkOk_by (own := [("row", 3)]) (N := ["m", "rows", "good", "row", "found", "size"]) (sc := defScope st_law_sets) (by decide +kernel)) (fun _ h => h) (fun _ _ _ _ _ => (fg_name (pg_name (i := 3) sc_law_sets.nd rfl (.inl rfl)))) (fun _ _ _ _ _ => fts_nil) (fun _ _ _ _ _ => (fe_op op_addA snd_add (fe_var (pv 3)) (fe_tup (fa_cons (fe_var (pv 2)) fa_nil)))))))))
    (fs_cons (fs_set (i := 4) sc_law_sets.nd rfl (.inl rfl) (fe_lst fa_nil))
    (fs_cons (fs_for (passes_of rfl) rfl (fi_rg1 (by rfl) T.n_range (fe_op op_addA snd_add (fe_var (pv 0)) fe_int)) (fg_name (pg_name (i := 5) sc_law_sets.nd rfl (.inr rfl)))
    (fs_one (fs_set (i := 4) sc_law_sets.nd rfl (.inl rfl) (fe_op op_addA snd_add (fe_var (pv 4)) (fe_lc (own := [("row", 3)]) rfl sc_law_sets.nd (fi_seq (fe_callB (call_sortedA hr.units) snd_sorted (by rfl) T.n_sorted (by decide +kernel) (fa_cons (fe_var (pv 1)) fa_nil))) (blkOk_by (own := [("row", 3)]) (N := ["m", "rows", "good", "row", "found", "size"]) (sc := defScope st_law_sets) (by decide +kernel)) (fun _ h => h) (fun _ _ _ _ _ => (fg_name (pg_name (i := 3) sc_law_sets.nd rfl (.inl rfl)))) (fun _ _ _ _ _ => (fts_one (ft_cmp (op_eqD hr.units) snd_eq (fe_callB call_lenA snd_len (by rfl) T.n_len (by decide +kernel) (fa_cons (fe_var (pv 3)) fa_nil)) (fe_var (pv 5)) (nomark _)))) (fun _ _ _ _ _ => (fe_var (pv 3))))))))
    (fs_one (fs_ret (fe_var (pv 4))))))))
theorem ok_law (T : Tk K mg base a) : FnOk P w K mg base (L2.CX P w) 11 a.f_law a.d_law ["script"] (spF K (XRm a.CM) F_law) := fn_mkX T.F_law sc_law rfl rfl fun cdv A outer s H E hr =>
    (fs_cons (fs_set (i := 1) sc_law.nd rfl (.inl rfl) (fe_call (ok_law_draw T) (hr.mono (by decide)) (by rfl) T.g_law_draw T.F_law_draw.kp T.b_law_draw (passes_call (takes_of rfl rfl rfl rfl) (fun _ _ _ _ h => h)) (fa_cons (fe_var (pv 0)) fa_nil)))
    (fs_cons (fs_set (i := 2) sc_law.nd rfl (.inr rfl) (fe_callM (ok_law_game T) (hr.mono (by decide)) (by rfl) T.g_law_game T.F_law_game.kp T.b_law_game (passes_call (takes_of rfl rfl rfl rfl) (fun _ _ _ _ h => h)) (fa_cons (fe_var (pv 1)) (fa_cons fe_int (fa_cons fe_int (fa_cons fe_int fa_nil))))))
    (fs_cons (fs_par (n := 3) (m := 4) rfl sc_law.nd rfl rfl (by decide) rfl rfl (fa_cons (fe_callB call_lenA snd_len (by rfl) T.n_len (by decide +kernel) (fa_cons (fe_var (pv 2)) fa_nil)) (fa_cons (fe_callB call_lenA snd_len (by rfl) T.n_len (by decide +kernel) (fa_cons (fe_idx (fe_var (pv 2)) fe_int) fa_nil)) fa_nil)) (by rfl))
    (fs_cons (fs_set (i := 5) sc_law.nd rfl (.inl rfl) (fe_call (ok_law_sets T) (hr.mono (by decide)) (by rfl) T.g_law_sets T.F_law_sets.kp T.b_law_sets (passes_call (takes_of rfl rfl rfl rfl) (fun _ _ _ _ h => h)) (fa_cons (fe_var (pv 4)) fa_nil)))
    (fs_cons (fs_for (passes_of rfl) rfl (fi_rg1 (by rfl) T.n_range fe_int) (fg_name (pg_name (i := 6) sc_law.nd rfl (.inl rfl)))
    (fs_cons (fs_set (i := 7) sc_law.nd rfl (.inr rfl) (fe_callM (ok_law_owners T) (hr.mono (by decide)) (by rfl) T.g_law_owners T.F_law_owners.kp T.b_law_owners (passes_call (takes_of rfl rfl rfl rfl) (fun _ _ _ _ h => h)) (fa_cons (fe_var (pv 1)) (fa_cons (fe_var (pv 2)) fa_nil))))
    (fs_cons (fs_for (passes_of rfl) rfl (fi_rg1 (by rfl) T.n_range fe_int) (fg_name (pg_name (i := 8) sc_law.nd rfl (.inl rfl)))
    (fs_cons (fs_set (i := 9) sc_law.nd rfl (.inl rfl) (fe_idx (fe_var (pv 5)) (fe_callM (ok_law_take T) (hr.mono (by decide)) (by rfl) T.g_law_take T.F_law_take.kp T.b_law_take (passes_call (takes_of rfl rfl rfl rfl) (fun _ _ _ _ h => h)) (fa_cons (fe_var (pv 1)) (fa_cons (fe_callB call_lenA snd_len (by rfl) T.n_len (by decide +kernel) (fa_cons (fe_var (pv 5)) fa_nil)) fa_nil)))))
    (fs_cons (fs_set (i := 10) sc_law.nd rfl (.inl rfl) (fe_call (ok_law_objection T) (hr.mono (by decide)) (by rfl) T.g_law_objection T.F_law_objection.kp T.b_law_objection (passes_call (takes_of rfl rfl rfl rfl) (fun _ _ _ _ h => h)) (fa_cons (fe_var (pv 2)) (fa_cons (fe_var (pv 7)) (fa_cons (fe_var (pv 9)) fa_nil)))))
    (fs_cons (fs_set (i := 11) sc_law.nd rfl (.inl rfl) (fe_call (ok_does_hide T) (hr.mono (by decide)) (by rfl) T.g_does_hide T.F_does_hide.kp T.b_does_hide (passes_call (takes_of rfl rfl rfl rfl) (fun _ _ _ _ h => h)) (fa_cons (fe_var (pv 2)) (fa_cons (fe_var (pv 7)) (fa_cons (fe_var (pv 9)) fa_nil)))))
    (fs_one (fs_if (PW.pt (fw_or (ft_cmp (op_neD hr.units) snd_ne (fe_call (ok_seen_objection T) (hr.mono (by decide)) (by rfl) T.g_seen_objection T.F_seen_objection.kp T.b_seen_objection (passes_call (takes_of rfl rfl rfl rfl) (fun _ _ _ _ h => h)) (fa_cons (fe_var (pv 2)) (fa_cons (fe_var (pv 7)) (fa_cons (fe_var (pv 9)) fa_nil)))) (fe_var (pv 10)) (nomark _)) (fw_or (ft_not (ft_val (fe_isi isi_bool (by rfl) T.n_isinstance (by rfl) T.n_bool (by decide +kernel) (fe_var (pv 11))))) (fw_or1 (ft_cmp (op_neD hr.units) snd_ne (fe_var (pv 11)) (fe_cmp op_isN snd_isN (fe_var (pv 10)) fe_non (nomark _)) (nomark _)))))) (fs_one (fs_ret fe_bl)) fs_nil))))))
    (fs_cons (fs_set (i := 12) sc_law.nd rfl (.inl rfl) (fe_idx (fe_lc (own := [("row", 13)]) rfl sc_law.nd (fi_seq (fe_var (pv 5))) (blkOk_by (own := [("row", 13)]) (N := ["script", "draw", "game", "n", "m", "sets", "turn", "owners", "more", "hidden", "due", "said", "first", "row", "told", "i", "k", "own", "good", "out", "few", "size", "fewer", "bad", "wrong", "odd", "calls", "which", "call"]) (sc := defScope st_law) (by decide +kernel)) (fun _ h => h) (fun _ _ _ _ _ => (fg_name (pg_name (i := 13) sc_law.nd rfl (.inl rfl)))) (fun _ _ _ _ _ => (fts_one (ft_cmp op_isN snd_isN (fe_call (ok_law_objection T) (hr.mono (by decide)) (by rfl) T.g_law_objection T.F_law_objection.kp T.b_law_objection passL (fa_cons (fe_var (pv 2)) (fa_cons (fe_var (pv 7)) (fa_cons (fe_var (pv 13)) fa_nil)))) fe_non (nomark _)))) (fun _ _ _ _ _ => (fe_var (pv 13)))) fe_int))
    (fs_cons (fs_if (ft_cmp (op_neD hr.units) snd_ne (fe_call (ok_least_hidden T) (hr.mono (by decide)) (by rfl) T.g_least_hidden T.F_least_hidden.kp T.b_least_hidden (passes_call (takes_of rfl rfl rfl rfl) (fun _ _ _ _ h => h)) (fa_cons (fe_var (pv 2)) (fa_cons (fe_var (pv 7)) fa_nil))) (fe_var (pv 12)) (nomark _)) (fs_one (fs_ret fe_bl)) fs_nil)
    (fs_cons (fs_set (i := 14) sc_law.nd rfl (.inr rfl) (fe_call (ok_hidden_of T) (hr.mono (by decide)) (by rfl) T.g_hidden_of T.F_hidden_of.kp T.b_hidden_of (passes_call (takes_of rfl rfl rfl rfl) (fun _ _ _ _ h => h)) (fa_cons (fe_var (pv 2)) (fa_cons (fe_var (pv 7)) fa_nil))))
    (fs_cons (fs_if (PW.pt (fw_or (ft_not (ft_val (fe_isi isi_tuple (by rfl) T.n_isinstance (by rfl) T.n_tuple (by decide +kernel) (fe_var (pv 14))))) (fw_or1 (ft_cmp (op_neD hr.units) snd_ne (fe_callB call_lenA snd_len (by rfl) T.n_len (by decide +kernel) (fa_cons (fe_var (pv 14)) fa_nil)) (fe_var (pv 3)) (nomark _))))) (fs_one (fs_ret fe_bl)) fs_nil)
    (fs_one (fs_for (passes_of rfl) rfl (fi_rg1 (by rfl) T.n_range (fe_var (pv 3))) (fg_name (pg_name (i := 15) sc_law.nd rfl (.inr rfl)))
    (fs_cons (fs_set (i := 10) sc_law.nd rfl (.inl rfl) (fe_lst fa_nil))
    (fs_cons (fs_for (passes_of rfl) rfl (fi_rg1 (by rfl) T.n_range (fe_var (pv 3))) (fg_name (pg_name (i := 16) sc_law.nd rfl (.inr rfl)))
    (fs_cons (fs_set (i := 17) sc_law.nd rfl (.inl rfl) (fe_callB (call_sortedA hr.units) snd_sorted (by rfl) T.n_sorted (by decide +kernel) (fa_cons (fe_lc (own := [("good", 18)]) rfl sc_law.nd (fi_rg1 (by rfl) T.n_range (fe_var (pv 4))) (blkOk_by (own := [("good", 18)]) (N := ["script", "draw", "game", "n", "m", "sets", "turn", "owners", "more", "hidden", "due", "said", "first", "row", "told", "i", "k", "own", "good", "out", "few", "size", "fewer", "bad", "wrong", "odd", "calls", "which", "call"]) (sc := defScope st_law) (by decide +kernel)) (fun _ h => h) (fun _ _ _ _ _ => (fg_name (pg_name (i := 18) sc_law.nd rfl (.inl rfl)))) (fun _ _ _ _ _ => (fts_one (PW.pt (fw_and (ft_cmp (op_eqD hr.units) snd_eq (fe_idx (fe_var (pv 7)) (fe_var (pv 18))) (fe_var (pv 16)) (nomark _)) (fw_and1 (ft_cmp (op_neD hr.units) snd_ne (fe_var (pv 16)) (fe_var (pv 15)) (nomark _))))))) (fun _ _ _ _ _ => (fe_tup (fa_cons (fe_neg (fe_idx (fe_idx (fe_var (pv 2)) (fe_var (pv 15))) (fe_var (pv 18)))) (fa_cons (fe_var (pv 18)) fa_nil))))) fa_nil)))
    (fs_cons (fs_set (i := 19) sc_law.nd rfl (.inr rfl) (fe_lc (own := [("row", 13)]) rfl sc_law.nd (fi_seq (fe_var (pv 17))) (blkOk_by (own := [("row", 13)]) (N := ["script", "draw", "game", "n", "m", "sets", "turn", "owners", "more", "hidden", "due", "said", "first", "row", "told", "i", "k", "own", "good", "out", "few", "size", "fewer", "bad", "wrong", "odd", "calls", "which", "call"]) (sc := defScope st_law) (by decide +kernel)) (fun _ h => h) (fun _ _ _ _ _ => (fg_name (pg_name (i := 13) sc_law.nd rfl (.inl rfl)))) (fun _ _ _ _ _ => fts_nil) (fun _ _ _ _ _ => (fe_idx (fe_var (pv 13)) fe_int))))
    (fs_cons (fs_setLc (own := [("size", 21)]) (i := 20) rfl sc_law.nd rfl rfl (sw_true rfl rfl rfl (by decide +kernel)) (fi_rg1 (by rfl) T.n_range (fe_op op_addA snd_add (fe_callB call_lenA snd_len (by rfl) T.n_len (by decide +kernel) (fa_cons (fe_var (pv 19)) fa_nil)) fe_int)) (blkOk_by (own := [("size", 21)]) (N := ["script", "draw", "game", "n", "m", "sets", "turn", "owners", "more", "hidden", "due", "said", "first", "row", "told", "i", "k", "own", "good", "out", "few", "size", "fewer", "bad", "wrong", "odd", "calls", "which", "call"]) (sc := defScope st_law) (by decide +kernel)) (fun _ h => h) (fun _ _ _ _ _ => (fg_name (pg_name (i := 21) sc_law.nd rfl (.inl rfl)))) (fun _ _ _ _ _ => (fts_one (PW.pt (fw_or (ft_cmp (op_eqD hr.units) snd_eq (fe_var (pv 16)) (fe_var (pv 15)) (nomark _)) (fw_or1 (ft_not (ft_val (fe_call (ok_law_envies T) (hr.mono (by decide)) (by rfl) T.g_law_envies T.F_law_envies.kp T.b_law_envies passL (fa_cons (fe_var (pv 2)) (fa_cons (fe_var (pv 7)) (fa_cons (fe_callTy call_tuple_of snd_tuple (by rfl) T.n_tuple (by decide +kernel) (fa_cons (fe_slice (fe_var (pv 19)) fo_none (fo_some (fe_var (pv 21)))) fa_nil)) (fa_cons (fe_var (pv 15)) (fa_cons (fe_var (pv 16)) fa_nil))))))))))))) (fun _ _ _ _ _ => (fe_var (pv 21))))
    (fs_one (fs_set (i := 10) sc_law.nd rfl (.inl rfl) (fe_op op_addA snd_add (fe_var (pv 10)) (fe_slice (fe_var (pv 19)) fo_none (fo_some (fe_idx (fe_var (pv 20)) fe_int))))))))))
    (fs_cons (fs_if (PW.pt (fw_or (ft_cmp (op_neD hr.units) snd_ne (fe_idx (fe_var (pv 14)) (fe_var (pv 15))) (fe_callTy call_tuple_of snd_tuple (by rfl) T.n_tuple (by decide +kernel) (fa_cons (fe_callB (call_sortedA hr.units) snd_sorted (by rfl) T.n_sorted (by decide +kernel) (fa_cons (fe_var (pv 10)) fa_nil)) fa_nil)) (nomark _)) (fw_or1 (ft_cmp (op_neD hr.units) snd_ne (fe_lc (own := [("k", 16)]) rfl sc_law.nd (fi_rg1 (by rfl) T.n_range (fe_var (pv 3))) (blkOk_by (own := [("k", 16)]) (N := ["script", "draw", "game", "n", "m", "sets", "turn", "owners", "more", "hidden", "due", "said", "first", "row", "told", "i", "k", "own", "good", "out", "few", "size", "fewer", "bad", "wrong", "odd", "calls", "which", "call"]) (sc := defScope st_law) (by decide +kernel)) (fun _ h => h) (fun _ _ _ _ _ => (fg_name (pg_name (i := 16) sc_law.nd rfl (.inl rfl)))) (fun _ _ _ _ _ => (fts_one (PW.pt (fw_and (ft_cmp (op_neD hr.units) snd_ne (fe_var (pv 16)) (fe_var (pv 15)) (nomark _)) (fw_and1 (ft_val (fe_call (ok_law_envies T) (hr.mono (by decide)) (by rfl) T.g_law_envies T.F_law_envies.kp T.b_law_envies passL (fa_cons (fe_var (pv 2)) (fa_cons (fe_var (pv 7)) (fa_cons (fe_idx (fe_var (pv 14)) (fe_var (pv 15))) (fa_cons (fe_var (pv 15)) (fa_cons (fe_var (pv 16)) fa_nil)))))))))))) (fun _ _ _ _ _ => (fe_var (pv 16)))) (fe_lst fa_nil) (nomark _))))) (fs_one (fs_ret fe_bl)) fs_nil)
    (fs_cons (fs_setLc (own := [("row", 13)]) (i := 22) rfl sc_law.nd rfl rfl (sw_true rfl rfl rfl (by decide +kernel)) (fi_seq (fe_var (pv 5))) (blkOk_by (own := [("row", 13)]) (N := ["script", "draw", "game", "n", "m", "sets", "turn", "owners", "more", "hidden", "due", "said", "first", "row", "told", "i", "k", "own", "good", "out", "few", "size", "fewer", "bad", "wrong", "odd", "calls", "which", "call"]) (sc := defScope st_law) (by decide +kernel)) (fun _ h => h) (fun _ _ _ _ _ => (fg_name (pg_name (i := 13) sc_law.nd rfl (.inl rfl)))) (fun _ _ _ _ _ => (fts_one (ft_cmp op_lt snd_lt (fe_callB call_lenA snd_len (by rfl) T.n_len (by decide +kernel) (fa_cons (fe_var (pv 13)) fa_nil)) (fe_callB call_lenA snd_len (by rfl) T.n_len (by decide +kernel) (fa_cons (fe_idx (fe_var (pv 14)) (fe_var (pv 15))) fa_nil)) (nomark _)))) (fun _ _ _ _ _ => (fe_var (pv 13))))
    (fs_one (fs_for (passes_of rfl) rfl (fi_seq (fe_var (pv 22))) (fg_name (pg_name (i := 13) sc_law.nd rfl (.inr rfl)))
    (fs_one (fs_if (ft_cmp (op_eqD hr.units) snd_eq (fe_lc (own := [("k", 16)]) rfl sc_law.nd (fi_rg1 (by rfl) T.n_range (fe_var (pv 3))) (blkOk_by (own := [("k", 16)]) (N := ["script", "draw", "game", "n", "m", "sets", "turn", "owners", "more", "hidden", "due", "said", "first", "row", "told", "i", "k", "own", "good", "out", "few", "size", "fewer", "bad", "wrong", "odd", "calls", "which", "call"]) (sc := defScope st_law) (by decide +kernel)) (fun _ h => h) (fun _ _ _ _ _ => (fg_name (pg_name (i := 16) sc_law.nd rfl (.inl rfl)))) (fun _ _ _ _ _ => (fts_one (PW.pt (fw_and (ft_cmp (op_neD hr.units) snd_ne (fe_var (pv 16)) (fe_var (pv 15)) (nomark _)) (fw_and1 (ft_val (fe_call (ok_law_envies T) (hr.mono (by decide)) (by rfl) T.g_law_envies T.F_law_envies.kp T.b_law_envies passL (fa_cons (fe_var (pv 2)) (fa_cons (fe_var (pv 7)) (fa_cons (fe_var (pv 13)) (fa_cons (fe_var (pv 15)) (fa_cons (fe_var (pv 16)) fa_nil)))))))))))) (fun _ _ _ _ _ => (fe_var (pv 16)))) (fe_lst fa_nil) (nomark _)) (fs_one (fs_ret fe_bl)) fs_nil)))))))))))))))))
    (fs_cons (fs_asg (fe_tup (fa_cons (fe_callM (ok_law_bad_game T) (hr.mono (by decide)) (by rfl) T.g_law_bad_game T.F_law_bad_game.kp T.b_law_bad_game (passes_call (takes_of rfl rfl rfl rfl) (fun _ _ _ _ h => h)) (fa_cons (fe_var (pv 1)) (fa_cons (fe_var (pv 2)) fa_nil))) (fa_cons (fe_callM (ok_law_bad_owners T) (hr.mono (by decide)) (by rfl) T.g_law_bad_owners T.F_law_bad_owners.kp T.b_law_bad_owners (passes_call (takes_of rfl rfl rfl rfl) (fun _ _ _ _ h => h)) (fa_cons (fe_var (pv 1)) (fa_cons (fe_var (pv 2)) (fa_cons (fe_var (pv 7)) fa_nil)))) fa_nil))) (fg_tup rfl (fgs_cons (fg_name (pg_name (i := 23) sc_law.nd rfl (.inr rfl))) (fgs_cons (fg_name (pg_name (i := 24) sc_law.nd rfl (.inr rfl))) fgs_nil))))
    (fs_cons (fs_set (i := 25) sc_law.nd rfl (.inr rfl) (fe_idx (fe_lst (fa_cons fe_non (fa_cons (fe_lst (fa_cons fe_int fa_nil)) (fa_cons (fe_tup (fa_cons (fe_var (pv 4)) fa_nil)) (fa_cons (fe_tup (fa_cons (fe_neg fe_int) fa_nil)) (fa_cons (fe_tup (fa_cons fe_int (fa_cons fe_int fa_nil))) (fa_cons (fe_tup (fa_cons fe_bl fa_nil)) (fa_cons fe_str (fa_cons fe_int fa_nil))))))))) (fe_callM (ok_law_take T) (hr.mono (by decide)) (by rfl) T.g_law_take T.F_law_take.kp T.b_law_take (passes_call (takes_of rfl rfl rfl rfl) (fun _ _ _ _ h => h)) (fa_cons (fe_var (pv 1)) (fa_cons fe_int fa_nil)))))
    (fs_cons (fs_set (i := 26) sc_law.nd rfl (.inl rfl) (fe_op op_addA snd_add (fe_op op_addA snd_add (fe_lc (own := [("which", 27)]) rfl sc_law.nd (fi_rg1 (by rfl) T.n_range fe_int) (blkOk_by (own := [("which", 27)]) (N := ["script", "draw", "game", "n", "m", "sets", "turn", "owners", "more", "hidden", "due", "said", "first", "row", "told", "i", "k", "own", "good", "out", "few", "size", "fewer", "bad", "wrong", "odd", "calls", "which", "call"]) (sc := defScope st_law) (by decide +kernel)) (fun _ h => h) (fun _ _ _ _ _ => (fg_name (pg_name (i := 27) sc_law.nd rfl (.inl rfl)))) (fun _ _ _ _ _ => fts_nil) (fun _ _ _ _ _ => (fe_tup (fa_cons (fe_var (pv 27)) (fa_cons (fe_var (pv 23)) (fa_cons (fe_var (pv 7)) (fa_cons (fe_tup fa_nil) fa_nil))))))) (fe_lc (own := [("which", 27)]) rfl sc_law.nd (fi_rg1 (by rfl) T.n_range fe_int) (blkOk_by (own := [("which", 27)]) (N := ["script", "draw", "game", "n", "m", "sets", "turn", "owners", "more", "hidden", "due", "said", "first", "row", "told", "i", "k", "own", "good", "out", "few", "size", "fewer", "bad", "wrong", "odd", "calls", "which", "call"]) (sc := defScope st_law) (by decide +kernel)) (fun _ h => h) (fun _ _ _ _ _ => (fg_name (pg_name (i := 27) sc_law.nd rfl (.inl rfl)))) (fun _ _ _ _ _ => fts_nil) (fun _ _ _ _ _ => (fe_tup (fa_cons (fe_var (pv 27)) (fa_cons (fe_var (pv 2)) (fa_cons (fe_var (pv 24)) (fa_cons (fe_tup fa_nil) fa_nil)))))))) (fe_lc (own := [("which", 27)]) rfl sc_law.nd (fi_rg1 (by rfl) T.n_range fe_int) (blkOk_by (own := [("which", 27)]) (N := ["script", "draw", "game", "n", "m", "sets", "turn", "owners", "more", "hidden", "due", "said", "first", "row", "told", "i", "k", "own", "good", "out", "few", "size", "fewer", "bad", "wrong", "odd", "calls", "which", "call"]) (sc := defScope st_law) (by decide +kernel)) (fun _ h => h) (fun _ _ _ _ _ => (fg_name (pg_name (i := 27) sc_law.nd rfl (.inl rfl)))) (fun _ _ _ _ _ => fts_nil) (fun _ _ _ _ _ => (fe_tup (fa_cons (fe_var (pv 27)) (fa_cons (fe_var (pv 2)) (fa_cons (fe_var (pv 7)) (fa_cons (fe_var (pv 25)) fa_nil)))))))))
    (fs_one (fs_ret (fe_cmp (op_eqD hr.units) snd_eq (fe_lc (own := [("call", 28)]) rfl sc_law.nd (fi_seq (fe_var (pv 26))) (blkOk_by (own := [("call", 28)]) (N := ["script", "draw", "game", "n", "m", "sets", "turn", "owners", "more", "hidden", "due", "said", "first", "row", "told", "i", "k", "own", "good", "out", "few", "size", "fewer", "bad", "wrong", "odd", "calls", "which", "call"]) (sc := defScope st_law) (by decide +kernel)) (fun _ h => h) (fun _ _ _ _ _ => (fg_name (pg_name (i := 28) sc_law.nd rfl (.inl rfl)))) (fun _ _ _ _ _ => (fts_one (ft_cmp (op_neD hr.units) snd_ne (fe_call (ok_law_word T) (hr.mono (by decide)) (by rfl) T.g_law_word T.F_law_word.kp T.b_law_word passL (fa_cons (fe_var (pv 28)) fa_nil)) fe_str (nomark _)))) (fun _ _ _ _ _ => (fe_var (pv 28)))) (fe_lst fa_nil) (nomark _))))))))))))
end
end D71
/-! FxZ: a law's start and end -/
namespace Fx
open PySem PySem.Spec
open PyProof.Rows L2
theorem law_sp {K : PySem.W.Frag} {XR : XRt} {F : Gm → Res Rv} {H : Hp} {a : Addr} {ns : List Int} (hT : TabI K H) (h : SqL K H a (ns.map V.int)) (hF : ∃ G, F [.d (.dict [(.none, .list (ns.map .int))])] = .ok (.d (.bool true)) G) : spF K XR F [.ref a] H (fun v _ => v = .bl true) fun _ _ _ => False := by
  obtain ⟨G, hF⟩ := hF
  have sub : Sub (fun b => match H b with | some (.tbl _) => none | o => o) H := fun b o e => by
    have e' : (match H b with | some (.tbl _) => none | o => o) = some o := e
    split at e'
    · cases e'
    · exact e'
  have rd : ∀ {xs : List V}, SqL K H a xs → SqL K (fun b => match H b with | some (.tbl _) => none | o => o) a xs := fun {xs} z => by
    rcases z with z | z
    · rcases z with z | ⟨o, z⟩
      · exact .inl (.inl (show (match H a with | some (.tbl _) => none | o => o) = _ by rw [z]))
      · exact .inl (.inr ⟨o, show (match H a with | some (.tbl _) => none | o => o) = _ by rw [z]⟩)
    · exact .inr z
  refine ⟨_, [.d (.dict [(.none, .list (ns.map .int))])], fun _ => [], { len := rfl, sub := sub, slot := fun i s e => ?_, tab := ⟨hT, fun b ps z => ?_⟩, out := fun _ _ => rfl, disj := fun i j b z => by cases z }, ?_⟩
  · cases i with
    | zero => cases e; exact ⟨rfl, .ref a, rfl, .frz (rd h) (DdA.ofInts ns)⟩
    | succ j => cases e
  · have z' : (match H b with | some (.tbl _) => none | o => o) = some (.tbl ps) := z
    split at z'
    · cases z'
    · rename_i n; exact n ps z'
  · rw [hF]
    intro v H' M' ft' S' P' R'
    cases R'
    rfl
end Fx
/-! Ev: the functions' values -/
namespace Fx
open PySem PySem.Spec
open PyProof.Rows L2
theorem lockAll_at (G : Gm) (lk : List Nat) (i : Nat) : (lockAll G lk)[i]? = (G[i]?).map fun s => if lk.contains i then lockS s else s := by
  unfold lockAll
  rw [List.getElem?_mapIdx]
theorem unlk_lockS (s : Sl) : unlk s (lockS s) = s := by cases s <;> rfl
theorem unlk_self (s : Sl) : unlk s s = s := by cases s <;> rfl
theorem unlock_lock (G : Gm) (lk : List Nat) : unlockAll G (lockAll G lk) = G := by
  apply List.ext_getElem?
  intro i
  unfold unlockAll
  rw [List.getElem?_zipWith, lockAll_at]
  cases G[i]? with
  | none => rfl
  | some s =>
    show some (unlk s (if lk.contains i then lockS s else s)) = some s
    split
    · rw [unlk_lockS]
    · rw [unlk_self]
theorem unwipe_wipe (G : Gm) (vs : List Nat) : unwipe G (wipeG G vs) vs = G := by
  apply List.ext_getElem?
  intro i
  unfold unwipe wipeG
  rw [List.getElem?_mapIdx, List.getElem?_mapIdx]
  cases e : G[i]? with
  | none => rfl
  | some s =>
    show some (if vs.contains i then G.getD i .no else (if vs.contains i then .no else s)) = some s
    split
    · rw [List.getD_eq_getElem?_getD, e]; rfl
    · rfl
theorem wipe_set {G0 : Gm} {i : Nat} {s : Sl} (h : G0[i]? = some .no) : wipeG (G0.set i s) [i] = G0 := by
  apply List.ext_getElem?
  intro j
  unfold wipeG
  rw [List.getElem?_mapIdx]
  by_cases e : j = i
  · subst e
    have hl : j < G0.length := (List.getElem?_eq_some_iff.mp h).1
    rw [List.getElem?_set_self hl, h]
    simp
  · rw [List.getElem?_set_ne (Ne.symm e)]
    have : ([i].contains j) = false := by simp [e]
    cases G0[j]? with
    | none => rfl
    | some t => simp [this, e]
theorem gN_no {G0 : Gm} {i : Nat} {d : PyData} (h : G0[i]? = some .no) : gN i d G0 = some (G0.set i (.d d)) := by
  unfold gN setSl freeAt
  rw [h]
  rfl
/-- an answer that is kept as data, the state left alone -/
def Gives (f : Gm → Res Rv) (G : Gm) (x : PyData) : Prop := ∃ r, f G = .ok r G ∧ retain G r = some (x, G)
theorem Gives.d {f : Gm → Res Rv} {G : Gm} {x : PyData} (h : f G = .ok (.d x) G) : Gives f G x := ⟨_, h, rfl⟩
theorem Gives.l {f : Gm → Res Rv} {G : Gm} {x : List PyData} (h : f G = .ok (.new (.lst x)) G) : Gives f G (.list x) := ⟨_, h, rfl⟩
theorem compF_filter {i : Nat} {p : PyData → Bool} {e : PyData → PyData} {tst : Gm → Res Bool} {elt : Gm → Res Rv} {G0 : Gm} (h0 : G0[i]? = some .no) : ∀ (ds acc : List PyData), acc.length + ds.length ≤ 16777216 →
    (∀ d ∈ ds, tst (G0.set i (.d d)) = .ok (p d) (G0.set i (.d d))) → (∀ d ∈ ds, p d = true → Gives elt (G0.set i (.d d)) (e d)) → compF [i] (gN i) tst elt ds acc G0 = .ok (acc ++ (ds.filter p).map e) G0
  | [], acc, _, _, _ => by simp [compF]
  | d :: ds, acc, hl, ht, he => by
    rw [List.length_cons] at hl
    unfold compF
    rw [gN_no h0]
    dsimp only
    rw [ht d List.mem_cons_self]
    cases hp : p d with
    | true =>
      obtain ⟨r, e1, e2⟩ := he d List.mem_cons_self hp
      dsimp only
      rw [e1]
      dsimp only
      rw [e2]
      dsimp only
      rw [if_pos (by unfold lim; exact decide_eq_true (by omega)), wipe_set h0, compF_filter h0 ds (acc ++ [e d]) (by rw [List.length_append]; simp; omega) (fun x hx => ht x (List.mem_cons_of_mem _ hx)) fun x hx => he x (List.mem_cons_of_mem _ hx)]
      rw [List.filter_cons, if_pos hp, List.map_cons]
      simp
    | false =>
      dsimp only
      rw [wipe_set h0, compF_filter h0 ds acc (by omega) (fun x hx => ht x (List.mem_cons_of_mem _ hx)) fun x hx => he x (List.mem_cons_of_mem _ hx)]
      rw [List.filter_cons, if_neg (by rw [hp]; exact Bool.false_ne_true)]
theorem wipeNo {G : Gm} {i : Nat} (h : i < G.length) : (wipeG G [i])[i]? = some .no := by
  unfold wipeG
  rw [List.getElem?_mapIdx, List.getElem?_eq_getElem h]
  simp
theorem comp_ev {it : Gm → Res Itv} {i : Nat} {p : PyData → Bool} {e : PyData → PyData} {tst : Gm → Res Bool} {elt : Gm → Res Rv} {G : Gm} {ds : List PyData} {lk : List Nat} (hit : it G = .ok (ds, lk) G) (hpl : plainAt G [i] = true) (hi : (G[i]?).isSome = true) (hl : ds.length ≤ 16777216)
    (ht : ∀ d ∈ ds, tst ((wipeG (lockAll G lk) [i]).set i (.d d)) = .ok (p d) ((wipeG (lockAll G lk) [i]).set i (.d d))) (he : ∀ d ∈ ds, p d = true → Gives elt ((wipeG (lockAll G lk) [i]).set i (.d d)) (e d)) :
    fComp it [i] (gN i) tst elt G = .ok (.new (.lst ((ds.filter p).map e))) G := by
  have hl0 : i < (lockAll G lk).length := by
    unfold lockAll; rw [List.length_mapIdx]
    obtain ⟨s, h⟩ := Option.isSome_iff_exists.mp hi
    exact (List.getElem?_eq_some_iff.mp h).1
  unfold fComp
  rw [hit, Res.bind_ok, if_pos hpl, compF_filter (wipeNo hl0) ds [] (by simpa using hl) ht he]
  dsimp only
  rw [unwipe_wipe, unlock_lock]
  rfl
/-- without a test -/
theorem comp_ev0 {it : Gm → Res Itv} {i : Nat} {e : PyData → PyData} {elt : Gm → Res Rv} {G : Gm} {ds : List PyData} {lk : List Nat} (hit : it G = .ok (ds, lk) G) (hpl : plainAt G [i] = true) (hi : (G[i]?).isSome = true) (hl : ds.length ≤ 16777216)
    (he : ∀ d ∈ ds, Gives elt ((wipeG (lockAll G lk) [i]).set i (.d d)) (e d)) : fComp it [i] (gN i) tYesF elt G = .ok (.new (.lst (ds.map e))) G := by
  have := comp_ev (p := fun _ => true) (tst := tYesF) hit hpl hi hl (fun d _ => rfl) fun d hd _ => he d hd
  rw [this, List.filter_eq_self.mpr (fun _ _ => rfl)]
theorem boolsOfF {α : Type} (f : α → Bool) : ∀ l : List α, boolsOf (l.map fun x => .bool (f x)) = some (l.map f)
  | [] => rfl
  | x :: l => by
    rw [List.map_cons, boolsOf, boolsOfF f l]; rfl
theorem intsOfF {α : Type} (f : α → Int) : ∀ l : List α, intsOf (l.map fun x => .int (f x)) = some (l.map f)
  | [] => rfl
  | x :: l => by
    rw [List.map_cons, intsOf, intsOfF f l]; rfl
theorem bind_eq {α β : Type} {r : Res α} {a : α} {G : Gm} {k : α → Gm → Res β} (h : r = .ok a G) : r.bind k = k a G := by rw [h]; rfl
/-- all(..) of a comprehension -/
theorem all_ev {α : Type} {fc : Gm → Res Rv} {G : Gm} {l : List α} {f : α → Bool} (h : fc G = .ok (.new (.lst (l.map fun x => .bool (f x)))) G) : fCallK kAll (fCons fc fNil) G = .ok (.d (.bool (l.all f))) G := by
  unfold fCallK fCons
  rw [h]
  show kAll G [.new (.lst (l.map fun x => .bool (f x)))] = _
  unfold kAll kBools k1
  dsimp only [rd, aoD]
  rw [boolsOfF]
  dsimp only
  rw [List.all_map]
  rfl
theorem sum_ev {α : Type} {fc : Gm → Res Rv} {G : Gm} {l : List α} {f : α → Int} (h : fc G = .ok (.new (.lst (l.map fun x => .int (f x)))) G) : fCallK kSum (fCons fc fNil) G = .ok (.d (.int (l.map f).sum)) G := by
  unfold fCallK fCons
  rw [h]
  show kSum G [.new (.lst (l.map fun x => .int (f x)))] = _
  unfold kSum kInts k1
  dsimp only [rd, aoD]
  rw [intsOfF]
theorem kNe_int (G : Gm) (a b : Int) : kNe G (.d (.int a)) (.d (.int b)) = .ok (.d (.bool (!decide (a = b)))) G := by
  have : PyData.eqv (.int a) (.int b) = decide (a = b) := by
    rw [PyData.eqv]
    by_cases h : a = b <;> simp [h]
  show (match opNe (.int a) (.int b) with | some z => Res.ok (Rv.d z) G | none => .bad) = _
  simp [opNe, okD, flatS, this]
/-- a call with data -/
theorem argsOf_d (G : Gm) : ∀ ds : List PyData, argsOf G (ds.map Rv.d) = some (ds, false)
  | [] => rfl
  | d :: r => by simp [argsOf, argsOf_d G r, argOf]
theorem call_ev {F : Gm → Res Rv} {fs : Gm → Res (List Rv)} {G A : Gm} {x : PyData} (ds : List PyData) (hs : fs G = .ok (ds.map Rv.d) G) (hF : F (ds.map Sl.d) = .ok (.d x) A) : fCallK (kCall F) fs G = .ok (.d x) G := by
  unfold fCallK
  rw [hs, Res.bind_ok]
  unfold kCall
  rw [argsOf_d]
  dsimp only
  rw [hF]
  rfl
theorem run_d {n m : Nat} {f : Gm → Res Out} {As Bs : Gm} (G' : Gm) {x : PyData} (h : f (As ++ List.replicate m .no) = .ok (.rt (.d x)) G') (hA : (decide (As.length = n) && As.all argSl) = true := by rfl) (ho : outArgs As G' = Bs := by rfl) : runDef n m f As = .ok (.d x) Bs := by
  unfold runDef
  rw [if_pos hA, h]
  show Res.ok _ (outArgs As G') = _
  rw [ho]
theorem run_new {n m : Nat} {f : Gm → Res Out} {As Bs : Gm} (G' : Gm) {x : Ao} (h : f (As ++ List.replicate m .no) = .ok (.rt (.new x)) G') (hA : (decide (As.length = n) && As.all argSl) = true := by rfl) (ho : outArgs As G' = Bs := by rfl) : runDef n m f As = .ok (.new x) Bs := by
  unfold runDef
  rw [if_pos hA, h]
  show Res.ok _ (outArgs As G') = _
  rw [ho]
theorem run_own {n m i : Nat} {f : Gm → Res Out} {As Bs : Gm} (G' : Gm) {x : Ao} (h : f (As ++ List.replicate m .no) = .ok (.rt (.own i)) G') (hi : G'[i]? = some (.l x) := by rfl) (hA : (decide (As.length = n) && As.all argSl) = true := by rfl) (ho : outArgs As G' = Bs := by rfl) : runDef n m f As = .ok (.new x) Bs := by
  unfold runDef
  rw [if_pos hA, h]
  show (match fixR G' (.own i) with | some r' => Res.ok r' (outArgs As G') | none => .bad) = _
  have : fixR G' (.own i) = some (.new x) := by
    unfold fixR
    dsimp only
    rw [hi]
  rw [this, ← ho]
theorem run_nx {n m : Nat} {f : Gm → Res Out} {As Bs : Gm} (G' : Gm) (h : f (As ++ List.replicate m .no) = .ok .nx G') (hA : (decide (As.length = n) && As.all argSl) = true := by rfl) (ho : outArgs As G' = Bs := by rfl) : runDef n m f As = .ok (.d .none) Bs := by
  unfold runDef
  rw [if_pos hA, h]
  show Res.ok _ (outArgs As G') = _
  rw [ho]
theorem run_ex {n m : Nat} {f : Gm → Res Out} {As : Gm} {e : Exn} (h : f (As ++ List.replicate m .no) = .ex e) (hA : (decide (As.length = n) && As.all argSl) = true := by rfl) : runDef n m f As = .ex e := by
  unfold runDef
  rw [if_pos hA, h]
  rfl
theorem call_ex {F : Gm → Res Rv} {fs : Gm → Res (List Rv)} {G : Gm} {e : Exn} (ds : List PyData) (hs : fs G = .ok (ds.map Rv.d) G) (hF : F (ds.map Sl.d) = .ex e) : fCallK (kCall F) fs G = .ex e := by
  unfold fCallK
  rw [hs, Res.bind_ok]
  unfold kCall
  rw [argsOf_d]
  dsimp only
  rw [hF]
theorem call_new {F : Gm → Res Rv} {fs : Gm → Res (List Rv)} {G A : Gm} {o : Ao} (ds : List PyData) (hs : fs G = .ok (ds.map Rv.d) G) (hF : F (ds.map Sl.d) = .ok (.new o) A) : fCallK (kCall F) fs G = .ok (.new o) G := by
  unfold fCallK
  rw [hs, Res.bind_ok]
  unfold kCall
  rw [argsOf_d]
  dsimp only
  rw [hF]
  rfl
theorem expr_ev {f : Gm → Res Rv} {G G1 : Gm} {r : Rv} (h : f G = .ok r G1) : sExpr f G = .ok .nx G1 := by
  unfold sExpr; rw [h]; rfl
theorem expr_ex {f : Gm → Res Rv} {G : Gm} {e : Exn} (h : f G = .ex e) : sExpr f G = .ex e := by
  unfold sExpr; rw [h]; rfl
theorem seq_ex {f g : Gm → Res Out} {G : Gm} {e : Exn} (h : f G = .ex e) : sSeq f g G = .ex e := by
  unfold sSeq; rw [h]
theorem not_ev {t : Gm → Res Bool} {G G1 : Gm} {b : Bool} (h : t G = .ok b G1) : tNot' t G = .ok (!b) G1 := by
  unfold tNot'; rw [h]; rfl
theorem set_d {i : Nat} {f : Gm → Res Rv} {G G1 : Gm} {x : PyData} (h : f G = .ok (.d x) G1) (hf : freeAt G1 i = true := by rfl) : sSet i f G = .ok .nx (G1.set i (.d x)) := by
  unfold sSet; rw [h, Res.bind_ok]
  unfold stor setSl
  rw [if_pos hf]
theorem set_new {i : Nat} {f : Gm → Res Rv} {G G1 : Gm} {x : Ao} (h : f G = .ok (.new x) G1) (hf : freeAt G1 i = true := by rfl) : sSet i f G = .ok .nx (G1.set i (.l x)) := by
  unfold sSet; rw [h, Res.bind_ok]
  unfold stor setSl
  rw [if_pos hf]
theorem cons_ev {f : Gm → Res Rv} {fs : Gm → Res (List Rv)} {G G1 G2 : Gm} {r : Rv} {rs : List Rv} (h : f G = .ok r G1) (hs : fs G1 = .ok rs G2) : fCons f fs G = .ok (r :: rs) G2 := by
  unfold fCons; rw [h, Res.bind_ok, hs]; rfl
theorem seq_ev {f g : Gm → Res Out} {G G1 : Gm} (h : f G = .ok .nx G1) : sSeq f g G = g G1 := by
  unfold sSeq; rw [h]
theorem seq_rt {f g : Gm → Res Out} {G G1 : Gm} {r : Rv} (h : f G = .ok (.rt r) G1) : sSeq f g G = .ok (.rt r) G1 := by
  unfold sSeq; rw [h]
theorem if_ev {t : Gm → Res Bool} {f g : Gm → Res Out} {G G1 : Gm} {b : Bool} (h : t G = .ok b G1) : sIf t f g G = if b then f G1 else g G1 := by
  unfold sIf; rw [h]; rfl
theorem or_ev {t u : Gm → Res Bool} {G : Gm} {a b : Bool} (h : t G = .ok a G) (h2 : a = false → u G = .ok b G) : tOr' t u G = .ok (a || b) G := by
  unfold tOr'; rw [h]
  cases a with
  | true => rfl
  | false => exact h2 rfl
theorem and_ev {t u : Gm → Res Bool} {G : Gm} {a b : Bool} (h : t G = .ok a G) (h2 : a = true → u G = .ok b G) : tAnd' t u G = .ok (a && b) G := by
  unfold tAnd'; rw [h]
  cases a with
  | false => rfl
  | true => exact h2 rfl
theorem fand_ev {t u : Gm → Res Rv} {G : Gm} {a b : Bool} (h : t G = .ok (.d (.bool a)) G) (h2 : a = true → u G = .ok (.d (.bool b)) G) : fAnd t u G = .ok (.d (.bool (a && b))) G := by
  unfold fAnd; rw [h]
  cases a with
  | false => rfl
  | true => exact h2 rfl
theorem op_ev {k : Gm → Rv → Rv → Res Rv} {fa fb : Gm → Res Rv} {G G1 G2 : Gm} {a b : Rv} {R : Res Rv} (ha : fa G = .ok a G1) (hb : fb G1 = .ok b G2) (h : k G2 a b = R) : fOp2 k fa fb G = R := by
  unfold fOp2; rw [ha, Res.bind_ok, hb, Res.bind_ok, h]
theorem test_ev {f : Gm → Res Rv} {G G1 : Gm} {b : Bool} (h : f G = .ok (.d (.bool b)) G1) : fTest f G = .ok b G1 := by
  unfold fTest; rw [h]; rfl
theorem ret_ev {f : Gm → Res Rv} {G G1 : Gm} {r : Rv} (h : f G = .ok r G1) : sRet f G = .ok (.rt r) G1 := by
  unfold sRet; rw [h]; rfl
theorem seq_go {f g : Gm → Res Out} {G G1 : Gm} {R : Res Out} (h : f G = .ok .nx G1) (h2 : g G1 = R) : sSeq f g G = R := (seq_ev h).trans h2
theorem if_t {t : Gm → Res Bool} {f g : Gm → Res Out} {G G1 : Gm} {b : Bool} {R : Res Out} (h : t G = .ok b G1) (hb : b = true) (h2 : f G1 = R) : sIf t f g G = R := by
  rw [if_ev h, if_pos hb, h2]
theorem if_f {t : Gm → Res Bool} {f g : Gm → Res Out} {G G1 : Gm} {b : Bool} {R : Res Out} (h : t G = .ok b G1) (hb : b = false) (h2 : g G1 = R) : sIf t f g G = R := by
  rw [if_ev h, hb, if_neg Bool.false_ne_true, h2]
theorem run_gives {n m : Nat} {f : Gm → Res Out} {As : Gm} {x : PyData} {G' : Gm} (h : f (As ++ List.replicate m .no) = .ok (.rt (.d x)) G') (hA : (decide (As.length = n) && As.all argSl) = true) : runDef n m f As = .ok (.d x) (outArgs As G') := by
  unfold runDef
  rw [if_pos hA, h]
  rfl
theorem chn_ev {k k' : Gm → Rv → Rv → Res Rv} {fa fb fc : Gm → Res Rv} {G : Gm} {a b c : Rv} {p q : Bool} (ha : fa G = .ok a G) (hb : fb G = .ok b G) (hk : k G a b = .ok (.d (.bool p)) G) (hc : p = true → fc G = .ok c G) (hk' : p = true → k' G b c = .ok (.d (.bool q)) G) : fChn k k' fa fb fc G = .ok (.d (.bool (p && q))) G := by
  unfold fChn
  rw [ha, Res.bind_ok, hb, Res.bind_ok, hk, Res.bind_ok]
  cases p with
  | false => rfl
  | true =>
    show (fc G).bind (fun c G5 => k' G5 b c) = _
    rw [hc rfl]
    exact hk' rfl
theorem atI_natL {α : Type} {xs : List α} {j : Nat} {x : α} (h : xs[j]? = some x) : atI xs (j : Int) = some x := atI_nat h
theorem idx_ev {fa fb : Gm → Res Rv} {G G1 G2 : Gm} {a : Rv} {b : Rv} {ds : List PyData} {i : Int} {x : PyData} (ha : fa G = .ok a G1) (hb : fb G1 = .ok b G2) (hd : rd G2 a = some (.tuple ds) ∨ rd G2 a = some (.list ds)) (hi : rd G2 b = some (.int i)) (h : atI ds i = some x) : fOp2 kIdx fa fb G = .ok (.d x) G2 := by
  refine op_ev ha hb ?_
  unfold kIdx
  rw [hi]
  dsimp only
  rcases hd with hd | hd <;> (rw [hd]; dsimp only; rw [h])
/-- a slot that holds data or nothing -/
def Pl (s : Sl) : Prop := s = .no ∨ ∃ d, s = .d d
theorem Pl.no : Pl .no := .inl rfl
theorem Pl.dd (x : PyData) : Pl (.d x) := .inr ⟨x, rfl⟩
theorem gN_pl {G : Gm} {i : Nat} {d : PyData} {s : Sl} (h : G[i]? = some s) (p : Pl s) : gN i d G = some (G.set i (.d d)) := by
  unfold gN setSl freeAt
  rw [h]
  rcases p with rfl | ⟨x, rfl⟩ <;> rfl
/-- a walk by an invariant; what a return leaves -/
theorem loop_gen {tg : PyData → Gm → Option Gm} {body : Gm → Res Out} (I : Nat → Gm → Prop) (R : Rv → Gm → Prop) : ∀ (ds : List PyData) (k : Nat) (G : Gm), I k G →
    (∀ j d G, ds[j]? = some d → I (k + j) G → ∃ G1, tg d G = some G1 ∧ ((∃ G2, (body G1 = .ok .nx G2 ∨ body G1 = .ok .ct G2) ∧ I (k + j + 1) G2) ∨ ∃ r G2, body G1 = .ok (.rt r) G2 ∧ R r G2)) →
    (∃ G', loopF tg body ds G = .ok .nx G' ∧ I (k + ds.length) G') ∨ ∃ r G', loopF tg body ds G = .ok (.rt r) G' ∧ R r G'
  | [], k, G, h, _ => .inl ⟨G, rfl, h⟩
  | d :: ds, k, G, h, hs => by
    obtain ⟨G1, e1, h1⟩ := hs 0 d G rfl h
    have unf : loopF tg body (d :: ds) G = match body G1 with
      | .ok .nx G2 => loopF tg body ds G2
      | .ok .ct G2 => loopF tg body ds G2
      | .ok .bk G2 => .ok .nx G2
      | .ok (.rt r) G2 => .ok (.rt r) G2
      | .ex e => .ex e
      | .bad => .bad := by
      conv => lhs; unfold loopF
      rw [e1] <;> rfl
    rcases h1 with ⟨G2, e2, h2⟩ | ⟨r, G2, e2, h2⟩
    · have e3 : loopF tg body (d :: ds) G = loopF tg body ds G2 := by
        rw [unf]
        rcases e2 with e2 | e2 <;> rw [e2]
      rw [e3]
      have := loop_gen I R ds (k + 1) G2 h2 fun j x G' ej hj => by
        have e : k + 1 + j = k + (j + 1) := by omega
        rw [e] at hj ⊢
        exact hs (j + 1) x G' (by simpa using ej) hj
      rw [show k + (d :: ds).length = k + 1 + ds.length by rw [List.length_cons]; omega]
      exact this
    · exact .inr ⟨r, G2, by rw [unf, e2], h2⟩
theorem loop_all {tg : PyData → Gm → Option Gm} {body : Gm → Res Out} (I : Nat → Gm → Prop) {ds : List PyData} {G : Gm} (h0 : I 0 G) (hs : ∀ j d G, ds[j]? = some d → I j G → ∃ G1, tg d G = some G1 ∧ ∃ G2, (body G1 = .ok .nx G2 ∨ body G1 = .ok .ct G2) ∧ I (j + 1) G2) :
    ∃ G', loopF tg body ds G = .ok .nx G' ∧ I ds.length G' := by
  rcases loop_gen I (fun _ _ => False) ds 0 G h0 (fun j d G e h => by
    rw [Nat.zero_add] at h ⊢
    obtain ⟨G1, e1, G2, e2, h2⟩ := hs j d G e h
    exact ⟨G1, e1, .inl ⟨G2, e2, h2⟩⟩) with h | ⟨r, G', _, h⟩
  · rw [Nat.zero_add] at h; exact h
  · exact h.elim
theorem for_nx {it : Gm → Res Itv} {tg : PyData → Gm → Option Gm} {body : Gm → Res Out} {G G' : Gm} {ds : List PyData} {lk : List Nat} (hit : it G = .ok (ds, lk) G) (h : loopF tg body ds (lockAll G lk) = .ok .nx G') : sFor it tg body G = .ok .nx (unlockAll G G') := by
  unfold sFor
  rw [hit, Res.bind_ok]
  dsimp only
  rw [h]
  rfl
theorem for_rt {it : Gm → Res Itv} {tg : PyData → Gm → Option Gm} {body : Gm → Res Out} {G G' : Gm} {ds : List PyData} {lk : List Nat} {r : Rv} (hit : it G = .ok (ds, lk) G) (h : loopF tg body ds (lockAll G lk) = .ok (.rt r) G') : sFor it tg body G = .ok (.rt r) (unlockAll G G') := by
  unfold sFor
  rw [hit, Res.bind_ok]
  dsimp only
  rw [h]
  rfl
theorem rg_ev {f : Gm → Res Rv} {G : Gm} (n : Nat) (h : f G = .ok (.d (.int n)) G) (hn : n ≤ 100000) : iRg1 f G = .ok ((List.range n).map fun k => .int (k : Nat), []) G := by
  unfold iRg1
  rw [h, Res.bind_ok]
  show (if rgOk 0 n then Res.ok (rgD 0 n, []) G else .bad) = _
  rw [if_pos (by simp [rgOk]; omega)]
  unfold rgD
  simp
theorem setItem_ev {fe fo fi : Gm → Res Rv} {G : Gm} {j m : Nat} {k : Int} {d : PyData} {ds : List PyData} (he : fe G = .ok (.d d) G) (ho : fo G = .ok (.own j) G) (hi : fi G = .ok (.d (.int k)) G) (hm : mutAt G j = some (.lst ds)) (hk : ixN ds.length k = some m) : sSetItem fe fo fi G = .ok .nx (setOwn G j (.lst (ds.set m d))) := by
  unfold sSetItem
  rw [he, Res.bind_ok, ho, Res.bind_ok, hi, Res.bind_ok]
  dsimp only
  unfold kSetItem
  dsimp only [retain, rd]
  rw [hm]
  dsimp only
  rw [hk]
theorem ixN_nat {n j : Nat} (h : j < n) : ixN n (j : Int) = some j := by
  unfold ixN
  rw [if_pos (by omega), if_pos (by omega)]
  simp
/-- a walk that returns at the first place where f tells an answer -/
theorem loop_find {tg : PyData → Gm → Option Gm} {body : Gm → Res Out} (I : Nat → Gm → Prop) (J : Gm → Prop) (f : Nat → Option Rv) : ∀ (ds : List PyData) (k : Nat) (G : Gm), I k G →
    (∀ j d G, ds[j]? = some d → I (k + j) G → ∃ G1, tg d G = some G1 ∧ match f (k + j) with
      | none => ∃ G2, (body G1 = .ok .nx G2 ∨ body G1 = .ok .ct G2) ∧ I (k + j + 1) G2
      | some r => ∃ G2, body G1 = .ok (.rt r) G2 ∧ J G2) →
    match (List.range' k ds.length).findSome? f with
      | none => ∃ G', loopF tg body ds G = .ok .nx G' ∧ I (k + ds.length) G'
      | some r => ∃ G', loopF tg body ds G = .ok (.rt r) G' ∧ J G'
  | [], k, G, h, _ => ⟨G, rfl, h⟩
  | d :: ds, k, G, h, hs => by
    obtain ⟨G1, e1, h1⟩ := hs 0 d G rfl h
    rw [Nat.add_zero] at h1
    have unf : loopF tg body (d :: ds) G = match body G1 with
      | .ok .nx G2 => loopF tg body ds G2
      | .ok .ct G2 => loopF tg body ds G2
      | .ok .bk G2 => .ok .nx G2
      | .ok (.rt r) G2 => .ok (.rt r) G2
      | .ex e => .ex e
      | .bad => .bad := by
      conv => lhs; unfold loopF
      rw [e1] <;> rfl
    rw [List.length_cons, List.range'_succ, List.findSome?_cons]
    cases ef : f k with
    | some r =>
      rw [ef] at h1
      obtain ⟨G2, e2, h2⟩ := h1
      exact ⟨G2, by rw [unf, e2], h2⟩
    | none =>
      rw [ef] at h1
      obtain ⟨G2, e2, h2⟩ := h1
      have e3 : loopF tg body (d :: ds) G = loopF tg body ds G2 := by
        rw [unf]
        rcases e2 with e2 | e2 <;> rw [e2]
      have := loop_find I J f ds (k + 1) G2 h2 fun j x G' ej hj => by
        have e : k + 1 + j = k + (j + 1) := by omega
        rw [e] at hj ⊢
        exact hs (j + 1) x G' (by simpa using ej) hj
      dsimp only
      rw [e3, show k + (ds.length + 1) = k + 1 + ds.length by omega]
      exact this
theorem loop_find0 {tg : PyData → Gm → Option Gm} {body : Gm → Res Out} (I : Nat → Gm → Prop) (J : Gm → Prop) (f : Nat → Option Rv) {ds : List PyData} {G : Gm} (h0 : I 0 G)
    (hs : ∀ j d G, ds[j]? = some d → I j G → ∃ G1, tg d G = some G1 ∧ match f j with
      | none => ∃ G2, (body G1 = .ok .nx G2 ∨ body G1 = .ok .ct G2) ∧ I (j + 1) G2
      | some r => ∃ G2, body G1 = .ok (.rt r) G2 ∧ J G2) :
    match (List.range ds.length).findSome? f with
      | none => ∃ G', loopF tg body ds G = .ok .nx G' ∧ I ds.length G'
      | some r => ∃ G', loopF tg body ds G = .ok (.rt r) G' ∧ J G' := by
  have := loop_find I J f ds 0 G h0 fun j d G e h => by
    rw [Nat.zero_add] at h ⊢
    exact hs j d G e h
  rw [Nat.zero_add] at this
  rw [List.range_eq_range']
  exact this
theorem kAdd_t {G : Gm} {a b : Rv} {xs ys : List PyData} (ha : rd G a = some (.tuple xs)) (hb : rd G b = some (.tuple ys)) (hl : xs.length + ys.length ≤ 16777216) : kAdd G a b = .ok (.d (.tuple (xs ++ ys))) G := by
  unfold kAdd
  rw [ha, hb]
  show (if lim (xs.length + ys.length) then Res.ok (Rv.d (.tuple (xs ++ ys))) G else .bad) = _
  rw [if_pos (by unfold lim; exact decide_eq_true hl)]
theorem kAdd_l {G : Gm} {a b : Rv} {xs ys : List PyData} (ha : rd G a = some (.list xs)) (hb : rd G b = some (.list ys)) (hl : xs.length + ys.length ≤ 16777216) : kAdd G a b = .ok (.new (.lst (xs ++ ys))) G := by
  unfold kAdd
  rw [ha, hb]
  show (if lim (xs.length + ys.length) then Res.ok (Rv.new (.lst (xs ++ ys))) G else .bad) = _
  rw [if_pos (by unfold lim; exact decide_eq_true hl)]
theorem rg2_ev {fa fb : Gm → Res Rv} {G : Gm} {a b : Int} (ha : fa G = .ok (.d (.int a)) G) (hb : fb G = .ok (.d (.int b)) G) (h : rgOk a b = true) : iRg2 fa fb G = .ok (rgD a b, []) G := by
  unfold iRg2
  rw [ha, Res.bind_ok, hb, Res.bind_ok]
  show (if rgOk a b then Res.ok (rgD a b, []) G else .bad) = _
  rw [if_pos h]
theorem call_evA {F : Gm → Res Rv} {fs : Gm → Res (List Rv)} {G A : Gm} {x : PyData} {rs : List Rv} {ds : List PyData} (hs : fs G = .ok rs G) (ha : argsOf G rs = some (ds, false)) (hF : F (ds.map Sl.d) = .ok (.d x) A) : fCallK (kCall F) fs G = .ok (.d x) G := by
  unfold fCallK
  rw [hs, Res.bind_ok]
  unfold kCall
  rw [ha]
  dsimp only
  rw [hF]
  rfl
theorem call_evB {F : Gm → Res Rv} {fs : Gm → Res (List Rv)} {G A : Gm} {x : PyData} {rs : List Rv} {ds : List PyData} {b : Bool} (hs : fs G = .ok rs G) (ha : argsOf G rs = some (ds, b)) (hF : F (ds.map Sl.d) = .ok (.d x) A) (hx : flatD x = true) : fCallK (kCall F) fs G = .ok (.d x) G := by
  unfold fCallK
  rw [hs, Res.bind_ok]
  unfold kCall
  rw [ha]
  dsimp only
  rw [hF]
  dsimp only
  rw [hx]
  simp
theorem unlk_pl {t s : Sl} (h : Pl s) : unlk t s = s := by
  rcases h with rfl | ⟨x, rfl⟩ <;> cases t <;> rfl
theorem findSome_map {α β γ : Type} (f : α → Option β) (h : β → γ) : ∀ l : List α, l.findSome? (fun x => (f x).map h) = (l.findSome? f).map h
  | [] => rfl
  | x :: l => by
    rw [List.findSome?_cons, List.findSome?_cons]
    cases f x with
    | none => exact findSome_map f h l
    | some y => rfl
theorem enum_ev {f : Gm → Res Rv} {G : Gm} {r : Rv} {ds : List PyData} {lk : List Nat} (h : f G = .ok r G) (hk : kItems G r = .ok (ds, lk) G) : iEnum f G = .ok (enumD ds, lk) G := by
  unfold iEnum
  rw [h, Res.bind_ok, hk]
  rfl
theorem enumD_len (ds : List PyData) : (enumD ds).length = ds.length := by unfold enumD; simp
theorem wipe_no {G0 : Gm} {j : Nat} (h : G0[j]? = some .no) : wipeG G0 [j] = G0 := by
  have := wipe_set (s := .no) h
  rwa [show G0.set j .no = G0 from by
    apply List.ext_getElem?
    intro k
    by_cases e : k = j
    · subst e
      rw [List.getElem?_set_self (List.getElem?_eq_some_iff.mp h).1, h]
    · rw [List.getElem?_set_ne (Ne.symm e)]] at this
theorem wipe_set2 {G0 : Gm} {i j : Nat} {s : Sl} (hi : G0[i]? = some .no) (hj : G0[j]? = some .no) : wipeG (G0.set i s) [i, j] = G0 := by
  apply List.ext_getElem?
  intro k
  unfold wipeG
  rw [List.getElem?_mapIdx]
  by_cases e : k = i
  · subst e
    rw [List.getElem?_set_self (List.getElem?_eq_some_iff.mp hi).1, hi]
    simp
  · rw [List.getElem?_set_ne (Ne.symm e)]
    by_cases e2 : k = j
    · subst e2
      rw [hj]
      simp
    · cases G0[k]? with
      | none => rfl
      | some t => simp [e, e2]
/-- a comprehension over things that data tell of -/
theorem compFA {α : Type} {i : Nat} {enc : α → PyData} {p : α → Bool} {e : α → PyData} {tst : Gm → Res Bool} {elt : Gm → Res Rv} {G0 : Gm} (h0 : G0[i]? = some .no) : ∀ (l : List α) (acc : List PyData), acc.length + l.length ≤ 16777216 →
    (∀ a ∈ l, tst (G0.set i (.d (enc a))) = .ok (p a) (G0.set i (.d (enc a)))) → (∀ a ∈ l, p a = true → Gives elt (G0.set i (.d (enc a))) (e a)) → compF [i] (gN i) tst elt (l.map enc) acc G0 = .ok (acc ++ (l.filter p).map e) G0
  | [], acc, _, _, _ => by simp [compF]
  | a :: l, acc, hl, ht, he => by
    rw [List.length_cons] at hl
    rw [List.map_cons]
    unfold compF
    rw [gN_no h0]
    dsimp only
    rw [ht a List.mem_cons_self]
    cases hp : p a with
    | true =>
      obtain ⟨r, e1, e2⟩ := he a List.mem_cons_self hp
      dsimp only
      rw [e1]
      dsimp only
      rw [e2]
      dsimp only
      rw [if_pos (by unfold lim; exact decide_eq_true (by omega)), wipe_set h0, compFA h0 l (acc ++ [e a]) (by rw [List.length_append]; simp; omega) (fun x hx => ht x (List.mem_cons_of_mem _ hx)) fun x hx => he x (List.mem_cons_of_mem _ hx)]
      rw [List.filter_cons, if_pos hp, List.map_cons]
      simp
    | false =>
      dsimp only
      rw [wipe_set h0, compFA h0 l acc (by omega) (fun x hx => ht x (List.mem_cons_of_mem _ hx)) fun x hx => he x (List.mem_cons_of_mem _ hx)]
      rw [List.filter_cons, if_neg (by rw [hp]; exact Bool.false_ne_true)]
theorem comp_evA {α : Type} {it : Gm → Res Itv} {i : Nat} {enc : α → PyData} {p : α → Bool} {e : α → PyData} {tst : Gm → Res Bool} {elt : Gm → Res Rv} {G : Gm} {l : List α} {lk : List Nat} (hit : it G = .ok (l.map enc, lk) G) (hpl : plainAt G [i] = true) (hi : (G[i]?).isSome = true) (hl : l.length ≤ 16777216)
    (ht : ∀ a ∈ l, tst ((wipeG (lockAll G lk) [i]).set i (.d (enc a))) = .ok (p a) ((wipeG (lockAll G lk) [i]).set i (.d (enc a)))) (he : ∀ a ∈ l, p a = true → Gives elt ((wipeG (lockAll G lk) [i]).set i (.d (enc a))) (e a)) :
    fComp it [i] (gN i) tst elt G = .ok (.new (.lst ((l.filter p).map e))) G := by
  have hl0 : i < (lockAll G lk).length := by
    unfold lockAll; rw [List.length_mapIdx]
    obtain ⟨s, h⟩ := Option.isSome_iff_exists.mp hi
    exact (List.getElem?_eq_some_iff.mp h).1
  unfold fComp
  rw [hit, Res.bind_ok, if_pos hpl, compFA (wipeNo hl0) l [] (by simpa using hl) ht he]
  dsimp only
  rw [unwipe_wipe, unlock_lock]
  rfl
theorem comp_evA0 {α : Type} {it : Gm → Res Itv} {i : Nat} {enc : α → PyData} {e : α → PyData} {elt : Gm → Res Rv} {G : Gm} {l : List α} {lk : List Nat} (hit : it G = .ok (l.map enc, lk) G) (hpl : plainAt G [i] = true) (hi : (G[i]?).isSome = true) (hl : l.length ≤ 16777216)
    (he : ∀ a ∈ l, Gives elt ((wipeG (lockAll G lk) [i]).set i (.d (enc a))) (e a)) : fComp it [i] (gN i) tYesF elt G = .ok (.new (.lst (l.map e))) G := by
  have := comp_evA (p := fun _ => true) (tst := tYesF) hit hpl hi hl (fun d _ => rfl) fun d hd _ => he d hd
  rw [this, List.filter_eq_self.mpr (fun _ _ => rfl)]
theorem comp2F_ev {α β : Type} {i j : Nat} {it1 : Gm → Res Itv} {elt : Gm → Res Rv} {enc : α → PyData} {enc1 : β → PyData} {l1 : α → List β} {e : α → β → PyData} {G0 : Gm} (hij : i ≠ j) (hi : G0[i]? = some .no) (hj : G0[j]? = some .no) : ∀ (l : List α) (acc : List PyData), acc.length + (l.flatMap l1).length ≤ 16777216 →
    (∀ a ∈ l, it1 (G0.set i (.d (enc a))) = .ok ((l1 a).map enc1, []) (G0.set i (.d (enc a)))) → (∀ a ∈ l, ∀ b ∈ l1 a, Gives elt ((G0.set i (.d (enc a))).set j (.d (enc1 b))) (e a b)) →
    comp2F [i, j] [j] (gN i) tYesF it1 (gN j) tYesF elt (l.map enc) acc G0 = .ok (acc ++ l.flatMap fun a => (l1 a).map (e a)) G0
  | [], acc, _, _, _ => by simp [comp2F]
  | d :: ds, acc, hl, h1, h2 => by
    have hj' : (G0.set i (.d (enc d)))[j]? = some .no := by rw [List.getElem?_set_ne hij]; exact hj
    rw [List.flatMap_cons, List.length_append] at hl
    have q := compFA (p := fun _ => true) (tst := tYesF) (elt := elt) (enc := enc1) (e := e d) hj' (l1 d) acc (by omega) (fun _ _ => rfl) fun x hx _ => h2 d List.mem_cons_self x hx
    rw [List.filter_eq_self.mpr (fun _ _ => rfl)] at q
    have unf : comp2F [i, j] [j] (gN i) tYesF it1 (gN j) tYesF elt ((d :: ds).map enc) acc G0 = comp2F [i, j] [j] (gN i) tYesF it1 (gN j) tYesF elt (ds.map enc) (acc ++ (l1 d).map (e d)) G0 := by
      rw [List.map_cons]
      conv => lhs; unfold comp2F
      rw [gN_no hi]
      dsimp only [tYesF]
      rw [h1 d List.mem_cons_self]
      dsimp only
      rw [wipe_no hj']
      rw [q]
      dsimp only
      rw [wipe_set2 hi hj]
    rw [unf, comp2F_ev hij hi hj ds _ (by rw [List.length_append, List.length_map]; omega) (fun x hx => h1 x (List.mem_cons_of_mem _ hx)) fun x hx => h2 x (List.mem_cons_of_mem _ hx), List.flatMap_cons, List.append_assoc]
theorem comp2_ev {α β : Type} {it : Gm → Res Itv} {i j : Nat} {it1 : Gm → Res Itv} {elt : Gm → Res Rv} {enc : α → PyData} {enc1 : β → PyData} {l1 : α → List β} {e : α → β → PyData} {G : Gm} {l : List α} {lk : List Nat} (hij : i ≠ j) (hit : it G = .ok (l.map enc, lk) G) (hpl : plainAt G [i, j] = true) (hi : (wipeG (lockAll G lk) [i, j])[i]? = some .no) (hj : (wipeG (lockAll G lk) [i, j])[j]? = some .no) (hl : (l.flatMap l1).length ≤ 16777216)
    (h1 : ∀ a ∈ l, it1 ((wipeG (lockAll G lk) [i, j]).set i (.d (enc a))) = .ok ((l1 a).map enc1, []) ((wipeG (lockAll G lk) [i, j]).set i (.d (enc a)))) (h2 : ∀ a ∈ l, ∀ b ∈ l1 a, Gives elt (((wipeG (lockAll G lk) [i, j]).set i (.d (enc a))).set j (.d (enc1 b))) (e a b)) :
    fComp2 it [i, j] [j] (gN i) tYesF it1 (gN j) tYesF elt G = .ok (.new (.lst (l.flatMap fun a => (l1 a).map (e a)))) G := by
  unfold fComp2
  rw [hit, Res.bind_ok, if_pos hpl, comp2F_ev hij hi hj l [] (by simpa using hl) h1 h2]
  dsimp only
  rw [unwipe_wipe, unlock_lock]
  rfl
theorem if_evE {t : Gm → Res Bool} {fa fb : Gm → Res Rv} {G G1 : Gm} {b : Bool} (h : t G = .ok b G1) : fIf t fa fb G = if b then fa G1 else fb G1 := by
  unfold fIf; rw [h]; rfl
/-- a walk over things that data tell of, by an invariant without a count -/
theorem loop_findA {α : Type} {tg : PyData → Gm → Option Gm} {body : Gm → Res Out} (enc : α → PyData) (I J : Gm → Prop) (f : α → Option Rv) : ∀ (l : List α) (G : Gm), I G →
    (∀ a ∈ l, ∀ G, I G → ∃ G1, tg (enc a) G = some G1 ∧ match f a with
      | none => ∃ G2, (body G1 = .ok .nx G2 ∨ body G1 = .ok .ct G2) ∧ I G2
      | some r => ∃ G2, body G1 = .ok (.rt r) G2 ∧ J G2) →
    match l.findSome? f with
      | none => ∃ G', loopF tg body (l.map enc) G = .ok .nx G' ∧ I G'
      | some r => ∃ G', loopF tg body (l.map enc) G = .ok (.rt r) G' ∧ J G'
  | [], G, h, _ => ⟨G, rfl, h⟩
  | a :: l, G, h, hs => by
    obtain ⟨G1, e1, h1⟩ := hs a List.mem_cons_self G h
    have unf : loopF tg body ((a :: l).map enc) G = match body G1 with
      | .ok .nx G2 => loopF tg body (l.map enc) G2
      | .ok .ct G2 => loopF tg body (l.map enc) G2
      | .ok .bk G2 => .ok .nx G2
      | .ok (.rt r) G2 => .ok (.rt r) G2
      | .ex e => .ex e
      | .bad => .bad := by
      rw [List.map_cons]
      conv => lhs; unfold loopF
      rw [e1] <;> rfl
    rw [List.findSome?_cons]
    cases ef : f a with
    | some r =>
      rw [ef] at h1
      obtain ⟨G2, e2, h2⟩ := h1
      exact ⟨G2, by rw [unf, e2], h2⟩
    | none =>
      rw [ef] at h1
      obtain ⟨G2, e2, h2⟩ := h1
      have e3 : loopF tg body ((a :: l).map enc) G = loopF tg body (l.map enc) G2 := by
        rw [unf]
        rcases e2 with e2 | e2 <;> rw [e2]
      dsimp only
      rw [e3]
      exact loop_findA enc I J f l G2 h2 fun x hx => hs x (List.mem_cons_of_mem _ hx)
theorem seq_new {f : Gm → Res Rv} {G : Gm} {ds : List PyData} (h : f G = .ok (.new (.lst ds)) G) : iSeq f G = .ok (ds, []) G := by
  unfold iSeq
  rw [h]
  rfl
theorem app_ev {fo fe : Gm → Res Rv} {G G2 : Gm} {i : Nat} {d : PyData} {ds : List PyData} (ho : fo G = .ok (.own i) G) (hl : isLst G i = true) (he : fe G = .ok (.d d) G2) (hm : mutAt G2 i = some (.lst ds)) (hn : ds.length + 1 ≤ 16777216) : fMeth kAppend fo (fCons fe fNil) G = .ok (.d .none) (setOwn G2 i (.lst (ds ++ [d]))) := by
  unfold fMeth
  rw [ho, Res.bind_ok]
  dsimp only
  rw [if_pos hl]
  unfold fCons
  rw [he]
  show kAppend G2 i [.d d] = _
  unfold kAppend
  dsimp only [retain]
  rw [hm]
  dsimp only
  rw [if_pos (by unfold lim; exact decide_eq_true hn)]
theorem pop0_ev {fo fe : Gm → Res Rv} {G : Gm} {i : Nat} {d : PyData} {ds : List PyData} (ho : fo G = .ok (.own i) G) (hl : isLst G i = true) (he : fe G = .ok (.d (.int 0)) G) (hm : mutAt G i = some (.lst (d :: ds))) : fMeth kPopAt fo (fCons fe fNil) G = .ok (.d d) (setOwn G i (.lst ds)) := by
  unfold fMeth
  rw [ho, Res.bind_ok]
  dsimp only
  rw [if_pos hl]
  unfold fCons
  rw [he]
  show kPopAt G i [.d (.int 0)] = _
  unfold kPopAt
  dsimp only [rd]
  rw [hm]
  dsimp only
  rw [show ixN (d :: ds).length 0 = some 0 from ixN_nat (j := 0) (by simp)]
  rfl
end Fx
namespace D71
open PySem PySem.Spec PyProof.Rows L2 Fx
theorem whole_ev (d : PyData) : F_is_whole [.d d] = .ok (.d (.bool (isIntD d))) [.d d] := by cases d <;> rfl
def wishI : PyData → Bool
  | .int i => decide (1 ≤ i) && decide (i ≤ 1000)
  | _ => false
def wishB (n : Int) : PyData → Bool
  | .tuple ds => decide ((ds.length : Int) = n) && ds.all wishI
  | _ => false
theorem wishes_ev (d : PyData) (n : Int) (hn : n ≤ 1000) : F_is_wishes [.d d, .d (.int n)] = .ok (.d (.bool (wishB n d))) [.d d, .d (.int n)] := by
  cases d with
  | tuple ds =>
    refine run_d [.d (.tuple ds), .d (.int n), .no] ?_
    show f_is_wishes [.d (.tuple ds), .d (.int n), .no] = _
    have c : (tOr' (tNot' (fTest (fUn (kIsi "tuple") (fVar 0)))) (fTest (fOp2 kNe (fCallK kLen (fCons (fVar 0) fNil)) (fVar 1)))) [.d (.tuple ds), .d (.int n), .no] = .ok (false || !decide ((ds.length : Int) = n)) [.d (.tuple ds), .d (.int n), .no] :=
      or_ev rfl fun _ => test_ev (op_ev rfl rfl (kNe_int _ _ _))
    unfold f_is_wishes
    by_cases h : (ds.length : Int) = n
    · rw [decide_eq_true h] at c
      refine seq_go (if_f c rfl rfl) (ret_ev ?_)
      rw [show wishB n (.tuple ds) = ds.all wishI by simp [wishB, h]]
      refine all_ev (comp_ev0 (lk := []) rfl rfl rfl (by omega) fun d hd => .d ?_)
      show fAnd _ _ [.d (.tuple ds), .d (.int n), .d d] = _
      cases d with
      | int i => exact fand_ev (a := true) (call_ev [.int i] rfl (whole_ev (.int i))) fun _ => chn_ev rfl rfl rfl (fun _ => rfl) fun _ => rfl
      | _ => exact fand_ev (a := false) (b := false) (call_ev [_] rfl (whole_ev _)) fun h => by cases h
    · rw [decide_eq_false h] at c
      rw [show wishB n (.tuple ds) = false by simp [wishB, h]]
      exact seq_rt (if_t c rfl rfl)
  | _ => rfl
def gameB : PyData → Bool
  | .tuple (.tuple r0 :: rs) => decide (rs.length + 1 ≤ 6) && (decide (1 ≤ r0.length) && decide (r0.length ≤ 10) && (PyData.tuple r0 :: rs).all (wishB r0.length))
  | _ => false
theorem len1 (n : Nat) : decide ((1 : Int) ≤ ((n + 1 : Nat) : Int)) = true := decide_eq_true (by omega)
theorem game_ev (d : PyData) : F_is_game [.d d] = .ok (.d (.bool (gameB d))) [.d d] := by
  cases d with
  | tuple ds =>
    cases ds with
    | nil => rfl
    | cons x rs =>
      refine run_d [.d (.tuple (x :: rs)), .no] ?_
      show f_is_game [.d (.tuple (x :: rs)), .no] = _
      have i0 : (fOp2 kIdx (fVar 0) (fC (.int 0))) [.d (.tuple (x :: rs)), .no] = .ok (.d x) [.d (.tuple (x :: rs)), .no] := idx_ev rfl rfl (.inl rfl) rfl (atI_natL (j := 0) rfl)
      have c : (tOr' (tNot' (fTest (fUn (kIsi "tuple") (fVar 0)))) (tOr' (tNot' (fTest (fChn kLe kLe (fC (.int 1)) (fCallK kLen (fCons (fVar 0) fNil)) (fC (.int 6))))) (tNot' (fTest (fUn (kIsi "tuple") (fOp2 kIdx (fVar 0) (fC (.int 0)))))))) [.d (.tuple (x :: rs)), .no]
          = .ok (false || (!(decide ((1 : Int) ≤ ((rs.length + 1 : Nat) : Int)) && decide (((rs.length + 1 : Nat) : Int) ≤ 6)) || !isiD "tuple" x)) [.d (.tuple (x :: rs)), .no] :=
        or_ev rfl fun _ => or_ev (not_ev (test_ev (chn_ev rfl rfl rfl (fun _ => rfl) fun _ => rfl))) fun _ => not_ev (test_ev (by unfold fUn; rw [i0]; rfl))
      unfold f_is_game
      by_cases h6 : rs.length + 1 ≤ 6
      · cases x with
        | tuple r0 =>
          refine seq_go (if_f c (by rw [len1]; simp [isiD]; omega) rfl) (ret_ev ?_)
          have il : (fCallK kLen (fCons (fOp2 kIdx (fVar 0) (fC (.int 0))) fNil)) [.d (.tuple (.tuple r0 :: rs)), .no] = .ok (.d (.int r0.length)) [.d (.tuple (.tuple r0 :: rs)), .no] := by
            unfold fCallK fCons
            rw [i0]; rfl
          rw [show gameB (.tuple (.tuple r0 :: rs)) = ((decide ((1 : Int) ≤ r0.length) && decide ((r0.length : Int) ≤ 10)) && (PyData.tuple r0 :: rs).all (wishB r0.length)) by
            simp only [gameB, decide_eq_true h6, Bool.true_and]
            congr 1
            congr 1 <;> (apply decide_eq_decide.mpr; omega)]
          refine fand_ev (chn_ev rfl il rfl (fun _ => rfl) fun _ => rfl) fun hb => ?_
          have hr : (r0.length : Int) ≤ 1000 := by
            simp only [Bool.and_eq_true, decide_eq_true_eq] at hb
            omega
          refine all_ev (comp_ev0 (lk := []) rfl rfl rfl (by rw [List.length_cons]; omega) fun d hd => .d ?_)
          show (fCallK (kCall F_is_wishes) _) [.d (.tuple (.tuple r0 :: rs)), .d d] = _
          refine call_ev [d, .int r0.length] (cons_ev rfl (cons_ev ?_ rfl)) (wishes_ev d _ hr)
          unfold fCallK fCons
          rw [show (fOp2 kIdx (fVar 0) (fC (.int 0))) [.d (.tuple (.tuple r0 :: rs)), .d d] = .ok (.d (.tuple r0)) [.d (.tuple (.tuple r0 :: rs)), .d d] from idx_ev rfl rfl (.inl rfl) rfl (atI_natL (j := 0) rfl)]
          rfl
        | _ => exact seq_rt (if_t c (by simp [isiD]) rfl)
      · rw [show gameB (.tuple (x :: rs)) = false by cases x <;> simp [gameB] <;> omega]
        exact seq_rt (if_t c (by rw [decide_eq_false (show ¬ ((rs.length + 1 : Nat) : Int) ≤ 6 by omega)]; simp) rfl)
  | _ => rfl
theorem check_ok {d : PyData} (h : gameB d = true) : F_check_game [.d d] = .ok (.d .none) [.d d] :=
  run_nx [.d d] (if_f (not_ev (test_ev (call_ev [d] rfl (game_ev d)))) (by rw [h]; rfl) rfl)
theorem check_bad {d : PyData} (h : gameB d = false) : F_check_game [.d d] = .ex .mal :=
  run_ex (if_t (not_ev (test_ev (call_ev [d] rfl (game_ev d)))) (by rw [h]; rfl) rfl)
def ownI (n : Nat) : PyData → Bool
  | .int i => decide (0 ≤ i) && decide (i < n)
  | _ => false
def fitB (n m : Nat) : PyData → Bool
  | .tuple ds => decide (ds.length = m) && ds.all (ownI n)
  | _ => false
/-- the game of the rows g -/
def rowD (r : List Int) : PyData := .tuple (r.map .int)
def gameD (g : List (List Int)) : PyData := .tuple (g.map rowD)
/-- a game of n people and m goods, as the law draws it -/
structure Good (g : List (List Int)) (n m : Nat) : Prop where
  len : g.length = n
  n1 : 1 ≤ n
  n6 : n ≤ 6
  m1 : 1 ≤ m
  m10 : m ≤ 10
  row : ∀ r ∈ g, r.length = m ∧ ∀ x ∈ r, 1 ≤ x ∧ x ≤ 1000
theorem Good.first {g : List (List Int)} {n m : Nat} (h : Good g n m) : ∃ r rs, g = r :: rs ∧ r.length = m := by
  cases g with
  | nil => have := h.len; have := h.n1; simp at *; omega
  | cons r rs => exact ⟨r, rs, rfl, (h.row r List.mem_cons_self).1⟩
theorem wishB_row {r : List Int} {m : Nat} (hl : r.length = m) (h : ∀ x ∈ r, 1 ≤ x ∧ x ≤ 1000) : wishB m (rowD r) = true := by
  simp only [wishB, rowD, List.length_map, Bool.and_eq_true, decide_eq_true_eq, List.all_eq_true]
  refine ⟨by omega, fun d hd => ?_⟩
  obtain ⟨x, hx, rfl⟩ := List.mem_map.mp hd
  have := h x hx
  simp [wishI, this.1, this.2]
theorem Good.game {g : List (List Int)} {n m : Nat} (h : Good g n m) : gameB (gameD g) = true := by
  obtain ⟨r, rs, rfl, hr⟩ := h.first
  have hl := h.len
  have h6 := h.n6
  rw [List.length_cons] at hl
  show (decide ((rs.map rowD).length + 1 ≤ 6) && (decide (1 ≤ (r.map PyData.int).length) && decide ((r.map PyData.int).length ≤ 10) && (rowD r :: rs.map rowD).all (wishB (r.map PyData.int).length))) = true
  rw [List.length_map, List.length_map, hr]
  simp only [Bool.and_eq_true, decide_eq_true_eq, List.all_eq_true]
  refine ⟨by omega, ⟨h.m1, h.m10⟩, fun d hd => ?_⟩
  obtain ⟨x, hx, rfl⟩ := List.mem_map.mp (show d ∈ (r :: rs).map rowD from hd)
  exact wishB_row (h.row x hx).1 (h.row x hx).2
/-- g[0] -/
theorem g0_ev {g : List (List Int)} {n m : Nat} (h : Good g n m) {f : Gm → Res Rv} {G : Gm} (hf : f G = .ok (.d (gameD g)) G) : (fCallK kLen (fCons (fOp2 kIdx f (fC (.int 0))) fNil)) G = .ok (.d (.int m)) G := by
  obtain ⟨r, rs, rfl, hr⟩ := h.first
  unfold fCallK fCons
  rw [show fOp2 kIdx f (fC (.int 0)) G = .ok (.d (rowD r)) G from idx_ev hf rfl (.inl rfl) rfl (atI_natL (j := 0) rfl)]
  show Res.ok (Rv.d (.int ((r.map PyData.int).length : Nat))) G = _
  rw [List.length_map, hr]
theorem lenG_ev {g : List (List Int)} {n m : Nat} (h : Good g n m) {f : Gm → Res Rv} {G : Gm} (hf : f G = .ok (.d (gameD g)) G) : (fCallK kLen (fCons f fNil)) G = .ok (.d (.int n)) G := by
  unfold fCallK fCons
  rw [hf]
  show Res.ok (Rv.d (.int ((g.map rowD).length : Nat))) G = _
  rw [List.length_map, h.len]
theorem fits_ev {g : List (List Int)} {n m : Nat} (h : Good g n m) (v : PyData) : F_fits_owners [.d (gameD g), .d v] = .ok (.d (.bool (fitB n m v))) [.d (gameD g), .d v] := by
  cases v with
  | tuple ds =>
    refine run_d [.d (gameD g), .d (.tuple ds), .no] ?_
    show f_fits_owners [.d (gameD g), .d (.tuple ds), .no] = _
    have c : (tOr' (tNot' (fTest (fUn (kIsi "tuple") (fVar 1)))) (fTest (fOp2 kNe (fCallK kLen (fCons (fVar 1) fNil)) (fCallK kLen (fCons (fOp2 kIdx (fVar 0) (fC (.int 0))) fNil))))) [.d (gameD g), .d (.tuple ds), .no]
        = .ok (false || !decide ((ds.length : Int) = m)) [.d (gameD g), .d (.tuple ds), .no] := or_ev rfl fun _ => test_ev (op_ev rfl (g0_ev h rfl) (kNe_int _ _ _))
    unfold f_fits_owners
    by_cases hm : ds.length = m
    · rw [show fitB n m (.tuple ds) = ds.all (ownI n) by simp [fitB, hm]]
      refine seq_go (if_f c (by simp [hm]) rfl) (ret_ev ?_)
      refine all_ev (comp_ev0 (lk := []) rfl rfl rfl (by have := h.m10; omega) fun d hd => .d ?_)
      show fAnd _ _ [.d (gameD g), .d (.tuple ds), .d d] = _
      cases d with
      | int i => exact fand_ev (a := true) (call_ev [.int i] rfl (whole_ev (.int i))) fun _ => chn_ev rfl rfl rfl (fun _ => lenG_ev h rfl) fun _ => rfl
      | _ => exact fand_ev (a := false) (b := false) (call_ev [_] rfl (whole_ev _)) fun h => by cases h
    · rw [show fitB n m (.tuple ds) = false by simp [fitB, hm]]
      exact seq_rt (if_t c (by simp; omega) rfl)
  | _ => rfl
theorem share_ok {g : List (List Int)} {n m : Nat} (h : Good g n m) {v : PyData} (hv : fitB n m v = true) : F_check_share [.d (gameD g), .d v] = .ok (.d .none) [.d (gameD g), .d v] :=
  run_nx [.d (gameD g), .d v] (seq_go (expr_ev (call_ev [gameD g] rfl (check_ok h.game))) (if_f (not_ev (test_ev (call_ev [gameD g, v] rfl (fits_ev h v)))) (by rw [hv]; rfl) rfl))
theorem share_bad {g : List (List Int)} {n m : Nat} (h : Good g n m) {v : PyData} (hv : fitB n m v = false) : F_check_share [.d (gameD g), .d v] = .ex .mal :=
  run_ex (seq_go (expr_ev (call_ev [gameD g] rfl (check_ok h.game))) (if_t (not_ev (test_ev (call_ev [gameD g, v] rfl (fits_ev h v)))) (by rw [hv]; rfl) rfl))
theorem share_badG {d v : PyData} (h : gameB d = false) : F_check_share [.d d, .d v] = .ex .mal :=
  run_ex (seq_ex (expr_ex (call_ex [d] rfl (check_bad h))))
/-! ### shares -/
def natD (j : Nat) : PyData := .int (j : Int)
def osD (os : List Nat) : PyData := .tuple (os.map natD)
/-- who has the goods, among the first t -/
def gUp (os : List Nat) (t k : Nat) : List Nat := (List.range t).filter fun j => decide (os[j]? = some k)
def gOf (os : List Nat) (k : Nat) : List Nat := gUp os os.length k
theorem gUp_succ (os : List Nat) (t k : Nat) : gUp os (t + 1) k = gUp os t k ++ (if os[t]? = some k then [t] else []) := by
  unfold gUp
  rw [List.range_succ, List.filter_append]
  by_cases h : os[t]? = some k <;> simp [h]
theorem gUp_len (os : List Nat) (t k : Nat) : (gUp os t k).length ≤ t := by
  have := List.length_filter_le (fun j => decide (os[j]? = some k)) (List.range t)
  rw [List.length_range] at this
  exact this
theorem gUp_lt {os : List Nat} {t k j : Nat} (h : j ∈ gUp os t k) : j < t := List.mem_range.mp (List.mem_filter.mp h).1
def partsD (os : List Nat) (n t : Nat) : List PyData := (List.range n).map fun k => osD (gUp os t k)
theorem partsD_len (os : List Nat) (n t : Nat) : (partsD os n t).length = n := by unfold partsD; rw [List.length_map, List.length_range]
theorem partsD_at {os : List Nat} {n t k : Nat} (h : k < n) : (partsD os n t)[k]? = some (osD (gUp os t k)) := by
  unfold partsD
  rw [List.getElem?_map, List.getElem?_range h]
  rfl
theorem partsD_set {os : List Nat} {n t o : Nat} (h : os[t]? = some o) : (partsD os n t).set o (osD (gUp os t o ++ [t])) = partsD os n (t + 1) := by
  apply List.ext_getElem?
  intro k
  by_cases hk : k < n
  · rw [partsD_at hk, gUp_succ]
    by_cases e : k = o
    · subst e
      rw [List.getElem?_set_self (by rw [partsD_len]; exact hk), if_pos h]
    · rw [List.getElem?_set_ne (Ne.symm e), partsD_at hk, if_neg (by rw [h]; intro z; exact e (Option.some.inj z).symm), List.append_nil]
  · rw [List.getElem?_eq_none (by rw [List.length_set, partsD_len]; omega), List.getElem?_eq_none (by rw [partsD_len]; omega)]
theorem parts_ev (os : List Nat) (n : Nat) (hn : n ≤ 1000) (hm : os.length ≤ 1000) (ho : ∀ o ∈ os, o < n) : F_parts_of [.d (.int n), .d (osD os)] = .ok (.new (.lst (partsD os n os.length))) [.d (.int n), .d (osD os)] := by
  have c : (sSet 2 (fComp (iRg1 (fVar 0)) [3] (gN 3) tYesF (fTup fNil))) [.d (.int n), .d (osD os), .no, .no, .no, .no] = .ok .nx [.d (.int n), .d (osD os), .l (.lst (partsD os n 0)), .no, .no, .no] := by
    refine set_new (G1 := [.d (.int n), .d (osD os), .no, .no, .no, .no]) (i := 2) (x := .lst (partsD os n 0)) ?_
    refine Eq.trans (comp_ev0 (e := fun _ => .tuple []) (rg_ev n rfl (by omega)) rfl rfl (by simp; omega) fun d hd => .d rfl) ?_
    rw [List.map_map]
    rfl
  have hl : ∃ G', loopF (gT 2 (gsCons (gN 4) (gsCons (gN 5) gsNil))) (sSetItem (fOp2 kAdd (fOp2 kIdx (fVar 2) (fVar 5)) (fTup (fCons (fVar 4) fNil))) (fVar 2) (fVar 5)) (enumD (os.map natD)) [.d (.int n), .d (osD os), .l (.lst (partsD os n 0)), .no, .no, .no] = .ok .nx G' ∧
      ∃ s4 s5, Pl s4 ∧ Pl s5 ∧ G' = [.d (.int n), .d (osD os), .l (.lst (partsD os n (enumD (os.map natD)).length)), .no, s4, s5] := by
    refine loop_all (fun t G => ∃ s4 s5, Pl s4 ∧ Pl s5 ∧ G = [.d (.int n), .d (osD os), .l (.lst (partsD os n t)), .no, s4, s5]) ⟨.no, .no, .no, .no, rfl⟩ fun j d G ej hG => ?_
    obtain ⟨s4, s5, p4, p5, rfl⟩ := hG
    rw [enumD_at, List.getElem?_map] at ej
    cases eo : os[j]? with
    | none => rw [eo] at ej; cases ej
    | some o =>
      rw [eo] at ej
      cases ej
      have hon : o < n := ho o (List.mem_of_getElem? eo)
      have hj : j < os.length := (List.getElem?_eq_some_iff.mp eo).1
      refine ⟨[.d (.int n), .d (osD os), .l (.lst (partsD os n j)), .no, .d (natD j), .d (natD o)], ?_, _, .inl (setItem_ev (d := osD (gUp os j o ++ [j])) (m := o) (k := (o : Int)) ?_ rfl rfl rfl (by rw [partsD_len]; exact ixN_nat hon)), ?_⟩
      · rcases p4 with rfl | ⟨_, rfl⟩ <;> rcases p5 with rfl | ⟨_, rfl⟩ <;> rfl
      · refine op_ev (idx_ev rfl rfl (.inr rfl) rfl (atI_natL (partsD_at hon))) rfl ?_
        rw [kAdd_t (xs := (gUp os j o).map natD) (ys := [natD j]) rfl rfl (by have := gUp_len os j o; simp; omega)]
        unfold osD
        rw [List.map_append]
        rfl
      · rw [partsD_set eo]
        exact ⟨_, _, .dd _, .dd _, rfl⟩
  obtain ⟨G', h1, s4, s5, p4, p5, rfl⟩ := hl
  have e1 : (enumD (os.map natD)).length = os.length := by unfold enumD; simp
  rw [e1] at h1
  refine run_own (i := 2) [.d (.int n), .d (osD os), .l (.lst (partsD os n os.length)), .no, s4, s5] (seq_go c (seq_go (for_nx (lk := []) (ds := enumD (os.map natD)) rfl h1) ?_))
  rcases p4 with rfl | ⟨_, rfl⟩ <;> rcases p5 with rfl | ⟨_, rfl⟩ <;> rfl
end D71
namespace D71
open PySem PySem.Spec PyProof.Rows L2 Fx
/-! ### worth -/
def wth (r : List Int) (ps : List Nat) : Int := (ps.map fun j => r.getD j 0).sum
theorem row_at {r : List Int} {j : Nat} (h : j < r.length) : atI (r.map PyData.int) (j : Int) = some (.int (r.getD j 0)) := by
  apply atI_natL
  rw [List.getElem?_map, List.getD_eq_getElem?_getD, List.getElem?_eq_getElem h]
  rfl
theorem worth_comp {r : List Int} {ps : List Nat} {c : PyData} (hc : kItems [.d (rowD r), .d c, .no] (.d c) = .ok (ps.map natD, []) [.d (rowD r), .d c, .no]) (h : ∀ j ∈ ps, j < r.length) (hl : ps.length ≤ 1000) : F_worth [.d (rowD r), .d c] = .ok (.d (.int (wth r ps))) [.d (rowD r), .d c] := by
  refine run_d [.d (rowD r), .d c, .no] (ret_ev ?_)
  refine sum_ev (l := ps) ?_
  refine Eq.trans (comp_ev0 (ds := ps.map natD) (lk := []) (e := fun d => match d with | .int i => .int (r.getD i.toNat 0) | _ => .none) ?_ rfl rfl (by rw [List.length_map]; omega) fun d hd => .d ?_) ?_
  · exact hc
  · obtain ⟨j, hj, rfl⟩ := List.mem_map.mp hd
    exact idx_ev rfl rfl (.inl rfl) rfl (row_at (h j hj))
  · rw [List.map_map]
    rfl
theorem worth_t {r : List Int} {ps : List Nat} (h : ∀ j ∈ ps, j < r.length) (hl : ps.length ≤ 1000) : F_worth [.d (rowD r), .d (osD ps)] = .ok (.d (.int (wth r ps))) [.d (rowD r), .d (osD ps)] := worth_comp rfl h hl
theorem worth_l {r : List Int} {ps : List Nat} (h : ∀ j ∈ ps, j < r.length) (hl : ps.length ≤ 1000) : F_worth [.d (rowD r), .d (.list (ps.map natD))] = .ok (.d (.int (wth r ps))) [.d (rowD r), .d (.list (ps.map natD))] := worth_comp rfl h hl
/-! ### hidden goods -/
def incI : List Int → Bool
  | x :: y :: r => decide (x < y) && incI (y :: r)
  | _ => true
def hidI (m : Nat) (ns : List Int) : Bool := ns.all (fun i => decide (0 ≤ i) && decide (i < m)) && (List.range (ns.length - 1)).all fun k => decide (ns.getD k 0 < ns.getD (k + 1) 0)
theorem all_true {α : Type} (l : List α) : (l.all fun _ => true) = true := by simp
theorem hid_int {g : List (List Int)} {n m : Nat} (h : Good g n m) (ns : List Int) (hl : ns.length ≤ 1000) : F_is_hidden [.d (gameD g), .d (.tuple (ns.map .int))] = .ok (.d (.bool (hidI m ns))) [.d (gameD g), .d (.tuple (ns.map .int))] := by
  refine run_d [.d (gameD g), .d (.tuple (ns.map .int)), .no, .no] ?_
  show f_is_hidden [.d (gameD g), .d (.tuple (ns.map .int)), .no, .no] = _
  have a1 : (fCallK kAll (fCons (fComp (iSeq (fVar 1)) [2] (gN 2) tYesF (fCallK (kCall F_is_whole) (fCons (fVar 2) fNil))) fNil)) [.d (gameD g), .d (.tuple (ns.map .int)), .no, .no] = .ok (.d (.bool (ns.all fun _ => true))) [.d (gameD g), .d (.tuple (ns.map .int)), .no, .no] := by
    refine all_ev ?_
    refine Eq.trans (comp_ev0 (lk := []) (ds := ns.map .int) (e := fun _ => .bool true) rfl rfl rfl (by rw [List.length_map]; omega) fun d hd => .d ?_) (by rw [List.map_map]; rfl)
    obtain ⟨i, _, rfl⟩ := List.mem_map.mp hd
    exact call_ev [.int i] rfl (whole_ev (.int i))
  have a2 : (fCallK kAll (fCons (fComp (iSeq (fVar 1)) [2] (gN 2) tYesF (fChn kLe kLt (fC (.int 0)) (fVar 2) (fCallK kLen (fCons (fOp2 kIdx (fVar 0) (fC (.int 0))) fNil)))) fNil)) [.d (gameD g), .d (.tuple (ns.map .int)), .no, .no] = .ok (.d (.bool (ns.all fun i => decide (0 ≤ i) && decide (i < m)))) [.d (gameD g), .d (.tuple (ns.map .int)), .no, .no] := by
    refine all_ev ?_
    refine Eq.trans (comp_ev0 (lk := []) (ds := ns.map .int) (e := fun d => match d with | .int i => .bool (decide (0 ≤ i) && decide (i < m)) | _ => .none) rfl rfl rfl (by rw [List.length_map]; omega) fun d hd => .d ?_) (by rw [List.map_map]; rfl)
    obtain ⟨i, _, rfl⟩ := List.mem_map.mp hd
    exact chn_ev rfl rfl rfl (fun _ => g0_ev h rfl) fun _ => rfl
  have c : (tOr' (tNot' (fTest (fUn (kIsi "tuple") (fVar 1)))) (tNot' (fTest (fCallK kAll (fCons (fComp (iSeq (fVar 1)) [2] (gN 2) tYesF (fCallK (kCall F_is_whole) (fCons (fVar 2) fNil))) fNil))))) [.d (gameD g), .d (.tuple (ns.map .int)), .no, .no] = .ok (false || !(ns.all fun _ => true)) [.d (gameD g), .d (.tuple (ns.map .int)), .no, .no] := or_ev rfl fun _ => not_ev (test_ev a1)
  unfold f_is_hidden
  refine seq_go (if_f c (by rw [all_true]; rfl) rfl) ?_
  cases hb : ns.all fun i => decide (0 ≤ i) && decide (i < (m : Int)) with
  | false =>
    rw [show hidI m ns = false by unfold hidI; rw [hb]; rfl]
    exact seq_rt (if_t (not_ev (test_ev a2)) (by rw [hb]; rfl) rfl)
  | true =>
    rw [show hidI m ns = (List.range (ns.length - 1)).all fun k => decide (ns.getD k 0 < ns.getD (k + 1) 0) by unfold hidI; rw [hb]; rfl]
    refine seq_go (if_f (not_ev (test_ev a2)) (by rw [hb]; rfl) rfl) (ret_ev (all_ev ?_))
    have e : rgD 1 (((ns.map PyData.int).length : Nat) : Int) = (List.range (ns.length - 1)).map fun k : Nat => PyData.int (1 + (k : Int)) := by
      unfold rgD
      rw [List.length_map, show ((ns.length : Int) - 1).toNat = ns.length - 1 by omega]
    refine Eq.trans (comp_ev0 (lk := []) (ds := (List.range (ns.length - 1)).map fun k : Nat => PyData.int (1 + (k : Int))) (e := fun d => match d with | .int i => .bool (decide (ns.getD (i - 1).toNat 0 < ns.getD i.toNat 0)) | _ => .none) ?_ rfl rfl (by simp; omega) fun d hd => .d ?_) ?_
    · rw [← e]
      exact rg2_ev rfl rfl (by simp [rgOk]; omega)
    · obtain ⟨k, hk, rfl⟩ := List.mem_map.mp hd
      have hk := List.mem_range.mp hk
      refine op_ev (idx_ev rfl rfl (.inl rfl) (i := (k : Int)) (by show some (PyData.int (1 + (k : Int) - 1)) = _; congr 2; omega) (row_at (j := k) (by omega))) (idx_ev rfl rfl (.inl rfl) (i := ((k + 1 : Nat) : Int)) (by show some (PyData.int (1 + (k : Int))) = _; congr 2; omega) (row_at (j := k + 1) (by omega))) ?_
      show Res.ok (Rv.d (.bool (decide (ns.getD k 0 < ns.getD (k + 1) 0)))) _ = _
      dsimp only
      rw [show (1 + (k : Int) - 1).toNat = k by omega, show (1 + (k : Int)).toNat = k + 1 by omega]
    · rw [List.map_map]
      congr 3
      apply List.map_congr_left
      intro k _
      show PyData.bool (decide (ns.getD (1 + (k : Int) - 1).toNat 0 < ns.getD (1 + (k : Int)).toNat 0)) = _
      rw [show (1 + (k : Int) - 1).toNat = k by omega, show (1 + (k : Int)).toNat = k + 1 by omega]
/-- goods that may be hidden, ascending -/
def Hid (m : Nat) (hs : List Nat) : Prop := (∀ x ∈ hs, x < m) ∧ hs.Pairwise (· < ·) ∧ hs.length ≤ 1000
theorem incAll {hs : List Nat} (h : hs.Pairwise (· < ·)) : ((List.range (hs.length - 1)).all fun k => decide ((hs.map fun j : Nat => (j : Int)).getD k 0 < (hs.map fun j : Nat => (j : Int)).getD (k + 1) 0)) = true := by
  rw [List.all_eq_true]
  intro k hk
  have hk := List.mem_range.mp hk
  have h1 : k < hs.length := by omega
  have h2 : k + 1 < hs.length := by omega
  have := List.pairwise_iff_getElem.mp h k (k + 1) h1 h2 (by omega)
  apply decide_eq_true
  rw [List.getD_eq_getElem?_getD, List.getD_eq_getElem?_getD, List.getElem?_map, List.getElem?_map, List.getElem?_eq_getElem h1, List.getElem?_eq_getElem h2]
  show ((hs[k] : Nat) : Int) < ((hs[k + 1] : Nat) : Int)
  omega
theorem hid_ok {g : List (List Int)} {n m : Nat} (h : Good g n m) {hs : List Nat} (hh : Hid m hs) : F_is_hidden [.d (gameD g), .d (osD hs)] = .ok (.d (.bool true)) [.d (gameD g), .d (osD hs)] := by
  have e : osD hs = .tuple ((hs.map fun j : Nat => (j : Int)).map .int) := by unfold osD; rw [List.map_map]; rfl
  rw [e, hid_int h _ (by rw [List.length_map]; exact hh.2.2)]
  have : hidI m (hs.map fun j : Nat => (j : Int)) = true := by
    unfold hidI
    rw [Bool.and_eq_true]
    refine ⟨?_, by rw [List.length_map]; exact incAll hh.2.1⟩
    rw [List.all_eq_true]
    intro x hx
    obtain ⟨j, hj, rfl⟩ := List.mem_map.mp hx
    have := hh.1 j hj
    simp; omega
  rw [this]
/-! ### the first objection -/
/-- the owners of m goods, of n people -/
structure Own (os : List Nat) (n m : Nat) : Prop where
  len : os.length = m
  lt : ∀ o ∈ os, o < n
theorem Own.fit {os : List Nat} {n m : Nat} (h : Own os n m) : fitB n m (osD os) = true := by
  show (decide ((os.map natD).length = m) && (os.map natD).all (ownI n)) = true
  rw [List.length_map, Bool.and_eq_true, List.all_eq_true]
  refine ⟨decide_eq_true h.len, fun d hd => ?_⟩
  obtain ⟨o, ho, rfl⟩ := List.mem_map.mp hd
  have := h.lt o ho
  simp [ownI, natD]; omega
def seen (hs ps : List Nat) : List Nat := ps.filter fun j => !hs.contains j
def envy (g : List (List Int)) (os hs : List Nat) (i k : Nat) : Bool := decide (k ≠ i) && decide (wth (g.getD i []) (gOf os i) < wth (g.getD i []) (seen hs (gOf os k)))
def pairD (i k : Nat) : PyData := .tuple [natD i, natD k]
def objP (g : List (List Int)) (os hs : List Nat) (n : Nat) : Option (Nat × Nat) := (List.range n).findSome? fun i => (List.range n).findSome? fun k => if envy g os hs i k then some (i, k) else none
def objD : Option (Nat × Nat) → PyData
  | none => .none
  | some p => pairD p.1 p.2
theorem eqv_nat (x y : Nat) : PyData.eqv (natD x) (natD y) = decide (x = y) := by
  show PyData.eqv (.int x) (.int y) = _
  rw [PyData.eqv]
  by_cases h : x = y
  · subst h; simp
  · have : ¬ (x : Int) = (y : Int) := by omega
    simp [h, this]
theorem inD_nat (x : Nat) : ∀ hs : List Nat, inD (natD x) (hs.map natD) = hs.contains x
  | [] => rfl
  | h :: hs => by
    show (PyData.eqv (natD h) (natD x) || inD (natD x) (hs.map natD)) = _
    rw [eqv_nat, inD_nat x hs, List.contains_cons]
    by_cases e : h = x
    · subst e
      rw [decide_eq_true rfl, beq_self_eq_true]
    · rw [decide_eq_false e, show (x == h) = false from beq_eq_false_iff_ne.mpr (Ne.symm e)]
theorem nin_ev {G : Gm} {x : Nat} {hs : List Nat} : kNin G (.d (natD x)) (.d (osD hs)) = .ok (.d (.bool (!hs.contains x))) G := by
  show (match opIn true (natD x) (osD hs) with | some z => Res.ok (Rv.d z) G | none => .bad) = _
  have : opIn true (natD x) (osD hs) = some (.bool (!hs.contains x)) := by
    show opInL true (natD x) (hs.map natD) = _
    unfold opInL
    rw [if_pos (by
      rw [Bool.and_eq_true, List.all_eq_true]
      exact ⟨rfl, fun d hd => by obtain ⟨j, _, rfl⟩ := List.mem_map.mp hd; rfl⟩), inD_nat]
    rfl
  rw [this]
theorem kNe_nat (G : Gm) (a b : Nat) : kNe G (.d (natD a)) (.d (natD b)) = .ok (.d (.bool (!decide (a = b)))) G := by
  rw [show kNe G (.d (natD a)) (.d (natD b)) = _ from kNe_int G a b]
  congr 4
  apply decide_eq_decide.mpr
  omega
end D71
namespace D71
open PySem PySem.Spec PyProof.Rows L2 Fx
theorem gOf_lt {os : List Nat} {n m k j : Nat} (h : Own os n m) (hj : j ∈ gOf os k) : j < m := by
  have := gUp_lt hj
  rw [h.len] at this
  exact this
theorem row_of {g : List (List Int)} {n m i : Nat} (h : Good g n m) (hi : i < n) : ∃ r, g[i]? = some r ∧ g.getD i [] = r ∧ r.length = m := by
  have hl : i < g.length := by rw [h.len]; exact hi
  refine ⟨g[i], List.getElem?_eq_getElem hl, by rw [List.getD_eq_getElem?_getD, List.getElem?_eq_getElem hl]; rfl, (h.row _ (List.getElem_mem hl)).1⟩
/-- a comprehension that leaves out what is hidden -/
theorem seen_comp {G : Gm} {hs ps : List Nat} {i j k : Nat} {lk : List Nat} (hit : iSeq (fVar j) G = .ok (ps.map natD, []) G) (hpl : plainAt G [i] = true) (hi : (G[i]?).isSome = true) (hl : ps.length ≤ 1000)
    (h1 : ∀ d, ((wipeG (lockAll G []) [i]).set i (.d d))[i]? = some (.d d)) (h2 : ∀ d, ((wipeG (lockAll G []) [i]).set i (.d d))[k]? = some (.d (osD hs))) :
    fComp (iSeq (fVar j)) [i] (gN i) (fTest (fOp2 kNin (fVar i) (fVar k))) (fVar i) G = .ok (.new (.lst ((seen hs ps).map natD))) G := by
  have v1 : ∀ d, fVar i ((wipeG (lockAll G []) [i]).set i (.d d)) = .ok (.d d) ((wipeG (lockAll G []) [i]).set i (.d d)) := fun d => by
    unfold fVar
    rw [h1]
  have v2 : ∀ d, fVar k ((wipeG (lockAll G []) [i]).set i (.d d)) = .ok (.d (osD hs)) ((wipeG (lockAll G []) [i]).set i (.d d)) := fun d => by
    unfold fVar
    rw [h2]
  refine Eq.trans (comp_ev (p := fun d => match d with | .int x => !hs.contains x.toNat | _ => false) (e := fun d => d) hit hpl hi (by rw [List.length_map]; omega) (fun d hd => ?_) fun d hd _ => .d (v1 d)) ?_
  · obtain ⟨x, _, rfl⟩ := List.mem_map.mp hd
    exact test_ev (op_ev (v1 _) (v2 _) nin_ev)
  · congr 3
    rw [List.map_id', List.filter_map]
    unfold seen
    congr 1
abbrev seenIn : Gm → Res Out := (sIf (tAnd' (fTest (fOp2 kNe (fVar 7) (fVar 4))) (fTest (fOp2 kGt (fCallK (kCall F_worth) (fCons (fVar 5) (fCons (fComp (iSeq (fVar 8)) [9] (gN 9) (fTest (fOp2 kNin (fVar 9) (fVar 2))) (fVar 9)) fNil))) (fVar 6)))) (sRet (fTup (fCons (fVar 4) (fCons (fVar 7) fNil)))) sNx)
theorem seen_ev {g : List (List Int)} {os hs : List Nat} {n m : Nat} (h : Good g n m) (ho : Own os n m) (hh : Hid m hs) : F_seen_objection [.d (gameD g), .d (osD os), .d (osD hs)] = .ok (.d (objD (objP g os hs n))) [.d (gameD g), .d (osD os), .d (osD hs)] := by
  have n6 := h.n6
  have m10 := h.m10
  have e1 : (sExpr (fCallK (kCall F_check_share) (fCons (fVar 0) (fCons (fVar 1) fNil)))) [.d (gameD g), .d (osD os), .d (osD hs), .no, .no, .no, .no, .no, .no, .no] = .ok .nx [.d (gameD g), .d (osD os), .d (osD hs), .no, .no, .no, .no, .no, .no, .no] :=
    expr_ev (call_ev [gameD g, osD os] rfl (share_ok h ho.fit))
  have e2 : (sIf (tNot' (fTest (fCallK (kCall F_is_hidden) (fCons (fVar 0) (fCons (fVar 2) fNil))))) (sRaise .mal) sNx) [.d (gameD g), .d (osD os), .d (osD hs), .no, .no, .no, .no, .no, .no, .no] = .ok .nx [.d (gameD g), .d (osD os), .d (osD hs), .no, .no, .no, .no, .no, .no, .no] :=
    if_f (not_ev (test_ev (call_ev [gameD g, osD hs] rfl (hid_ok h hh)))) rfl rfl
  have e3 : (sSet 3 (fCallK (kCall F_parts_of) (fCons (fCallK kLen (fCons (fVar 0) fNil)) (fCons (fVar 1) fNil)))) [.d (gameD g), .d (osD os), .d (osD hs), .no, .no, .no, .no, .no, .no, .no] = .ok .nx [.d (gameD g), .d (osD os), .d (osD hs), .l (.lst (partsD os n m)), .no, .no, .no, .no, .no, .no] := by
    have := parts_ev os n (by omega) (by rw [ho.len]; omega) ho.lt
    rw [ho.len] at this
    exact set_new (G1 := [.d (gameD g), .d (osD os), .d (osD hs), .no, .no, .no, .no, .no, .no, .no]) (call_new [.int n, osD os] (cons_ev (lenG_ev h rfl) rfl) this)
  -- one person's walk over the parts
  have inner : ∀ (i : Nat) (r : List Int) (s7 s8 : Sl), i < n → g.getD i [] = r → r.length = m → Pl s7 → Pl s8 →
      let G : Gm := [.d (gameD g), .d (osD os), .d (osD hs), .l (.lst (partsD os n m)), .d (natD i), .d (rowD r), .d (.int (wth r (gOf os i))), s7, s8, .no]
      match (List.range n).findSome? (fun k => if envy g os hs i k then some (i, k) else none) with
      | none => ∃ t7 t8, Pl t7 ∧ Pl t8 ∧ (sFor (iEnum (fVar 3)) (gT 2 (gsCons (gN 7) (gsCons (gN 8) gsNil)))
          seenIn) G = .ok .nx [.d (gameD g), .d (osD os), .d (osD hs), .l (.lst (partsD os n m)), .d (natD i), .d (rowD r), .d (.int (wth r (gOf os i))), t7, t8, .no]
      | some p => ∃ t7 t8, Pl t7 ∧ Pl t8 ∧ (sFor (iEnum (fVar 3)) (gT 2 (gsCons (gN 7) (gsCons (gN 8) gsNil)))
          seenIn) G = .ok (.rt (.d (pairD p.1 p.2))) [.d (gameD g), .d (osD os), .d (osD hs), .l (.lst (partsD os n m)), .d (natD i), .d (rowD r), .d (.int (wth r (gOf os i))), t7, t8, .no] := by
    intro i r s7 s8 hi hr hrl p7 p8 G
    have lp := loop_find0 (tg := gT 2 (gsCons (gN 7) (gsCons (gN 8) gsNil))) (body := seenIn)
      (fun _ G => ∃ t7 t8, Pl t7 ∧ Pl t8 ∧ G = [.d (gameD g), .d (osD os), .d (osD hs), .k (.lst (partsD os n m)), .d (natD i), .d (rowD r), .d (.int (wth r (gOf os i))), t7, t8, .no])
      (fun G => ∃ t7 t8, Pl t7 ∧ Pl t8 ∧ G = [.d (gameD g), .d (osD os), .d (osD hs), .k (.lst (partsD os n m)), .d (natD i), .d (rowD r), .d (.int (wth r (gOf os i))), t7, t8, .no])
      (fun k => (if envy g os hs i k then some (i, k) else none).map fun p => Rv.d (pairD p.1 p.2)) (ds := enumD (partsD os n m)) (G := lockAll G [3]) ⟨s7, s8, p7, p8, rfl⟩ fun k d G' ek hG => ?_
    · rw [enumD_len, partsD_len, findSome_map] at lp
      cases ef : (List.range n).findSome? (fun k => if envy g os hs i k then some (i, k) else none) with
      | none =>
        rw [ef] at lp
        obtain ⟨G', e, t7, t8, q7, q8, rfl⟩ := lp
        refine ⟨t7, t8, q7, q8, ?_⟩
        refine Eq.trans (for_nx (G := G) (ds := enumD (partsD os n m)) (lk := [3]) (enum_ev rfl rfl) e) ?_
        have u7 := unlk_pl (t := s7) q7
        have u8 := unlk_pl (t := s8) q8
        show Res.ok Out.nx [_, _, _, _, _, _, _, unlk s7 t7, unlk s8 t8, _] = _
        rw [u7, u8]; rfl
      | some p =>
        rw [ef] at lp
        obtain ⟨G', e, t7, t8, q7, q8, rfl⟩ := lp
        refine ⟨t7, t8, q7, q8, ?_⟩
        refine Eq.trans (for_rt (G := G) (ds := enumD (partsD os n m)) (lk := [3]) (enum_ev rfl rfl) e) ?_
        have u7 := unlk_pl (t := s7) q7
        have u8 := unlk_pl (t := s8) q8
        show Res.ok (Out.rt _) [_, _, _, _, _, _, _, unlk s7 t7, unlk s8 t8, _] = _
        rw [u7, u8]; rfl
    · obtain ⟨t7, t8, q7, q8, rfl⟩ := hG
      rw [enumD_at] at ek
      have hk : k < n := by
        cases e : (partsD os n m)[k]? with
        | none => rw [e] at ek; cases ek
        | some x =>
          have := (List.getElem?_eq_some_iff.mp e).1
          rw [partsD_len] at this
          exact this
      rw [partsD_at hk] at ek
      cases ek
      refine ⟨[.d (gameD g), .d (osD os), .d (osD hs), .k (.lst (partsD os n m)), .d (natD i), .d (rowD r), .d (.int (wth r (gOf os i))), .d (natD k), .d (osD (gUp os m k)), .no], ?_, ?_⟩
      · rcases q7 with rfl | ⟨_, rfl⟩ <;> rcases q8 with rfl | ⟨_, rfl⟩ <;> rfl
      · have gm : gUp os m k = gOf os k := by unfold gOf; rw [ho.len]
        rw [gm]
        have hlk : (gOf os k).length ≤ 1000 := by
          have := gUp_len os os.length k
          unfold gOf
          rw [ho.len] at this ⊢
          omega
        have hls : (seen hs (gOf os k)).length ≤ 1000 := Nat.le_trans (List.length_filter_le _ _) hlk
        have c : (tAnd' (fTest (fOp2 kNe (fVar 7) (fVar 4))) (fTest (fOp2 kGt (fCallK (kCall F_worth) (fCons (fVar 5) (fCons (fComp (iSeq (fVar 8)) [9] (gN 9) (fTest (fOp2 kNin (fVar 9) (fVar 2))) (fVar 9)) fNil))) (fVar 6)))) [.d (gameD g), .d (osD os), .d (osD hs), .k (.lst (partsD os n m)), .d (natD i), .d (rowD r), .d (.int (wth r (gOf os i))), .d (natD k), .d (osD (gOf os k)), .no]
            = .ok (envy g os hs i k) [.d (gameD g), .d (osD os), .d (osD hs), .k (.lst (partsD os n m)), .d (natD i), .d (rowD r), .d (.int (wth r (gOf os i))), .d (natD k), .d (osD (gOf os k)), .no] := by
          unfold envy
          rw [hr, show decide (k ≠ i) = !decide (k = i) by by_cases e : k = i <;> simp [e]]
          refine and_ev (test_ev (op_ev rfl rfl (kNe_nat _ _ _))) fun _ => test_ev (op_ev (call_evA (cons_ev rfl (cons_ev (seen_comp (hs := hs) (ps := gOf os k) (lk := []) rfl rfl rfl hlk (fun _ => rfl) fun _ => rfl) rfl)) rfl (worth_l (fun j hj => ?_) hls)) rfl rfl)
          rw [hrl]
          exact gOf_lt ho (List.mem_filter.mp hj).1
        cases he : envy g os hs i k with
        | true => exact ⟨_, if_t c he rfl, _, _, .dd _, .dd _, rfl⟩
        | false => exact ⟨_, .inl (if_f c he rfl), _, _, .dd _, .dd _, rfl⟩
  -- all people
  have outer := loop_find0 (tg := gT 2 (gsCons (gN 4) (gsCons (gN 5) gsNil))) (body := (sSeq (sSet 6 (fCallK (kCall F_worth) (fCons (fVar 5) (fCons (fOp2 kIdx (fVar 3) (fVar 4)) fNil)))) (sFor (iEnum (fVar 3)) (gT 2 (gsCons (gN 7) (gsCons (gN 8) gsNil))) seenIn)))
    (fun _ G => ∃ t4 t5 t6 t7 t8, Pl t4 ∧ Pl t5 ∧ Pl t6 ∧ Pl t7 ∧ Pl t8 ∧ G = [.d (gameD g), .d (osD os), .d (osD hs), .l (.lst (partsD os n m)), t4, t5, t6, t7, t8, .no])
    (fun G => ∃ t4 t5 t6 t7 t8, Pl t4 ∧ Pl t5 ∧ Pl t6 ∧ Pl t7 ∧ Pl t8 ∧ G = [.d (gameD g), .d (osD os), .d (osD hs), .l (.lst (partsD os n m)), t4, t5, t6, t7, t8, .no])
    (fun i => ((List.range n).findSome? fun k => if envy g os hs i k then some (i, k) else none).map fun p => Rv.d (pairD p.1 p.2)) (ds := enumD (g.map rowD)) (G := [.d (gameD g), .d (osD os), .d (osD hs), .l (.lst (partsD os n m)), .no, .no, .no, .no, .no, .no]) ⟨_, _, _, _, _, .no, .no, .no, .no, .no, rfl⟩ fun i d G ei hG => ?_
  · rw [enumD_len, List.length_map, h.len, findSome_map] at outer
    have e4 : (List.range n).findSome? (fun i => (List.range n).findSome? fun k => if envy g os hs i k then some (i, k) else none) = objP g os hs n := rfl
    rw [e4] at outer
    cases ef : objP g os hs n with
    | none =>
      rw [ef] at outer
      obtain ⟨G', e, t4, t5, t6, t7, t8, q4, q5, q6, q7, q8, rfl⟩ := outer
      refine run_d [.d (gameD g), .d (osD os), .d (osD hs), .l (.lst (partsD os n m)), t4, t5, t6, t7, t8, .no] (seq_go e1 (seq_go e2 (seq_go e3 (seq_go (for_nx (lk := []) (ds := enumD (g.map rowD)) (enum_ev rfl rfl) e) (ret_ev ?_)))))
      have u4 := unlk_pl (t := .no) q4
      have u5 := unlk_pl (t := .no) q5
      have u6 := unlk_pl (t := .no) q6
      have u7 := unlk_pl (t := .no) q7
      have u8 := unlk_pl (t := .no) q8
      show Res.ok _ [_, _, _, _, unlk .no t4, unlk .no t5, unlk .no t6, unlk .no t7, unlk .no t8, _] = _
      rw [u4, u5, u6, u7, u8]; rfl
    | some p =>
      rw [ef] at outer
      obtain ⟨G', e, t4, t5, t6, t7, t8, q4, q5, q6, q7, q8, rfl⟩ := outer
      refine run_d [.d (gameD g), .d (osD os), .d (osD hs), .l (.lst (partsD os n m)), t4, t5, t6, t7, t8, .no] (seq_go e1 (seq_go e2 (seq_go e3 (seq_rt (Eq.trans (for_rt (lk := []) (ds := enumD (g.map rowD)) (enum_ev rfl rfl) e) ?_)))))
      have u4 := unlk_pl (t := .no) q4
      have u5 := unlk_pl (t := .no) q5
      have u6 := unlk_pl (t := .no) q6
      have u7 := unlk_pl (t := .no) q7
      have u8 := unlk_pl (t := .no) q8
      show Res.ok _ [_, _, _, _, unlk .no t4, unlk .no t5, unlk .no t6, unlk .no t7, unlk .no t8, _] = _
      rw [u4, u5, u6, u7, u8]; rfl
  · obtain ⟨t4, t5, t6, t7, t8, q4, q5, q6, q7, q8, rfl⟩ := hG
    rw [enumD_at, List.getElem?_map] at ei
    have hi : i < n := by
      cases e : g[i]? with
      | none => rw [e] at ei; cases ei
      | some x =>
        have := (List.getElem?_eq_some_iff.mp e).1
        rw [h.len] at this
        exact this
    obtain ⟨r, er, er2, hrl⟩ := row_of h hi
    rw [er] at ei
    cases ei
    refine ⟨[.d (gameD g), .d (osD os), .d (osD hs), .l (.lst (partsD os n m)), .d (natD i), .d (rowD r), t6, t7, t8, .no], ?_, ?_⟩
    · rcases q4 with rfl | ⟨_, rfl⟩ <;> rcases q5 with rfl | ⟨_, rfl⟩ <;> rfl
    · have gm : gUp os m i = gOf os i := by unfold gOf; rw [ho.len]
      have hl : (gOf os i).length ≤ 1000 := by
        have := gUp_len os os.length i
        unfold gOf
        rw [ho.len] at this ⊢
        omega
      have st : (sSet 6 (fCallK (kCall F_worth) (fCons (fVar 5) (fCons (fOp2 kIdx (fVar 3) (fVar 4)) fNil)))) [.d (gameD g), .d (osD os), .d (osD hs), .l (.lst (partsD os n m)), .d (natD i), .d (rowD r), t6, t7, t8, .no] = .ok .nx [.d (gameD g), .d (osD os), .d (osD hs), .l (.lst (partsD os n m)), .d (natD i), .d (rowD r), .d (.int (wth r (gOf os i))), t7, t8, .no] := by
        refine set_d (G1 := [.d (gameD g), .d (osD os), .d (osD hs), .l (.lst (partsD os n m)), .d (natD i), .d (rowD r), t6, t7, t8, .no]) (x := .int (wth r (gOf os i))) (call_ev [rowD r, osD (gOf os i)] (cons_ev rfl (cons_ev (idx_ev rfl rfl (.inr rfl) rfl (atI_natL (gm ▸ partsD_at hi))) rfl)) (worth_t (fun j hj => by rw [hrl]; exact gOf_lt ho hj) hl)) ?_
        rcases q6 with rfl | ⟨_, rfl⟩ <;> rfl
      have inn := inner i r t7 t8 hi er2 hrl q7 q8
      dsimp only at inn
      cases ef : (List.range n).findSome? (fun k => if envy g os hs i k then some (i, k) else none) with
      | none =>
        rw [ef] at inn
        obtain ⟨u7, u8, w7, w8, e⟩ := inn
        exact ⟨_, .inl (seq_go st e), _, _, _, _, _, .dd _, .dd _, .dd _, w7, w8, rfl⟩
      | some p =>
        rw [ef] at inn
        obtain ⟨u7, u8, w7, w8, e⟩ := inn
        exact ⟨_, seq_go st e, _, _, _, _, _, .dd _, .dd _, .dd _, w7, w8, rfl⟩
end D71
namespace D71
open PySem PySem.Spec PyProof.Rows L2 Fx
/-! ### does_hide -/
def hides (g : List (List Int)) (os hs : List Nat) (n : Nat) : Bool := (objP g os hs n).isNone
theorem isN_objD (o : Option (Nat × Nat)) : isNoneD (objD o) = o.isNone := by cases o <;> rfl
theorem hide_ev {g : List (List Int)} {os hs : List Nat} {n m : Nat} (h : Good g n m) (ho : Own os n m) (hh : Hid m hs) : F_does_hide [.d (gameD g), .d (osD os), .d (osD hs)] = .ok (.d (.bool (hides g os hs n))) [.d (gameD g), .d (osD os), .d (osD hs)] := by
  refine run_d [.d (gameD g), .d (osD os), .d (osD hs)] (ret_ev (op_ev (call_ev [gameD g, osD os, osD hs] rfl (seen_ev h ho hh)) rfl ?_))
  show (match opIsN (objD (objP g os hs n)) .none with | some z => Res.ok (Rv.d z) _ | none => .bad) = _
  show Res.ok (Rv.d (.bool (isNoneD (objD (objP g os hs n))))) _ = _
  rw [isN_objD]
  rfl
/-! ### rows of goods -/
def lastUp (row : List Nat) : Nat := match row.getLast? with
  | some x => x + 1
  | none => 0
def absR (m : Nat) (row : List Nat) : List Nat := (List.range (m - lastUp row)).map (lastUp row + ·)
def nextR (m : Nat) (row : List Nat) : List (List Nat) := (absR m row).map fun x => row ++ [x]
def rowsL (m : Nat) : Nat → List (List Nat)
  | 0 => [[]]
  | s + 1 => (rowsL m s).flatMap (nextR m)
theorem rowsL_len (m : Nat) : ∀ s, ∀ r ∈ rowsL m s, r.length = s
  | 0, r, h => by rw [List.mem_singleton.mp h]; rfl
  | s + 1, r, h => by
    obtain ⟨q, hq, hr⟩ := List.mem_flatMap.mp h
    obtain ⟨t, _, rfl⟩ := List.mem_map.mp hr
    rw [List.length_append, rowsL_len m s q hq]; rfl
theorem last_at {row : List Nat} {x : Nat} (h : row.getLast? = some x) : atI (row.map natD) (-1) = some (natD x) := by
  have e : row = row.dropLast ++ [x] := by
    have hn : row ≠ [] := fun z => by rw [z] at h; cases h
    rw [List.getLast?_eq_some_getLast hn] at h
    rw [← Option.some.inj h]
    exact (List.dropLast_concat_getLast hn).symm
  rw [e, List.map_append]
  exact atI_last _ _
theorem lastUp_le {m : Nat} {r : List Nat} (h : ∀ x ∈ r, x < m) : lastUp r ≤ m := by
  unfold lastUp
  cases e : r.getLast? with
  | none => exact Nat.zero_le _
  | some x =>
    have := h x (List.mem_of_getLast? e)
    show x + 1 ≤ m
    omega
theorem rowsL_lt (m : Nat) : ∀ s, ∀ r ∈ rowsL m s, ∀ x ∈ r, x < m
  | 0, r, h, x, hx => by rw [List.mem_singleton.mp h] at hx; cases hx
  | s + 1, r, h, x, hx => by
    obtain ⟨q, hq, hr⟩ := List.mem_flatMap.mp h
    obtain ⟨y, hy, rfl⟩ := List.mem_map.mp hr
    obtain hx | hx := List.mem_append.mp hx
    · exact rowsL_lt m s q hq x hx
    · rw [List.mem_singleton.mp hx]
      obtain ⟨t, ht, rfl⟩ := List.mem_map.mp hy
      have := List.mem_range.mp ht
      omega
theorem rowsL_few : ∀ m < 7, ∀ s < 8, (rowsL m s).length ≤ 64 := by decide +kernel
theorem rowsF_ev (m s : Nat) (hm : m ≤ 10) (rs : List (List Nat)) (hl : rs.length ≤ 100000) (hr : ∀ r ∈ rs, r.length ≤ 1000) (hx2 : ∀ r ∈ rs, ∀ x ∈ r, x < m) (x3 : Sl) (hx : Pl x3) :
    (fComp2 (iSeq (fVar 2)) [4, 5] [5] (gN 4) tYesF (iRg2 (fIf (fTest (fOp2 kGt (fCallK kLen (fCons (fVar 4) fNil)) (fC (.int 0)))) (fOp2 kAdd (fOp2 kIdx (fVar 4) (fUn kNeg (fC (.int 1)))) (fC (.int 1))) (fC (.int 0))) (fVar 0)) (gN 5) tYesF (fOp2 kAdd (fVar 4) (fTup (fCons (fVar 5) fNil)))) [.d (.int m), .d (.int s), .l (.lst (rs.map osD)), x3, .no, .no]
      = .ok (.new (.lst ((rs.flatMap (nextR m)).map osD))) [.d (.int m), .d (.int s), .l (.lst (rs.map osD)), x3, .no, .no] := by
  have up : ∀ r : List Nat, r.length ≤ 1000 → (fIf (fTest (fOp2 kGt (fCallK kLen (fCons (fVar 4) fNil)) (fC (.int 0)))) (fOp2 kAdd (fOp2 kIdx (fVar 4) (fUn kNeg (fC (.int 1)))) (fC (.int 1))) (fC (.int 0))) [.d (.int m), .d (.int s), .k (.lst (rs.map osD)), x3, .d (osD r), .no] = .ok (.d (natD (lastUp r))) [.d (.int m), .d (.int s), .k (.lst (rs.map osD)), x3, .d (osD r), .no] := fun r hr => by
    have c : fTest (fOp2 kGt (fCallK kLen (fCons (fVar 4) fNil)) (fC (.int 0))) [.d (.int m), .d (.int s), .k (.lst (rs.map osD)), x3, .d (osD r), .no] = .ok (decide ((0 : Int) < ((r.map natD).length : Nat))) [.d (.int m), .d (.int s), .k (.lst (rs.map osD)), x3, .d (osD r), .no] := test_ev rfl
    rw [if_evE c]
    unfold lastUp
    cases e : r.getLast? with
    | none =>
      have : r = [] := List.getLast?_eq_none_iff.mp e
      subst this
      rfl
    | some x =>
      have hn : r ≠ [] := fun z => by rw [z] at e; cases e
      have hp : 0 < r.length := List.length_pos_iff.mpr hn
      rw [if_pos (by rw [List.length_map]; exact decide_eq_true (by omega))]
      exact op_ev (idx_ev rfl rfl (.inl rfl) rfl (last_at e)) rfl rfl
  have e0 : lockAll [.d (.int m), .d (.int s), .l (.lst (rs.map osD)), x3, .no, .no] [2] = [.d (.int m), .d (.int s), .k (.lst (rs.map osD)), x3, .no, .no] := rfl
  have al : ∀ r, (absR m r).length ≤ 10 := fun r => by unfold absR; rw [List.length_map, List.length_range]; omega
  have tot : (rs.flatMap (absR m)).length ≤ 16777216 := by
    rw [List.length_flatMap]
    have b : ∀ l : List (List Nat), (l.map fun r => (absR m r).length).sum ≤ l.length * 10 := fun l => by
      induction l with
      | nil => exact Nat.le_refl _
      | cons r l ih =>
        rw [List.map_cons, List.sum_cons, List.length_cons]
        have := al r
        omega
    have := b rs
    omega
  refine Eq.trans (comp2_ev (l := rs) (enc := osD) (lk := [2]) (l1 := absR m) (enc1 := natD) (e := fun r x => osD (r ++ [x])) (by decide) rfl rfl rfl rfl tot (fun r hr' => ?_) fun r hr' t ht => .d ?_) ?_
  · have e1 : rgD ((lastUp r : Nat) : Int) m = (absR m r).map natD := by
      unfold rgD absR
      rw [List.map_map, show ((m : Int) - (lastUp r : Nat)).toNat = m - lastUp r by omega]
      apply List.map_congr_left
      intro t _
      show PyData.int _ = PyData.int _
      congr 1
    rw [← e1]
    refine rg2_ev (up r (hr r hr')) rfl ?_
    have := lastUp_le (hx2 r hr')
    simp [rgOk]
    omega
  · refine op_ev rfl rfl ?_
    rw [kAdd_t (xs := r.map natD) (ys := [natD t]) rfl rfl (by have := hr r hr'; simp; omega)]
    unfold osD
    rw [List.map_append]
    rfl
  · rw [List.map_flatMap]
    congr 3
    unfold nextR
    simp only [List.map_map]
    rfl
theorem rows_ev (m s : Nat) (hm : m ≤ 6) (hs : s ≤ 6) : F_rows_of [.d (.int m), .d (.int s)] = .ok (.new (.lst ((rowsL m s).map osD))) [.d (.int m), .d (.int s)] := by
  have c : (sSet 2 (fLst (fCons (fTup fNil) fNil))) [.d (.int m), .d (.int s), .no, .no, .no, .no] = .ok .nx [.d (.int m), .d (.int s), .l (.lst ((rowsL m 0).map osD)), .no, .no, .no] := rfl
  have hl := loop_all (tg := gN 3) (body := (sSet 2 (fComp2 (iSeq (fVar 2)) [4, 5] [5] (gN 4) tYesF (iRg2 (fIf (fTest (fOp2 kGt (fCallK kLen (fCons (fVar 4) fNil)) (fC (.int 0)))) (fOp2 kAdd (fOp2 kIdx (fVar 4) (fUn kNeg (fC (.int 1)))) (fC (.int 1))) (fC (.int 0))) (fVar 0)) (gN 5) tYesF (fOp2 kAdd (fVar 4) (fTup (fCons (fVar 5) fNil))))))
    (fun t G => t ≤ s → ∃ x3, Pl x3 ∧ G = [.d (.int m), .d (.int s), .l (.lst ((rowsL m t).map osD)), x3, .no, .no]) (ds := (List.range s).map fun k => PyData.int (k : Nat)) (G := [.d (.int m), .d (.int s), .l (.lst ((rowsL m 0).map osD)), .no, .no, .no]) (fun _ => ⟨.no, .no, rfl⟩) fun t d G et hG => ?_
  · obtain ⟨G', e, hG⟩ := hl
    rw [List.length_map, List.length_range] at hG
    obtain ⟨x3, hx, rfl⟩ := hG (Nat.le_refl _)
    refine run_own (i := 2) [.d (.int m), .d (.int s), .l (.lst ((rowsL m s).map osD)), x3, .no, .no] (seq_go c (seq_go (for_nx (lk := []) (ds := (List.range s).map fun k => PyData.int (k : Nat)) (rg_ev s rfl (by omega)) e) ?_))
    have u := unlk_pl (t := .no) hx
    show Res.ok _ [_, _, _, unlk .no x3, _, _] = _
    rw [u]; rfl
  · have ht : t < s := by
      have := (List.getElem?_eq_some_iff.mp et).1
      rw [List.length_map, List.length_range] at this
      exact this
    obtain ⟨x3, hx, rfl⟩ := hG (by omega)
    refine ⟨[.d (.int m), .d (.int s), .l (.lst ((rowsL m t).map osD)), .d d, .no, .no], by rcases hx with rfl | ⟨_, rfl⟩ <;> rfl, _, .inl (set_new (G1 := [.d (.int m), .d (.int s), .l (.lst ((rowsL m t).map osD)), .d d, .no, .no]) (rowsF_ev m s (by omega) (rowsL m t) ?_ ?_ (rowsL_lt m t) _ (.dd d))), fun _ => ⟨_, .dd d, rfl⟩⟩
    · have := rowsL_few m (by omega) t (by omega)
      omega
    · intro r hr
      rw [rowsL_len m t r hr]; omega
/-! ### least_hidden -/
theorem rowsL_inc (m : Nat) : ∀ s, ∀ r ∈ rowsL m s, r.Pairwise (· < ·)
  | 0, r, h => by rw [List.mem_singleton.mp h]; exact .nil
  | s + 1, r, h => by
    obtain ⟨q, hq, hr⟩ := List.mem_flatMap.mp h
    obtain ⟨y, hy, rfl⟩ := List.mem_map.mp hr
    obtain ⟨t, ht, rfl⟩ := List.mem_map.mp hy
    have ih := rowsL_inc m s q hq
    rw [List.pairwise_append]
    refine ⟨ih, List.pairwise_singleton _ _, fun a ha b hb => ?_⟩
    rw [List.mem_singleton.mp hb]
    have : a < lastUp q := by
      unfold lastUp
      cases e : q.getLast? with
      | none => rw [List.getLast?_eq_none_iff.mp e] at ha; cases ha
      | some x =>
        show a < x + 1
        have hn : q ≠ [] := fun z => by rw [z] at ha; cases ha
        rw [List.getLast?_eq_some_getLast hn] at e
        have ex := Option.some.inj e
        rw [← List.dropLast_concat_getLast hn, List.pairwise_append] at ih
        rw [← List.dropLast_concat_getLast hn] at ha
        obtain ha | ha := List.mem_append.mp ha
        · have := ih.2.2 a ha (q.getLast hn) (List.mem_singleton.mpr rfl)
          omega
        · rw [List.mem_singleton.mp ha]; omega
    omega
theorem rowsL_hid {m s : Nat} {r : List Nat} (hs : s ≤ 1000) (h : r ∈ rowsL m s) : Hid m r := ⟨rowsL_lt m s r h, rowsL_inc m s r h, by rw [rowsL_len m s r h]; exact hs⟩
/-- the first row, by size, that hides enough -/
def leastL (g : List (List Int)) (os : List Nat) (n m : Nat) : Option (List Nat) := (List.range (m + 1)).findSome? fun s => (rowsL m s).find? fun r => hides g os r n
def allRow (m : Nat) : List Nat := List.range m
theorem find_some {α β : Type} (p : α → Bool) (h : α → β) : ∀ l : List α, l.findSome? (fun x => if p x then some (h x) else none) = (l.find? p).map h
  | [] => rfl
  | x :: l => by
    rw [List.findSome?_cons, List.find?_cons]
    cases p x with
    | true => rfl
    | false => exact find_some p h l
theorem rgT_ev {fa : Gm → Res Rv} {G : Gm} {m : Nat} (hm : m ≤ 1000) (h : fa G = .ok (.d (.int m)) G) : fRg1 kRgT fa G = .ok (.d (osD (List.range m))) G := by
  unfold fRg1
  rw [h, Res.bind_ok]
  show (if rgOk 0 m then Res.ok (Rv.d (.tuple (rgD 0 m))) G else .bad) = _
  rw [if_pos (by simp [rgOk]; omega)]
  unfold rgD osD
  rw [show ((m : Int) - 0).toNat = m by omega]
  congr 4
  funext t
  show PyData.int _ = PyData.int _
  congr 1
  omega
theorem least_ev {g : List (List Int)} {os : List Nat} {n m : Nat} (h : Good g n m) (hm : m ≤ 6) (ho : Own os n m) : F_least_hidden [.d (gameD g), .d (osD os)] = .ok (.d (osD ((leastL g os n m).getD (List.range m)))) [.d (gameD g), .d (osD os)] := by
  have e1 : (sExpr (fCallK (kCall F_check_share) (fCons (fVar 0) (fCons (fVar 1) fNil)))) [.d (gameD g), .d (osD os), .no, .no] = .ok .nx [.d (gameD g), .d (osD os), .no, .no] := expr_ev (call_ev [gameD g, osD os] rfl (share_ok h ho.fit))
  have inner : ∀ (s : Nat) (x3 : Sl), s < m + 1 → Pl x3 →
      match (rowsL m s).find? (fun r => hides g os r n) with
      | none => ∃ t3, Pl t3 ∧ (sFor (iSeq (fCallK (kCall F_rows_of) (fCons (fCallK kLen (fCons (fOp2 kIdx (fVar 0) (fC (.int 0))) fNil)) (fCons (fVar 2) fNil)))) (gN 3) (sIf (fTest (fCallK (kCall F_does_hide) (fCons (fVar 0) (fCons (fVar 1) (fCons (fVar 3) fNil))))) (sRet (fVar 3)) sNx)) [.d (gameD g), .d (osD os), .d (natD s), x3] = .ok .nx [.d (gameD g), .d (osD os), .d (natD s), t3]
      | some r => ∃ t3, Pl t3 ∧ (sFor (iSeq (fCallK (kCall F_rows_of) (fCons (fCallK kLen (fCons (fOp2 kIdx (fVar 0) (fC (.int 0))) fNil)) (fCons (fVar 2) fNil)))) (gN 3) (sIf (fTest (fCallK (kCall F_does_hide) (fCons (fVar 0) (fCons (fVar 1) (fCons (fVar 3) fNil))))) (sRet (fVar 3)) sNx)) [.d (gameD g), .d (osD os), .d (natD s), x3] = .ok (.rt (.d (osD r))) [.d (gameD g), .d (osD os), .d (natD s), t3] := by
    intro s x3 hs p3
    have it : (iSeq (fCallK (kCall F_rows_of) (fCons (fCallK kLen (fCons (fOp2 kIdx (fVar 0) (fC (.int 0))) fNil)) (fCons (fVar 2) fNil)))) [.d (gameD g), .d (osD os), .d (natD s), x3] = .ok ((rowsL m s).map osD, []) [.d (gameD g), .d (osD os), .d (natD s), x3] :=
      seq_new (call_new [.int m, natD s] (cons_ev (g0_ev h rfl) rfl) (rows_ev m s (by omega) (by omega)))
    have lp := loop_findA (tg := gN 3) (body := (sIf (fTest (fCallK (kCall F_does_hide) (fCons (fVar 0) (fCons (fVar 1) (fCons (fVar 3) fNil))))) (sRet (fVar 3)) sNx)) osD (fun G => ∃ t3, Pl t3 ∧ G = [.d (gameD g), .d (osD os), .d (natD s), t3]) (fun G => ∃ t3, Pl t3 ∧ G = [.d (gameD g), .d (osD os), .d (natD s), t3])
      (fun r => if hides g os r n then some (.d (osD r)) else none) (rowsL m s) (lockAll [.d (gameD g), .d (osD os), .d (natD s), x3] []) ⟨x3, p3, rfl⟩ fun r hr G hG => ?_
    · rw [find_some] at lp
      cases ef : (rowsL m s).find? (fun r => hides g os r n) with
      | none =>
        rw [ef] at lp
        obtain ⟨G', e, t3, q3, rfl⟩ := lp
        refine ⟨t3, q3, Eq.trans (for_nx it e) ?_⟩
        have u := unlk_pl (t := x3) q3
        show Res.ok _ [_, _, _, unlk x3 t3] = _
        rw [u]; rfl
      | some r =>
        rw [ef] at lp
        obtain ⟨G', e, t3, q3, rfl⟩ := lp
        refine ⟨t3, q3, Eq.trans (for_rt it e) ?_⟩
        have u := unlk_pl (t := x3) q3
        show Res.ok _ [_, _, _, unlk x3 t3] = _
        rw [u]; rfl
    · obtain ⟨t3, q3, rfl⟩ := hG
      refine ⟨[.d (gameD g), .d (osD os), .d (natD s), .d (osD r)], by rcases q3 with rfl | ⟨_, rfl⟩ <;> rfl, ?_⟩
      have c : (fTest (fCallK (kCall F_does_hide) (fCons (fVar 0) (fCons (fVar 1) (fCons (fVar 3) fNil))))) [.d (gameD g), .d (osD os), .d (natD s), .d (osD r)] = .ok (hides g os r n) [.d (gameD g), .d (osD os), .d (natD s), .d (osD r)] :=
        test_ev (call_ev [gameD g, osD os, osD r] rfl (hide_ev h ho (rowsL_hid (by omega) hr)))
      cases he : hides g os r n with
      | true => exact ⟨_, if_t c he rfl, _, .dd _, rfl⟩
      | false => exact ⟨_, .inl (if_f c he rfl), _, .dd _, rfl⟩
  have it : (iRg1 (fOp2 kAdd (fCallK kLen (fCons (fOp2 kIdx (fVar 0) (fC (.int 0))) fNil)) (fC (.int 1)))) [.d (gameD g), .d (osD os), .no, .no] = .ok ((List.range (m + 1)).map natD, []) [.d (gameD g), .d (osD os), .no, .no] :=
    rg_ev (m + 1) (op_ev (g0_ev h rfl) rfl rfl) (by omega)
  have lp := loop_findA (tg := gN 2) (body := (sFor (iSeq (fCallK (kCall F_rows_of) (fCons (fCallK kLen (fCons (fOp2 kIdx (fVar 0) (fC (.int 0))) fNil)) (fCons (fVar 2) fNil)))) (gN 3) (sIf (fTest (fCallK (kCall F_does_hide) (fCons (fVar 0) (fCons (fVar 1) (fCons (fVar 3) fNil))))) (sRet (fVar 3)) sNx))) natD
    (fun G => ∃ t2 t3, Pl t2 ∧ Pl t3 ∧ G = [.d (gameD g), .d (osD os), t2, t3]) (fun G => ∃ t2 t3, Pl t2 ∧ Pl t3 ∧ G = [.d (gameD g), .d (osD os), t2, t3]) (fun s => ((rowsL m s).find? fun r => hides g os r n).map fun r => Rv.d (osD r)) (List.range (m + 1)) (lockAll [.d (gameD g), .d (osD os), .no, .no] []) ⟨.no, .no, .no, .no, rfl⟩ fun s hs G hG => ?_
  · rw [findSome_map] at lp
    have e4 : ((List.range (m + 1)).findSome? fun s => (rowsL m s).find? fun r => hides g os r n) = leastL g os n m := rfl
    rw [e4] at lp
    cases ef : leastL g os n m with
    | none =>
      rw [ef] at lp
      obtain ⟨G', e, t2, t3, q2, q3, rfl⟩ := lp
      refine run_d [.d (gameD g), .d (osD os), t2, t3] (seq_go e1 (seq_go (for_nx it e) (ret_ev ?_)))
      have u2 := unlk_pl (t := .no) q2
      have u3 := unlk_pl (t := .no) q3
      show fRg1 kRgT _ [_, _, unlk .no t2, unlk .no t3] = _
      rw [u2, u3]
      exact rgT_ev (by omega) (g0_ev h (G := [.d (gameD g), .d (osD os), t2, t3]) rfl)
    | some r =>
      rw [ef] at lp
      obtain ⟨G', e, t2, t3, q2, q3, rfl⟩ := lp
      refine run_d [.d (gameD g), .d (osD os), t2, t3] (seq_go e1 (seq_rt (Eq.trans (for_rt it e) ?_)))
      have u2 := unlk_pl (t := .no) q2
      have u3 := unlk_pl (t := .no) q3
      show Res.ok _ [_, _, unlk .no t2, unlk .no t3] = _
      rw [u2, u3]; rfl
  · obtain ⟨t2, t3, q2, q3, rfl⟩ := hG
    refine ⟨[.d (gameD g), .d (osD os), .d (natD s), t3], by rcases q2 with rfl | ⟨_, rfl⟩ <;> rfl, ?_⟩
    have inn := inner s t3 (List.mem_range.mp hs) q3
    cases ef : (rowsL m s).find? (fun r => hides g os r n) with
    | none =>
      rw [ef] at inn
      obtain ⟨u3, w3, e⟩ := inn
      exact ⟨_, .inl e, _, _, .dd _, w3, rfl⟩
    | some r =>
      rw [ef] at inn
      obtain ⟨u3, w3, e⟩ := inn
      exact ⟨_, e, _, _, .dd _, w3, rfl⟩
end D71
namespace D71
open PySem PySem.Spec PyProof.Rows L2 Fx
open PySem.W (dataLe)
/-! ### orders -/
def gt0 (r : List Int) (j : Nat) : Int := r.getD j 0
def leG (r : List Int) (a b : Nat) : Bool := decide (-gt0 r a < -gt0 r b ∨ (-gt0 r a = -gt0 r b ∧ (a : Int) ≤ (b : Int)))
def ordG (r : List Int) (ps : List Nat) : List Nat := ps.mergeSort (leG r)
def srt (ps : List Nat) : List Nat := ps.mergeSort fun a b => decide ((a : Int) ≤ (b : Int))
theorem keyN_nat {r : List Int} {j : Nat} (h : j < r.length) : keyN (r.map .int) (natD j) = .tuple [.int (-gt0 r j), .int (j : Int)] := by
  unfold keyN natD
  dsimp only
  rw [row_at h]
  rfl
theorem sortN_nat {r : List Int} {ps : List Nat} (h : ∀ j ∈ ps, j < r.length) : sortN (r.map .int) (ps.map natD) = (ordG r ps).map natD := by
  unfold sortN ordG
  refine (PySem.W.sort_maps (s := dataLe false (keyN (r.map PyData.int))) (r := leG r) natD fun a ha b hb => ?_).symm
  have e := congrFun (congrFun (PySem.W.dataLe_ii (β := Nat) (fun j => -gt0 r j) (fun j => (j : Int))) a) b
  show leG r a b = PySem.W.sortLe _ false _ (natD a) (natD b)
  unfold leG
  rw [← e]
  unfold dataLe PySem.W.sortLe
  dsimp only [cond]
  rw [keyN_nat (h a ha), keyN_nat (h b hb)]
theorem negOk_nat {r : List Int} {ps : List Nat} (h : ∀ j ∈ ps, j < r.length) : negOk (r.map .int) (ps.map natD) = true := by
  unfold negOk
  rw [Bool.and_eq_true, List.all_eq_true, List.all_eq_true]
  refine ⟨fun d hd => ?_, fun d hd => ?_⟩
  · obtain ⟨x, _, rfl⟩ := List.mem_map.mp hd; rfl
  · obtain ⟨j, hj, rfl⟩ := List.mem_map.mp hd
    rw [keyN_nat (h j hj)]; rfl
theorem sortD_nat (ps : List Nat) : sortD (ps.map natD) = (srt ps).map natD := by
  unfold sortD srt
  refine (PySem.W.sort_maps (s := dataLe false fun d => d) (r := fun a b : Nat => decide ((a : Int) ≤ (b : Int))) natD fun a ha b hb => ?_).symm
  have e := congrFun (congrFun (PySem.W.dataLe_int (β := Nat) (fun j => (j : Int))) a) b
  rw [← e]
  rfl
theorem sortOk_nat (ps : List Nat) : sortOk (ps.map natD) = true := by
  unfold sortOk
  rw [Bool.or_eq_true]
  left
  rw [List.all_eq_true]
  intro d hd
  obtain ⟨j, _, rfl⟩ := List.mem_map.mp hd
  rfl
/-! ### what is hidden of one part -/
def popL (r : List Int) (own : Int) : List Nat → List Nat
  | [] => []
  | x :: l => if own < wth r (x :: l) then x :: popL r own l else []
abbrev whT : Gm → Res Bool := tAnd' (fTest (fOp2 kNe (fVar 8) (fVar 3))) (fTest (fOp2 kGt (fCallK (kCall F_worth) (fCons (fVar 4) (fCons (fVar 10) fNil))) (fVar 6)))
abbrev whB : Gm → Res Out := sExpr (fMeth kAppend (fVar 7) (fCons (fMeth kPopAt (fVar 10) (fCons (fC (.int 0)) fNil)) fNil))
section
variable {g o f p pt : PyData} {r : List Int} {own : Int} {i k : Nat}
theorem whT_ev {pk : Ao} {out left : List Nat} (hl : ∀ j ∈ left, j < r.length) (hn : left.length ≤ 1000) : whT [.d g, .d o, .l (.lst ff), .d (natD i), .d (rowD r), .k pk, .d (.int own), .l (.lst (out.map natD)), .d (natD k), .d pt, .l (.lst (left.map natD))]
    = .ok (!decide (k = i) && decide (own < wth r left)) [.d g, .d o, .l (.lst ff), .d (natD i), .d (rowD r), .k pk, .d (.int own), .l (.lst (out.map natD)), .d (natD k), .d pt, .l (.lst (left.map natD))] :=
  and_ev (test_ev (op_ev rfl rfl (kNe_nat _ _ _))) fun _ => test_ev (op_ev (call_evB (cons_ev rfl (cons_ev rfl rfl)) rfl (worth_l hl hn) rfl) rfl rfl)
theorem wh_ev {pk : Ao} (hki : k ≠ i) (h0 : 0 ≤ own) : ∀ (left out : List Nat) (fu : Nat), (∀ j ∈ left, j < r.length) → left.length ≤ 1000 → left.length < fu → out.length + left.length ≤ 100000 →
    ∃ left', whileF whT whB fu [.d g, .d o, .l (.lst ff), .d (natD i), .d (rowD r), .k pk, .d (.int own), .l (.lst (out.map natD)), .d (natD k), .d pt, .l (.lst (left.map natD))]
      = .ok .nx [.d g, .d o, .l (.lst ff), .d (natD i), .d (rowD r), .k pk, .d (.int own), .l (.lst ((out ++ popL r own left).map natD)), .d (natD k), .d pt, .l (.lst left')]
  | left, out, 0, _, _, hf, _ => absurd hf (Nat.not_lt_zero _)
  | left, out, fu + 1, hl, hn, hf, hs => by
    unfold whileF
    rw [whT_ev (ff := ff) hl hn, Res.bind_ok, decide_eq_false hki]
    cases left with
    | nil =>
      rw [show decide (own < wth r []) = false from decide_eq_false (by show ¬ own < 0; omega)]
      refine ⟨[], ?_⟩
      rw [show popL r own [] = [] from rfl, List.append_nil]
      rfl
    | cons x l =>
      by_cases c : own < wth r (x :: l)
      · rw [decide_eq_true c]
        have e : whB [.d g, .d o, .l (.lst ff), .d (natD i), .d (rowD r), .k pk, .d (.int own), .l (.lst (out.map natD)), .d (natD k), .d pt, .l (.lst ((x :: l).map natD))]
            = .ok .nx [.d g, .d o, .l (.lst ff), .d (natD i), .d (rowD r), .k pk, .d (.int own), .l (.lst ((out ++ [x]).map natD)), .d (natD k), .d pt, .l (.lst (l.map natD))] := by
          refine Eq.trans (expr_ev (app_ev (d := natD x) (ds := out.map natD) rfl rfl (pop0_ev (d := natD x) (ds := l.map natD) rfl rfl rfl rfl) rfl (by rw [List.length_map]; simp at hs; omega))) ?_
          rw [List.map_append]
          rfl
        rw [if_pos (show (!false && true) = true from rfl), e]
        dsimp only
        rw [show popL r own (x :: l) = x :: popL r own l from if_pos c]
        obtain ⟨left', h⟩ := wh_ev hki h0 l (out ++ [x]) fu (fun j hj => hl j (List.mem_cons_of_mem _ hj)) (by simp at hn; omega) (by simp at hf; omega) (by simp at hs ⊢; omega)
        rw [List.append_assoc] at h
        exact ⟨left', h⟩
      · rw [decide_eq_false c, show popL r own (x :: l) = [] from if_neg c, List.append_nil]
        exact ⟨_, rfl⟩
theorem wh_self {pk : Ao} {out left : List Nat} {fu : Nat} (hl : ∀ j ∈ left, j < r.length) (hn : left.length ≤ 1000) (hki : k = i) : whileF whT whB (fu + 1) [.d g, .d o, .l (.lst ff), .d (natD i), .d (rowD r), .k pk, .d (.int own), .l (.lst (out.map natD)), .d (natD k), .d pt, .l (.lst (left.map natD))]
      = .ok .nx [.d g, .d o, .l (.lst ff), .d (natD i), .d (rowD r), .k pk, .d (.int own), .l (.lst (out.map natD)), .d (natD k), .d pt, .l (.lst (left.map natD))] := by
  unfold whileF
  rw [whT_ev (ff := ff) hl hn, Res.bind_ok, decide_eq_true hki]
  rfl
end
end D71
namespace D71
open PySem PySem.Spec PyProof.Rows L2 Fx
/-! ### hidden_of -/
theorem ordG_perm (r : List Int) (ps : List Nat) : (ordG r ps).Perm ps := List.mergeSort_perm ps (leG r)
theorem srt_perm (ps : List Nat) : (srt ps).Perm ps := List.mergeSort_perm ps _
theorem popL_len (r : List Int) (own : Int) : ∀ l : List Nat, (popL r own l).length ≤ l.length
  | [] => Nat.le_refl _
  | x :: l => by
    unfold popL
    split
    · have := popL_len r own l
      simp; omega
    · simp
theorem get_nonneg {g : List (List Int)} {n m : Nat} (h : Good g n m) {r : List Int} (hr : r ∈ g) (j : Nat) : 0 ≤ r.getD j 0 := by
  rw [List.getD_eq_getElem?_getD]
  cases e : r[j]? with
  | none => exact Int.le_refl _
  | some x =>
    have := ((h.row r hr).2 x (List.mem_of_getElem? e)).1
    show 0 ≤ x
    omega
theorem wth_nonneg {r : List Int} (h : ∀ j, 0 ≤ r.getD j 0) : ∀ ps : List Nat, 0 ≤ wth r ps
  | [] => Int.le_refl _
  | j :: ps => by
    have h1 := h j
    have h2 := wth_nonneg h ps
    show 0 ≤ ((j :: ps).map fun j => r.getD j 0).sum
    rw [List.map_cons, List.sum_cons]
    have : 0 ≤ (ps.map fun j => r.getD j 0).sum := h2
    omega
def rowOf (g : List (List Int)) (i : Nat) : List Int := g.getD i []
/-- what i must not see of the parts up to k -/
def outs (g : List (List Int)) (os : List Nat) (i k : Nat) : List Nat := (List.range k).flatMap fun j => if j = i then [] else popL (rowOf g i) (wth (rowOf g i) (gOf os i)) (ordG (rowOf g i) (gOf os j))
def hidL (g : List (List Int)) (os : List Nat) (n i : Nat) : List Nat := srt (outs g os i n)
theorem outs_succ (g : List (List Int)) (os : List Nat) (i k : Nat) : outs g os i (k + 1) = outs g os i k ++ (if k = i then [] else popL (rowOf g i) (wth (rowOf g i) (gOf os i)) (ordG (rowOf g i) (gOf os k))) := by
  unfold outs
  rw [List.range_succ, List.flatMap_append]
  simp
theorem gOf_len {os : List Nat} {n m : Nat} (ho : Own os n m) (k : Nat) : (gOf os k).length ≤ m := by
  have := gUp_len os os.length k
  unfold gOf
  rw [ho.len] at this ⊢
  exact this
theorem outs_len {g : List (List Int)} {os : List Nat} {n m : Nat} (ho : Own os n m) (i : Nat) : ∀ k, (outs g os i k).length ≤ k * m
  | 0 => Nat.zero_le _
  | k + 1 => by
    rw [outs_succ, List.length_append, Nat.add_mul]
    have h1 := outs_len (g := g) ho i k
    have h2 : (if k = i then [] else popL (rowOf g i) (wth (rowOf g i) (gOf os i)) (ordG (rowOf g i) (gOf os k))).length ≤ m := by
      split
      · exact Nat.zero_le _
      · have h3 := popL_len (rowOf g i) (wth (rowOf g i) (gOf os i)) (ordG (rowOf g i) (gOf os k))
        have h4 := (ordG_perm (rowOf g i) (gOf os k)).length_eq
        have h5 := gOf_len ho k
        omega
    omega
def Fr (s : Sl) : Prop := Pl s ∨ ∃ o, s = .l o
theorem Fr.l (o : Ao) : Fr (.l o) := .inr ⟨o, rfl⟩
theorem unlk_fr {t s : Sl} (h : Fr s) : unlk t s = s := by
  rcases h with h | ⟨o, rfl⟩
  · exact unlk_pl h
  · cases t <;> rfl
theorem free_fr {G : Gm} {i : Nat} {s : Sl} (h : G[i]? = some s) (f : Fr s) : freeAt G i = true := by
  unfold freeAt
  rw [h]
  rcases f with (rfl | ⟨x, rfl⟩) | ⟨o, rfl⟩ <;> rfl
theorem lenLe {n m a : Nat} (hn : n ≤ 6) (hm : m ≤ 10) (h : a ≤ n * m) : a ≤ 60 := Nat.le_trans h (Nat.mul_le_mul hn hm)
/-- the parts, one after the other -/
theorem partsLoop {g : List (List Int)} {os : List Nat} {n m i : Nat} {r : List Int} (h : Good g n m) (ho : Own os n m) (hi : i < n) (hr : rowOf g i = r) (hrl : r.length = m) (h0 : ∀ j, 0 ≤ r.getD j 0) (ff : List PyData) (s8 s9 s10 : Sl) (p8 : Pl s8) (p9 : Pl s9) (p10 : Fr s10) :
    ∃ t8 t9 t10, Pl t8 ∧ Pl t9 ∧ Fr t10 ∧ (sFor (iEnum (fVar 5)) (gT 2 (gsCons (gN 8) (gsCons (gN 9) gsNil))) (sSeq (sSet 10 (fSortNeg 4 (fCons (fVar 9) fNil))) (sWhile wfuel whT whB)))
      [.d (gameD g), .d (osD os), .l (.lst ff), .d (natD i), .d (rowD r), .l (.lst (partsD os n m)), .d (.int (wth r (gOf os i))), .l (.lst []), s8, s9, s10]
      = .ok .nx [.d (gameD g), .d (osD os), .l (.lst ff), .d (natD i), .d (rowD r), .l (.lst (partsD os n m)), .d (.int (wth r (gOf os i))), .l (.lst ((outs g os i n).map natD)), t8, t9, t10] := by
  have n6 := h.n6
  have m10 := h.m10
  have own0 := wth_nonneg h0 (gOf os i)
  have lp := loop_all (tg := gT 2 (gsCons (gN 8) (gsCons (gN 9) gsNil))) (body := (sSeq (sSet 10 (fSortNeg 4 (fCons (fVar 9) fNil))) (sWhile wfuel whT whB)))
    (fun k G => ∃ t8 t9 t10, Pl t8 ∧ Pl t9 ∧ Fr t10 ∧ G = [.d (gameD g), .d (osD os), .l (.lst ff), .d (natD i), .d (rowD r), .k (.lst (partsD os n m)), .d (.int (wth r (gOf os i))), .l (.lst ((outs g os i k).map natD)), t8, t9, t10])
    (ds := enumD (partsD os n m)) (G := lockAll [.d (gameD g), .d (osD os), .l (.lst ff), .d (natD i), .d (rowD r), .l (.lst (partsD os n m)), .d (.int (wth r (gOf os i))), .l (.lst []), s8, s9, s10] [5]) ⟨s8, s9, s10, p8, p9, p10, rfl⟩ fun k d G ek hG => ?_
  · rw [enumD_len, partsD_len] at lp
    obtain ⟨G', e, t8, t9, t10, q8, q9, q10, rfl⟩ := lp
    refine ⟨t8, t9, t10, q8, q9, q10, Eq.trans (for_nx (ds := enumD (partsD os n m)) (lk := [5]) (enum_ev rfl rfl) e) ?_⟩
    have u8 := unlk_pl (t := s8) q8
    have u9 := unlk_pl (t := s9) q9
    have u10 := unlk_fr (t := s10) q10
    show Res.ok Out.nx [_, _, _, _, _, _, _, _, unlk s8 t8, unlk s9 t9, unlk s10 t10] = _
    rw [u8, u9, u10]; rfl
  · obtain ⟨t8, t9, t10, q8, q9, q10, rfl⟩ := hG
    rw [enumD_at] at ek
    have hk : k < n := by
      cases e : (partsD os n m)[k]? with
      | none => rw [e] at ek; cases ek
      | some x =>
        have := (List.getElem?_eq_some_iff.mp e).1
        rw [partsD_len] at this
        exact this
    rw [partsD_at hk, show gUp os m k = gOf os k by unfold gOf; rw [ho.len]] at ek
    cases ek
    have hlt : ∀ j ∈ gOf os k, j < r.length := fun j hj => by rw [hrl]; exact gOf_lt ho hj
    have hlo : ∀ j ∈ ordG r (gOf os k), j < r.length := fun j hj => hlt j ((ordG_perm r (gOf os k)).mem_iff.mp hj)
    have hln : (ordG r (gOf os k)).length ≤ 10 := by
      rw [(ordG_perm r (gOf os k)).length_eq]
      have := gOf_len ho k
      omega
    have hol : (outs g os i k).length ≤ 60 := by
      have := outs_len (g := g) ho i k
      exact lenLe (n := k) (by omega) m10 this
    refine ⟨[.d (gameD g), .d (osD os), .l (.lst ff), .d (natD i), .d (rowD r), .k (.lst (partsD os n m)), .d (.int (wth r (gOf os i))), .l (.lst ((outs g os i k).map natD)), .d (natD k), .d (osD (gOf os k)), t10], ?_, ?_⟩
    · rcases q8 with rfl | ⟨_, rfl⟩ <;> rcases q9 with rfl | ⟨_, rfl⟩ <;> rfl
    · have st : (sSet 10 (fSortNeg 4 (fCons (fVar 9) fNil))) [.d (gameD g), .d (osD os), .l (.lst ff), .d (natD i), .d (rowD r), .k (.lst (partsD os n m)), .d (.int (wth r (gOf os i))), .l (.lst ((outs g os i k).map natD)), .d (natD k), .d (osD (gOf os k)), t10]
          = .ok .nx [.d (gameD g), .d (osD os), .l (.lst ff), .d (natD i), .d (rowD r), .k (.lst (partsD os n m)), .d (.int (wth r (gOf os i))), .l (.lst ((outs g os i k).map natD)), .d (natD k), .d (osD (gOf os k)), .l (.lst ((ordG r (gOf os k)).map natD))] := by
        refine set_new (G1 := [.d (gameD g), .d (osD os), .l (.lst ff), .d (natD i), .d (rowD r), .k (.lst (partsD os n m)), .d (.int (wth r (gOf os i))), .l (.lst ((outs g os i k).map natD)), .d (natD k), .d (osD (gOf os k)), t10]) (x := .lst ((ordG r (gOf os k)).map natD)) ?_ (free_fr rfl q10)
        show (if negOk (r.map PyData.int) ((gOf os k).map natD) then Res.ok (Rv.new (.lst (sortN (r.map PyData.int) ((gOf os k).map natD)))) _ else .bad) = _
        rw [if_pos (negOk_nat hlt), sortN_nat hlt]
      by_cases hki : k = i
      · refine ⟨_, .inl (seq_go st (wh_self (ff := ff) (fu := 999) hlo (by omega) hki)), .d (natD k), .d (osD (gOf os k)), .l (.lst ((ordG r (gOf os k)).map natD)), .dd _, .dd _, .l _, ?_⟩
        rw [outs_succ, if_pos hki, List.append_nil]
      · obtain ⟨left', e⟩ := wh_ev (g := gameD g) (o := osD os) (pt := osD (gOf os k)) (pk := .lst (partsD os n m)) (ff := ff) hki own0 (ordG r (gOf os k)) (outs g os i k) 1000 hlo (by omega) (by omega) (by omega)
        refine ⟨_, .inl (seq_go st e), .d (natD k), .d (osD (gOf os k)), .l (.lst left'), .dd _, .dd _, .l _, ?_⟩
        rw [outs_succ, if_neg hki, hr]
theorem kTuple_own {G : Gm} {i : Nat} {ds : List PyData} (h : ownAt G i = some (.lst ds)) : kTuple G [.own i] = .ok (.d (.tuple ds)) G := by
  unfold kTuple k1
  dsimp only [rd]
  rw [h]
  rfl
theorem sorted_own {G : Gm} {i : Nat} {ps : List Nat} (h : ownAt G i = some (.lst (ps.map natD))) : kSorted G [.own i] = .ok (.new (.lst ((srt ps).map natD))) G := by
  unfold kSorted k1
  dsimp only [rd]
  rw [h]
  show (if sortOk (ps.map natD) then Res.ok (Rv.new (.lst (sortD (ps.map natD)))) G else .bad) = _
  rw [if_pos (sortOk_nat ps), sortD_nat]
def toldD (g : List (List Int)) (os : List Nat) (n : Nat) : PyData := .tuple ((List.range n).map fun i => osD (hidL g os n i))
theorem hidden_ev {g : List (List Int)} {os : List Nat} {n m : Nat} (h : Good g n m) (ho : Own os n m) : F_hidden_of [.d (gameD g), .d (osD os)] = .ok (.d (toldD g os n)) [.d (gameD g), .d (osD os)] := by
  have n6 := h.n6
  have m10 := h.m10
  have e1 : (sExpr (fCallK (kCall F_check_share) (fCons (fVar 0) (fCons (fVar 1) fNil)))) [.d (gameD g), .d (osD os), .no, .no, .no, .no, .no, .no, .no, .no, .no] = .ok .nx [.d (gameD g), .d (osD os), .no, .no, .no, .no, .no, .no, .no, .no, .no] := expr_ev (call_ev [gameD g, osD os] rfl (share_ok h ho.fit))
  have lp := loop_all (tg := gT 2 (gsCons (gN 3) (gsCons (gN 4) gsNil))) (body := (sSeq (sSet 5 (fCallK (kCall F_parts_of) (fCons (fCallK kLen (fCons (fVar 0) fNil)) (fCons (fVar 1) fNil))))
    (sSeq (sPar 6 7 (fCons (fCallK (kCall F_worth) (fCons (fVar 4) (fCons (fOp2 kIdx (fVar 5) (fVar 3)) fNil))) (fCons (fLst fNil) fNil)))
    (sSeq (sFor (iEnum (fVar 5)) (gT 2 (gsCons (gN 8) (gsCons (gN 9) gsNil))) (sSeq (sSet 10 (fSortNeg 4 (fCons (fVar 9) fNil))) (sWhile wfuel whT whB)))
    (sExpr (fMeth kAppend (fVar 2) (fCons (fCallK kTuple (fCons (fCallK kSorted (fCons (fVar 7) fNil)) fNil)) fNil)))))))
    (fun t G => ∃ s3 s4 s5 s6 s7 s8 s9 s10, Pl s3 ∧ Pl s4 ∧ Fr s5 ∧ Pl s6 ∧ Fr s7 ∧ Pl s8 ∧ Pl s9 ∧ Fr s10 ∧ G = [.d (gameD g), .d (osD os), .l (.lst ((List.range t).map fun i => osD (hidL g os n i))), s3, s4, s5, s6, s7, s8, s9, s10])
    (ds := enumD (g.map rowD)) (G := [.d (gameD g), .d (osD os), .l (.lst []), .no, .no, .no, .no, .no, .no, .no, .no]) ⟨_, _, _, _, _, _, _, _, .no, .no, .inl .no, .no, .inl .no, .no, .no, .inl .no, rfl⟩ fun i d G ei hG => ?_
  · rw [enumD_len, List.length_map, h.len] at lp
    obtain ⟨G', e, s3, s4, s5, s6, s7, s8, s9, s10, p3, p4, p5, p6, p7, p8, p9, p10, rfl⟩ := lp
    refine run_d [.d (gameD g), .d (osD os), .l (.lst ((List.range n).map fun i => osD (hidL g os n i))), s3, s4, s5, s6, s7, s8, s9, s10] (seq_go e1 (seq_go (G1 := [.d (gameD g), .d (osD os), .l (.lst []), .no, .no, .no, .no, .no, .no, .no, .no]) rfl (seq_go (for_nx (lk := []) (ds := enumD (g.map rowD)) (enum_ev rfl rfl) e) ?_)))
    have u3 := unlk_pl (t := .no) p3
    have u4 := unlk_pl (t := .no) p4
    have u5 := unlk_fr (t := .no) p5
    have u6 := unlk_pl (t := .no) p6
    have u7 := unlk_fr (t := .no) p7
    have u8 := unlk_pl (t := .no) p8
    have u9 := unlk_pl (t := .no) p9
    have u10 := unlk_fr (t := .no) p10
    show sRet (fCallK kTuple (fCons (fVar 2) fNil)) [_, _, _, unlk .no s3, unlk .no s4, unlk .no s5, unlk .no s6, unlk .no s7, unlk .no s8, unlk .no s9, unlk .no s10] = _
    rw [u3, u4, u5, u6, u7, u8, u9, u10]
    rfl
  · obtain ⟨s3, s4, s5, s6, s7, s8, s9, s10, p3, p4, p5, p6, p7, p8, p9, p10, rfl⟩ := hG
    rw [enumD_at, List.getElem?_map] at ei
    have hi : i < n := by
      cases e : g[i]? with
      | none => rw [e] at ei; cases ei
      | some x =>
        have := (List.getElem?_eq_some_iff.mp e).1
        rw [h.len] at this
        exact this
    obtain ⟨r, er, er2, hrl⟩ := row_of h hi
    rw [er] at ei
    cases ei
    have hmem : r ∈ g := List.mem_of_getElem? er
    have hgl : ∀ j ∈ gOf os i, j < r.length := fun j hj => by rw [hrl]; exact gOf_lt ho hj
    have hgn : (gOf os i).length ≤ 1000 := by have := gOf_len ho i; omega
    have gm : gUp os m i = gOf os i := by unfold gOf; rw [ho.len]
    refine ⟨[.d (gameD g), .d (osD os), .l (.lst ((List.range i).map fun i => osD (hidL g os n i))), .d (natD i), .d (rowD r), s5, s6, s7, s8, s9, s10], ?_, ?_⟩
    · rcases p3 with rfl | ⟨_, rfl⟩ <;> rcases p4 with rfl | ⟨_, rfl⟩ <;> rfl
    · have st5 : (sSet 5 (fCallK (kCall F_parts_of) (fCons (fCallK kLen (fCons (fVar 0) fNil)) (fCons (fVar 1) fNil)))) [.d (gameD g), .d (osD os), .l (.lst ((List.range i).map fun i => osD (hidL g os n i))), .d (natD i), .d (rowD r), s5, s6, s7, s8, s9, s10]
          = .ok .nx [.d (gameD g), .d (osD os), .l (.lst ((List.range i).map fun i => osD (hidL g os n i))), .d (natD i), .d (rowD r), .l (.lst (partsD os n m)), s6, s7, s8, s9, s10] := by
        have := parts_ev os n (by omega) (by rw [ho.len]; omega) ho.lt
        rw [ho.len] at this
        exact set_new (G1 := [.d (gameD g), .d (osD os), .l (.lst ((List.range i).map fun i => osD (hidL g os n i))), .d (natD i), .d (rowD r), s5, s6, s7, s8, s9, s10]) (call_new [.int n, osD os] (cons_ev (lenG_ev h rfl) rfl) this) (free_fr rfl p5)
      have st67 : (sPar 6 7 (fCons (fCallK (kCall F_worth) (fCons (fVar 4) (fCons (fOp2 kIdx (fVar 5) (fVar 3)) fNil))) (fCons (fLst fNil) fNil))) [.d (gameD g), .d (osD os), .l (.lst ((List.range i).map fun i => osD (hidL g os n i))), .d (natD i), .d (rowD r), .l (.lst (partsD os n m)), s6, s7, s8, s9, s10]
          = .ok .nx [.d (gameD g), .d (osD os), .l (.lst ((List.range i).map fun i => osD (hidL g os n i))), .d (natD i), .d (rowD r), .l (.lst (partsD os n m)), .d (.int (wth r (gOf os i))), .l (.lst []), s8, s9, s10] := by
        unfold sPar
        rw [show (fCons (fCallK (kCall F_worth) (fCons (fVar 4) (fCons (fOp2 kIdx (fVar 5) (fVar 3)) fNil))) (fCons (fLst fNil) fNil)) [.d (gameD g), .d (osD os), .l (.lst ((List.range i).map fun i => osD (hidL g os n i))), .d (natD i), .d (rowD r), .l (.lst (partsD os n m)), s6, s7, s8, s9, s10] = .ok [.d (.int (wth r (gOf os i))), .new (.lst [])] [.d (gameD g), .d (osD os), .l (.lst ((List.range i).map fun i => osD (hidL g os n i))), .d (natD i), .d (rowD r), .l (.lst (partsD os n m)), s6, s7, s8, s9, s10] from
          cons_ev (call_ev [rowD r, osD (gOf os i)] (cons_ev rfl (cons_ev (idx_ev rfl rfl (.inr rfl) rfl (atI_natL (gm ▸ partsD_at hi))) rfl)) (worth_t hgl hgn)) rfl]
        have f6 : freeAt [.d (gameD g), .d (osD os), .l (.lst ((List.range i).map fun i => osD (hidL g os n i))), .d (natD i), .d (rowD r), .l (.lst (partsD os n m)), s6, s7, s8, s9, s10] 6 = true := free_fr rfl (.inl p6)
        have f7 : freeAt [.d (gameD g), .d (osD os), .l (.lst ((List.range i).map fun i => osD (hidL g os n i))), .d (natD i), .d (rowD r), .l (.lst (partsD os n m)), .d (.int (wth r (gOf os i))), s7, s8, s9, s10] 7 = true := free_fr rfl p7
        rw [Res.bind_ok]
        dsimp only [plainR, Bool.and_self, if_true]
        unfold setSl
        rw [if_pos f6]
        dsimp only
        rw [show [Sl.d (gameD g), .d (osD os), .l (.lst ((List.range i).map fun i => osD (hidL g os n i))), .d (natD i), .d (rowD r), .l (.lst (partsD os n m)), s6, s7, s8, s9, s10].set 6 (.d (.int (wth r (gOf os i)))) = [Sl.d (gameD g), .d (osD os), .l (.lst ((List.range i).map fun i => osD (hidL g os n i))), .d (natD i), .d (rowD r), .l (.lst (partsD os n m)), .d (.int (wth r (gOf os i))), s7, s8, s9, s10] from rfl, if_pos f7]
        rfl
      obtain ⟨t8, t9, t10, q8, q9, q10, pe⟩ := partsLoop h ho hi (show rowOf g i = r from er2) hrl (get_nonneg h hmem) ((List.range i).map fun i => osD (hidL g os n i)) s8 s9 s10 p8 p9 p10
      have ap : (sExpr (fMeth kAppend (fVar 2) (fCons (fCallK kTuple (fCons (fCallK kSorted (fCons (fVar 7) fNil)) fNil)) fNil))) [.d (gameD g), .d (osD os), .l (.lst ((List.range i).map fun i => osD (hidL g os n i))), .d (natD i), .d (rowD r), .l (.lst (partsD os n m)), .d (.int (wth r (gOf os i))), .l (.lst ((outs g os i n).map natD)), t8, t9, t10]
          = .ok .nx [.d (gameD g), .d (osD os), .l (.lst ((List.range (i + 1)).map fun i => osD (hidL g os n i))), .d (natD i), .d (rowD r), .l (.lst (partsD os n m)), .d (.int (wth r (gOf os i))), .l (.lst ((outs g os i n).map natD)), t8, t9, t10] := by
        have e7 : (fCallK kTuple (fCons (fCallK kSorted (fCons (fVar 7) fNil)) fNil)) [.d (gameD g), .d (osD os), .l (.lst ((List.range i).map fun i => osD (hidL g os n i))), .d (natD i), .d (rowD r), .l (.lst (partsD os n m)), .d (.int (wth r (gOf os i))), .l (.lst ((outs g os i n).map natD)), t8, t9, t10] = .ok (.d (osD (hidL g os n i))) [.d (gameD g), .d (osD os), .l (.lst ((List.range i).map fun i => osD (hidL g os n i))), .d (natD i), .d (rowD r), .l (.lst (partsD os n m)), .d (.int (wth r (gOf os i))), .l (.lst ((outs g os i n).map natD)), t8, t9, t10] := by
          unfold fCallK fCons
          show ((kSorted _ [.own 7]).bind _ |>.bind _) = _
          rw [sorted_own (ps := outs g os i n) rfl]
          rfl
        refine Eq.trans (expr_ev (app_ev (i := 2) (ds := (List.range i).map fun i => osD (hidL g os n i)) rfl rfl e7 rfl (by simp; omega))) ?_
        rw [List.range_succ, List.map_append]
        rfl
      exact ⟨_, .inl (seq_go st5 (seq_go st67 (seq_go pe ap))), _, _, _, _, _, _, _, _, .dd _, .dd _, .l _, .dd _, .l _, q8, q9, q10, rfl⟩
end D71
namespace D71
open PySem PySem.Spec PyProof.Rows L2 Fx
/-! ### draws -/
def drD (cs : List Int) (p v s : Int) : List PyData := [.list (cs.map .int), .int p, .int v, .int s]
/-- a draw's state -/
def Dr (D : List PyData) : Prop := ∃ cs p v s, D = drD cs p v s ∧ (∀ c ∈ cs, 0 ≤ c) ∧ -1 ≤ p ∧ 0 ≤ v ∧ 0 ≤ s
theorem mul_ok {i j : Int} (h : -(2 ^ 64) < j) (h2 : j < 2 ^ 64) : mulOk i j = true := by
  unfold mulOk
  rw [Bool.or_eq_true]
  right
  rw [Bool.and_eq_true]
  exact ⟨decide_eq_true h, decide_eq_true h2⟩
theorem kMul_i {G : Gm} {i j : Int} (h : mulOk i j = true) : kMul G (.d (.int i)) (.d (.int j)) = .ok (.d (.int (i * j))) G := by
  show (if mulOk i j then Res.ok (Rv.d (.int (i * j))) G else .bad) = _
  rw [if_pos h]
theorem kMod_i {G : Gm} {i j : Int} (h : j ≠ 0) : kMod G (.d (.int i)) (.d (.int j)) = .ok (.d (.int (i.fmod j))) G := by
  show (match (if j ≠ 0 then some (PyData.int (i.fmod j)) else none) with | some z => Res.ok (Rv.d z) G | none => .bad) = _
  rw [if_pos h]
theorem kDiv_i {G : Gm} {i j : Int} (h : divOk j = true) : kDiv G (.d (.int i)) (.d (.int j)) = .ok (.d (.int (i.fdiv j))) G := by
  show (match (if divOk j then some (PyData.int (i.fdiv j)) else none) with | some z => Res.ok (Rv.d z) G | none => .bad) = _
  rw [if_pos h]
theorem kEq_i (G : Gm) (a b : Int) : kEq G (.d (.int a)) (.d (.int b)) = .ok (.d (.bool (decide (a = b)))) G := by
  have : PyData.eqv (.int a) (.int b) = decide (a = b) := by
    rw [PyData.eqv]
    by_cases h : a = b <;> simp [h]
  show (match opEq (.int a) (.int b) with | some z => Res.ok (Rv.d z) G | none => .bad) = _
  simp [opEq, okD, flatS, this]
abbrev tkA : Gm → Res Out := sIf (fTest (fOp2 kEq (fOp2 kIdx (fVar 0) (fC (.int 2))) (fC (.int 0)))) (sSeq (sSetItem (fOp2 kAdd (fOp2 kIdx (fVar 0) (fC (.int 1))) (fC (.int 1))) (fVar 0) (fC (.int 1)))
  (sSeq (sIf (fTest (fOp2 kLt (fOp2 kIdx (fVar 0) (fC (.int 1))) (fCallK kLen (fCons (fOp2 kIdx (fVar 0) (fC (.int 0))) fNil)))) (sSetItem (fOp2 kIdx (fOp2 kIdx (fVar 0) (fC (.int 0))) (fOp2 kIdx (fVar 0) (fC (.int 1)))) (fVar 0) (fC (.int 2))) sNx)
  (sIf (fTest (fOp2 kEq (fOp2 kIdx (fVar 0) (fC (.int 2))) (fC (.int 0)))) (sSeq (sSetItem (fOp2 kMod (fCallK kInt (fCons (fOp2 kAdd (fOp2 kMul (fOp2 kIdx (fVar 0) (fC (.int 3))) (fC (.int 48271))) (fC (.int 11))) fNil)) (fC (.int 2147483647))) (fVar 0) (fC (.int 3)))
  (sSetItem (fOp2 kIdx (fVar 0) (fC (.int 3))) (fVar 0) (fC (.int 2)))) sNx))) sNx
theorem tk1 {cs : List Int} {p v s many : Int} : (sSetItem (fOp2 kAdd (fOp2 kIdx (fVar 0) (fC (.int 1))) (fC (.int 1))) (fVar 0) (fC (.int 1))) [.x (.lst (drD cs p v s)), .d (.int many), .no] = .ok .nx [.x (.lst (drD cs (p + 1) v s)), .d (.int many), .no] := rfl
theorem tk2 {cs : List Int} {p v s many : Int} (hc : ∀ c ∈ cs, 0 ≤ c) (hp : 0 ≤ p) (hv : v = 0) : ∃ v', 0 ≤ v' ∧ (sIf (fTest (fOp2 kLt (fOp2 kIdx (fVar 0) (fC (.int 1))) (fCallK kLen (fCons (fOp2 kIdx (fVar 0) (fC (.int 0))) fNil)))) (sSetItem (fOp2 kIdx (fOp2 kIdx (fVar 0) (fC (.int 0))) (fOp2 kIdx (fVar 0) (fC (.int 1)))) (fVar 0) (fC (.int 2))) sNx) [.x (.lst (drD cs p v s)), .d (.int many), .no]
    = .ok .nx [.x (.lst (drD cs p v' s)), .d (.int many), .no] := by
  have c : fTest (fOp2 kLt (fOp2 kIdx (fVar 0) (fC (.int 1))) (fCallK kLen (fCons (fOp2 kIdx (fVar 0) (fC (.int 0))) fNil))) [.x (.lst (drD cs p v s)), .d (.int many), .no] = .ok (decide (p < ((cs.map PyData.int).length : Nat))) [.x (.lst (drD cs p v s)), .d (.int many), .no] := rfl
  by_cases h : p < ((cs.map PyData.int).length : Nat)
  · obtain ⟨j, rfl⟩ := Int.eq_ofNat_of_zero_le hp
    have hj : j < cs.length := by rw [List.length_map] at h; exact Int.ofNat_lt.mp h
    refine ⟨cs[j], hc _ (List.getElem_mem hj), if_t c (decide_eq_true h) ?_⟩
    refine Eq.trans (setItem_ev (d := .int cs[j]) (m := 2) (k := 2) (idx_ev rfl rfl (.inr rfl) rfl (atI_natL (j := j) (by rw [List.getElem?_map, List.getElem?_eq_getElem hj]; rfl))) rfl rfl rfl rfl) rfl
  · exact ⟨0, Int.le_refl _, if_f c (decide_eq_false h) (by rw [hv]; rfl)⟩
theorem fmod_pos {a b : Int} (h : 0 < b) : 0 ≤ a.fmod b ∧ a.fmod b < b := by
  rw [Int.fmod_eq_emod_of_nonneg a (Int.le_of_lt h)]
  exact ⟨Int.emod_nonneg a (by omega), Int.emod_lt_of_pos a h⟩
theorem tk3 {cs : List Int} {p v s many : Int} (hv : 0 ≤ v) (hs : 0 ≤ s) : ∃ v' s', 0 ≤ v' ∧ 0 ≤ s' ∧ (sIf (fTest (fOp2 kEq (fOp2 kIdx (fVar 0) (fC (.int 2))) (fC (.int 0)))) (sSeq (sSetItem (fOp2 kMod (fCallK kInt (fCons (fOp2 kAdd (fOp2 kMul (fOp2 kIdx (fVar 0) (fC (.int 3))) (fC (.int 48271))) (fC (.int 11))) fNil)) (fC (.int 2147483647))) (fVar 0) (fC (.int 3)))
    (sSetItem (fOp2 kIdx (fVar 0) (fC (.int 3))) (fVar 0) (fC (.int 2)))) sNx) [.x (.lst (drD cs p v s)), .d (.int many), .no] = .ok .nx [.x (.lst (drD cs p v' s')), .d (.int many), .no] := by
  have c : fTest (fOp2 kEq (fOp2 kIdx (fVar 0) (fC (.int 2))) (fC (.int 0))) [.x (.lst (drD cs p v s)), .d (.int many), .no] = .ok (decide (v = 0)) [.x (.lst (drD cs p v s)), .d (.int many), .no] := test_ev (op_ev (a := .d (.int v)) rfl rfl (kEq_i _ _ _))
  by_cases h : v = 0
  · have hb := fmod_pos (a := s * 48271 + 11) (b := 2147483647) (by decide)
    refine ⟨_, _, hb.1, hb.1, if_t c (decide_eq_true h) (seq_go (G1 := [.x (.lst (drD cs p v ((s * 48271 + 11).fmod 2147483647))), .d (.int many), .no]) ?_ rfl)⟩
    refine Eq.trans (setItem_ev (d := .int ((s * 48271 + 11).fmod 2147483647)) (m := 3) (k := 3) ?_ rfl rfl rfl rfl) rfl
    refine op_ev (a := .d (.int (s * 48271 + 11))) ?_ rfl (kMod_i (by decide))
    unfold fCallK fCons
    rw [show (fOp2 kAdd (fOp2 kMul (fOp2 kIdx (fVar 0) (fC (.int 3))) (fC (.int 48271))) (fC (.int 11))) [.x (.lst (drD cs p v s)), .d (.int many), .no] = .ok (.d (.int (s * 48271 + 11))) [.x (.lst (drD cs p v s)), .d (.int many), .no] from op_ev (op_ev (a := .d (.int s)) rfl rfl (kMul_i (mul_ok (by decide) (by decide)))) rfl rfl]
    rfl
  · exact ⟨v, s, hv, hs, if_f c (decide_eq_false h) rfl⟩
theorem tkA_ev {cs : List Int} {p v s many : Int} (hc : ∀ c ∈ cs, 0 ≤ c) (hp : -1 ≤ p) (hv : 0 ≤ v) (hs : 0 ≤ s) : ∃ p' v' s', -1 ≤ p' ∧ 0 ≤ v' ∧ 0 ≤ s' ∧ tkA [.x (.lst (drD cs p v s)), .d (.int many), .no] = .ok .nx [.x (.lst (drD cs p' v' s')), .d (.int many), .no] := by
  have c : fTest (fOp2 kEq (fOp2 kIdx (fVar 0) (fC (.int 2))) (fC (.int 0))) [.x (.lst (drD cs p v s)), .d (.int many), .no] = .ok (decide (v = 0)) [.x (.lst (drD cs p v s)), .d (.int many), .no] := test_ev (op_ev (a := .d (.int v)) rfl rfl (kEq_i _ _ _))
  by_cases h : v = 0
  · obtain ⟨v1, h1, e1⟩ := tk2 (s := s) (many := many) hc (p := p + 1) (by omega) h
    obtain ⟨v2, s2, h2, h3, e2⟩ := tk3 (cs := cs) (p := p + 1) (many := many) h1 hs
    exact ⟨p + 1, v2, s2, by omega, h2, h3, if_t c (decide_eq_true h) (seq_go tk1 (seq_go e1 e2))⟩
  · exact ⟨p, v, s, hp, hv, hs, if_f c (decide_eq_false h) rfl⟩
theorem take_ev {D : List PyData} (hD : Dr D) {many : Nat} (h1 : 1 ≤ many) (h2 : many ≤ 1000000) : ∃ r D', Dr D' ∧ r < many ∧ F_law_take [.x (.lst D), .d (natD many)] = .ok (.d (natD r)) [.x (.lst D'), .d (natD many)] := by
  obtain ⟨cs, p, v, s, rfl, hc, hp, hv, hs⟩ := hD
  obtain ⟨p', v', s', hp', hv', hs', e⟩ := tkA_ev (many := many) hc hp hv hs
  have hm : (0 : Int) < many := by omega
  have hb := fmod_pos (a := v') hm
  have hq : 0 ≤ v'.fdiv many := Int.fdiv_nonneg hv' (by omega)
  obtain ⟨r, er⟩ := Int.eq_ofNat_of_zero_le hb.1
  refine ⟨r, drD cs p' (v'.fdiv many) s', ⟨cs, p', _, s', rfl, hc, hp', hq, hs'⟩, by have := hb.2; omega, ?_⟩
  refine run_d [.x (.lst (drD cs p' (v'.fdiv many) s')), .d (natD many), .d (natD r)] (seq_go e (seq_go (G1 := [.x (.lst (drD cs p' v' s')), .d (natD many), .d (natD r)]) ?_ (seq_go (G1 := [.x (.lst (drD cs p' (v'.fdiv many) s')), .d (natD many), .d (natD r)]) ?_ rfl)))
  · refine set_d (G1 := [.x (.lst (drD cs p' v' s')), .d (natD many), .no]) (x := natD r) ?_
    rw [show natD r = .int (v'.fmod many) by rw [er]; rfl]
    exact op_ev (a := .d (.int v')) rfl rfl (kMod_i (by omega))
  · refine Eq.trans (setItem_ev (d := .int (v'.fdiv many)) (m := 2) (k := 2) (op_ev (a := .d (.int v')) rfl rfl (kDiv_i ?_)) rfl rfl rfl rfl) rfl
    unfold divOk
    rw [Bool.and_eq_true, Bool.or_eq_true]
    exact ⟨decide_eq_true (by omega), .inl (decide_eq_true (by omega))⟩
end D71
/-! Ew: comprehensions that change the state -/
namespace Fx
open PySem PySem.Spec
open PyProof.Rows L2
theorem compF_st {i : Nat} {elt : Gm → Res Rv} (S : Gm → Prop) (P : PyData → Prop) (hS : ∀ G, S G → G[i]? = some .no) : ∀ (ds acc : List PyData) (G : Gm), S G → acc.length + ds.length ≤ 16777216 →
    (∀ d ∈ ds, ∀ G, S G → ∃ x G', elt (G.set i (.d d)) = .ok (.d x) (G'.set i (.d d)) ∧ S G' ∧ P x) → ∃ xs G', compF [i] (gN i) tYesF elt ds acc G = .ok (acc ++ xs) G' ∧ S G' ∧ xs.length = ds.length ∧ ∀ x ∈ xs, P x
  | [], acc, G, h, _, _ => ⟨[], G, by simp [compF], h, rfl, fun _ z => by cases z⟩
  | d :: ds, acc, G, h, hl, he => by
    rw [List.length_cons] at hl
    obtain ⟨x, G', e1, h1, p1⟩ := he d List.mem_cons_self G h
    have unf : compF [i] (gN i) tYesF elt (d :: ds) acc G = compF [i] (gN i) tYesF elt ds (acc ++ [x]) G' := by
      conv => lhs; unfold compF
      rw [gN_no (hS G h)]
      dsimp only [tYesF]
      rw [e1]
      dsimp only [retain]
      rw [if_pos (by unfold lim; exact decide_eq_true (by omega)), wipe_set (hS G' h1)]
    obtain ⟨xs, G2, e2, h2, l2, p2⟩ := compF_st S P hS ds (acc ++ [x]) G' h1 (by rw [List.length_append]; simp; omega) fun y hy => he y (List.mem_cons_of_mem _ hy)
    refine ⟨x :: xs, G2, by rw [unf, e2]; simp, h2, by simp [l2], fun y hy => ?_⟩
    obtain rfl | hy := List.mem_cons.mp hy
    · exact p1
    · exact p2 y hy
theorem comp_st {it : Gm → Res Itv} {i : Nat} {elt : Gm → Res Rv} {G : Gm} {ds : List PyData} (S : Gm → Prop) (P : PyData → Prop) (hit : it G = .ok (ds, []) G) (hpl : plainAt G [i] = true) (hw : wipeG (lockAll G []) [i] = G) (h0 : S G) (hS : ∀ G, S G → G[i]? = some .no) (hU : ∀ G2, S G2 → unlockAll G (unwipe (lockAll G []) G2 [i]) = G2) (hl : ds.length ≤ 16777216)
    (he : ∀ d ∈ ds, ∀ G, S G → ∃ x G', elt (G.set i (.d d)) = .ok (.d x) (G'.set i (.d d)) ∧ S G' ∧ P x) : ∃ xs G', fComp it [i] (gN i) tYesF elt G = .ok (.new (.lst xs)) G' ∧ S G' ∧ xs.length = ds.length ∧ ∀ x ∈ xs, P x := by
  obtain ⟨xs, G2, e, h2, l2, p2⟩ := compF_st S P hS ds [] G h0 (by simpa using hl) he
  refine ⟨xs, G2, ?_, h2, l2, p2⟩
  unfold fComp
  rw [hit, Res.bind_ok, if_pos hpl, hw, e]
  dsimp only
  rw [hU G2 h2]
  rfl
end Fx
namespace D71
open PySem PySem.Spec PyProof.Rows L2 Fx
theorem takeC {G : Gm} {i : Nat} {D : List PyData} {fm : Gm → Res Rv} {many : Nat} (hv : fVar i G = .ok (.own i) G) (hm : mutAt G i = some (.lst D)) (hf : fm G = .ok (.d (natD many)) G) (hD : Dr D) (h1 : 1 ≤ many) (h2 : many ≤ 1000000) :
    ∃ r D', Dr D' ∧ r < many ∧ fCallK (kCallM F_law_take) (fCons (fVar i) (fCons fm fNil)) G = .ok (.d (natD r)) (setOwn G i (.lst D')) := by
  obtain ⟨r, D', hD', hr, e⟩ := take_ev hD h1 h2
  refine ⟨r, D', hD', hr, ?_⟩
  unfold fCallK
  rw [show fCons (fVar i) (fCons fm fNil) G = .ok [.own i, .d (natD many)] G from cons_ev hv (cons_ev hf rfl), Res.bind_ok]
  unfold kCallM
  dsimp only
  rw [hm, show argsOf G [.d (natD many)] = some ([natD many], false) from rfl]
  dsimp only
  rw [show (Sl.x (.lst D) :: List.map Sl.d [natD many]) = [.x (.lst D), .d (natD many)] from rfl, e]
theorem kc_ev {k : Gm → List Rv → Res Rv} {fs : Gm → Res (List Rv)} {G G1 : Gm} {rs : List Rv} {R : Res Rv} (h : fs G = .ok rs G1) (hk : k G1 rs = R) : fCallK k fs G = R := by
  unfold fCallK
  rw [h]
  exact hk
theorem lst_ev {fs : Gm → Res (List Rv)} {G G1 : Gm} {rs : List Rv} {R : Res Rv} (h : fs G = .ok rs G1) (hk : kLst G1 rs = R) : fLst fs G = R := by
  unfold fLst
  rw [h]
  exact hk
theorem int_ev {fa : Gm → Res Rv} {G G1 : Gm} {i : Int} (h : fa G = .ok (.d (.int i)) G1) : fCallK kInt (fCons fa fNil) G = .ok (.d (.int i)) G1 := by
  unfold fCallK fCons
  rw [h]
  rfl
theorem draw_ev (ns : List Int) (h : ns.length ≤ 63) : ∃ D A, Dr D ∧ F_law_draw [.d (.dict [(.none, .list (ns.map .int))])] = .ok (.new (.lst D)) A := by
  have lp := loop_findA (tg := gN 2) (body := (sSet 1 (fOp2 kMod (fCallK kInt (fCons (fOp2 kAdd (fOp2 kAdd (fOp2 kMul (fVar 1) (fC (.int 48271))) (fOp2 kMod (fCallK kAbs (fCons (fCallK kInt (fCons (fVar 2) fNil)) fNil)) (fC (.int 65521)))) (fC (.int 1))) fNil)) (fC (.int 2147483647))))) PyData.int
    (fun G => ∃ s t2, 0 ≤ s ∧ Pl t2 ∧ G = [.d (.dict [(.none, .list (ns.map .int))]), .d (.int s), t2]) (fun _ => False) (fun _ => none) ns (lockAll [.d (.dict [(.none, .list (ns.map .int))]), .d (.int 7), .no] []) ⟨7, .no, by decide, .no, rfl⟩ fun x hx G hG => ?_
  · rw [List.findSome?_eq_none_iff.mpr fun _ _ => rfl] at lp
    obtain ⟨G', e, s, t2, hs, q2, rfl⟩ := lp
    refine ⟨drD (ns.map fun i => if i < 0 then -i else i) (-1) 0 s, [.d (.dict [(.none, .list (ns.map .int))])], ⟨_, -1, 0, s, rfl, fun c hc => ?_, by decide, by decide, hs⟩, ?_⟩
    · obtain ⟨i, _, rfl⟩ := List.mem_map.mp hc
      split <;> omega
    · refine run_new [.d (.dict [(.none, .list (ns.map .int))]), .d (.int s), t2] (seq_go (G1 := [.d (.dict [(.none, .list (ns.map .int))]), .d (.int 7), .no]) rfl (seq_go (for_nx (lk := []) (ds := ns.map .int) rfl e) (ret_ev ?_))) rfl rfl
      have u2 := unlk_pl (t := .no) q2
      show fLst _ [.d (.dict [(.none, .list (ns.map .int))]), .d (.int s), unlk .no t2] = _
      rw [u2]
      have ce : (fComp (iSeq (fVar 0)) [2] (gN 2) tYesF (fCallK kAbs (fCons (fCallK kInt (fCons (fVar 2) fNil)) fNil))) [.d (.dict [(.none, .list (ns.map .int))]), .d (.int s), t2] = .ok (.new (.lst (ns.map fun i => PyData.int (if i < 0 then -i else i)))) [.d (.dict [(.none, .list (ns.map .int))]), .d (.int s), t2] := by
        refine comp_evA0 (enc := PyData.int) (lk := []) rfl (by rcases q2 with rfl | ⟨_, rfl⟩ <;> rfl) rfl (by omega) fun a ha => .d ?_
        rcases q2 with rfl | ⟨_, rfl⟩ <;> rfl
      refine lst_ev (cons_ev ce rfl) ?_
      show Res.ok (Rv.new (.lst [.list (ns.map fun i => PyData.int (if i < 0 then -i else i)), .int (-1), .int 0, .int s])) _ = _
      unfold drD
      rw [List.map_map]
      rfl
  · obtain ⟨s, t2, hs, q2, rfl⟩ := hG
    refine ⟨[.d (.dict [(.none, .list (ns.map .int))]), .d (.int s), .d (.int x)], by rcases q2 with rfl | ⟨_, rfl⟩ <;> rfl, ?_⟩
    have hb := fmod_pos (a := s * 48271 + (if x < 0 then -x else x).fmod 65521 + 1) (b := 2147483647) (by decide)
    refine ⟨_, .inl (set_d (G1 := [.d (.dict [(.none, .list (ns.map .int))]), .d (.int s), .d (.int x)]) (x := .int ((s * 48271 + (if x < 0 then -x else x).fmod 65521 + 1).fmod 2147483647)) ?_), _, _, hb.1, .dd _, rfl⟩
    exact op_ev (a := .d (.int (s * 48271 + (if x < 0 then -x else x).fmod 65521 + 1))) (int_ev (op_ev (op_ev (op_ev (a := .d (.int s)) rfl rfl (kMul_i (mul_ok (by decide) (by decide)))) (op_ev (a := .d (.int (if x < 0 then -x else x))) rfl rfl (kMod_i (by decide))) rfl) rfl rfl)) rfl (kMod_i (by decide))
/-! ### owners -/
theorem natsOf {xs : List PyData} {n : Nat} (h : ∀ x ∈ xs, ∃ r, r < n ∧ x = natD r) : ∃ os : List Nat, xs = os.map natD ∧ ∀ o ∈ os, o < n := by
  induction xs with
  | nil => exact ⟨[], rfl, fun _ z => by cases z⟩
  | cons x xs ih =>
    obtain ⟨r, hr, rfl⟩ := h x List.mem_cons_self
    obtain ⟨os, rfl, ho⟩ := ih fun y hy => h y (List.mem_cons_of_mem _ hy)
    exact ⟨r :: os, rfl, fun o hm => by
      obtain rfl | hm := List.mem_cons.mp hm
      · exact hr
      · exact ho o hm⟩
theorem owners_ev {g : List (List Int)} {n m : Nat} {D : List PyData} (h : Good g n m) (hD : Dr D) : ∃ os D', Own os n m ∧ Dr D' ∧ F_law_owners [.x (.lst D), .d (gameD g)] = .ok (.d (osD os)) [.x (.lst D'), .d (gameD g)] := by
  obtain ⟨r, rs, hg, hr⟩ := h.first
  have n1 := h.n1
  have n6 := h.n6
  have m10 := h.m10
  have i0 : (fOp2 kIdx (fVar 1) (fC (.int 0))) [.x (.lst D), .d (gameD g), .no] = .ok (.d (rowD r)) [.x (.lst D), .d (gameD g), .no] := by
    subst hg
    exact idx_ev rfl rfl (.inl rfl) rfl (atI_natL (j := 0) rfl)
  obtain ⟨xs, G', e, ⟨D', hD', rfl⟩, hl, hx⟩ := comp_st (it := iSeq (fOp2 kIdx (fVar 1) (fC (.int 0)))) (i := 2) (elt := (fCallK (kCallM F_law_take) (fCons (fVar 0) (fCons (fCallK kLen (fCons (fVar 1) fNil)) fNil)))) (G := [.x (.lst D), .d (gameD g), .no]) (ds := r.map .int)
    (fun G => ∃ D', Dr D' ∧ G = [.x (.lst D'), .d (gameD g), .no]) (fun x => ∃ k, k < n ∧ x = natD k) (by unfold iSeq; rw [i0]; rfl) rfl rfl ⟨D, hD, rfl⟩ (fun G ⟨D', _, e⟩ => by rw [e]; rfl) (fun G ⟨D', _, e⟩ => by rw [e]; rfl) (by rw [List.length_map]; omega) fun d hd G hG => by
      obtain ⟨D1, hD1, rfl⟩ := hG
      obtain ⟨k, D2, hD2, hk, e⟩ := takeC (G := [.x (.lst D1), .d (gameD g), .d d]) (i := 0) (fm := fCallK kLen (fCons (fVar 1) fNil)) (many := n) rfl rfl (lenG_ev h rfl) hD1 n1 (by omega)
      exact ⟨natD k, [.x (.lst D2), .d (gameD g), .no], e, ⟨D2, hD2, rfl⟩, k, hk, rfl⟩
  obtain ⟨os, rfl, ho⟩ := natsOf hx
  refine ⟨os, D', ⟨?_, ho⟩, hD', run_d [.x (.lst D'), .d (gameD g), .no] (ret_ev ?_)⟩
  · rw [List.length_map, List.length_map] at hl
    omega
  · exact kc_ev (cons_ev e rfl) rfl
end D71
namespace D71
open PySem PySem.Spec PyProof.Rows L2 Fx
/-! ### the drawn game -/
def RowOk (m : Nat) (r : List Int) : Prop := r.length = m ∧ ∀ x ∈ r, 1 ≤ x ∧ x ≤ 1000
theorem ok_rowD (k : Nat) (r : List Int) : okD (k + 1) (rowD r) = true := by
  show (r.map PyData.int).all (okD k) = true
  rw [List.all_eq_true]
  intro d hd
  obtain ⟨x, _, rfl⟩ := List.mem_map.mp hd
  cases k <;> rfl
theorem ne_nil_ev {G : Gm} {i : Nat} {gs : List (List Int)} (h : ownAt G i = some (.lst (gs.map rowD))) : kNe G (.own i) (.new (.lst [])) = .ok (.d (.bool (!decide (gs = [])))) G := by
  unfold kNe kF2
  dsimp only [rd]
  rw [h]
  show (match opNe (.list (gs.map rowD)) (.list []) with | some z => Res.ok (Rv.d z) G | none => .bad) = _
  have ho : okD 60 (.list (gs.map rowD)) = true := by
    show (gs.map rowD).all (okD 59) = true
    rw [List.all_eq_true]
    intro d hd
    obtain ⟨x, _, rfl⟩ := List.mem_map.mp hd
    exact ok_rowD 58 x
  unfold opNe
  rw [ho, show okD 60 (.list []) = true from rfl]
  have e : PyData.eqv (.list (gs.map rowD)) (.list []) = decide (gs = []) := by
    cases gs with
    | nil => simp [PyData.eqv, PyData.eqvAll]
    | cons a b => simp [PyData.eqv, PyData.eqvAll]
  rw [e]
  rfl
section
variable {people goods most n m top : PyData} {s8 s9 : Sl}
theorem pick_ev {gs : List (List Int)} {D : List PyData} {r : List Int} {mm : Nat} (hD : Dr D) (hg : ∀ x ∈ gs, RowOk mm x) (hr : RowOk mm r) (hl : gs.length ≤ 1000) : ∃ D' r', Dr D' ∧ RowOk mm r' ∧
    (fIf (tAnd' (fTest (fOp2 kNe (fVar 7) (fLst fNil))) (fTest (fOp2 kEq (fCallK (kCallM F_law_take) (fCons (fVar 0) (fCons (fC (.int 4)) fNil))) (fC (.int 0))))) (fOp2 kIdx (fVar 7) (fCallK (kCallM F_law_take) (fCons (fVar 0) (fCons (fCallK kLen (fCons (fVar 7) fNil)) fNil)))) (fVar 9))
      [.x (.lst D), .d people, .d goods, .d most, .d n, .d m, .d top, .l (.lst (gs.map rowD)), s8, .d (rowD r), .no] = .ok (.d (rowD r')) [.x (.lst D'), .d people, .d goods, .d most, .d n, .d m, .d top, .l (.lst (gs.map rowD)), s8, .d (rowD r), .no] := by
  have c1 : fTest (fOp2 kNe (fVar 7) (fLst fNil)) [.x (.lst D), .d people, .d goods, .d most, .d n, .d m, .d top, .l (.lst (gs.map rowD)), s8, .d (rowD r), .no] = .ok (!decide (gs = [])) [.x (.lst D), .d people, .d goods, .d most, .d n, .d m, .d top, .l (.lst (gs.map rowD)), s8, .d (rowD r), .no] := test_ev (op_ev (a := .own 7) rfl rfl (ne_nil_ev rfl))
  by_cases h : gs = []
  · refine ⟨D, r, hD, hr, ?_⟩
    subst h
    refine Eq.trans (if_evE (b := false) (by
      unfold tAnd'
      rw [c1]
      rfl)) rfl
  · obtain ⟨a, D1, hD1, ha, e1⟩ := takeC (G := [.x (.lst D), .d people, .d goods, .d most, .d n, .d m, .d top, .l (.lst (gs.map rowD)), s8, .d (rowD r), .no]) (i := 0) (fm := fC (.int 4)) (many := 4) rfl rfl rfl hD (by omega) (by omega)
    have c : (tAnd' (fTest (fOp2 kNe (fVar 7) (fLst fNil))) (fTest (fOp2 kEq (fCallK (kCallM F_law_take) (fCons (fVar 0) (fCons (fC (.int 4)) fNil))) (fC (.int 0))))) [.x (.lst D), .d people, .d goods, .d most, .d n, .d m, .d top, .l (.lst (gs.map rowD)), s8, .d (rowD r), .no]
        = .ok (decide ((a : Int) = 0)) [.x (.lst D1), .d people, .d goods, .d most, .d n, .d m, .d top, .l (.lst (gs.map rowD)), s8, .d (rowD r), .no] := by
      unfold tAnd'
      rw [c1, decide_eq_false h]
      exact test_ev (op_ev (a := .d (natD a)) e1 rfl (kEq_i _ _ _))
    rw [if_evE c]
    by_cases h0 : (a : Int) = 0
    · rw [if_pos (decide_eq_true h0)]
      have hp : 1 ≤ gs.length := List.length_pos_iff.mpr h
      obtain ⟨k, D2, hD2, hk, e2⟩ := takeC (G := [.x (.lst D1), .d people, .d goods, .d most, .d n, .d m, .d top, .l (.lst (gs.map rowD)), s8, .d (rowD r), .no]) (i := 0) (fm := fCallK kLen (fCons (fVar 7) fNil)) (many := gs.length) rfl rfl (by
        show Res.ok (Rv.d (.int ((gs.map rowD).length : Nat))) _ = _
        rw [List.length_map]; rfl) hD1 hp (by omega)
      exact ⟨D2, gs[k], hD2, hg _ (List.getElem_mem hk), idx_ev rfl e2 (.inr rfl) rfl (atI_natL (j := k) (by rw [List.getElem?_map, List.getElem?_eq_getElem hk]; rfl))⟩
    · rw [if_neg (by rw [decide_eq_false h0]; exact Bool.false_ne_true)]
      exact ⟨D1, r, hD1, hr, rfl⟩
end
theorem intsR {xs : List PyData} {lo hi : Int} (h : ∀ x ∈ xs, ∃ v : Int, (lo ≤ v ∧ v ≤ hi) ∧ x = .int v) : ∃ os : List Int, xs = os.map PyData.int ∧ ∀ o ∈ os, lo ≤ o ∧ o ≤ hi := by
  induction xs with
  | nil => exact ⟨[], rfl, fun _ z => by cases z⟩
  | cons x xs ih =>
    obtain ⟨r, hr, rfl⟩ := h x List.mem_cons_self
    obtain ⟨os, rfl, ho⟩ := ih fun y hy => h y (List.mem_cons_of_mem _ hy)
    exact ⟨r :: os, rfl, fun o hm => by
      obtain rfl | hm := List.mem_cons.mp hm
      · exact hr
      · exact ho o hm⟩
theorem newrow_ev {people goods most n : PyData} {s8 s9 : Sl} {gs : List (List Int)} {D : List PyData} {mm top : Nat} (hD : Dr D) (hm : mm ≤ 10) (ht : 1 ≤ top) (ht2 : top ≤ 1000) : ∃ D' r, Dr D' ∧ RowOk mm r ∧
    (fCallK kTuple (fCons (fComp (iRg1 (fVar 5)) [10] (gN 10) tYesF (fOp2 kAdd (fC (.int 1)) (fCallK (kCallM F_law_take) (fCons (fVar 0) (fCons (fVar 6) fNil))))) fNil)) [.x (.lst D), .d people, .d goods, .d most, .d n, .d (natD mm), .d (natD top), .l (.lst (gs.map rowD)), s8, s9, .no]
      = .ok (.d (rowD r)) [.x (.lst D'), .d people, .d goods, .d most, .d n, .d (natD mm), .d (natD top), .l (.lst (gs.map rowD)), s8, s9, .no] := by
  obtain ⟨xs, G', e, ⟨D', hD', rfl⟩, hl, hx⟩ := comp_st (it := iRg1 (fVar 5)) (i := 10) (elt := (fOp2 kAdd (fC (.int 1)) (fCallK (kCallM F_law_take) (fCons (fVar 0) (fCons (fVar 6) fNil))))) (G := [.x (.lst D), .d people, .d goods, .d most, .d n, .d (natD mm), .d (natD top), .l (.lst (gs.map rowD)), s8, s9, .no]) (ds := (List.range mm).map fun k => PyData.int (k : Nat))
    (fun G => ∃ D', Dr D' ∧ G = [.x (.lst D'), .d people, .d goods, .d most, .d n, .d (natD mm), .d (natD top), .l (.lst (gs.map rowD)), s8, s9, .no]) (fun x => ∃ v : Int, (1 ≤ v ∧ v ≤ 1000) ∧ x = .int v) (rg_ev mm rfl (by omega)) rfl rfl ⟨D, hD, rfl⟩ (fun G ⟨D', _, e⟩ => by rw [e]; rfl) (fun G ⟨D', _, e⟩ => by
      rw [e]
      show [_, _, _, _, _, _, _, _, unlk s8 s8, unlk s9 s9, _] = _
      rw [unlk_self, unlk_self]; rfl) (by simp; omega) fun d hd G hG => by
      obtain ⟨D1, hD1, rfl⟩ := hG
      obtain ⟨k, D2, hD2, hk, e⟩ := takeC (G := [.x (.lst D1), .d people, .d goods, .d most, .d n, .d (natD mm), .d (natD top), .l (.lst (gs.map rowD)), s8, s9, .d d]) (i := 0) (fm := fVar 6) (many := top) rfl rfl rfl hD1 ht (by omega)
      exact ⟨.int (1 + (k : Int)), [.x (.lst D2), .d people, .d goods, .d most, .d n, .d (natD mm), .d (natD top), .l (.lst (gs.map rowD)), s8, s9, .no], op_ev rfl e rfl, ⟨D2, hD2, rfl⟩, _, ⟨by omega, by omega⟩, rfl⟩
  obtain ⟨os, rfl, ho⟩ := intsR hx
  refine ⟨D', os, hD', ⟨?_, ho⟩, kc_ev (cons_ev e rfl) rfl⟩
  simpa using hl
theorem natD1 (a : Nat) : PyData.int (1 + (a : Int)) = natD (1 + a) := congrArg PyData.int (by omega)
theorem game_draw {D : List PyData} (hD : Dr D) {people goods most : Nat} (h1 : 1 ≤ people) (h2 : people ≤ 6) (h3 : 1 ≤ goods) (h4 : goods ≤ 10) (h5 : 1 ≤ most) (h6 : most ≤ 1000) : ∃ g n m D', Good g n m ∧ n ≤ people ∧ m ≤ goods ∧ Dr D' ∧
    F_law_game [.x (.lst D), .d (natD people), .d (natD goods), .d (natD most)] = .ok (.d (gameD g)) [.x (.lst D'), .d (natD people), .d (natD goods), .d (natD most)] := by
  obtain ⟨a, D1, hD1, ha, e1⟩ := takeC (G := [.x (.lst D), .d (natD people), .d (natD goods), .d (natD most), .no, .no, .no, .no, .no, .no, .no]) (i := 0) (fm := fVar 1) (many := people) rfl rfl rfl hD h1 (by omega)
  obtain ⟨b, D2, hD2, hb, e2⟩ := takeC (G := [.x (.lst D1), .d (natD people), .d (natD goods), .d (natD most), .no, .no, .no, .no, .no, .no, .no]) (i := 0) (fm := fVar 2) (many := goods) rfl rfl rfl hD1 h3 (by omega)
  have s1 : (sPar 4 5 (fCons (fOp2 kAdd (fC (.int 1)) (fCallK (kCallM F_law_take) (fCons (fVar 0) (fCons (fVar 1) fNil)))) (fCons (fOp2 kAdd (fC (.int 1)) (fCallK (kCallM F_law_take) (fCons (fVar 0) (fCons (fVar 2) fNil)))) fNil))) [.x (.lst D), .d (natD people), .d (natD goods), .d (natD most), .no, .no, .no, .no, .no, .no, .no]
      = .ok .nx [.x (.lst D2), .d (natD people), .d (natD goods), .d (natD most), .d (natD (1 + a)), .d (natD (1 + b)), .no, .no, .no, .no, .no] := by
    have : (fCons (fOp2 kAdd (fC (.int 1)) (fCallK (kCallM F_law_take) (fCons (fVar 0) (fCons (fVar 1) fNil)))) (fCons (fOp2 kAdd (fC (.int 1)) (fCallK (kCallM F_law_take) (fCons (fVar 0) (fCons (fVar 2) fNil)))) fNil)) [.x (.lst D), .d (natD people), .d (natD goods), .d (natD most), .no, .no, .no, .no, .no, .no, .no]
        = .ok [.d (natD (1 + a)), .d (natD (1 + b))] [.x (.lst D2), .d (natD people), .d (natD goods), .d (natD most), .no, .no, .no, .no, .no, .no, .no] :=
      cons_ev (G1 := [.x (.lst D1), .d (natD people), .d (natD goods), .d (natD most), .no, .no, .no, .no, .no, .no, .no]) (op_ev rfl e1 (by show Res.ok (Rv.d (.int (1 + (a : Int)))) _ = _; rw [natD1]; rfl)) (cons_ev (op_ev rfl e2 (by show Res.ok (Rv.d (.int (1 + (b : Int)))) _ = _; rw [natD1]; rfl)) rfl)
    unfold sPar
    rw [this]
    rfl
  obtain ⟨c, D3, hD3, hc, e3⟩ := takeC (G := [.x (.lst D2), .d (natD people), .d (natD goods), .d (natD most), .d (natD (1 + a)), .d (natD (1 + b)), .no, .no, .no, .no, .no]) (i := 0) (fm := fC (.int 3)) (many := 3) rfl rfl rfl hD2 (by omega) (by omega)
  obtain ⟨top, ht1, ht2, s2⟩ : ∃ top, 1 ≤ top ∧ top ≤ 1000 ∧ (sSet 6 (fOp2 kIdx (fLst (fCons (fC (.int 2)) (fCons (fC (.int 4)) (fCons (fVar 3) fNil)))) (fCallK (kCallM F_law_take) (fCons (fVar 0) (fCons (fC (.int 3)) fNil))))) [.x (.lst D2), .d (natD people), .d (natD goods), .d (natD most), .d (natD (1 + a)), .d (natD (1 + b)), .no, .no, .no, .no, .no]
      = .ok .nx [.x (.lst D3), .d (natD people), .d (natD goods), .d (natD most), .d (natD (1 + a)), .d (natD (1 + b)), .d (natD top), .no, .no, .no, .no] := by
    have hx : ∃ top, 1 ≤ top ∧ top ≤ 1000 ∧ [PyData.int 2, .int 4, natD most][c]? = some (natD top) := by
      match c, hc with
      | 0, _ => exact ⟨2, by omega, by omega, rfl⟩
      | 1, _ => exact ⟨4, by omega, by omega, rfl⟩
      | 2, _ => exact ⟨most, h5, h6, rfl⟩
    obtain ⟨top, t1, t2, et⟩ := hx
    refine ⟨top, t1, t2, ?_⟩
    exact set_d (G1 := [.x (.lst D3), .d (natD people), .d (natD goods), .d (natD most), .d (natD (1 + a)), .d (natD (1 + b)), .no, .no, .no, .no, .no]) (idx_ev (a := .new (.lst [.int 2, .int 4, natD most])) rfl e3 (.inr rfl) rfl (atI_natL et))
  have lp := loop_all (tg := gN 8) (body := (sSeq (sSet 9 (fCallK kTuple (fCons (fComp (iRg1 (fVar 5)) [10] (gN 10) tYesF (fOp2 kAdd (fC (.int 1)) (fCallK (kCallM F_law_take) (fCons (fVar 0) (fCons (fVar 6) fNil))))) fNil)))
    (sExpr (fMeth kAppend (fVar 7) (fCons (fIf (tAnd' (fTest (fOp2 kNe (fVar 7) (fLst fNil))) (fTest (fOp2 kEq (fCallK (kCallM F_law_take) (fCons (fVar 0) (fCons (fC (.int 4)) fNil))) (fC (.int 0))))) (fOp2 kIdx (fVar 7) (fCallK (kCallM F_law_take) (fCons (fVar 0) (fCons (fCallK kLen (fCons (fVar 7) fNil)) fNil)))) (fVar 9)) fNil)))))
    (fun t G => t ≤ 1000 → ∃ D gs s8 s9, Dr D ∧ gs.length = t ∧ (∀ r ∈ gs, RowOk (1 + b) r) ∧ Pl s8 ∧ Pl s9 ∧ G = [.x (.lst D), .d (natD people), .d (natD goods), .d (natD most), .d (natD (1 + a)), .d (natD (1 + b)), .d (natD top), .l (.lst (gs.map rowD)), s8, s9, .no])
    (ds := (List.range (1 + a)).map fun k => PyData.int (k : Nat)) (G := [.x (.lst D3), .d (natD people), .d (natD goods), .d (natD most), .d (natD (1 + a)), .d (natD (1 + b)), .d (natD top), .l (.lst []), .no, .no, .no]) (fun _ => ⟨D3, [], .no, .no, hD3, rfl, fun _ z => (by cases z), .no, .no, rfl⟩) fun t d G et hG => ?_
  · obtain ⟨G', e, hG⟩ := lp
    rw [List.length_map, List.length_range] at hG
    obtain ⟨D4, gs, s8, s9, hD4, hl, hg, q8, q9, rfl⟩ := hG (by omega)
    refine ⟨gs, 1 + a, 1 + b, D4, ⟨hl, by omega, by omega, by omega, by omega, hg⟩, by omega, by omega, hD4, ?_⟩
    refine run_d [.x (.lst D4), .d (natD people), .d (natD goods), .d (natD most), .d (natD (1 + a)), .d (natD (1 + b)), .d (natD top), .l (.lst (gs.map rowD)), s8, s9, .no] (seq_go s1 (seq_go s2 (seq_go (G1 := [.x (.lst D3), .d (natD people), .d (natD goods), .d (natD most), .d (natD (1 + a)), .d (natD (1 + b)), .d (natD top), .l (.lst []), .no, .no, .no]) rfl (seq_go (for_nx (lk := []) (rg_ev (1 + a) rfl (by omega)) e) ?_))))
    have u8 := unlk_pl (t := .no) q8
    have u9 := unlk_pl (t := .no) q9
    show sRet (fCallK kTuple (fCons (fVar 7) fNil)) [_, _, _, _, _, _, _, _, unlk .no s8, unlk .no s9, _] = _
    rw [u8, u9]
    rfl
  · have ht : t < 1 + a := by
      have := (List.getElem?_eq_some_iff.mp et).1
      rw [List.length_map, List.length_range] at this
      exact this
    obtain ⟨D4, gs, s8, s9, hD4, hl, hg, q8, q9, rfl⟩ := hG (by omega)
    obtain ⟨D5, r, hD5, hr, e5⟩ := newrow_ev (people := natD people) (goods := natD goods) (most := natD most) (n := natD (1 + a)) (s8 := .d d) (s9 := s9) (gs := gs) hD4 (mm := 1 + b) (by omega) ht1 ht2
    obtain ⟨D6, r', hD6, hr', e6⟩ := pick_ev (people := natD people) (goods := natD goods) (most := natD most) (n := natD (1 + a)) (m := natD (1 + b)) (top := natD top) (s8 := .d d) (gs := gs) hD5 hg hr (by omega)
    refine ⟨[.x (.lst D4), .d (natD people), .d (natD goods), .d (natD most), .d (natD (1 + a)), .d (natD (1 + b)), .d (natD top), .l (.lst (gs.map rowD)), .d d, s9, .no], by rcases q8 with rfl | ⟨_, rfl⟩ <;> rfl, [.x (.lst D6), .d (natD people), .d (natD goods), .d (natD most), .d (natD (1 + a)), .d (natD (1 + b)), .d (natD top), .l (.lst ((gs ++ [r']).map rowD)), .d d, .d (rowD r), .no], .inl (seq_go (set_d (G1 := [.x (.lst D5), .d (natD people), .d (natD goods), .d (natD most), .d (natD (1 + a)), .d (natD (1 + b)), .d (natD top), .l (.lst (gs.map rowD)), .d d, s9, .no]) e5 (free_fr rfl (.inl q9))) ?_), fun _ => ⟨D6, gs ++ [r'], .d d, .d (rowD r), hD6, by rw [List.length_append, hl]; rfl, fun x hx => ?_, .dd _, .dd _, rfl⟩⟩
    · refine Eq.trans (expr_ev (app_ev (i := 7) (ds := gs.map rowD) rfl rfl e6 rfl (by rw [List.length_map]; omega))) ?_
      rw [List.map_append]
      rfl
    · obtain hx | hx := List.mem_append.mp hx
      · exact hg x hx
      · rw [List.mem_singleton.mp hx]; exact hr'
end D71
namespace D71
open PySem PySem.Spec PyProof.Rows L2 Fx
theorem kEq_n (G : Gm) (a b : Nat) : kEq G (.d (natD a)) (.d (natD b)) = .ok (.d (.bool (decide (a = b)))) G := by
  rw [show kEq G (.d (natD a)) (.d (natD b)) = _ from kEq_i G a b]
  congr 3
  apply decide_eq_decide.mpr
  omega
theorem os_at {os : List Nat} {j : Nat} (h : j < os.length) : atI (os.map natD) (j : Int) = some (natD (os[j])) := by
  apply atI_natL
  rw [List.getElem?_map, List.getElem?_eq_getElem h]
  rfl
theorem row_ix {g : List (List Int)} {n m i : Nat} (h : Good g n m) (hi : i < n) : atI (g.map rowD) (i : Int) = some (rowD (rowOf g i)) ∧ (rowOf g i).length = m := by
  obtain ⟨r, er, er2, hrl⟩ := row_of h hi
  refine ⟨atI_natL ?_, by rw [show rowOf g i = r from er2]; exact hrl⟩
  rw [List.getElem?_map, er, show rowOf g i = r from er2]
  rfl
theorem lenO_ev {os : List Nat} {n m : Nat} (ho : Own os n m) {f : Gm → Res Rv} {G : Gm} (hf : f G = .ok (.d (osD os)) G) : (fCallK kLen (fCons f fNil)) G = .ok (.d (.int m)) G := by
  refine kc_ev (cons_ev hf rfl) ?_
  show Res.ok (Rv.d (.int ((os.map natD).length : Nat))) G = _
  rw [List.length_map, ho.len]
theorem lworth_ev {g : List (List Int)} {os : List Nat} {n m i k : Nat} (h : Good g n m) (ho : Own os n m) (hi : i < n) : F_law_worth [.d (gameD g), .d (osD os), .d (natD i), .d (natD k)] = .ok (.d (.int (wth (rowOf g i) (gOf os k)))) [.d (gameD g), .d (osD os), .d (natD i), .d (natD k)] := by
  have m10 := h.m10
  obtain ⟨er, hrl⟩ := row_ix h hi
  refine run_d [.d (gameD g), .d (osD os), .d (natD i), .d (natD k), .no] (ret_ev (sum_ev (l := gOf os k) ?_))
  refine Eq.trans (comp_evA (enc := natD) (l := List.range m) (lk := []) (p := fun j => decide (os[j]? = some k)) (e := fun j => PyData.int ((rowOf g i).getD j 0)) (rg_ev m (lenO_ev ho rfl) (by omega)) rfl rfl (by rw [List.length_range]; omega) (fun j hj => ?_) fun j hj _ => .d ?_) ?_
  · have hj : j < os.length := by rw [ho.len]; exact List.mem_range.mp hj
    refine test_ev (op_ev (idx_ev rfl rfl (.inl rfl) rfl (os_at hj)) rfl ?_)
    rw [kEq_n, List.getElem?_eq_getElem hj]
    congr 3
    apply decide_eq_decide.mpr
    exact ⟨fun e => by rw [e], fun e => Option.some.inj e⟩
  · exact idx_ev (idx_ev rfl rfl (.inl rfl) rfl er) rfl (.inl rfl) rfl (row_at (by rw [hrl]; exact List.mem_range.mp hj))
  · unfold gOf gUp
    rw [ho.len]
theorem lenvy_ev {g : List (List Int)} {os hs : List Nat} {n m i k : Nat} (h : Good g n m) (ho : Own os n m) (hi : i < n) : F_law_envies [.d (gameD g), .d (osD os), .d (osD hs), .d (natD i), .d (natD k)] = .ok (.d (.bool (decide (wth (rowOf g i) (gOf os i) < wth (rowOf g i) (seen hs (gOf os k)))))) [.d (gameD g), .d (osD os), .d (osD hs), .d (natD i), .d (natD k)] := by
  have m10 := h.m10
  obtain ⟨er, hrl⟩ := row_ix h hi
  refine run_d [.d (gameD g), .d (osD os), .d (osD hs), .d (natD i), .d (natD k), .d (.int (wth (rowOf g i) (seen hs (gOf os k)))), .no] (seq_go (set_d (G1 := [.d (gameD g), .d (osD os), .d (osD hs), .d (natD i), .d (natD k), .no, .no]) (sum_ev (l := seen hs (gOf os k)) (f := fun j => (rowOf g i).getD j 0) ?_)) (ret_ev (op_ev rfl (call_ev [gameD g, osD os, natD i, natD i] rfl (lworth_ev h ho hi)) rfl)))
  refine Eq.trans (comp_evA (enc := natD) (l := List.range m) (lk := []) (p := fun j => decide (os[j]? = some k) && !hs.contains j) (e := fun j => PyData.int ((rowOf g i).getD j 0)) (rg_ev m (lenO_ev ho rfl) (by omega)) rfl rfl (by rw [List.length_range]; omega) (fun j hj => ?_) fun j hj _ => .d ?_) ?_
  · have hj : j < os.length := by rw [ho.len]; exact List.mem_range.mp hj
    refine and_ev (test_ev (op_ev (idx_ev rfl rfl (.inl rfl) rfl (os_at hj)) rfl ?_)) fun _ => test_ev (op_ev rfl rfl nin_ev)
    rw [kEq_n, List.getElem?_eq_getElem hj]
    congr 3
    apply decide_eq_decide.mpr
    exact ⟨fun e => by rw [e], fun e => Option.some.inj e⟩
  · exact idx_ev (idx_ev rfl rfl (.inl rfl) rfl er) rfl (.inl rfl) rfl (row_at (by rw [hrl]; exact List.mem_range.mp hj))
  · unfold seen gOf gUp
    rw [ho.len, List.filter_filter]
    congr 4
    apply List.filter_congr
    intro j _
    exact Bool.and_comm _ _
theorem ne_dec (i k : Nat) : decide (k ≠ i) = !decide (i = k) := by
  by_cases e : i = k
  · subst e; simp
  · have e2 : ¬ k = i := fun z => e z.symm
    simp [e, e2]
abbrev objB : Gm → Res Out := (sIf (tAnd' (fTest (fOp2 kNe (fVar 3) (fVar 4))) (fTest (fCallK (kCall F_law_envies) (fCons (fVar 0) (fCons (fVar 1) (fCons (fVar 2) (fCons (fVar 3) (fCons (fVar 4) fNil)))))))) (sRet (fTup (fCons (fVar 3) (fCons (fVar 4) fNil)))) sNx)
theorem obj_ev {g : List (List Int)} {os hs : List Nat} {n m : Nat} (h : Good g n m) (ho : Own os n m) : F_law_objection [.d (gameD g), .d (osD os), .d (osD hs)] = .ok (.d (objD (objP g os hs n))) [.d (gameD g), .d (osD os), .d (osD hs)] := by
  have n6 := h.n6
  have inner : ∀ (i : Nat) (s4 : Sl), i < n → Pl s4 →
      match (List.range n).findSome? (fun k => if envy g os hs i k then some (i, k) else none) with
      | none => ∃ t4, Pl t4 ∧ (sFor (iRg1 (fCallK kLen (fCons (fVar 0) fNil))) (gN 4) objB) [.d (gameD g), .d (osD os), .d (osD hs), .d (natD i), s4] = .ok .nx [.d (gameD g), .d (osD os), .d (osD hs), .d (natD i), t4]
      | some p => ∃ t4, Pl t4 ∧ (sFor (iRg1 (fCallK kLen (fCons (fVar 0) fNil))) (gN 4) objB) [.d (gameD g), .d (osD os), .d (osD hs), .d (natD i), s4] = .ok (.rt (.d (pairD p.1 p.2))) [.d (gameD g), .d (osD os), .d (osD hs), .d (natD i), t4] := by
    intro i s4 hi p4
    have lp := loop_findA (tg := gN 4) (body := objB) natD (fun G => ∃ t4, Pl t4 ∧ G = [.d (gameD g), .d (osD os), .d (osD hs), .d (natD i), t4]) (fun G => ∃ t4, Pl t4 ∧ G = [.d (gameD g), .d (osD os), .d (osD hs), .d (natD i), t4])
      (fun k => (if envy g os hs i k then some (i, k) else none).map fun p => Rv.d (pairD p.1 p.2)) (List.range n) (lockAll [.d (gameD g), .d (osD os), .d (osD hs), .d (natD i), s4] []) ⟨s4, p4, rfl⟩ fun k hk G hG => ?_
    · rw [findSome_map] at lp
      cases ef : (List.range n).findSome? (fun k => if envy g os hs i k then some (i, k) else none) with
      | none =>
        rw [ef] at lp
        obtain ⟨G', e, t4, q4, rfl⟩ := lp
        refine ⟨t4, q4, Eq.trans (for_nx (rg_ev n (lenG_ev h rfl) (by omega)) e) ?_⟩
        have u4 := unlk_pl (t := s4) q4
        show Res.ok _ [_, _, _, _, unlk s4 t4] = _
        rw [u4]; rfl
      | some p =>
        rw [ef] at lp
        obtain ⟨G', e, t4, q4, rfl⟩ := lp
        refine ⟨t4, q4, Eq.trans (for_rt (rg_ev n (lenG_ev h rfl) (by omega)) e) ?_⟩
        have u4 := unlk_pl (t := s4) q4
        show Res.ok _ [_, _, _, _, unlk s4 t4] = _
        rw [u4]; rfl
    · obtain ⟨t4, q4, rfl⟩ := hG
      refine ⟨[.d (gameD g), .d (osD os), .d (osD hs), .d (natD i), .d (natD k)], by rcases q4 with rfl | ⟨_, rfl⟩ <;> rfl, ?_⟩
      have c : (tAnd' (fTest (fOp2 kNe (fVar 3) (fVar 4))) (fTest (fCallK (kCall F_law_envies) (fCons (fVar 0) (fCons (fVar 1) (fCons (fVar 2) (fCons (fVar 3) (fCons (fVar 4) fNil)))))))) [.d (gameD g), .d (osD os), .d (osD hs), .d (natD i), .d (natD k)] = .ok (envy g os hs i k) [.d (gameD g), .d (osD os), .d (osD hs), .d (natD i), .d (natD k)] := by
        unfold envy
        rw [show decide (k ≠ i) = !decide (i = k) from ne_dec i k]
        exact and_ev (test_ev (op_ev rfl rfl (kNe_nat _ _ _))) fun _ => test_ev (call_ev [gameD g, osD os, osD hs, natD i, natD k] rfl (lenvy_ev h ho hi))
      cases he : envy g os hs i k with
      | true => exact ⟨_, if_t c he rfl, _, .dd _, rfl⟩
      | false => exact ⟨_, .inl (if_f c he rfl), _, .dd _, rfl⟩
  have lp := loop_findA (tg := gN 3) (body := (sFor (iRg1 (fCallK kLen (fCons (fVar 0) fNil))) (gN 4) objB)) natD (fun G => ∃ t3 t4, Pl t3 ∧ Pl t4 ∧ G = [.d (gameD g), .d (osD os), .d (osD hs), t3, t4]) (fun G => ∃ t3 t4, Pl t3 ∧ Pl t4 ∧ G = [.d (gameD g), .d (osD os), .d (osD hs), t3, t4])
    (fun i => ((List.range n).findSome? fun k => if envy g os hs i k then some (i, k) else none).map fun p => Rv.d (pairD p.1 p.2)) (List.range n) (lockAll [.d (gameD g), .d (osD os), .d (osD hs), .no, .no] []) ⟨.no, .no, .no, .no, rfl⟩ fun i hi G hG => ?_
  · rw [findSome_map] at lp
    have e4 : (List.range n).findSome? (fun i => (List.range n).findSome? fun k => if envy g os hs i k then some (i, k) else none) = objP g os hs n := rfl
    rw [e4] at lp
    cases ef : objP g os hs n with
    | none =>
      rw [ef] at lp
      obtain ⟨G', e, t3, t4, q3, q4, rfl⟩ := lp
      refine run_d [.d (gameD g), .d (osD os), .d (osD hs), t3, t4] (seq_go (for_nx (rg_ev n (lenG_ev h rfl) (by omega)) e) (ret_ev ?_))
      have u3 := unlk_pl (t := .no) q3
      have u4 := unlk_pl (t := .no) q4
      show Res.ok _ [_, _, _, unlk .no t3, unlk .no t4] = _
      rw [u3, u4]; rfl
    | some p =>
      rw [ef] at lp
      obtain ⟨G', e, t3, t4, q3, q4, rfl⟩ := lp
      refine run_d [.d (gameD g), .d (osD os), .d (osD hs), t3, t4] (seq_rt (Eq.trans (for_rt (rg_ev n (lenG_ev h rfl) (by omega)) e) ?_))
      have u3 := unlk_pl (t := .no) q3
      have u4 := unlk_pl (t := .no) q4
      show Res.ok _ [_, _, _, unlk .no t3, unlk .no t4] = _
      rw [u3, u4]; rfl
  · obtain ⟨t3, t4, q3, q4, rfl⟩ := hG
    refine ⟨[.d (gameD g), .d (osD os), .d (osD hs), .d (natD i), t4], by rcases q3 with rfl | ⟨_, rfl⟩ <;> rfl, ?_⟩
    have inn := inner i t4 (List.mem_range.mp hi) q4
    cases ef : (List.range n).findSome? (fun k => if envy g os hs i k then some (i, k) else none) with
    | none =>
      rw [ef] at inn
      obtain ⟨u4, w4, e⟩ := inn
      exact ⟨_, .inl e, _, _, .dd _, w4, rfl⟩
    | some p =>
      rw [ef] at inn
      obtain ⟨u4, w4, e⟩ := inn
      exact ⟨_, e, _, _, .dd _, w4, rfl⟩
end D71
namespace D71
open PySem PySem.Spec PyProof.Rows L2 Fx
open PySem.W (dataLe)
/-! ### the sets of goods -/
def pw : Nat → List (List Nat)
  | 0 => [[]]
  | t + 1 => pw t ++ (pw t).map (· ++ [t])
def leN : List Nat → List Nat → Bool
  | [], _ => true
  | _ :: _, [] => false
  | x :: xs, y :: ys => decide (x < y) || (decide (x = y) && leN xs ys)
def lexA (m : Nat) : Nat → Nat → List (List Nat)
  | 0, _ => [[]]
  | f + 1, lo => [] :: ((List.range (m - lo)).flatMap fun t => (lexA m f (lo + t + 1)).map fun r => (lo + t) :: r)
theorem cert1 : ∀ m < 7, (lexA m m 0).isPerm (pw m) = true := by decide +kernel
theorem cert2 : ∀ m < 7, (lexA m m 0).Pairwise fun a b => leN a b = true := by decide +kernel
theorem cert3 : ∀ m < 7, ∀ s < 8, ((lexA m m 0).filter fun r => decide (r.length = s)) = rowsL m s := by decide +kernel
theorem cert5 : ∀ m < 7, ∀ t < 8, ((List.range t).flatMap (rowsL m)).length ≤ 1000 := by decide +kernel
theorem cert4 : ∀ m < 7, (pw m).length ≤ 64 := by decide +kernel
theorem pw_head : ∀ t, ∃ r, pw t = [] :: r
  | 0 => ⟨[], rfl⟩
  | t + 1 => by
    obtain ⟨r, e⟩ := pw_head t
    exact ⟨_, by unfold pw; rw [e]; rfl⟩
theorem pw_small : ∀ t, ∀ r ∈ pw t, r.length ≤ t
  | 0, r, h => by rw [List.mem_singleton.mp h]; exact Nat.le_refl _
  | t + 1, r, h => by
    obtain h | h := List.mem_append.mp h
    · have := pw_small t r h
      omega
    · obtain ⟨q, hq, rfl⟩ := List.mem_map.mp h
      have := pw_small t q hq
      rw [List.length_append]
      simp; omega
theorem leN_anti : ∀ {a b : List Nat}, leN a b = true → leN b a = true → a = b
  | [], [], _, _ => rfl
  | [], _ :: _, _, h => by cases h
  | _ :: _, [], h, _ => by cases h
  | x :: xs, y :: ys, h, h2 => by
    simp only [leN, Bool.or_eq_true, Bool.and_eq_true, decide_eq_true_eq] at h h2
    rcases h with h | ⟨rfl, h⟩
    · rcases h2 with h2 | ⟨e, _⟩ <;> omega
    · rcases h2 with h2 | ⟨_, h2⟩
      · omega
      · rw [leN_anti h h2]
theorem le_nat : ∀ a b : List Nat, (!decide ((b.map fun j : Nat => (j : Int)) < (a.map fun j : Nat => (j : Int)))) = leN a b
  | [], b => by cases b <;> simp [leN]
  | x :: xs, [] => by simp [leN]
  | x :: xs, y :: ys => by
    rw [List.map_cons, List.map_cons]
    have ih := le_nat xs ys
    have e : ((y : Int) :: ys.map (fun j : Nat => (j : Int)) < (x : Int) :: xs.map fun j : Nat => (j : Int)) ↔ ((y : Int) < x ∨ ((y : Int) = x ∧ ys.map (fun j : Nat => (j : Int)) < xs.map fun j : Nat => (j : Int))) := List.cons_lt_cons_iff
    rw [decide_eq_decide.mpr e]
    unfold leN
    rw [← ih]
    by_cases h1 : x < y
    · have : ¬ ((y : Int) < x) := by omega
      have h3 : ¬ ((y : Int) = x) := by omega
      simp [h1, this, h3]
    · by_cases h2 : x = y
      · subst h2
        simp
      · have hyx : (y : Int) < x := by omega
        rw [decide_eq_true (Or.inl hyx : (y : Int) < x ∨ ((y : Int) = x ∧ ys.map (fun j : Nat => (j : Int)) < xs.map fun j : Nat => (j : Int))), decide_eq_false h1, decide_eq_false h2]
        rfl
theorem le_osD (a b : List Nat) : dataLe false (fun d => d) (osD a) (osD b) = leN a b := by
  rw [← le_nat]
  have e : ∀ l : List Nat, osD l = .tuple ((l.map fun j : Nat => (j : Int)).map .int) := fun l => by unfold osD; rw [List.map_map]; rfl
  rw [e, e, ← PySem.W.dataLt_ints]
  rfl
def sortR (l : List (List Nat)) : List (List Nat) := l.mergeSort leN
theorem sortD_rows (l : List (List Nat)) : sortD (l.map osD) = (sortR l).map osD := by
  unfold sortD sortR
  exact (PySem.W.sort_maps (s := dataLe false fun d => d) (r := leN) osD fun a _ b _ => (le_osD a b).symm).symm
theorem leN_total : PySem.W.TotalLe leN where
  total := fun a b => by
    rw [← le_osD, ← le_osD]
    exact (PySem.W.sortLe_total _ _ _).total _ _
  trans := fun a b c => by
    rw [← le_osD, ← le_osD, ← le_osD]
    exact (PySem.W.sortLe_total _ _ _).trans _ _ _
theorem sortR_pw {m : Nat} (hm : m < 7) : sortR (pw m) = lexA m m 0 := by
  have hp : (lexA m m 0).Perm (pw m) := List.isPerm_iff.mp (cert1 m hm)
  unfold sortR
  refine List.Perm.eq_of_pairwise (le := fun a b => leN a b = true) (fun a b _ _ h1 h2 => leN_anti h1 h2) (PySem.W.sort_pairwise leN_total _) (cert2 m hm) ((List.mergeSort_perm _ _).trans hp.symm)
/-- the sets, by size -/
def setsL (m : Nat) : List (List Nat) := (List.range (m + 1)).flatMap (rowsL m)
theorem setsL_hid {m : Nat} (hm : m ≤ 6) {r : List Nat} (h : r ∈ setsL m) : Hid m r := by
  obtain ⟨s, hs, hr⟩ := List.mem_flatMap.mp h
  have := List.mem_range.mp hs
  exact rowsL_hid (by omega) hr
theorem sorted_data {G : Gm} {i : Nat} {rs : List (List Nat)} (h : ownAt G i = some (.lst (rs.map osD))) (h0 : ∃ r, rs = [] :: r) : kSorted G [.own i] = .ok (.new (.lst ((sortR rs).map osD))) G := by
  unfold kSorted k1
  dsimp only [rd]
  rw [h]
  show (if sortOk (rs.map osD) then Res.ok (Rv.new (.lst (sortD (rs.map osD)))) G else .bad) = _
  rw [if_pos, sortD_rows]
  unfold sortOk
  rw [Bool.or_eq_true]
  right
  rw [Bool.and_eq_true, Bool.or_eq_true]
  obtain ⟨r, rfl⟩ := h0
  refine ⟨?_, .inr rfl⟩
  rw [List.all_eq_true]
  intro d hd
  obtain ⟨x, _, rfl⟩ := List.mem_map.mp hd
  show (x.map natD).all isIntD = true
  rw [List.all_eq_true]
  intro e he
  obtain ⟨y, _, rfl⟩ := List.mem_map.mp he
  rfl
theorem sets_ev (m : Nat) (hm : m ≤ 6) : F_law_sets [.d (.int m)] = .ok (.new (.lst ((setsL m).map osD))) [.d (.int m)] := by
  have lp := loop_all (tg := gN 2) (body := (sSet 1 (fOp2 kAdd (fVar 1) (fComp (iSeq (fVar 1)) [3] (gN 3) tYesF (fOp2 kAdd (fVar 3) (fTup (fCons (fVar 2) fNil)))))))
    (fun t G => t ≤ 6 → ∃ t2, Pl t2 ∧ G = [.d (.int m), .l (.lst ((pw t).map osD)), t2, .no, .no, .no]) (ds := (List.range m).map fun k => PyData.int (k : Nat)) (G := [.d (.int m), .l (.lst ((pw 0).map osD)), .no, .no, .no, .no]) (fun _ => ⟨.no, .no, rfl⟩) fun t d G et hG => ?_
  · obtain ⟨G1, e1, h1⟩ := lp
    rw [List.length_map, List.length_range] at h1
    obtain ⟨t2, q2, rfl⟩ := h1 hm
    have u2 := unlk_pl (t := .no) q2
    have s1 : (sFor (iRg1 (fVar 0)) (gN 2) (sSet 1 (fOp2 kAdd (fVar 1) (fComp (iSeq (fVar 1)) [3] (gN 3) tYesF (fOp2 kAdd (fVar 3) (fTup (fCons (fVar 2) fNil))))))) [.d (.int m), .l (.lst ((pw 0).map osD)), .no, .no, .no, .no] = .ok .nx [.d (.int m), .l (.lst ((pw m).map osD)), t2, .no, .no, .no] := by
      refine Eq.trans (for_nx (lk := []) (rg_ev m rfl (by omega)) e1) ?_
      show Res.ok _ [_, _, unlk .no t2, _, _, _] = _
      rw [u2]; rfl
    have lp2 := loop_all (tg := gN 5) (body := (sSet 4 (fOp2 kAdd (fVar 4) (fComp (iSeq (fCallK kSorted (fCons (fVar 1) fNil))) [3] (gN 3) (fTest (fOp2 kEq (fCallK kLen (fCons (fVar 3) fNil)) (fVar 5))) (fVar 3)))))
      (fun t G => t ≤ 7 → ∃ t5, Pl t5 ∧ G = [.d (.int m), .l (.lst ((pw m).map osD)), t2, .no, .l (.lst (((List.range t).flatMap (rowsL m)).map osD)), t5]) (ds := (List.range (m + 1)).map fun k => PyData.int (k : Nat)) (G := [.d (.int m), .l (.lst ((pw m).map osD)), t2, .no, .l (.lst []), .no]) (fun _ => ⟨.no, .no, rfl⟩) fun t d G et hG => ?_
    · obtain ⟨G2, e2, h2⟩ := lp2
      rw [List.length_map, List.length_range] at h2
      obtain ⟨t5, q5, rfl⟩ := h2 (by omega)
      have u5 := unlk_pl (t := .no) q5
      refine run_own (i := 4) [.d (.int m), .l (.lst ((pw m).map osD)), t2, .no, .l (.lst ((setsL m).map osD)), t5] (seq_go (G1 := [.d (.int m), .l (.lst ((pw 0).map osD)), .no, .no, .no, .no]) rfl (seq_go s1 (seq_go (G1 := [.d (.int m), .l (.lst ((pw m).map osD)), t2, .no, .l (.lst []), .no]) ?_ (seq_go (for_nx (lk := []) (rg_ev (m + 1) rfl (by omega)) e2) ?_))))
      · rcases q2 with rfl | ⟨_, rfl⟩ <;> rfl
      · show sRet _ [_, _, unlk t2 t2, _, _, unlk .no t5] = _
        have ut : unlk t2 t2 = t2 := unlk_self _
        rw [ut, u5]; rfl
    · have ht : t < m + 1 := by
        have := (List.getElem?_eq_some_iff.mp et).1
        rw [List.length_map, List.length_range] at this
        exact this
      obtain ⟨t5, q5, rfl⟩ := hG (by omega)
      rw [List.getElem?_map, List.getElem?_range ht] at et
      cases et
      refine ⟨[.d (.int m), .l (.lst ((pw m).map osD)), t2, .no, .l (.lst (((List.range t).flatMap (rowsL m)).map osD)), .d (natD t)], by rcases q5 with rfl | ⟨_, rfl⟩ <;> rfl, [.d (.int m), .l (.lst ((pw m).map osD)), t2, .no, .l (.lst (((List.range (t + 1)).flatMap (rowsL m)).map osD)), .d (natD t)], .inl ?_, fun _ => ⟨_, .dd _, rfl⟩⟩
      have ce : (fComp (iSeq (fCallK kSorted (fCons (fVar 1) fNil))) [3] (gN 3) (fTest (fOp2 kEq (fCallK kLen (fCons (fVar 3) fNil)) (fVar 5))) (fVar 3)) [.d (.int m), .l (.lst ((pw m).map osD)), t2, .no, .l (.lst (((List.range t).flatMap (rowsL m)).map osD)), .d (natD t)]
          = .ok (.new (.lst ((rowsL m t).map osD))) [.d (.int m), .l (.lst ((pw m).map osD)), t2, .no, .l (.lst (((List.range t).flatMap (rowsL m)).map osD)), .d (natD t)] := by
        rw [← cert3 m (by omega) t (by omega), ← sortR_pw (by omega)]
        refine comp_evA (enc := osD) (lk := []) (p := fun r => decide (r.length = t)) (e := osD) (seq_new (kc_ev (cons_ev rfl rfl) (sorted_data rfl (pw_head m)))) rfl rfl ?_ (fun r hr => ?_) fun r hr _ => .d rfl
        · unfold sortR
          rw [(List.mergeSort_perm (pw m) leN).length_eq]
          have := cert4 m (by omega)
          omega
        · refine test_ev (op_ev (a := .d (natD r.length)) (G1 := [.d (.int m), .l (.lst ((pw m).map osD)), t2, .d (osD r), .l (.lst (((List.range t).flatMap (rowsL m)).map osD)), .d (natD t)]) ?_ rfl (kEq_n _ _ _))
          refine kc_ev (cons_ev rfl rfl) ?_
          show Res.ok (Rv.d (.int ((r.map natD).length : Nat))) _ = _
          rw [List.length_map]; rfl
      have c5 := cert5 m (by omega) t (by omega)
      have c6 := rowsL_few m (by omega) t (by omega)
      refine set_new (G1 := [.d (.int m), .l (.lst ((pw m).map osD)), t2, .no, .l (.lst (((List.range t).flatMap (rowsL m)).map osD)), .d (natD t)]) (op_ev rfl ce ?_)
      rw [kAdd_l (xs := ((List.range t).flatMap (rowsL m)).map osD) (ys := (rowsL m t).map osD) rfl rfl (by rw [List.length_map, List.length_map]; omega)]
      rw [List.range_succ, List.flatMap_append, List.map_append]
      simp
  · have ht : t < m := by
      have := (List.getElem?_eq_some_iff.mp et).1
      rw [List.length_map, List.length_range] at this
      exact this
    obtain ⟨t2, q2, rfl⟩ := hG (by omega)
    rw [List.getElem?_map, List.getElem?_range ht] at et
    cases et
    refine ⟨[.d (.int m), .l (.lst ((pw t).map osD)), .d (natD t), .no, .no, .no], by rcases q2 with rfl | ⟨_, rfl⟩ <;> rfl, [.d (.int m), .l (.lst ((pw (t + 1)).map osD)), .d (natD t), .no, .no, .no], .inl ?_, fun _ => ⟨_, .dd _, rfl⟩⟩
    have c4 := cert4 t (by omega)
    have hsm : ∀ r ∈ pw t, r.length ≤ 1000 := fun r hr => by
      have := pw_small t r hr
      omega
    have ce : (fComp (iSeq (fVar 1)) [3] (gN 3) tYesF (fOp2 kAdd (fVar 3) (fTup (fCons (fVar 2) fNil)))) [.d (.int m), .l (.lst ((pw t).map osD)), .d (natD t), .no, .no, .no] = .ok (.new (.lst ((pw t).map fun r => osD (r ++ [t])))) [.d (.int m), .l (.lst ((pw t).map osD)), .d (natD t), .no, .no, .no] := by
      refine comp_evA0 (enc := osD) (lk := [1]) rfl rfl rfl (by omega) fun r hr => .d (op_ev rfl rfl ?_)
      have := hsm r hr
      rw [kAdd_t (xs := r.map natD) (ys := [natD t]) rfl rfl (by simp; omega)]
      unfold osD
      rw [List.map_append]
      rfl
    refine set_new (G1 := [.d (.int m), .l (.lst ((pw t).map osD)), .d (natD t), .no, .no, .no]) (op_ev rfl ce ?_)
    rw [kAdd_l (xs := (pw t).map osD) (ys := (pw t).map fun r => osD (r ++ [t])) rfl rfl (by rw [List.length_map, List.length_map]; omega)]
    rw [show pw (t + 1) = pw t ++ (pw t).map (· ++ [t]) from rfl, List.map_append, List.map_map]
    rfl
end D71
namespace D71
open PySem PySem.Spec PyProof.Rows L2 Fx
/-! ### the mathematics of what is hidden -/
theorem wth_cons (r : List Int) (x : Nat) (l : List Nat) : wth r (x :: l) = r.getD x 0 + wth r l := by
  unfold wth
  rw [List.map_cons, List.sum_cons]
theorem wth_perm {r : List Int} {a b : List Nat} (h : a.Perm b) : wth r a = wth r b := by
  induction h with
  | nil => rfl
  | cons x _ ih => rw [wth_cons, wth_cons, ih]
  | swap x y l => rw [wth_cons, wth_cons, wth_cons, wth_cons]; omega
  | trans _ _ i1 i2 => exact i1.trans i2
/-- the popped ones are the first so many; behind them all is well, before them not -/
theorem popL_spec (r : List Int) (own : Int) (h0 : 0 ≤ own) : ∀ l : List Nat, popL r own l = l.take (popL r own l).length ∧ wth r (l.drop (popL r own l).length) ≤ own ∧ ∀ s, s < (popL r own l).length → own < wth r (l.drop s)
  | [] => ⟨rfl, h0, fun s hs => by cases hs⟩
  | x :: l => by
    unfold popL
    by_cases c : own < wth r (x :: l)
    · rw [if_pos c]
      obtain ⟨h1, h2, h3⟩ := popL_spec r own h0 l
      refine ⟨by rw [List.length_cons, List.take_succ_cons, ← h1], by rw [List.length_cons, List.drop_succ_cons]; exact h2, fun s hs => ?_⟩
      cases s with
      | zero => exact c
      | succ s => rw [List.drop_succ_cons]; exact h3 s (by simpa using hs)
    · rw [if_neg c]
      exact ⟨rfl, by simpa using c, fun s hs => by cases hs⟩
/-- descending worth -/
def Desc (r : List Int) (l : List Nat) : Prop := l.Pairwise fun a b => r.getD b 0 ≤ r.getD a 0
theorem ordG_desc (r : List Int) (ps : List Nat) : Desc r (ordG r ps) := by
  have tot : PySem.W.TotalLe (leG r) := {
    total := fun a b => by
      unfold leG
      simp only [decide_eq_true_eq]
      omega
    trans := fun a b c => by
      unfold leG
      simp only [decide_eq_true_eq]
      omega }
  have := PySem.W.sort_pairwise tot ps
  refine List.Pairwise.imp (fun {a b} h => ?_) this
  unfold leG gt0 at h
  simp only [decide_eq_true_eq] at h
  omega
theorem take_shift {r : List Int} (h0 : ∀ j, 0 ≤ r.getD j 0) : ∀ (c : Nat) (x : Nat) (l : List Nat), Desc r (x :: l) → wth r (l.take c) ≤ wth r ((x :: l).take c)
  | 0, _, _, _ => by simp
  | c + 1, x, [], h => by
    rw [List.take_nil, List.take_succ_cons, List.take_nil, wth_cons]
    have := h0 x
    omega
  | c + 1, x, y :: l, h => by
    rw [List.take_succ_cons, List.take_succ_cons, wth_cons, wth_cons]
    have h1 : r.getD y 0 ≤ r.getD x 0 := (List.pairwise_cons.mp h).1 y List.mem_cons_self
    have := take_shift h0 c y l (List.pairwise_cons.mp h).2
    omega
/-- no choice of so many is worth more than the first so many -/
theorem filter_le {r : List Int} (h0 : ∀ j, 0 ≤ r.getD j 0) (p : Nat → Bool) : ∀ l : List Nat, Desc r l → wth r (l.filter p) ≤ wth r (l.take (l.filter p).length)
  | [], _ => by simp
  | x :: l, h => by
    have ih := filter_le h0 p l (List.pairwise_cons.mp h).2
    rw [List.filter_cons]
    by_cases hp : p x = true
    · rw [if_pos hp, List.length_cons, List.take_succ_cons, wth_cons, wth_cons]
      omega
    · rw [if_neg hp]
      have := take_shift (r := r) h0 (l.filter p).length x l h
      omega
theorem wth_split {r : List Int} (p : Nat → Bool) : ∀ l : List Nat, wth r (l.filter p) + wth r (l.filter fun x => !p x) = wth r l
  | [] => rfl
  | x :: l => by
    have ih := wth_split (r := r) p l
    rw [List.filter_cons, List.filter_cons, wth_cons]
    cases hp : p x with
    | true => simp [wth_cons]; omega
    | false => simp [wth_cons]; omega
theorem wth_take_drop {r : List Int} (c : Nat) (l : List Nat) : wth r (l.take c) + wth r (l.drop c) = wth r l := by
  unfold wth
  rw [← List.sum_append, ← List.map_append, List.take_append_drop]
/-- what is left when a set is hidden is worth no less than when the first so many are -/
theorem left_ge {r : List Int} (h0 : ∀ j, 0 ≤ r.getD j 0) (p : Nat → Bool) {l : List Nat} (h : Desc r l) : wth r (l.drop (l.filter p).length) ≤ wth r (l.filter fun x => !p x) := by
  have h1 := filter_le h0 p l h
  have h2 := wth_split (r := r) p l
  have h3 := wth_take_drop (r := r) (l.filter p).length l
  omega
end D71
namespace D71
open PySem PySem.Spec PyProof.Rows L2 Fx
theorem seen_perm {hs a b : List Nat} (h : a.Perm b) : (seen hs a).Perm (seen hs b) := h.filter _
theorem wth_mono {r : List Int} (h0 : ∀ j, 0 ≤ r.getD j 0) {p q : Nat → Bool} (hpq : ∀ x, p x = true → q x = true) : ∀ l : List Nat, wth r (l.filter p) ≤ wth r (l.filter q)
  | [] => Int.le_refl _
  | x :: l => by
    have ih := wth_mono h0 hpq l
    have h1 := h0 x
    rw [List.filter_cons, List.filter_cons]
    by_cases c : p x = true
    · rw [if_pos c, if_pos (hpq x c), wth_cons, wth_cons]; omega
    · rw [if_neg c]
      by_cases d : q x = true
      · rw [if_pos d, wth_cons]; omega
      · rw [if_neg d]; exact ih
theorem seen_take {l : List Nat} (h : l.Nodup) : ∀ c, seen (l.take c) l = l.drop c := by
  induction l with
  | nil => intro c; simp [seen]
  | cons x l ih =>
    intro c
    have hx := (List.nodup_cons.mp h).1
    have hl := (List.nodup_cons.mp h).2
    cases c with
    | zero => simp [seen]
    | succ c =>
      rw [List.take_succ_cons, List.drop_succ_cons, ← ih hl c]
      unfold seen
      rw [List.filter_cons, if_neg (by simp)]
      refine List.filter_congr fun y hy => ?_
      have : y ≠ x := fun e => hx (e ▸ hy)
      simp [List.contains_cons, this]
theorem nodup_filt {l : List Nat} (h : l.Nodup) (p : Nat → Bool) : (l.filter p).Nodup := List.Pairwise.filter p h
theorem gOf_nodup (os : List Nat) (k : Nat) : (gOf os k).Nodup := nodup_filt List.nodup_range _
theorem ordG_nodup (r : List Int) (os : List Nat) (k : Nat) : (ordG r (gOf os k)).Nodup := (ordG_perm r (gOf os k)).nodup_iff.mpr (gOf_nodup os k)
/-- the law's envy of a hidden prefix, in the order of worth -/
theorem wth_seen_take (r : List Int) (os : List Nat) (k c : Nat) : wth r (seen ((ordG r (gOf os k)).take c) (gOf os k)) = wth r ((ordG r (gOf os k)).drop c) := by
  rw [← seen_take (ordG_nodup r os k) c]
  exact wth_perm (seen_perm (ordG_perm r (gOf os k)).symm)
/-- the pieces that are hidden from i -/
def pop (g : List (List Int)) (os : List Nat) (i k : Nat) : List Nat := popL (rowOf g i) (wth (rowOf g i) (gOf os i)) (ordG (rowOf g i) (gOf os k))
theorem mem_outs {g : List (List Int)} {os : List Nat} {i n k x : Nat} (hk : k < n) (hki : k ≠ i) (hx : x ∈ pop g os i k) : x ∈ hidL g os n i := by
  refine (srt_perm _).mem_iff.mpr (List.mem_flatMap.mpr ⟨k, List.mem_range.mpr hk, ?_⟩)
  rw [if_neg hki]
  exact hx
/-- what is hidden leaves no envy -/
theorem told_calm {g : List (List Int)} {os : List Nat} {n m i k : Nat} (h : Good g n m) (hi : i < n) (hk : k < n) (hki : k ≠ i) : wth (rowOf g i) (seen (hidL g os n i) (gOf os k)) ≤ wth (rowOf g i) (gOf os i) := by
  obtain ⟨r, hr, hr2, _⟩ := row_of h hi
  have h0 : ∀ j, 0 ≤ (rowOf g i).getD j 0 := fun j => by
    show 0 ≤ (g.getD i []).getD j 0
    rw [hr2]
    exact get_nonneg h (List.mem_of_getElem? hr) j
  have own0 := wth_nonneg h0 (gOf os i)
  obtain ⟨e1, e2, _⟩ := popL_spec (rowOf g i) (wth (rowOf g i) (gOf os i)) own0 (ordG (rowOf g i) (gOf os k))
  have e3 : wth (rowOf g i) (seen (hidL g os n i) (gOf os k)) ≤ wth (rowOf g i) (seen (pop g os i k) (gOf os k)) := by
    refine wth_mono h0 (fun x hx => ?_) _
    simp only [Bool.not_eq_true', List.contains_eq_mem, decide_eq_false_iff_not] at hx ⊢
    exact fun hm => hx (mem_outs hk hki hm)
  have e4 : pop g os i k = (ordG (rowOf g i) (gOf os k)).take (pop g os i k).length := e1
  rw [e4, wth_seen_take] at e3
  exact Int.le_trans e3 e2
theorem two_filters {α : Type} (p q : α → Bool) (hd : ∀ x, p x = true → q x = true → False) : ∀ l : List α, (l.filter p).length + (l.filter q).length = (l.filter fun x => p x || q x).length
  | [] => rfl
  | x :: l => by
    have ih := two_filters p q hd l
    rw [List.filter_cons, List.filter_cons, List.filter_cons]
    cases hp : p x <;> cases hq : q x
    · simpa using ih
    · simp; omega
    · simp; omega
    · exact (hd x hp hq).elim
def upTo (os : List Nat) (k x : Nat) : Bool := match os[x]? with
  | some o => decide (o < k)
  | none => false
/-- who is calm has so many hidden -/
theorem calm_len {g : List (List Int)} {os hs : List Nat} {n m i : Nat} (h : Good g n m) (hi : i < n) (hn : hs.Nodup) (hc : ∀ k, k < n → k ≠ i → wth (rowOf g i) (seen hs (gOf os k)) ≤ wth (rowOf g i) (gOf os i)) :
    ∀ k, k ≤ n → (outs g os i k).length ≤ (hs.filter (upTo os k)).length
  | 0, _ => Nat.zero_le _
  | k + 1, hk => by
    obtain ⟨r, hr, hr2, _⟩ := row_of h hi
    have h0 : ∀ j, 0 ≤ (rowOf g i).getD j 0 := fun j => by
      show 0 ≤ (g.getD i []).getD j 0
      rw [hr2]
      exact get_nonneg h (List.mem_of_getElem? hr) j
    have own0 := wth_nonneg h0 (gOf os i)
    have ih := calm_len h hi hn hc k (by omega)
    have e1 := two_filters (upTo os k) (fun x => decide (os[x]? = some k)) (fun x h1 h2 => by
      unfold upTo at h1
      rw [of_decide_eq_true h2] at h1
      simp at h1) hs
    have e2 : (hs.filter fun x => upTo os k x || decide (os[x]? = some k)) = hs.filter (upTo os (k + 1)) := by
      refine List.filter_congr fun x _ => ?_
      unfold upTo
      cases e : os[x]? with
      | none => simp
      | some o =>
        simp only [Option.some.injEq]
        rw [Bool.eq_iff_iff]
        simp
        omega
    rw [e2] at e1
    rw [outs_succ, List.length_append]
    have e3 : (if k = i then [] else popL (rowOf g i) (wth (rowOf g i) (gOf os i)) (ordG (rowOf g i) (gOf os k))).length ≤ (hs.filter fun x => decide (os[x]? = some k)).length := by
      by_cases hki : k = i
      · rw [if_pos hki]; exact Nat.zero_le _
      · rw [if_neg hki]
        obtain ⟨_, _, e5⟩ := popL_spec (rowOf g i) (wth (rowOf g i) (gOf os i)) own0 (ordG (rowOf g i) (gOf os k))
        have e6 := left_ge h0 (fun x => hs.contains x) (ordG_desc (rowOf g i) (gOf os k))
        have e7 : wth (rowOf g i) ((ordG (rowOf g i) (gOf os k)).filter fun x => !hs.contains x) = wth (rowOf g i) (seen hs (gOf os k)) := wth_perm (seen_perm (ordG_perm _ _))
        have e8 := hc k (by omega) hki
        have e9 : ((ordG (rowOf g i) (gOf os k)).filter fun x => hs.contains x).length = (hs.filter fun x => decide (os[x]? = some k)).length := by
          refine List.Perm.length_eq ?_
          refine (List.perm_ext_iff_of_nodup (nodup_filt (ordG_nodup _ _ _) _) (nodup_filt hn _)).mpr fun x => ?_
          rw [List.mem_filter, List.mem_filter, (ordG_perm _ _).mem_iff]
          unfold gOf gUp
          rw [List.mem_filter, List.mem_range]
          simp only [List.contains_eq_mem, decide_eq_true_eq]
          constructor
          · exact fun ⟨⟨_, a⟩, b⟩ => ⟨b, a⟩
          · exact fun ⟨b, a⟩ => ⟨⟨(List.getElem?_eq_some_iff.mp a).1, a⟩, b⟩
        rw [← e9]
        refine Nat.le_of_not_lt fun hlt => ?_
        have := e5 _ hlt
        rw [e7] at e6
        omega
    omega
/-- nothing smaller leaves one calm -/
theorem small_envy {g : List (List Int)} {os hs : List Nat} {n m i : Nat} (h : Good g n m) (hi : i < n) (hn : hs.Nodup) (hl : hs.length < (hidL g os n i).length) : ∃ k, k < n ∧ k ≠ i ∧ wth (rowOf g i) (gOf os i) < wth (rowOf g i) (seen hs (gOf os k)) := by
  refine Classical.byContradiction fun hne => ?_
  have := calm_len h hi hn (fun k hk hki => Int.not_lt.mp fun hlt => hne ⟨k, hk, hki, hlt⟩) n (Nat.le_refl n)
  have h2 := List.length_filter_le (upTo os n) hs
  have h3 := (srt_perm (outs g os i n)).length_eq
  unfold hidL at hl
  omega
/-- the first size that leaves no envy -/
theorem first_size {g : List (List Int)} {os : List Nat} {n m i k : Nat} (h : Good g n m) (hi : i < n) : ((List.range ((ordG (rowOf g i) (gOf os k)).length + 1)).filter fun s => !decide (wth (rowOf g i) (gOf os i) < wth (rowOf g i) (seen ((ordG (rowOf g i) (gOf os k)).take s) (gOf os k)))).head? = some (pop g os i k).length := by
  obtain ⟨r, hr, hr2, _⟩ := row_of h hi
  have h0 : ∀ j, 0 ≤ (rowOf g i).getD j 0 := fun j => by
    show 0 ≤ (g.getD i []).getD j 0
    rw [hr2]
    exact get_nonneg h (List.mem_of_getElem? hr) j
  have own0 := wth_nonneg h0 (gOf os i)
  obtain ⟨_, e2, e3⟩ := popL_spec (rowOf g i) (wth (rowOf g i) (gOf os i)) own0 (ordG (rowOf g i) (gOf os k))
  have e4 := popL_len (rowOf g i) (wth (rowOf g i) (gOf os i)) (ordG (rowOf g i) (gOf os k))
  rw [List.head?_filter]
  refine List.find?_range_eq_some.mpr ⟨?_, ?_, ?_⟩
  · simp only [Bool.not_eq_true', decide_eq_false_iff_not]
    rw [wth_seen_take]
    exact Int.not_lt.mpr e2
  · exact List.mem_range.mpr (Nat.lt_succ_of_le e4)
  · intro j hj
    simp only [Bool.not_not, decide_eq_true_eq]
    rw [wth_seen_take]
    exact e3 j hj
theorem all_hides {g : List (List Int)} {os : List Nat} {n m : Nat} (h : Good g n m) (ho : Own os n m) : hides g os (List.range m) n = true := by
  unfold hides objP
  rw [Option.isNone_iff_eq_none, List.findSome?_eq_none_iff]
  intro i hi
  rw [List.findSome?_eq_none_iff]
  intro k hk
  obtain ⟨r, hr, hr2, _⟩ := row_of h (List.mem_range.mp hi)
  have e : envy g os (List.range m) i k = false := by
    unfold envy
    have h1 : seen (List.range m) (gOf os k) = [] := List.filter_eq_nil_iff.mpr fun x hx => by
      have := gOf_lt ho hx
      simp [this]
    rw [h1, hr2]
    have := wth_nonneg (get_nonneg h (List.mem_of_getElem? hr)) (gOf os i)
    rw [decide_eq_false (p := wth r (gOf os i) < wth r []) (Int.not_lt.mpr this), Bool.and_false]
  rw [e]; rfl
theorem range_set : ∀ m < 7, List.range m ∈ setsL m := by decide +kernel
theorem least_head {g : List (List Int)} {os : List Nat} {n m : Nat} (h : Good g n m) (hm : m ≤ 6) (ho : Own os n m) : ∃ l, (setsL m).filter (fun r => hides g os r n) = (leastL g os n m).getD (List.range m) :: l := by
  have e1 : ((setsL m).filter fun r => hides g os r n).head? = leastL g os n m := by
    rw [List.head?_filter]
    unfold setsL leastL
    exact List.find?_flatMap
  have e2 : List.range m ∈ (setsL m).filter fun r => hides g os r n := List.mem_filter.mpr ⟨range_set m (by omega), all_hides h ho⟩
  cases e3 : (setsL m).filter fun r => hides g os r n with
  | nil => rw [e3] at e2; cases e2
  | cons x l =>
    rw [e3] at e1
    rw [← e1]
    exact ⟨l, rfl⟩
end D71
namespace D71
open PySem PySem.Spec PyProof.Rows L2 Fx
/-! ### bad games and bad owners -/
theorem wishB_mem {n : Int} {ds : List PyData} {x : PyData} (hx : x ∈ ds) (hb : wishI x = false) : wishB n (.tuple ds) = false := by
  unfold wishB
  dsimp only
  rw [show ds.all wishI = false from Bool.eq_false_iff.mpr fun h => by rw [List.all_eq_true.mp h x hx] at hb; cases hb]
  exact Bool.and_false _
theorem gameB_mem {ds : List PyData} {x : PyData} (hx : x ∈ ds) (hb : ∀ n, wishB n x = false) : gameB (.tuple ds) = false := by
  unfold gameB
  split
  · rename_i r0 rs e
    cases e
    rw [show (PyData.tuple r0 :: rs).all (wishB r0.length) = false from Bool.eq_false_iff.mpr fun h => by
      have := List.all_eq_true.mp h x hx
      rw [hb] at this; cases this]
    simp
  · rfl
theorem gameB_wide {g : List (List Int)} {n m : Nat} (h : Good g n m) {r : List PyData} (hr : r.length ≠ m) : gameB (.tuple (g.map rowD ++ [.tuple r])) = false := by
  obtain ⟨r0, rs, rfl, h0⟩ := h.first
  show gameB (.tuple (.tuple (r0.map .int) :: (rs.map rowD ++ [.tuple r]))) = false
  unfold gameB
  dsimp only
  rw [show (PyData.tuple (r0.map PyData.int) :: (rs.map rowD ++ [.tuple r])).all (wishB (r0.map PyData.int).length) = false from Bool.eq_false_iff.mpr fun e => by
    have := List.all_eq_true.mp e (.tuple r) (by simp)
    unfold wishB at this
    dsimp only at this
    rw [decide_eq_false (by rw [List.length_map]; omega), Bool.false_and] at this
    cases this]
  simp
theorem fitB_mem {n m : Nat} {ds : List PyData} {x : PyData} (hx : x ∈ ds) (hb : ownI n x = false) : fitB n m (.tuple ds) = false := by
  unfold fitB
  dsimp only
  rw [show ds.all (ownI n) = false from Bool.eq_false_iff.mpr fun h => by rw [List.all_eq_true.mp h x hx] at hb; cases hb]
  exact Bool.and_false _
theorem fitB_len {n m : Nat} {ds : List PyData} (h : ds.length ≠ m) : fitB n m (.tuple ds) = false := by
  unfold fitB
  dsimp only
  rw [decide_eq_false h, Bool.false_and]
theorem cutA_len {α : Type} (xs : List α) (a b : Option Int) : (cutA xs a b).length ≤ xs.length := by
  unfold cutA
  rw [List.length_take, List.length_drop]
  omega
theorem rep_one (x : PyData) (k : Nat) : rep [x] k = List.replicate k x := by
  unfold rep
  rw [Int.toNat_natCast]
  induction k with
  | zero => rfl
  | succ k ih => rw [List.replicate_succ, List.flatten_cons, ih, List.replicate_succ]; rfl
theorem mulT {G : Gm} {x : PyData} {f : Gm → Res Rv} {k : Nat} (hf : f G = .ok (.d (natD k)) G) (h1 : 1 ≤ k) (h2 : k ≤ 1000) : fOp2 kMul (fTup (fCons (fC x) fNil)) f G = .ok (.d (.tuple (List.replicate k x))) G := by
  refine op_ev (G1 := G) (a := .d (.tuple [x])) rfl hf ?_
  show (if decide ([x].length ≤ 1000) && decide ((1 : Int) ≤ (k : Int)) && decide ((k : Int) ≤ 1000) && decide ([x] ≠ []) then Res.ok (Rv.d (.tuple (rep [x] k))) G else .bad) = _
  rw [if_pos (by simp; omega), rep_one]
theorem mulL {G : Gm} {x : PyData} {f : Gm → Res Rv} {k : Nat} (hf : f G = .ok (.d (natD k)) G) (h2 : k ≤ 1000) : fOp2 kMul (fLst (fCons (fC x) fNil)) f G = .ok (.new (.lst (List.replicate k x))) G := by
  refine op_ev (G1 := G) (a := .new (.lst [x])) rfl hf ?_
  show (if decide ([x].length ≤ 1000) && decide ((0 : Int) ≤ (k : Int)) && decide ((k : Int) ≤ 1000) then Res.ok (Rv.new (.lst (rep [x] k))) G else .bad) = _
  rw [if_pos (by simp; omega), rep_one]
/-- all but the last, and another -/
theorem cutAdd {G : Gm} {f fx : Gm → Res Rv} {ds : List PyData} {r : Rv} {d : PyData} (hf : f G = .ok (.d (.tuple ds)) G) (hl : ds.length ≤ 1000) (hx : fx G = .ok r G) (hr : retain G r = some (d, G)) :
    fOp2 kAdd (fSlice f fNoPart (fPart (fUn kNeg (fC (.int 1))))) (fTup (fCons fx fNil)) G = .ok (.d (.tuple (cutA ds none (some (-1)) ++ [d]))) G := by
  have hs : fSlice f fNoPart (fPart (fUn kNeg (fC (.int 1)))) G = .ok (.d (.tuple (cutA ds none (some (-1))))) G := by
    unfold fSlice
    rw [hf]; rfl
  have ht : fTup (fCons fx fNil) G = .ok (.d (.tuple [d])) G := by
    unfold fTup
    rw [show fCons fx fNil G = .ok [r] G from cons_ev hx rfl, Res.bind_ok]
    unfold Fx.kTup retainAll
    rw [hr]
    rfl
  refine op_ev hs ht (kAdd_t rfl rfl ?_)
  have := cutA_len ds none (some (-1))
  show _ + 1 ≤ _
  omega
theorem allAdd {G : Gm} {f fx : Gm → Res Rv} {ds : List PyData} {r : Rv} {d : PyData} (hf : f G = .ok (.d (.tuple ds)) G) (hl : ds.length ≤ 1000) (hx : fx G = .ok r G) (hr : retain G r = some (d, G)) :
    fOp2 kAdd f (fTup (fCons fx fNil)) G = .ok (.d (.tuple (ds ++ [d]))) G := by
  have ht : fTup (fCons fx fNil) G = .ok (.d (.tuple [d])) G := by
    unfold fTup
    rw [show fCons fx fNil G = .ok [r] G from cons_ev hx rfl, Res.bind_ok]
    unfold Fx.kTup retainAll
    rw [hr]
    rfl
  refine op_ev hf ht (kAdd_t rfl rfl ?_)
  show _ + 1 ≤ _
  omega
theorem mem_rep {k : Nat} (h : 1 ≤ k) (x : PyData) : x ∈ List.replicate k x := List.mem_replicate.mpr ⟨by omega, rfl⟩
theorem pickAll {p : PyData → Prop} {ds : List PyData} {r : Nat} (h : ∀ d ∈ ds, p d) (hr : r < ds.length) : ∃ d, p d ∧ atI ds (r : Int) = some d :=
  ⟨ds[r], h _ (List.getElem_mem hr), atI_natL (List.getElem?_eq_getElem hr)⟩
theorem badgame_ev {g : List (List Int)} {n m : Nat} {D : List PyData} (h : Good g n m) (hD : Dr D) : ∃ d D', gameB d = false ∧ Dr D' ∧ F_law_bad_game [.x (.lst D), .d (gameD g)] = .ok (.d d) [.x (.lst D'), .d (gameD g)] := by
  have m10 := h.m10
  have m1 := h.m1
  have n6 := h.n6
  have gl : (g.map rowD).length ≤ 1000 := by rw [List.length_map, h.len]; omega
  have len0 : ∀ s, (fCallK kLen (fCons (fOp2 kIdx (fVar 1) (fC (.int 0))) fNil)) [.x (.lst D), .d (gameD g), s] = .ok (.d (natD m)) [.x (.lst D), .d (gameD g), s] := fun s => g0_ev h (f := fVar 1) rfl
  have len1 : (fOp2 kAdd (fCallK kLen (fCons (fOp2 kIdx (fVar 1) (fC (.int 0))) fNil)) (fC (.int 1))) [.x (.lst D), .d (gameD g), .no] = .ok (.d (natD (m + 1))) [.x (.lst D), .d (gameD g), .no] := op_ev (len0 _) rfl rfl
  have e1 : (sSet 2 (fLst (fCons (fC .none) (fCons (fTup fNil) (fCons (fC (.int 5)) (fCons (fCallK kList (fCons (fVar 1) fNil)) (fCons (fTup (fCons (fTup fNil) fNil)) (fCons (fOp2 kAdd (fVar 1) (fTup (fCons (fOp2 kMul (fTup (fCons (fC (.int 1)) fNil)) (fOp2 kAdd (fCallK kLen (fCons (fOp2 kIdx (fVar 1) (fC (.int 0))) fNil)) (fC (.int 1)))) fNil))) (fCons (fOp2 kAdd (fSlice (fVar 1) fNoPart (fPart (fUn kNeg (fC (.int 1))))) (fTup (fCons (fOp2 kMul (fTup (fCons (fC (.int 0)) fNil)) (fCallK kLen (fCons (fOp2 kIdx (fVar 1) (fC (.int 0))) fNil))) fNil))) (fCons (fOp2 kAdd (fSlice (fVar 1) fNoPart (fPart (fUn kNeg (fC (.int 1))))) (fTup (fCons (fOp2 kMul (fTup (fCons (fC (.int 1001)) fNil)) (fCallK kLen (fCons (fOp2 kIdx (fVar 1) (fC (.int 0))) fNil))) fNil))) fNil))))))))))
      [.x (.lst D), .d (gameD g), .no] = .ok .nx [.x (.lst D), .d (gameD g), .l (.lst [.none, .tuple [], .int 5, .list (g.map rowD), .tuple [.tuple []], .tuple (g.map rowD ++ [.tuple (List.replicate (m + 1) (.int 1))]), .tuple (cutA (g.map rowD) none (some (-1)) ++ [.tuple (List.replicate m (.int 0))]), .tuple (cutA (g.map rowD) none (some (-1)) ++ [.tuple (List.replicate m (.int 1001))])])] := by
    refine set_new (G1 := [.x (.lst D), .d (gameD g), .no]) (lst_ev (cons_ev rfl (cons_ev rfl (cons_ev rfl (cons_ev rfl (cons_ev rfl (cons_ev (allAdd rfl gl (mulT len1 (by omega) (by omega)) rfl) (cons_ev (cutAdd rfl gl (mulT (len0 _) (by omega) (by omega)) rfl) (cons_ev (cutAdd rfl gl (mulT (len0 _) (by omega) (by omega)) rfl) rfl)))))))) rfl)
  have e2 : (sSet 2 (fOp2 kAdd (fVar 2) (fLst (fCons (fOp2 kMul (fTup (fCons (fTup (fCons (fC (.int 1)) fNil)) fNil)) (fC (.int 7))) (fCons (fTup (fCons (fOp2 kMul (fTup (fCons (fC (.int 1)) fNil)) (fC (.int 11))) fNil)) (fCons (fOp2 kAdd (fSlice (fVar 1) fNoPart (fPart (fUn kNeg (fC (.int 1))))) (fTup (fCons (fOp2 kMul (fLst (fCons (fC (.int 1)) fNil)) (fCallK kLen (fCons (fOp2 kIdx (fVar 1) (fC (.int 0))) fNil))) fNil))) (fCons (fOp2 kAdd (fSlice (fVar 1) fNoPart (fPart (fUn kNeg (fC (.int 1))))) (fTup (fCons (fOp2 kMul (fTup (fCons (fC (.bool true)) fNil)) (fCallK kLen (fCons (fOp2 kIdx (fVar 1) (fC (.int 0))) fNil))) fNil))) (fCons (fC (.str (Str.ofString "game"))) fNil))))))))
      [.x (.lst D), .d (gameD g), .l (.lst [.none, .tuple [], .int 5, .list (g.map rowD), .tuple [.tuple []], .tuple (g.map rowD ++ [.tuple (List.replicate (m + 1) (.int 1))]), .tuple (cutA (g.map rowD) none (some (-1)) ++ [.tuple (List.replicate m (.int 0))]), .tuple (cutA (g.map rowD) none (some (-1)) ++ [.tuple (List.replicate m (.int 1001))])])]
      = .ok .nx [.x (.lst D), .d (gameD g), .l (.lst [.none, .tuple [], .int 5, .list (g.map rowD), .tuple [.tuple []], .tuple (g.map rowD ++ [.tuple (List.replicate (m + 1) (.int 1))]), .tuple (cutA (g.map rowD) none (some (-1)) ++ [.tuple (List.replicate m (.int 0))]), .tuple (cutA (g.map rowD) none (some (-1)) ++ [.tuple (List.replicate m (.int 1001))]),
        .tuple (List.replicate 7 (.tuple [.int 1])), .tuple [.tuple (List.replicate 11 (.int 1))], .tuple (cutA (g.map rowD) none (some (-1)) ++ [.list (List.replicate m (.int 1))]), .tuple (cutA (g.map rowD) none (some (-1)) ++ [.tuple (List.replicate m (.bool true))]), .str (Str.ofString "game")])] := by
    refine set_new (G1 := [.x (.lst D), .d (gameD g), .l (.lst [.none, .tuple [], .int 5, .list (g.map rowD), .tuple [.tuple []], .tuple (g.map rowD ++ [.tuple (List.replicate (m + 1) (.int 1))]), .tuple (cutA (g.map rowD) none (some (-1)) ++ [.tuple (List.replicate m (.int 0))]), .tuple (cutA (g.map rowD) none (some (-1)) ++ [.tuple (List.replicate m (.int 1001))])])]) (op_ev rfl (lst_ev (cons_ev rfl (cons_ev rfl (cons_ev (cutAdd rfl gl (mulL (len0 _) (by omega)) rfl) (cons_ev (cutAdd rfl gl (mulT (len0 _) (by omega) (by omega)) rfl) (cons_ev rfl rfl))))) rfl) ?_)
    refine Eq.trans (kAdd_l rfl rfl ?_) rfl
    show 8 + 5 ≤ 16777216
    omega
  obtain ⟨r, D', hD', hr, e3⟩ := takeC (G := [.x (.lst D), .d (gameD g), .l (.lst [.none, .tuple [], .int 5, .list (g.map rowD), .tuple [.tuple []], .tuple (g.map rowD ++ [.tuple (List.replicate (m + 1) (.int 1))]), .tuple (cutA (g.map rowD) none (some (-1)) ++ [.tuple (List.replicate m (.int 0))]), .tuple (cutA (g.map rowD) none (some (-1)) ++ [.tuple (List.replicate m (.int 1001))]),
        .tuple (List.replicate 7 (.tuple [.int 1])), .tuple [.tuple (List.replicate 11 (.int 1))], .tuple (cutA (g.map rowD) none (some (-1)) ++ [.list (List.replicate m (.int 1))]), .tuple (cutA (g.map rowD) none (some (-1)) ++ [.tuple (List.replicate m (.bool true))]), .str (Str.ofString "game")])]) (i := 0) (fm := fC (.int 13)) (many := 13) rfl rfl rfl hD (by omega) (by omega)
  obtain ⟨d, hd, e4⟩ := pickAll (p := fun d => gameB d = false) (ds := [.none, .tuple [], .int 5, .list (g.map rowD), .tuple [.tuple []], .tuple (g.map rowD ++ [.tuple (List.replicate (m + 1) (.int 1))]), .tuple (cutA (g.map rowD) none (some (-1)) ++ [.tuple (List.replicate m (.int 0))]), .tuple (cutA (g.map rowD) none (some (-1)) ++ [.tuple (List.replicate m (.int 1001))]),
        .tuple (List.replicate 7 (.tuple [.int 1])), .tuple [.tuple (List.replicate 11 (.int 1))], .tuple (cutA (g.map rowD) none (some (-1)) ++ [.list (List.replicate m (.int 1))]), .tuple (cutA (g.map rowD) none (some (-1)) ++ [.tuple (List.replicate m (.bool true))]), .str (Str.ofString "game")]) (r := r) (fun d hd => by
    simp only [List.mem_cons, List.not_mem_nil, or_false] at hd
    rcases hd with rfl | rfl | rfl | rfl | rfl | rfl | rfl | rfl | rfl | rfl | rfl | rfl | rfl
    · rfl
    · rfl
    · rfl
    · rfl
    · rfl
    · exact gameB_wide h (by rw [List.length_replicate]; omega)
    · exact gameB_mem (List.mem_append_right _ List.mem_cons_self) fun _ => wishB_mem (mem_rep m1 _) rfl
    · exact gameB_mem (List.mem_append_right _ List.mem_cons_self) fun _ => wishB_mem (mem_rep m1 _) rfl
    · rfl
    · rfl
    · exact gameB_mem (List.mem_append_right _ List.mem_cons_self) fun _ => rfl
    · exact gameB_mem (List.mem_append_right _ List.mem_cons_self) fun _ => wishB_mem (mem_rep m1 _) rfl
    · rfl) hr
  refine ⟨d, D', hd, hD', ?_⟩
  exact run_d _ (seq_go e1 (seq_go e2 (ret_ev (idx_ev rfl e3 (.inr rfl) rfl e4))))
end D71
namespace D71
open PySem PySem.Spec PyProof.Rows L2 Fx
theorem badown_ev {g : List (List Int)} {os : List Nat} {n m : Nat} {D : List PyData} (h : Good g n m) (ho : Own os n m) (hD : Dr D) : ∃ d D', fitB n m d = false ∧ Dr D' ∧ F_law_bad_owners [.x (.lst D), .d (gameD g), .d (osD os)] = .ok (.d d) [.x (.lst D'), .d (gameD g), .d (osD os)] := by
  have m10 := h.m10
  have m1 := h.m1
  have n6 := h.n6
  have ol : (os.map natD).length ≤ 1000 := by rw [List.length_map, ho.len]; omega
  have e1 : (fLst (fCons (fC .none) (fCons (fTup fNil) (fCons (fOp2 kAdd (fVar 2) (fTup (fCons (fC (.int 0)) fNil))) (fCons (fCallK kList (fCons (fVar 2) fNil)) (fCons (fOp2 kAdd (fSlice (fVar 2) fNoPart (fPart (fUn kNeg (fC (.int 1))))) (fTup (fCons (fCallK kLen (fCons (fVar 1) fNil)) fNil))) (fCons (fOp2 kAdd (fSlice (fVar 2) fNoPart (fPart (fUn kNeg (fC (.int 1))))) (fTup (fCons (fUn kNeg (fC (.int 1))) fNil))) (fCons (fOp2 kMul (fTup (fCons (fC .none) fNil)) (fCallK kLen (fCons (fVar 2) fNil))) (fCons (fC (.str (Str.ofString "0"))) fNil)))))))))
      [.x (.lst D), .d (gameD g), .d (osD os)] = .ok (.new (.lst [.none, .tuple [], .tuple (os.map natD ++ [.int 0]), .list (os.map natD), .tuple (cutA (os.map natD) none (some (-1)) ++ [natD n]), .tuple (cutA (os.map natD) none (some (-1)) ++ [.int (-1)]), .tuple (List.replicate m .none), .str (Str.ofString "0")])) [.x (.lst D), .d (gameD g), .d (osD os)] :=
    lst_ev (cons_ev rfl (cons_ev rfl (cons_ev (allAdd rfl ol rfl rfl) (cons_ev rfl (cons_ev (cutAdd rfl ol (lenG_ev h (f := fVar 1) rfl) rfl) (cons_ev (cutAdd rfl ol rfl rfl) (cons_ev (mulT (lenO_ev ho (f := fVar 2) rfl) m1 (by omega)) (cons_ev rfl rfl)))))))) rfl
  obtain ⟨r, D', hD', hr, e3⟩ := takeC (G := [.x (.lst D), .d (gameD g), .d (osD os)]) (i := 0) (fm := fC (.int 8)) (many := 8) rfl rfl rfl hD (by omega) (by omega)
  obtain ⟨d, hd, e4⟩ := pickAll (p := fun d => fitB n m d = false) (ds := [.none, .tuple [], .tuple (os.map natD ++ [.int 0]), .list (os.map natD), .tuple (cutA (os.map natD) none (some (-1)) ++ [natD n]), .tuple (cutA (os.map natD) none (some (-1)) ++ [.int (-1)]), .tuple (List.replicate m .none), .str (Str.ofString "0")]) (r := r) (fun d hd => by
    simp only [List.mem_cons, List.not_mem_nil, or_false] at hd
    rcases hd with rfl | rfl | rfl | rfl | rfl | rfl | rfl | rfl
    · rfl
    · exact fitB_len (by show 0 ≠ m; omega)
    · exact fitB_len (by rw [List.length_append, List.length_map, ho.len]; show m + 1 ≠ m; omega)
    · rfl
    · exact fitB_mem (List.mem_append_right _ List.mem_cons_self) (by
        show (decide ((0 : Int) ≤ (n : Int)) && decide ((n : Int) < n)) = false
        rw [decide_eq_false (p := (n : Int) < n) (by omega), Bool.and_false])
    · exact fitB_mem (List.mem_append_right _ List.mem_cons_self) rfl
    · exact fitB_mem (mem_rep m1 _) rfl
    · rfl) hr
  exact ⟨d, D', hd, hD', run_d _ (ret_ev (idx_ev e1 e3 (.inr rfl) rfl e4))⟩
/-! ### the words of bad calls -/
def Odd (g : List (List Int)) (d : PyData) : Prop := F_is_hidden [.d (gameD g), .d d] = .ok (.d (.bool false)) [.d (gameD g), .d d]
theorem odd_int {g : List (List Int)} {n m : Nat} (h : Good g n m) (ns : List Int) (hl : ns.length ≤ 1000) (hb : hidI m ns = false) : Odd g (.tuple (ns.map .int)) := by
  unfold Odd
  rw [hid_int h ns hl, hb]
theorem odds_ev {g : List (List Int)} {n m : Nat} {D : List PyData} {G : Gm} (h : Good g n m) (hm : fVar 4 G = .ok (.d (natD m)) G) (h1 : fVar 1 G = .ok (.own 1) G) (h2 : mutAt G 1 = some (.lst D)) (hD : Dr D) : ∃ d D', Odd g d ∧ Dr D' ∧ (fOp2 kIdx (fLst (fCons (fC .none) (fCons (fLst (fCons (fC (.int 0)) fNil)) (fCons (fTup (fCons (fVar 4) fNil)) (fCons (fTup (fCons (fUn kNeg (fC (.int 1))) fNil)) (fCons (fTup (fCons (fC (.int 0)) (fCons (fC (.int 0)) fNil))) (fCons (fTup (fCons (fC (.bool true)) fNil)) (fCons (fC (.str (Str.ofString "0"))) (fCons (fC (.int 0)) fNil))))))))) (fCallK (kCallM F_law_take) (fCons (fVar 1) (fCons (fC (.int 8)) fNil)))) G = .ok (.d d) (setOwn G 1 (.lst D')) := by
  have e0 : (fTup (fCons (fVar 4) fNil)) G = .ok (.d (.tuple [natD m])) G := by
    unfold fTup
    rw [show fCons (fVar 4) fNil G = .ok [.d (natD m)] G from cons_ev hm rfl]
    rfl
  have e1 : (fLst (fCons (fC .none) (fCons (fLst (fCons (fC (.int 0)) fNil)) (fCons (fTup (fCons (fVar 4) fNil)) (fCons (fTup (fCons (fUn kNeg (fC (.int 1))) fNil)) (fCons (fTup (fCons (fC (.int 0)) (fCons (fC (.int 0)) fNil))) (fCons (fTup (fCons (fC (.bool true)) fNil)) (fCons (fC (.str (Str.ofString "0"))) (fCons (fC (.int 0)) fNil))))))))) G
      = .ok (.new (.lst [.none, .list [.int 0], .tuple [natD m], .tuple [.int (-1)], .tuple [.int 0, .int 0], .tuple [.bool true], .str (Str.ofString "0"), .int 0])) G :=
    lst_ev (cons_ev rfl (cons_ev rfl (cons_ev e0 (cons_ev rfl (cons_ev rfl (cons_ev rfl (cons_ev rfl (cons_ev rfl rfl)))))))) rfl
  obtain ⟨r, D', hD', hr, e3⟩ := takeC (G := G) (i := 1) (fm := fC (.int 8)) (many := 8) h1 h2 rfl hD (by omega) (by omega)
  obtain ⟨d, hd, e4⟩ := pickAll (p := Odd g) (ds := [.none, .list [.int 0], .tuple [natD m], .tuple [.int (-1)], .tuple [.int 0, .int 0], .tuple [.bool true], .str (Str.ofString "0"), .int 0]) (r := r) (fun d hd => by
    simp only [List.mem_cons, List.not_mem_nil, or_false] at hd
    rcases hd with rfl | rfl | rfl | rfl | rfl | rfl | rfl | rfl
    · rfl
    · rfl
    · exact odd_int h [(m : Int)] (by simp) (by unfold hidI; simp)
    · exact odd_int h [-1] (by simp) (by unfold hidI; simp)
    · exact odd_int h [0, 0] (by simp) (by unfold hidI; simp)
    · rfl
    · rfl
    · rfl) hr
  exact ⟨d, D', hd, hD', idx_ev e1 e3 (.inr rfl) rfl e4⟩
theorem op_ex {k : Gm → Rv → Rv → Res Rv} {fa fb : Gm → Res Rv} {G : Gm} {e : Exn} (h : fa G = .ex e) : fOp2 k fa fb G = .ex e := by
  unfold fOp2; rw [h]; rfl
theorem ret_ex {f : Gm → Res Rv} {G : Gm} {e : Exn} (h : f G = .ex e) : sRet f G = .ex e := by
  unfold sRet; rw [h]; rfl
theorem hide_ex {d v w : PyData} {e : Exn} (h : F_seen_objection [.d d, .d v, .d w] = .ex e) : F_does_hide [.d d, .d v, .d w] = .ex e :=
  run_ex (ret_ex (op_ex (call_ex [d, v, w] rfl h)))
theorem seen_bad {d v w : PyData} (h : F_check_share [.d d, .d v] = .ex .mal) : F_seen_objection [.d d, .d v, .d w] = .ex .mal :=
  run_ex (seq_ex (expr_ex (call_ex [d, v] rfl h)))
theorem least_bad {d v : PyData} (h : F_check_share [.d d, .d v] = .ex .mal) : F_least_hidden [.d d, .d v] = .ex .mal :=
  run_ex (seq_ex (expr_ex (call_ex [d, v] rfl h)))
theorem told_bad {d v : PyData} (h : F_check_share [.d d, .d v] = .ex .mal) : F_hidden_of [.d d, .d v] = .ex .mal :=
  run_ex (seq_ex (expr_ex (call_ex [d, v] rfl h)))
theorem seen_odd {g : List (List Int)} {os : List Nat} {n m : Nat} {w : PyData} (h : Good g n m) (ho : Own os n m) (hw : Odd g w) : F_seen_objection [.d (gameD g), .d (osD os), .d w] = .ex .mal := by
  have e1 : (sExpr (fCallK (kCall F_check_share) (fCons (fVar 0) (fCons (fVar 1) fNil)))) [.d (gameD g), .d (osD os), .d w, .no, .no, .no, .no, .no, .no, .no] = .ok .nx [.d (gameD g), .d (osD os), .d w, .no, .no, .no, .no, .no, .no, .no] := expr_ev (call_ev [gameD g, osD os] rfl (share_ok h ho.fit))
  exact run_ex ((seq_go e1 (seq_ex (if_t (not_ev (test_ev (call_ev [gameD g, w] rfl hw))) rfl rfl))))
theorem lcall_bad {d v w : PyData} (k : Nat) (hk : k < 4) (h : F_check_share [.d d, .d v] = .ex .mal) : F_law_call [.d (.tuple [natD k, d, v, w])] = .ex .mal := by
  match k, hk with
  | 0, _ => exact run_ex (seq_go (G1 := [.d (.tuple [natD 0, d, v, w]), .d (natD 0), .d d, .d v, .d w]) rfl (if_t (b := true) rfl rfl (expr_ex (call_ex [d, v, w] rfl (seen_bad h)))))
  | 1, _ => exact run_ex (seq_go (G1 := [.d (.tuple [natD 1, d, v, w]), .d (natD 1), .d d, .d v, .d w]) rfl (if_f (b := false) rfl rfl (if_t (b := true) rfl rfl (expr_ex (call_ex [d, v, w] rfl (hide_ex (seen_bad h)))))))
  | 2, _ => exact run_ex (seq_go (G1 := [.d (.tuple [natD 2, d, v, w]), .d (natD 2), .d d, .d v, .d w]) rfl (if_f (b := false) rfl rfl (if_f (b := false) rfl rfl (if_t (b := true) rfl rfl (expr_ex (call_ex [d, v] rfl (least_bad h)))))))
  | 3, _ => exact run_ex (seq_go (G1 := [.d (.tuple [natD 3, d, v, w]), .d (natD 3), .d d, .d v, .d w]) rfl (if_f (b := false) rfl rfl (if_f (b := false) rfl rfl (if_f (b := false) rfl rfl (expr_ex (call_ex [d, v] rfl (told_bad h)))))))
theorem lcall_odd {g : List (List Int)} {os : List Nat} {n m : Nat} {w : PyData} (k : Nat) (hk : k < 2) (h : Good g n m) (ho : Own os n m) (hw : Odd g w) : F_law_call [.d (.tuple [natD k, gameD g, osD os, w])] = .ex .mal := by
  match k, hk with
  | 0, _ => exact run_ex (seq_go (G1 := [.d (.tuple [natD 0, gameD g, osD os, w]), .d (natD 0), .d (gameD g), .d (osD os), .d w]) rfl (if_t (b := true) rfl rfl (expr_ex (call_ex [gameD g, osD os, w] rfl (seen_odd h ho hw)))))
  | 1, _ => exact run_ex (seq_go (G1 := [.d (.tuple [natD 1, gameD g, osD os, w]), .d (natD 1), .d (gameD g), .d (osD os), .d w]) rfl (if_f (b := false) rfl rfl (if_t (b := true) rfl rfl (expr_ex (call_ex [gameD g, osD os, w] rfl (hide_ex (seen_odd h ho hw)))))))
theorem lword_bad {c : PyData} (h : F_law_call [.d c] = .ex .mal) : F_law_word [.d c] = .ok (.d (.str "malformed")) [.d c] := by
  show wordF F_law_call [.d c] = _
  unfold wordF
  dsimp only
  rw [h]
end D71
namespace D71
open PySem PySem.Spec PyProof.Rows L2 Fx
/-! ### the law: four sets each -/
def bChk : Gm → Res Out := (sSeq (sSet 9 (fOp2 kIdx (fVar 5) (fCallK (kCallM F_law_take) (fCons (fVar 1) (fCons (fCallK kLen (fCons (fVar 5) fNil)) fNil)))))
  (sSeq (sSet 10 (fCallK (kCall F_law_objection) (fCons (fVar 2) (fCons (fVar 7) (fCons (fVar 9) fNil)))))
  (sSeq (sSet 11 (fCallK (kCall F_does_hide) (fCons (fVar 2) (fCons (fVar 7) (fCons (fVar 9) fNil)))))
  (sIf (tOr' (fTest (fOp2 kNe (fCallK (kCall F_seen_objection) (fCons (fVar 2) (fCons (fVar 7) (fCons (fVar 9) fNil)))) (fVar 10))) (tOr' (tNot' (fTest (fUn (kIsi "bool") (fVar 11)))) (fTest (fOp2 kNe (fVar 11) (fOp2 kIsN (fVar 10) (fC .none)))))) (sRet (fC (.bool false))) sNx))))
/-- the first twelve slots -/
abbrev hd (sc : PyData) (D : List PyData) (g : List (List Int)) (n m : Nat) (s6 : Sl) (os : List Nat) (s8 s9 s10 s11 : Sl) (tl : Gm) : Gm := .d sc :: .l (.lst D) :: .d (gameD g) :: .d (natD n) :: .d (natD m) :: .l (.lst ((setsL m).map osD)) :: s6 :: .d (osD os) :: s8 :: s9 :: s10 :: s11 :: tl
theorem ne_objD (G : Gm) (o : Option (Nat × Nat)) : kNe G (.d (objD o)) (.d (objD o)) = .ok (.d (.bool false)) G := by
  cases o with
  | none => rfl
  | some p =>
    obtain ⟨a, b⟩ := p
    show Fx.kF2 Fx.opNe G (.d (.tuple [natD a, natD b])) (.d (.tuple [natD a, natD b])) = _
    have e : PyData.eqv (.tuple [natD a, natD b]) (.tuple [natD a, natD b]) = true := by
      simp [PyData.eqv, PyData.eqvAll, eqv_nat]
    unfold Fx.kF2
    dsimp only [rd]
    unfold Fx.opNe
    rw [if_pos (by rfl), e]
    rfl
theorem sets_few : ∀ m < 7, 1 ≤ (setsL m).length ∧ (setsL m).length ≤ 1000 := by decide +kernel
theorem chk_ev {sc : PyData} {D : List PyData} {g : List (List Int)} {n m : Nat} {s6 : Sl} {os : List Nat} {s9 s10 s11 : Sl} {j : Nat} {tl : Gm} (h : Good g n m) (hm : m ≤ 6) (ho : Own os n m) (hD : Dr D) (p9 : Pl s9) (p10 : Fr s10) (p11 : Pl s11) :
    ∃ D' t9 t10 t11, Dr D' ∧ Pl t9 ∧ Pl t10 ∧ Pl t11 ∧ bChk (hd sc D g n m s6 os (.d (natD j)) s9 s10 s11 tl) = .ok .nx (hd sc D' g n m s6 os (.d (natD j)) t9 t10 t11 tl) := by
  obtain ⟨f1, f2⟩ := sets_few m (by omega)
  obtain ⟨r, D', hD', hr, e1⟩ := takeC (G := hd sc D g n m s6 os (.d (natD j)) s9 s10 s11 tl) (i := 1) (fm := fCallK kLen (fCons (fVar 5) fNil)) (many := (setsL m).length) rfl rfl (by
    show Res.ok (Rv.d (.int (((setsL m).map osD).length : Nat))) _ = _
    rw [List.length_map]; rfl) hD f1 (by omega)
  have hx : (setsL m)[r]? = some ((setsL m)[r]) := List.getElem?_eq_getElem hr
  have hh := setsL_hid hm (List.getElem_mem hr)
  refine ⟨D', .d (osD ((setsL m)[r])), .d (objD (objP g os ((setsL m)[r]) n)), .d (.bool (hides g os ((setsL m)[r]) n)), hD', .dd _, .dd _, .dd _, ?_⟩
  have t1 : sSet 9 (fOp2 kIdx (fVar 5) (fCallK (kCallM F_law_take) (fCons (fVar 1) (fCons (fCallK kLen (fCons (fVar 5) fNil)) fNil)))) (hd sc D g n m s6 os (.d (natD j)) s9 s10 s11 tl) = .ok .nx (hd sc D' g n m s6 os (.d (natD j)) (.d (osD ((setsL m)[r]))) s10 s11 tl) :=
    set_d (G1 := hd sc D' g n m s6 os (.d (natD j)) s9 s10 s11 tl) (idx_ev rfl e1 (.inr rfl) rfl (atI_natL (by rw [List.getElem?_map, hx]; rfl))) (by rcases p9 with rfl | ⟨_, rfl⟩ <;> rfl)
  have t2 : sSet 10 (fCallK (kCall F_law_objection) (fCons (fVar 2) (fCons (fVar 7) (fCons (fVar 9) fNil)))) (hd sc D' g n m s6 os (.d (natD j)) (.d (osD ((setsL m)[r]))) s10 s11 tl) = .ok .nx (hd sc D' g n m s6 os (.d (natD j)) (.d (osD ((setsL m)[r]))) (.d (objD (objP g os ((setsL m)[r]) n))) s11 tl) :=
    set_d (G1 := hd sc D' g n m s6 os (.d (natD j)) (.d (osD ((setsL m)[r]))) s10 s11 tl) (call_ev [gameD g, osD os, osD ((setsL m)[r])] rfl (obj_ev h ho)) (by rcases p10 with (rfl | ⟨_, rfl⟩) | ⟨_, rfl⟩ <;> rfl)
  have t3 : sSet 11 (fCallK (kCall F_does_hide) (fCons (fVar 2) (fCons (fVar 7) (fCons (fVar 9) fNil)))) (hd sc D' g n m s6 os (.d (natD j)) (.d (osD ((setsL m)[r]))) (.d (objD (objP g os ((setsL m)[r]) n))) s11 tl) = .ok .nx (hd sc D' g n m s6 os (.d (natD j)) (.d (osD ((setsL m)[r]))) (.d (objD (objP g os ((setsL m)[r]) n))) (.d (.bool (hides g os ((setsL m)[r]) n))) tl) :=
    set_d (G1 := hd sc D' g n m s6 os (.d (natD j)) (.d (osD ((setsL m)[r]))) (.d (objD (objP g os ((setsL m)[r]) n))) s11 tl) (call_ev [gameD g, osD os, osD ((setsL m)[r])] rfl (hide_ev h ho hh)) (by rcases p11 with rfl | ⟨_, rfl⟩ <;> rfl)
  have c : (tOr' (fTest (fOp2 kNe (fCallK (kCall F_seen_objection) (fCons (fVar 2) (fCons (fVar 7) (fCons (fVar 9) fNil)))) (fVar 10))) (tOr' (tNot' (fTest (fUn (kIsi "bool") (fVar 11)))) (fTest (fOp2 kNe (fVar 11) (fOp2 kIsN (fVar 10) (fC .none)))))) (hd sc D' g n m s6 os (.d (natD j)) (.d (osD ((setsL m)[r]))) (.d (objD (objP g os ((setsL m)[r]) n))) (.d (.bool (hides g os ((setsL m)[r]) n))) tl)
      = .ok (false || (false || false)) (hd sc D' g n m s6 os (.d (natD j)) (.d (osD ((setsL m)[r]))) (.d (objD (objP g os ((setsL m)[r]) n))) (.d (.bool (hides g os ((setsL m)[r]) n))) tl) := by
    refine or_ev (test_ev (op_ev (call_ev [gameD g, osD os, osD ((setsL m)[r])] rfl (seen_ev h ho hh)) rfl (ne_objD _ _))) fun _ => or_ev rfl fun _ => test_ev ?_
    have k1 : (fOp2 kIsN (fVar 10) (fC .none)) (hd sc D' g n m s6 os (.d (natD j)) (.d (osD ((setsL m)[r]))) (.d (objD (objP g os ((setsL m)[r]) n))) (.d (.bool (hides g os ((setsL m)[r]) n))) tl) = .ok (.d (.bool (hides g os ((setsL m)[r]) n))) (hd sc D' g n m s6 os (.d (natD j)) (.d (osD ((setsL m)[r]))) (.d (objD (objP g os ((setsL m)[r]) n))) (.d (.bool (hides g os ((setsL m)[r]) n))) tl) := by
      unfold hides
      rw [← isN_objD]
      rfl
    refine op_ev (G2 := (hd sc D' g n m s6 os (.d (natD j)) (.d (osD ((setsL m)[r]))) (.d (objD (objP g os ((setsL m)[r]) n))) (.d (.bool (hides g os ((setsL m)[r]) n))) tl)) (a := .d (.bool (hides g os ((setsL m)[r]) n))) rfl k1 ?_
    cases hides g os ((setsL m)[r]) n <;> rfl
  exact seq_go t1 (seq_go t2 (seq_go t3 (if_f c rfl rfl)))
def noK : Sl → Bool
  | .k _ => false
  | _ => true
theorem unlk_noK {t s : Sl} (h : noK s = true) : unlk t s = s := by
  cases s with
  | k o => cases h
  | _ => cases t <;> rfl
theorem unlock_noK : ∀ {G0 G : Gm}, G0.length = G.length → (∀ s ∈ G, noK s = true) → unlockAll G0 G = G
  | [], [], _, _ => rfl
  | [], _ :: _, e, _ => by cases e
  | _ :: _, [], e, _ => by cases e
  | a :: as, b :: bs, e, h => by
    show unlk a b :: unlockAll as bs = b :: bs
    rw [unlk_noK (h b List.mem_cons_self), unlock_noK (by simpa using e) fun s hs => h s (List.mem_cons_of_mem _ hs)]
theorem lock_nil (G : Gm) : lockAll G [] = G := by
  unfold lockAll
  refine List.ext_getElem? fun i => ?_
  rw [List.getElem?_mapIdx]
  cases G[i]? <;> rfl
/-- a loop over a range, no list held -/
theorem forRg {f : Gm → Res Rv} {body : Gm → Res Out} {v : Nat} (I : Nat → Gm → Prop) {G : Gm} (n : Nat) (hn : n ≤ 100000) (hf : f G = .ok (.d (natD n)) G) (h0 : I 0 G) (hI : ∀ G', I n G' → G.length = G'.length ∧ ∀ s ∈ G', noK s = true)
    (hs : ∀ j, j < n → ∀ G, I j G → ∃ G1, gN v (natD j) G = some G1 ∧ ∃ G2, body G1 = .ok .nx G2 ∧ I (j + 1) G2) : ∃ G', sFor (iRg1 f) (gN v) body G = .ok .nx G' ∧ I n G' := by
  have lp := loop_all (tg := gN v) (body := body) I (ds := (List.range n).map natD) (G := lockAll G []) (by rw [lock_nil]; exact h0) fun j d G ej hG => by
    rw [List.getElem?_map] at ej
    cases e : (List.range n)[j]? with
    | none => rw [e] at ej; cases ej
    | some k =>
      rw [e] at ej
      cases ej
      obtain ⟨hj, ek⟩ := List.getElem?_eq_some_iff.mp e
      rw [List.getElem_range] at ek
      subst ek
      obtain ⟨G1, e1, G2, e2, h2⟩ := hs _ (by simpa using hj) G hG
      exact ⟨G1, e1, G2, .inl e2, h2⟩
  rw [List.length_map, List.length_range] at lp
  obtain ⟨G', e, h'⟩ := lp
  refine ⟨G', (for_nx (rg_ev n hf hn) e).trans ?_, h'⟩
  obtain ⟨l, q⟩ := hI G' h'
  rw [unlock_noK l q]
theorem chkAll_ev {sc : PyData} {D : List PyData} {g : List (List Int)} {n m : Nat} {s6 : Sl} {os : List Nat} {s8 s9 s10 s11 : Sl} {tl : Gm} (h : Good g n m) (hm : m ≤ 6) (ho : Own os n m) (hD : Dr D) (p6 : Pl s6) (p8 : Pl s8) (p9 : Pl s9) (p10 : Fr s10) (p11 : Pl s11) (ht : ∀ s ∈ tl, noK s = true) :
    ∃ D' t8 t9 t10 t11, Dr D' ∧ Pl t8 ∧ Pl t9 ∧ Fr t10 ∧ Pl t11 ∧ (sFor (iRg1 (fC (.int 4))) (gN 8) bChk) (hd sc D g n m s6 os s8 s9 s10 s11 tl) = .ok .nx (hd sc D' g n m s6 os t8 t9 t10 t11 tl) := by
  have lp := forRg (f := fC (.int 4)) (body := bChk) (v := 8) (fun _ G => ∃ D' t8 t9 t10 t11, Dr D' ∧ Pl t8 ∧ Pl t9 ∧ Fr t10 ∧ Pl t11 ∧ G = hd sc D' g n m s6 os t8 t9 t10 t11 tl) (G := hd sc D g n m s6 os s8 s9 s10 s11 tl) 4 (by omega) rfl ⟨D, s8, s9, s10, s11, hD, p8, p9, p10, p11, rfl⟩ ?_ ?_
  · obtain ⟨G', e, D', t8, t9, t10, t11, hD', q8, q9, q10, q11, rfl⟩ := lp
    exact ⟨D', t8, t9, t10, t11, hD', q8, q9, q10, q11, e⟩
  · rintro G' ⟨D', t8, t9, t10, t11, hD', q8, q9, q10, q11, rfl⟩
    refine ⟨rfl, fun s hs => ?_⟩
    simp only [List.mem_cons] at hs
    rcases hs with rfl | rfl | rfl | rfl | rfl | rfl | rfl | rfl | rfl | rfl | rfl | rfl | hs
    all_goals first | rfl | exact ht s hs | (rcases p6 with rfl | ⟨_, rfl⟩ <;> rfl) | (rcases q8 with rfl | ⟨_, rfl⟩ <;> rfl) | (rcases q9 with rfl | ⟨_, rfl⟩ <;> rfl) | (rcases q11 with rfl | ⟨_, rfl⟩ <;> rfl) | (rcases q10 with (rfl | ⟨_, rfl⟩) | ⟨_, rfl⟩ <;> rfl)
  · rintro j _ G ⟨D', t8, t9, t10, t11, hD', q8, q9, q10, q11, rfl⟩
    obtain ⟨D2, u9, u10, u11, hD2, r9, r10, r11, e⟩ := chk_ev (sc := sc) (s6 := s6) (j := j) (tl := tl) h hm ho hD' q9 q10 q11
    refine ⟨hd sc D' g n m s6 os (.d (natD j)) t9 t10 t11 tl, ?_, _, e, D2, _, _, _, _, hD2, .dd _, r9, .inl r10, r11, rfl⟩
    rcases q8 with rfl | ⟨_, rfl⟩ <;> rfl
end D71
namespace D71
open PySem PySem.Spec PyProof.Rows L2 Fx
open PySem.W (dataLe)
/-! ### the law: what is due -/
def negD (r : List Int) (j : Nat) : PyData := .tuple [.int (-gt0 r j), .int (j : Int)]
theorem sortD_neg (r : List Int) (ps : List Nat) : sortD (ps.map (negD r)) = (ordG r ps).map (negD r) := by
  unfold sortD ordG
  refine (PySem.W.sort_maps (s := dataLe false fun d => d) (r := leG r) (negD r) fun a ha b hb => ?_).symm
  have e := congrFun (congrFun (PySem.W.dataLe_ii (β := Nat) (fun j => -gt0 r j) (fun j => (j : Int))) a) b
  show leG r a b = PySem.W.sortLe _ false _ (negD r a) (negD r b)
  unfold leG
  rw [← e]
  rfl
theorem sortOk_neg (r : List Int) (ps : List Nat) : sortOk (ps.map (negD r)) = true := by
  unfold sortOk
  rw [Bool.or_eq_true, Bool.and_eq_true, Bool.or_eq_true]
  refine .inr ⟨List.all_eq_true.mpr fun d hd => ?_, .inl (List.all_eq_true.mpr fun d hd => ?_)⟩
  · obtain ⟨j, _, rfl⟩ := List.mem_map.mp hd
    rfl
  · obtain ⟨j, _, rfl⟩ := List.mem_map.mp hd
    rfl
theorem sorted_neg {G : Gm} {r : List Int} {ps : List Nat} : kSorted G [.new (.lst (ps.map (negD r)))] = .ok (.new (.lst ((ordG r ps).map (negD r)))) G := by
  unfold kSorted k1
  dsimp only [rd]
  show (if sortOk (ps.map (negD r)) then Res.ok (Rv.new (.lst (sortD (ps.map (negD r))))) G else .bad) = _
  rw [if_pos (sortOk_neg r ps), sortD_neg]
theorem wipe_then (G : Gm) (i : Nat) (s : Sl) : (wipeG (lockAll G []) [i]).set i s = G.set i s := by
  rw [lock_nil]
  refine List.ext_getElem? fun j => ?_
  unfold wipeG
  by_cases h : i = j
  · subst h
    rw [List.getElem?_set_self', List.getElem?_set_self', List.getElem?_mapIdx]
    cases G[i]? <;> rfl
  · rw [List.getElem?_set_ne h, List.getElem?_set_ne h, List.getElem?_mapIdx]
    cases G[j]? with
    | none => rfl
    | some x =>
      show some (if [i].contains j then Sl.no else x) = some x
      rw [if_neg (by simpa using fun e => h e.symm)]
theorem comp_evR {α : Type} {it : Gm → Res Itv} {i : Nat} {enc : α → PyData} {p : α → Bool} {e : α → PyData} {tst : Gm → Res Bool} {elt : Gm → Res Rv} {G : Gm} {l : List α} (hit : it G = .ok (l.map enc, []) G) (hpl : plainAt G [i] = true) (hi : (G[i]?).isSome = true) (hl : l.length ≤ 16777216)
    (ht : ∀ a ∈ l, tst (G.set i (.d (enc a))) = .ok (p a) (G.set i (.d (enc a)))) (he : ∀ a ∈ l, p a = true → Gives elt (G.set i (.d (enc a))) (e a)) : fComp it [i] (gN i) tst elt G = .ok (.new (.lst ((l.filter p).map e))) G :=
  comp_evA hit hpl hi hl (fun a ha => by rw [wipe_then]; exact ht a ha) fun a ha hp => by rw [wipe_then]; exact he a ha hp
/-- the slots while i is looked at -/
abbrev kS (sc : PyData) (D : List PyData) (g : List (List Int)) (n m : Nat) (s6 : Sl) (os : List Nat) (s8 s9 s10 s11 s12 s13 s14 : Sl) (i : Nat) (s16 s17 s18 s19 s20 s21 s22 : Sl) : Gm :=
  hd sc D g n m s6 os s8 s9 s10 s11 [s12, s13, s14, .d (natD i), s16, s17, s18, s19, s20, s21, s22, .no, .no, .no, .no, .no, .no]
def ordK (g : List (List Int)) (os : List Nat) (i k : Nat) : List Nat := if k = i then [] else ordG (rowOf g i) (gOf os k)
theorem key_ev {sc : PyData} {D : List PyData} {g : List (List Int)} {n m i k : Nat} {s6 : Sl} {os : List Nat} {s8 s9 s10 s11 s12 s13 s14 s17 s18 s19 s20 s21 s22 : Sl} (h : Good g n m) (ho : Own os n m) (hi : i < n) (p18 : Pl s18) (p17 : Fr s17) :
    sSet 17 (fCallK kSorted (fCons (fComp (iRg1 (fVar 4)) [18] (gN 18) (tAnd' (fTest (fOp2 kEq (fOp2 kIdx (fVar 7) (fVar 18)) (fVar 16))) (fTest (fOp2 kNe (fVar 16) (fVar 15)))) (fTup (fCons (fUn kNeg (fOp2 kIdx (fOp2 kIdx (fVar 2) (fVar 15)) (fVar 18))) (fCons (fVar 18) fNil)))) fNil)) (kS sc D g n m s6 os s8 s9 s10 s11 s12 s13 s14 i (.d (natD k)) s17 s18 s19 s20 s21 s22)
      = .ok .nx (kS sc D g n m s6 os s8 s9 s10 s11 s12 s13 s14 i (.d (natD k)) (.l (.lst ((ordK g os i k).map (negD (rowOf g i))))) s18 s19 s20 s21 s22) := by
  have m10 := h.m10
  obtain ⟨er, hrl⟩ := row_ix h hi
  have e1 : (fComp (iRg1 (fVar 4)) [18] (gN 18) (tAnd' (fTest (fOp2 kEq (fOp2 kIdx (fVar 7) (fVar 18)) (fVar 16))) (fTest (fOp2 kNe (fVar 16) (fVar 15)))) (fTup (fCons (fUn kNeg (fOp2 kIdx (fOp2 kIdx (fVar 2) (fVar 15)) (fVar 18))) (fCons (fVar 18) fNil)))) (kS sc D g n m s6 os s8 s9 s10 s11 s12 s13 s14 i (.d (natD k)) s17 s18 s19 s20 s21 s22)
      = .ok (.new (.lst (((if k = i then [] else gOf os k)).map (negD (rowOf g i))))) (kS sc D g n m s6 os s8 s9 s10 s11 s12 s13 s14 i (.d (natD k)) s17 s18 s19 s20 s21 s22) := by
    refine Eq.trans (comp_evR (enc := natD) (l := List.range m) (p := fun j => decide (os[j]? = some k) && !decide (k = i)) (e := negD (rowOf g i)) (rg_ev m rfl (by omega)) (by rcases p18 with rfl | ⟨_, rfl⟩ <;> rfl) rfl (by rw [List.length_range]; omega) (fun j hj => ?_) fun j hj _ => .d ?_) ?_
    · have hj : j < os.length := by rw [ho.len]; exact List.mem_range.mp hj
      refine and_ev (test_ev (op_ev (idx_ev rfl rfl (.inl rfl) rfl (os_at hj)) rfl ?_)) fun _ => test_ev (op_ev rfl rfl (kNe_nat _ k i))
      rw [kEq_n, List.getElem?_eq_getElem hj]
      congr 3
      apply decide_eq_decide.mpr
      exact ⟨fun e => by rw [e], fun e => Option.some.inj e⟩
    · have hx := idx_ev (fa := fOp2 kIdx (fVar 2) (fVar 15)) (fb := fVar 18) (G := (kS sc D g n m s6 os s8 s9 s10 s11 s12 s13 s14 i (.d (natD k)) s17 (.d (natD j)) s19 s20 s21 s22)) (idx_ev rfl rfl (.inl rfl) rfl er) rfl (.inl rfl) rfl (row_at (j := j) (by rw [hrl]; exact List.mem_range.mp hj))
      have hn : fUn kNeg (fOp2 kIdx (fOp2 kIdx (fVar 2) (fVar 15)) (fVar 18)) (kS sc D g n m s6 os s8 s9 s10 s11 s12 s13 s14 i (.d (natD k)) s17 (.d (natD j)) s19 s20 s21 s22) = .ok (.d (.int (-gt0 (rowOf g i) j))) (kS sc D g n m s6 os s8 s9 s10 s11 s12 s13 s14 i (.d (natD k)) s17 (.d (natD j)) s19 s20 s21 s22) := by
        unfold fUn
        rw [hx]; rfl
      show fTup (fCons (fUn kNeg (fOp2 kIdx (fOp2 kIdx (fVar 2) (fVar 15)) (fVar 18))) (fCons (fVar 18) fNil)) (kS sc D g n m s6 os s8 s9 s10 s11 s12 s13 s14 i (.d (natD k)) s17 (.d (natD j)) s19 s20 s21 s22) = _
      unfold fTup
      rw [show fCons (fUn kNeg (fOp2 kIdx (fOp2 kIdx (fVar 2) (fVar 15)) (fVar 18))) (fCons (fVar 18) fNil) (kS sc D g n m s6 os s8 s9 s10 s11 s12 s13 s14 i (.d (natD k)) s17 (.d (natD j)) s19 s20 s21 s22) = Res.ok [.d (.int (-gt0 (rowOf g i) j)), .d (natD j)] (kS sc D g n m s6 os s8 s9 s10 s11 s12 s13 s14 i (.d (natD k)) s17 (.d (natD j)) s19 s20 s21 s22) from cons_ev hn rfl]
      rfl
    · congr 4
      unfold gOf gUp
      rw [ho.len]
      by_cases hki : k = i
      · rw [if_pos hki]
        simp [hki]
      · rw [if_neg hki]
        simp [hki]
  refine set_new (G1 := kS sc D g n m s6 os s8 s9 s10 s11 s12 s13 s14 i (.d (natD k)) s17 s18 s19 s20 s21 s22) (kc_ev (cons_ev e1 rfl) ?_) (by rcases p17 with (rfl | ⟨_, rfl⟩) | ⟨_, rfl⟩ <;> rfl)
  rw [sorted_neg]
  unfold ordK
  by_cases hki : k = i
  · rw [if_pos hki, if_pos hki, show ordG (rowOf g i) [] = [] from List.eq_nil_of_length_eq_zero (ordG_perm _ _).length_eq]
  · rw [if_neg hki, if_neg hki]
end D71
namespace D71
open PySem PySem.Spec PyProof.Rows L2 Fx
section
variable {sc : PyData} {D : List PyData} {g : List (List Int)} {n m i k : Nat} {s6 : Sl} {os : List Nat} {s8 s9 s10 s11 s12 s13 s14 s16 s17 s18 s19 s20 s21 s22 : Sl}
theorem wipe_lock (G : Gm) (i j : Nat) (s : Sl) (o : Ao) (hij : j ≠ i) (h : G[j]? = some (.l o)) : (wipeG (lockAll G [j]) [i]).set i s = (G.set j (.k o)).set i s := by
  refine List.ext_getElem? fun t => ?_
  unfold wipeG lockAll
  by_cases e : i = t
  · subst e
    rw [List.getElem?_set_self', List.getElem?_set_self', List.getElem?_mapIdx, List.getElem?_mapIdx, List.getElem?_set_ne hij]
    cases G[i]? <;> rfl
  · rw [List.getElem?_set_ne e, List.getElem?_set_ne e, List.getElem?_mapIdx, List.getElem?_mapIdx]
    by_cases f : j = t
    · subst f
      rw [h, List.getElem?_set_self (List.getElem?_eq_some_iff.mp h).1]
      show some (if [i].contains j then Sl.no else (if [j].contains j then lockS (.l o) else .l o)) = _
      rw [if_neg (by simpa using hij), if_pos (by simp)]
      rfl
    · rw [List.getElem?_set_ne f]
      cases G[t]? with
      | none => rfl
      | some x =>
        show some (if [i].contains t then Sl.no else (if [j].contains t then lockS x else x)) = some x
        rw [if_neg (by simpa using fun q => e q.symm), if_neg (by simpa using fun q => f q.symm)]
theorem ord_ev (ls : List Nat) (r : List Int) (hl : ls.length ≤ 1000) (p13 : Pl s13) (p19 : Fr s19) :
    sSet 19 (fComp (iSeq (fVar 17)) [13] (gN 13) tYesF (fOp2 kIdx (fVar 13) (fC (.int 1)))) (kS sc D g n m s6 os s8 s9 s10 s11 s12 s13 s14 i s16 (.l (.lst (ls.map (negD r)))) s18 s19 s20 s21 s22)
      = .ok .nx (kS sc D g n m s6 os s8 s9 s10 s11 s12 s13 s14 i s16 (.l (.lst (ls.map (negD r)))) s18 (.l (.lst (ls.map natD))) s20 s21 s22) := by
  refine set_new (G1 := kS sc D g n m s6 os s8 s9 s10 s11 s12 s13 s14 i s16 (.l (.lst (ls.map (negD r)))) s18 s19 s20 s21 s22) (comp_evA0 (l := ls) (enc := negD r) (lk := [17]) rfl (by rcases p13 with rfl | ⟨_, rfl⟩ <;> rfl) rfl (by omega) fun j _ => .d ?_) (by rcases p19 with (rfl | ⟨_, rfl⟩) | ⟨_, rfl⟩ <;> rfl)
  rw [wipe_lock _ 13 17 _ (.lst (ls.map (negD r))) (by omega) rfl]
  rfl
end
end D71
namespace D71
open PySem PySem.Spec PyProof.Rows L2 Fx
theorem cutA_take {α : Type} (xs : List α) (s : Nat) : cutA xs none (some (s : Int)) = xs.take s := by
  unfold cutA
  rw [HT.sIx_none, HT.sIx_nat, List.drop_zero, Nat.sub_zero]
  by_cases h : s ≤ xs.length
  · rw [Nat.min_eq_left h]
  · rw [Nat.min_eq_right (by omega), List.take_of_length_le (Nat.le_refl _), List.take_of_length_le (by omega)]
section
variable {sc : PyData} {D : List PyData} {g : List (List Int)} {n m i k : Nat} {s6 : Sl} {os : List Nat} {s8 s9 s10 s11 s12 s13 s14 s16 s17 s18 s19 s20 s21 s22 : Sl}
theorem cutO_ev {ls : List Nat} {s : Nat} {f : Gm → Res Rv} {G : Gm} {v : Nat} (hv : fVar v G = .ok (.own v) G) (ho : ownAt G v = some (.lst (ls.map natD))) (hf : f G = .ok (.d (natD s)) G) : fSlice (fVar v) fNoPart (fPart f) G = .ok (.new (.lst ((ls.take s).map natD))) G := by
  unfold fSlice
  rw [hv, Res.bind_ok]
  unfold fNoPart fPart
  rw [Res.bind_ok, hf]
  show kSl G (.own v) none (some (s : Int)) = _
  unfold kSl
  rw [show rd G (.own v) = some (.list (ls.map natD)) by show (ownAt G v).bind aoD = _; rw [ho]; rfl]
  dsimp only
  rw [cutA_take, List.map_take]
theorem size_ev (h : Good g n m) (ho : Own os n m) (hi : i < n) (p21 : Pl s21) (p20 : Fr s20) (ls : List Nat) (hl : ls.length ≤ 1000) :
    sSet 20 (fComp (iRg1 (fOp2 kAdd (fCallK kLen (fCons (fVar 19) fNil)) (fC (.int 1)))) [21] (gN 21) (tOr' (fTest (fOp2 kEq (fVar 16) (fVar 15))) (tNot' (fTest (fCallK (kCall F_law_envies) (fCons (fVar 2) (fCons (fVar 7) (fCons (fCallK kTuple (fCons (fSlice (fVar 19) fNoPart (fPart (fVar 21))) fNil)) (fCons (fVar 15) (fCons (fVar 16) fNil))))))))) (fVar 21)) (kS sc D g n m s6 os s8 s9 s10 s11 s12 s13 s14 i (.d (natD k)) s17 s18 (.l (.lst (ls.map natD))) s20 s21 s22)
      = .ok .nx (kS sc D g n m s6 os s8 s9 s10 s11 s12 s13 s14 i (.d (natD k)) s17 s18 (.l (.lst (ls.map natD))) (.l (.lst (((List.range (ls.length + 1)).filter fun s => decide (k = i) || !decide (wth (rowOf g i) (gOf os i) < wth (rowOf g i) (seen (ls.take s) (gOf os k)))).map natD))) s21 s22) := by
  have hlen : (fOp2 kAdd (fCallK kLen (fCons (fVar 19) fNil)) (fC (.int 1))) (kS sc D g n m s6 os s8 s9 s10 s11 s12 s13 s14 i (.d (natD k)) s17 s18 (.l (.lst (ls.map natD))) s20 s21 s22) = .ok (.d (natD (ls.length + 1))) (kS sc D g n m s6 os s8 s9 s10 s11 s12 s13 s14 i (.d (natD k)) s17 s18 (.l (.lst (ls.map natD))) s20 s21 s22) := by
    show Res.ok (Rv.d (.int (((ls.map natD).length : Nat) + 1))) _ = _
    rw [List.length_map]; rfl
  refine set_new (G1 := kS sc D g n m s6 os s8 s9 s10 s11 s12 s13 s14 i (.d (natD k)) s17 s18 (.l (.lst (ls.map natD))) s20 s21 s22) (comp_evR (enc := natD) (e := natD) (l := List.range (ls.length + 1)) (rg_ev _ hlen (by omega)) (by rcases p21 with rfl | ⟨_, rfl⟩ <;> rfl) rfl (by rw [List.length_range]; omega) (fun s hs => ?_) fun s hs _ => .d rfl) (by rcases p20 with (rfl | ⟨_, rfl⟩) | ⟨_, rfl⟩ <;> rfl)
  refine or_ev (test_ev (op_ev rfl rfl (kEq_n _ k i))) fun _ => not_ev (test_ev (call_ev [gameD g, osD os, osD (ls.take s), natD i, natD k] (cons_ev rfl (cons_ev rfl (cons_ev (kc_ev (cons_ev (cutO_ev (ls := ls) (s := s) rfl rfl rfl) rfl) rfl) rfl))) (lenvy_ev h ho hi)))
end
end D71
namespace D71
open PySem PySem.Spec PyProof.Rows L2 Fx
section
variable {sc : PyData} {D : List PyData} {g : List (List Int)} {n m i k : Nat} {s6 : Sl} {os : List Nat} {s8 s9 s10 s11 s12 s13 s14 s16 s17 s18 s19 s20 s21 s22 : Sl}
theorem due_ev (A ls zs : List Nat) (z : Nat) (ha : A.length ≤ 1000) (hl : ls.length ≤ 1000) :
    sSet 10 (fOp2 kAdd (fVar 10) (fSlice (fVar 19) fNoPart (fPart (fOp2 kIdx (fVar 20) (fC (.int 0)))))) (kS sc D g n m s6 os s8 s9 (.l (.lst (A.map natD))) s11 s12 s13 s14 i s16 s17 s18 (.l (.lst (ls.map natD))) (.l (.lst ((z :: zs).map natD))) s21 s22)
      = .ok .nx (kS sc D g n m s6 os s8 s9 (.l (.lst ((A ++ ls.take z).map natD))) s11 s12 s13 s14 i s16 s17 s18 (.l (.lst (ls.map natD))) (.l (.lst ((z :: zs).map natD))) s21 s22) := by
  have e : fOp2 kAdd (fVar 10) (fSlice (fVar 19) fNoPart (fPart (fOp2 kIdx (fVar 20) (fC (.int 0))))) (kS sc D g n m s6 os s8 s9 (.l (.lst (A.map natD))) s11 s12 s13 s14 i s16 s17 s18 (.l (.lst (ls.map natD))) (.l (.lst ((z :: zs).map natD))) s21 s22) = .ok (.new (.lst ((A ++ ls.take z).map natD))) (kS sc D g n m s6 os s8 s9 (.l (.lst (A.map natD))) s11 s12 s13 s14 i s16 s17 s18 (.l (.lst (ls.map natD))) (.l (.lst ((z :: zs).map natD))) s21 s22) := by
    refine op_ev (a := .own 10) rfl (cutO_ev (ls := ls) (s := z) rfl rfl (idx_ev rfl rfl (.inr rfl) rfl (atI_natL (j := 0) rfl))) ?_
    rw [List.map_append]
    refine kAdd_l rfl rfl ?_
    rw [List.length_map, List.length_map, List.length_take]; omega
  exact set_new (i := 10) (G1 := (kS sc D g n m s6 os s8 s9 (.l (.lst (A.map natD))) s11 s12 s13 s14 i s16 s17 s18 (.l (.lst (ls.map natD))) (.l (.lst ((z :: zs).map natD))) s21 s22)) e
end
end D71
namespace D71
open PySem PySem.Spec PyProof.Rows L2 Fx
def bK : Gm → Res Out := (sSeq (sSet 17 (fCallK kSorted (fCons (fComp (iRg1 (fVar 4)) [18] (gN 18) (tAnd' (fTest (fOp2 kEq (fOp2 kIdx (fVar 7) (fVar 18)) (fVar 16))) (fTest (fOp2 kNe (fVar 16) (fVar 15)))) (fTup (fCons (fUn kNeg (fOp2 kIdx (fOp2 kIdx (fVar 2) (fVar 15)) (fVar 18))) (fCons (fVar 18) fNil)))) fNil)))
  (sSeq (sSet 19 (fComp (iSeq (fVar 17)) [13] (gN 13) tYesF (fOp2 kIdx (fVar 13) (fC (.int 1)))))
  (sSeq (sSet 20 (fComp (iRg1 (fOp2 kAdd (fCallK kLen (fCons (fVar 19) fNil)) (fC (.int 1)))) [21] (gN 21) (tOr' (fTest (fOp2 kEq (fVar 16) (fVar 15))) (tNot' (fTest (fCallK (kCall F_law_envies) (fCons (fVar 2) (fCons (fVar 7) (fCons (fCallK kTuple (fCons (fSlice (fVar 19) fNoPart (fPart (fVar 21))) fNil)) (fCons (fVar 15) (fCons (fVar 16) fNil))))))))) (fVar 21)))
  (sSet 10 (fOp2 kAdd (fVar 10) (fSlice (fVar 19) fNoPart (fPart (fOp2 kIdx (fVar 20) (fC (.int 0))))))))))
theorem sizes_head {g : List (List Int)} {os : List Nat} {n m i k : Nat} (h : Good g n m) (hi : i < n) : ∃ z zs, ((List.range ((ordK g os i k).length + 1)).filter fun s => decide (k = i) || !decide (wth (rowOf g i) (gOf os i) < wth (rowOf g i) (seen ((ordK g os i k).take s) (gOf os k)))) = z :: zs ∧ (ordK g os i k).take z = if k = i then [] else pop g os i k := by
  by_cases hki : k = i
  · unfold ordK
    rw [if_pos hki, if_pos hki]
    refine ⟨0, [], ?_, rfl⟩
    rw [decide_eq_true hki]
    rfl
  · have e := first_size (os := os) (k := k) h hi
    obtain ⟨r, hr, hr2, _⟩ := row_of h hi
    have h0 : ∀ j, 0 ≤ (rowOf g i).getD j 0 := fun j => by
      show 0 ≤ (g.getD i []).getD j 0
      rw [hr2]
      exact get_nonneg h (List.mem_of_getElem? hr) j
    have own0 := wth_nonneg h0 (gOf os i)
    obtain ⟨e1, _, _⟩ := popL_spec (rowOf g i) (wth (rowOf g i) (gOf os i)) own0 (ordG (rowOf g i) (gOf os k))
    unfold ordK
    rw [if_neg hki, if_neg hki]
    rw [decide_eq_false hki]
    simp only [Bool.false_or]
    cases e2 : (List.range ((ordG (rowOf g i) (gOf os k)).length + 1)).filter fun s => !decide (wth (rowOf g i) (gOf os i) < wth (rowOf g i) (seen ((ordG (rowOf g i) (gOf os k)).take s) (gOf os k))) with
    | nil => rw [e2] at e; cases e
    | cons z zs =>
      rw [e2] at e
      cases e
      exact ⟨_, _, rfl, e1.symm⟩
theorem ordK_len {g : List (List Int)} {os : List Nat} {n m i k : Nat} (ho : Own os n m) : (ordK g os i k).length ≤ m := by
  unfold ordK
  split
  · exact Nat.zero_le _
  · rw [(ordG_perm _ _).length_eq]
    exact gOf_len ho k
theorem bK_ev {sc : PyData} {D : List PyData} {g : List (List Int)} {n m i k : Nat} {s6 : Sl} {os : List Nat} {s8 s9 s11 s12 s13 s14 s17 s18 s19 s20 s21 s22 : Sl} (h : Good g n m) (ho : Own os n m) (hi : i < n) (hk : k ≤ n) (p13 : Pl s13) (p17 : Fr s17) (p18 : Pl s18) (p19 : Fr s19) (p20 : Fr s20) (p21 : Pl s21) :
    ∃ t17 t19 t20, Fr t17 ∧ Fr t19 ∧ Fr t20 ∧ bK (kS sc D g n m s6 os s8 s9 (.l (.lst ((outs g os i k).map natD))) s11 s12 s13 s14 i (.d (natD k)) s17 s18 s19 s20 s21 s22)
      = .ok .nx (kS sc D g n m s6 os s8 s9 (.l (.lst ((outs g os i (k + 1)).map natD))) s11 s12 s13 s14 i (.d (natD k)) t17 s18 t19 t20 s21 s22) := by
  have n6 := h.n6
  have m10 := h.m10
  have ol := outs_len (g := g) ho i k
  have ol2 : (outs g os i k).length ≤ 60 := lenLe (n := k) (by omega) m10 ol
  have kl := ordK_len (g := g) (i := i) (k := k) ho
  obtain ⟨z, zs, e1, e2⟩ := sizes_head (os := os) (k := k) h hi
  have e3 := size_ev (sc := sc) (D := D) (k := k) (s6 := s6) (s8 := s8) (s9 := s9) (s10 := .l (.lst ((outs g os i k).map natD))) (s11 := s11) (s12 := s12) (s13 := s13) (s14 := s14) (s17 := .l (.lst ((ordK g os i k).map (negD (rowOf g i))))) (s18 := s18) (s20 := s20) (s21 := s21) (s22 := s22) h ho hi p21 p20 (ordK g os i k) (by omega)
  rw [e1] at e3
  have e4 := due_ev (sc := sc) (D := D) (g := g) (n := n) (m := m) (i := i) (s6 := s6) (os := os) (s8 := s8) (s9 := s9) (s11 := s11) (s12 := s12) (s13 := s13) (s14 := s14) (s16 := .d (natD k)) (s17 := .l (.lst ((ordK g os i k).map (negD (rowOf g i))))) (s18 := s18) (s21 := s21) (s22 := s22) (outs g os i k) (ordK g os i k) zs z (by omega) (by omega)
  rw [e2, show outs g os i k ++ (if k = i then [] else pop g os i k) = outs g os i (k + 1) from (outs_succ g os i k).symm] at e4
  exact ⟨_, _, _, .l _, .l _, .l _, seq_go (key_ev h ho hi p18 p17) (seq_go (ord_ev (ordK g os i k) (rowOf g i) (by omega) p13 p19) (seq_go e3 e4))⟩
end D71
namespace D71
open PySem PySem.Spec PyProof.Rows L2 Fx
theorem noK_pl {s : Sl} (h : Pl s) : noK s = true := by rcases h with rfl | ⟨_, rfl⟩ <;> rfl
theorem noK_fr {s : Sl} (h : Fr s) : noK s = true := by rcases h with h | ⟨_, rfl⟩; exact noK_pl h; rfl
/-- every slot of i is free of a lock -/
theorem kS_noK {sc : PyData} {D : List PyData} {g : List (List Int)} {n m i : Nat} {s6 : Sl} {os : List Nat} {s8 s9 s10 s11 s12 s13 s14 s16 s17 s18 s19 s20 s21 s22 : Sl} (h : ∀ s ∈ [s6, s8, s9, s10, s11, s12, s13, s14, s16, s17, s18, s19, s20, s21, s22], noK s = true) :
    ∀ s ∈ kS sc D g n m s6 os s8 s9 s10 s11 s12 s13 s14 i s16 s17 s18 s19 s20 s21 s22, noK s = true := by
  simp only [List.mem_cons, List.not_mem_nil, or_false, forall_eq_or_imp, forall_eq] at h ⊢
  obtain ⟨a1, a2, a3, a4, a5, a6, a7, a8, a9, a10, a11, a12, a13, a14, a15⟩ := h
  exact ⟨rfl, rfl, rfl, rfl, rfl, rfl, a1, rfl, a2, a3, a4, a5, a6, a7, a8, rfl, a9, a10, a11, a12, a13, a14, a15, rfl, rfl, rfl, rfl, rfl, rfl⟩
section
variable {sc : PyData} {D : List PyData} {g : List (List Int)} {n m i : Nat} {s6 : Sl} {os : List Nat} {s8 s9 s10 s11 s12 s13 s14 s16 s17 s18 s19 s20 s21 s22 : Sl}
theorem kLoop (h : Good g n m) (ho : Own os n m) (hi : i < n) (p6 : Pl s6) (p8 : Pl s8) (p9 : Pl s9) (p11 : Pl s11) (p12 : Pl s12) (p13 : Pl s13) (p14 : Pl s14) (p16 : Pl s16) (p17 : Fr s17) (p18 : Pl s18) (p19 : Fr s19) (p20 : Fr s20) (p21 : Pl s21) (p22 : Fr s22) :
    ∃ t16 t17 t19 t20, Pl t16 ∧ Fr t17 ∧ Fr t19 ∧ Fr t20 ∧ (sFor (iRg1 (fVar 3)) (gN 16) bK) (kS sc D g n m s6 os s8 s9 (.l (.lst [])) s11 s12 s13 s14 i s16 s17 s18 s19 s20 s21 s22)
      = .ok .nx (kS sc D g n m s6 os s8 s9 (.l (.lst ((outs g os i n).map natD))) s11 s12 s13 s14 i t16 t17 s18 t19 t20 s21 s22) := by
  have n6 := h.n6
  obtain ⟨G', e, t16, t17, t19, t20, q16, q17, q19, q20, rfl⟩ := forRg (f := fVar 3) (body := bK) (v := 16) (fun k G => ∃ t16 t17 t19 t20, Pl t16 ∧ Fr t17 ∧ Fr t19 ∧ Fr t20 ∧ G = kS sc D g n m s6 os s8 s9 (.l (.lst ((outs g os i k).map natD))) s11 s12 s13 s14 i t16 t17 s18 t19 t20 s21 s22)
    (G := kS sc D g n m s6 os s8 s9 (.l (.lst [])) s11 s12 s13 s14 i s16 s17 s18 s19 s20 s21 s22) n (by omega) rfl ⟨s16, s17, s19, s20, p16, p17, p19, p20, rfl⟩ (by
      rintro G' ⟨t16, t17, t19, t20, q16, q17, q19, q20, rfl⟩
      refine ⟨rfl, kS_noK ?_⟩
      simp only [List.mem_cons, List.not_mem_nil, or_false, forall_eq_or_imp, forall_eq]
      exact ⟨noK_pl p6, noK_pl p8, noK_pl p9, rfl, noK_pl p11, noK_pl p12, noK_pl p13, noK_pl p14, noK_pl q16, noK_fr q17, noK_pl p18, noK_fr q19, noK_fr q20, noK_pl p21, noK_fr p22⟩) (by
      rintro k hk G ⟨t16, t17, t19, t20, q16, q17, q19, q20, rfl⟩
      obtain ⟨u17, u19, u20, r17, r19, r20, e⟩ := bK_ev (sc := sc) (D := D) (s6 := s6) (s8 := s8) (s9 := s9) (s11 := s11) (s12 := s12) (s14 := s14) (s22 := s22) h ho hi (Nat.le_of_lt hk) p13 q17 p18 q19 q20 p21
      refine ⟨_, ?_, _, e, .d (natD k), u17, u19, u20, .dd _, r17, r19, r20, rfl⟩
      rcases q16 with rfl | ⟨_, rfl⟩ <;> rfl)
  exact ⟨t16, t17, t19, t20, q16, q17, q19, q20, e⟩
end
end D71
namespace D71
open PySem PySem.Spec PyProof.Rows L2 Fx
theorem eqvAll_nat : ∀ a b : List Nat, PyData.eqvAll (a.map natD) (b.map natD) = decide (a = b)
  | [], [] => by simp [PyData.eqvAll]
  | [], _ :: _ => by simp [PyData.eqvAll]
  | _ :: _, [] => by simp [PyData.eqvAll]
  | x :: a, y :: b => by
    rw [List.map_cons, List.map_cons, PyData.eqvAll, eqv_nat, eqvAll_nat a b]
    rw [Bool.eq_iff_iff]
    simp
theorem okD_osD (k : Nat) (a : List Nat) : okD (k + 1) (osD a) = true := by
  show (a.map natD).all (okD k) = true
  rw [List.all_eq_true]
  intro d hd
  obtain ⟨x, _, rfl⟩ := List.mem_map.mp hd
  cases k <;> rfl
theorem okD_lsD (k : Nat) (a : List Nat) : okD (k + 1) (.list (a.map natD)) = true := okD_osD k a
theorem ne_osD (G : Gm) (a b : List Nat) : kNe G (.d (osD a)) (.d (osD b)) = .ok (.d (.bool (!decide (a = b)))) G := by
  show (match Fx.opNe (osD a) (osD b) with | some z => Res.ok (Rv.d z) G | none => .bad) = _
  unfold Fx.opNe
  rw [okD_osD 59, okD_osD 59]
  have e : PyData.eqv (osD a) (osD b) = decide (a = b) := by
    unfold osD
    rw [PyData.eqv]
    exact eqvAll_nat a b
  rw [e]
  rfl
theorem eq_nil (G : Gm) (a : List Nat) : kEq G (.new (.lst (a.map natD))) (.new (.lst [])) = .ok (.d (.bool (decide (a = [])))) G := by
  show (match Fx.opEq (.list (a.map natD)) (.list []) with | some z => Res.ok (Rv.d z) G | none => .bad) = _
  unfold Fx.opEq
  rw [okD_lsD 59, show okD 60 (.list []) = true from rfl]
  have e : PyData.eqv (.list (a.map natD)) (.list []) = decide (a = []) := by
    rw [PyData.eqv]
    exact eqvAll_nat a []
  rw [e]
  rfl
theorem ne_nil0 (G : Gm) (a : List Nat) : kNe G (.new (.lst (a.map natD))) (.new (.lst [])) = .ok (.d (.bool (!decide (a = [])))) G := by
  show (match Fx.opNe (.list (a.map natD)) (.list []) with | some z => Res.ok (Rv.d z) G | none => .bad) = _
  unfold Fx.opNe
  rw [okD_lsD 59, show okD 60 (.list []) = true from rfl]
  have e : PyData.eqv (.list (a.map natD)) (.list []) = decide (a = []) := by
    rw [PyData.eqv]
    exact eqvAll_nat a []
  rw [e]
  rfl
/-- whom i envies when hs is hidden -/
def envL (g : List (List Int)) (os hs : List Nat) (n i : Nat) : List Nat := (List.range n).filter fun k => !decide (k = i) && decide (wth (rowOf g i) (gOf os i) < wth (rowOf g i) (seen hs (gOf os k)))
section
variable {sc : PyData} {D : List PyData} {g : List (List Int)} {n m i : Nat} {s6 : Sl} {os : List Nat} {s8 s9 s10 s11 s12 s13 s14 s16 s17 s18 s19 s20 s21 s22 : Sl}
/-- whom i envies, as the law asks it; the hidden goods come from any term -/
theorem envs_ev {fh : Gm → Res Rv} {hs : List Nat} (h : Good g n m) (ho : Own os n m) (hi : i < n) (p16 : Pl s16) (hf : ∀ k, fh (kS sc D g n m s6 os s8 s9 s10 s11 s12 s13 s14 i (.d (natD k)) s17 s18 s19 s20 s21 s22) = .ok (.d (osD hs)) (kS sc D g n m s6 os s8 s9 s10 s11 s12 s13 s14 i (.d (natD k)) s17 s18 s19 s20 s21 s22)) :
    (fComp (iRg1 (fVar 3)) [16] (gN 16) (tAnd' (fTest (fOp2 kNe (fVar 16) (fVar 15))) (fTest (fCallK (kCall F_law_envies) (fCons (fVar 2) (fCons (fVar 7) (fCons fh (fCons (fVar 15) (fCons (fVar 16) fNil)))))))) (fVar 16)) (kS sc D g n m s6 os s8 s9 s10 s11 s12 s13 s14 i s16 s17 s18 s19 s20 s21 s22)
      = .ok (.new (.lst ((envL g os hs n i).map natD))) (kS sc D g n m s6 os s8 s9 s10 s11 s12 s13 s14 i s16 s17 s18 s19 s20 s21 s22) := by
  have n6 := h.n6
  refine comp_evR (enc := natD) (e := natD) (l := List.range n) (rg_ev n rfl (by omega)) (by rcases p16 with rfl | ⟨_, rfl⟩ <;> rfl) rfl (by rw [List.length_range]; omega) (fun k hk => ?_) fun k hk _ => .d rfl
  exact and_ev (test_ev (op_ev rfl rfl (kNe_nat _ k i))) fun _ => test_ev (call_ev [gameD g, osD os, osD hs, natD i, natD k] (cons_ev rfl (cons_ev rfl (cons_ev (hf k) rfl))) (lenvy_ev h ho hi))
end
theorem envL_told {g : List (List Int)} {os : List Nat} {n m i : Nat} (h : Good g n m) (hi : i < n) : envL g os (hidL g os n i) n i = [] := by
  unfold envL
  rw [List.filter_eq_nil_iff]
  intro k hk hc
  simp only [Bool.and_eq_true, Bool.not_eq_true', decide_eq_false_iff_not, decide_eq_true_eq] at hc
  have := told_calm (os := os) h hi (List.mem_range.mp hk) hc.1
  omega
theorem envL_small {g : List (List Int)} {os hs : List Nat} {n m i : Nat} (h : Good g n m) (hi : i < n) (hn : hs.Nodup) (hl : hs.length < (hidL g os n i).length) : envL g os hs n i ≠ [] := by
  obtain ⟨k, hk, hki, hlt⟩ := small_envy h hi hn hl
  intro e
  unfold envL at e
  rw [List.filter_eq_nil_iff] at e
  exact e k (List.mem_range.mpr hk) (by simp [hki, hlt])
end D71
namespace D71
open PySem PySem.Spec PyProof.Rows L2 Fx
def bSm : Gm → Res Out := (sIf (fTest (fOp2 kEq (fComp (iRg1 (fVar 3)) [16] (gN 16) (tAnd' (fTest (fOp2 kNe (fVar 16) (fVar 15))) (fTest (fCallK (kCall F_law_envies) (fCons (fVar 2) (fCons (fVar 7) (fCons (fVar 13) (fCons (fVar 15) (fCons (fVar 16) fNil)))))))) (fVar 16)) (fLst fNil))) (sRet (fC (.bool false))) sNx)
def tI : Gm → Res Bool := (tOr' (fTest (fOp2 kNe (fOp2 kIdx (fVar 14) (fVar 15)) (fCallK kTuple (fCons (fCallK kSorted (fCons (fVar 10) fNil)) fNil)))) (fTest (fOp2 kNe (fComp (iRg1 (fVar 3)) [16] (gN 16) (tAnd' (fTest (fOp2 kNe (fVar 16) (fVar 15))) (fTest (fCallK (kCall F_law_envies) (fCons (fVar 2) (fCons (fVar 7) (fCons (fOp2 kIdx (fVar 14) (fVar 15)) (fCons (fVar 15) (fCons (fVar 16) fNil)))))))) (fVar 16)) (fLst fNil))))
def fSm : Gm → Res Rv := (fComp (iSeq (fVar 5)) [13] (gN 13) (fTest (fOp2 kLt (fCallK kLen (fCons (fVar 13) fNil)) (fCallK kLen (fCons (fOp2 kIdx (fVar 14) (fVar 15)) fNil)))) (fVar 13))
def bI : Gm → Res Out := (sSeq (sSet 10 (fLst fNil))
  (sSeq (sFor (iRg1 (fVar 3)) (gN 16) bK)
  (sSeq (sIf tI (sRet (fC (.bool false))) sNx)
  (sSeq (sSet 22 fSm)
  (sFor (iSeq (fVar 22)) (gN 13) bSm)))))
section
variable {sc : PyData} {D : List PyData} {g : List (List Int)} {n m i : Nat} {s6 : Sl} {os : List Nat} {s8 s9 s10 s11 s12 s13 s14 s16 s17 s18 s19 s20 s21 s22 : Sl}
theorem told_at (hi : i < n) : (fOp2 kIdx (fVar 14) (fVar 15)) (kS sc D g n m s6 os s8 s9 s10 s11 s12 s13 (.d (toldD g os n)) i s16 s17 s18 s19 s20 s21 s22) = .ok (.d (osD (hidL g os n i))) (kS sc D g n m s6 os s8 s9 s10 s11 s12 s13 (.d (toldD g os n)) i s16 s17 s18 s19 s20 s21 s22) := by
  refine idx_ev rfl rfl (.inl rfl) rfl (atI_natL ?_)
  rw [List.getElem?_map, List.getElem?_range hi]
  rfl
theorem tI_ev (h : Good g n m) (ho : Own os n m) (hi : i < n) (p16 : Pl s16) :
    tI (kS sc D g n m s6 os s8 s9 (.l (.lst ((outs g os i n).map natD))) s11 s12 s13 (.d (toldD g os n)) i s16 s17 s18 s19 s20 s21 s22) = .ok false (kS sc D g n m s6 os s8 s9 (.l (.lst ((outs g os i n).map natD))) s11 s12 s13 (.d (toldD g os n)) i s16 s17 s18 s19 s20 s21 s22) := by
  have e1 := ne_osD (kS sc D g n m s6 os s8 s9 (.l (.lst ((outs g os i n).map natD))) s11 s12 s13 (.d (toldD g os n)) i s16 s17 s18 s19 s20 s21 s22) (hidL g os n i) (hidL g os n i)
  rw [decide_eq_true rfl] at e1
  have e2 := ne_nil0 (kS sc D g n m s6 os s8 s9 (.l (.lst ((outs g os i n).map natD))) s11 s12 s13 (.d (toldD g os n)) i s16 s17 s18 s19 s20 s21 s22) (envL g os (hidL g os n i) n i)
  rw [envL_told h hi, decide_eq_true rfl] at e2
  have e3 := envs_ev (sc := sc) (D := D) (s6 := s6) (s8 := s8) (s9 := s9) (s10 := .l (.lst ((outs g os i n).map natD))) (s11 := s11) (s12 := s12) (s13 := s13) (s14 := .d (toldD g os n)) (s17 := s17) (s18 := s18) (s19 := s19) (s20 := s20) (s21 := s21) (s22 := s22) (hs := hidL g os n i) h ho hi p16 fun k => told_at hi
  rw [envL_told h hi] at e3
  have c : tI (kS sc D g n m s6 os s8 s9 (.l (.lst ((outs g os i n).map natD))) s11 s12 s13 (.d (toldD g os n)) i s16 s17 s18 s19 s20 s21 s22) = .ok (false || false) (kS sc D g n m s6 os s8 s9 (.l (.lst ((outs g os i n).map natD))) s11 s12 s13 (.d (toldD g os n)) i s16 s17 s18 s19 s20 s21 s22) := by
    refine or_ev (test_ev (op_ev (told_at hi) (kc_ev (cons_ev (kc_ev (cons_ev rfl rfl) (sorted_own (ps := outs g os i n) rfl)) rfl) rfl) e1)) fun _ => test_ev (op_ev e3 rfl e2)
  exact c
theorem fSm_ev (h : Good g n m) (hm : m ≤ 6) (hi : i < n) (p13 : Pl s13) (p22 : Fr s22) :
    sSet 22 fSm (kS sc D g n m s6 os s8 s9 s10 s11 s12 s13 (.d (toldD g os n)) i s16 s17 s18 s19 s20 s21 s22) = .ok .nx (kS sc D g n m s6 os s8 s9 s10 s11 s12 s13 (.d (toldD g os n)) i s16 s17 s18 s19 s20 s21 (.l (.lst (((setsL m).filter fun r => decide (r.length < (hidL g os n i).length)).map osD)))) := by
  obtain ⟨f1, f2⟩ := sets_few m (by omega)
  refine set_new (i := 22) (G1 := kS sc D g n m s6 os s8 s9 s10 s11 s12 s13 (.d (toldD g os n)) i s16 s17 s18 s19 s20 s21 s22) (comp_evA (enc := osD) (e := osD) (l := setsL m) (lk := [5]) rfl (by rcases p13 with rfl | ⟨_, rfl⟩ <;> rfl) rfl (by omega) (fun r _ => ?_) fun r _ _ => .d ?_) (by rcases p22 with (rfl | ⟨_, rfl⟩) | ⟨_, rfl⟩ <;> rfl)
  · rw [wipe_lock _ 13 5 _ (.lst ((setsL m).map osD)) (by omega) rfl]
    have e1 : (fCallK kLen (fCons (fVar 13) fNil)) (((kS sc D g n m s6 os s8 s9 s10 s11 s12 s13 (.d (toldD g os n)) i s16 s17 s18 s19 s20 s21 s22).set 5 (.k (.lst ((setsL m).map osD)))).set 13 (.d (osD r))) = .ok (.d (natD r.length)) (((kS sc D g n m s6 os s8 s9 s10 s11 s12 s13 (.d (toldD g os n)) i s16 s17 s18 s19 s20 s21 s22).set 5 (.k (.lst ((setsL m).map osD)))).set 13 (.d (osD r))) := by
      show Res.ok (Rv.d (.int ((r.map natD).length : Nat))) _ = _
      rw [List.length_map]; rfl
    have e2 : (fOp2 kIdx (fVar 14) (fVar 15)) (((kS sc D g n m s6 os s8 s9 s10 s11 s12 s13 (.d (toldD g os n)) i s16 s17 s18 s19 s20 s21 s22).set 5 (.k (.lst ((setsL m).map osD)))).set 13 (.d (osD r))) = .ok (.d (osD (hidL g os n i))) (((kS sc D g n m s6 os s8 s9 s10 s11 s12 s13 (.d (toldD g os n)) i s16 s17 s18 s19 s20 s21 s22).set 5 (.k (.lst ((setsL m).map osD)))).set 13 (.d (osD r))) := by
      refine idx_ev rfl rfl (.inl rfl) rfl (atI_natL ?_)
      rw [List.getElem?_map, List.getElem?_range hi]
      rfl
    have e3 : (fCallK kLen (fCons (fOp2 kIdx (fVar 14) (fVar 15)) fNil)) (((kS sc D g n m s6 os s8 s9 s10 s11 s12 s13 (.d (toldD g os n)) i s16 s17 s18 s19 s20 s21 s22).set 5 (.k (.lst ((setsL m).map osD)))).set 13 (.d (osD r))) = .ok (.d (natD (hidL g os n i).length)) (((kS sc D g n m s6 os s8 s9 s10 s11 s12 s13 (.d (toldD g os n)) i s16 s17 s18 s19 s20 s21 s22).set 5 (.k (.lst ((setsL m).map osD)))).set 13 (.d (osD r))) := by
      refine kc_ev (cons_ev e2 rfl) ?_
      show Res.ok (Rv.d (.int (((hidL g os n i).map natD).length : Nat))) _ = _
      rw [List.length_map]; rfl
    refine test_ev (op_ev e1 e3 ?_)
    show Res.ok (Rv.d (.bool (decide ((r.length : Int) < ((hidL g os n i).length : Int))))) _ = _
    rw [show decide ((r.length : Int) < ((hidL g os n i).length : Int)) = decide (r.length < (hidL g os n i).length) from decide_eq_decide.mpr Int.ofNat_lt]
  · rw [wipe_lock _ 13 5 _ (.lst ((setsL m).map osD)) (by omega) rfl]
    rfl
end
end D71
namespace D71
open PySem PySem.Spec PyProof.Rows L2 Fx
/-- a loop over a list that is held -/
theorem forOw {α : Type} {body : Gm → Res Out} {v i : Nat} (enc : α → PyData) (I : Gm → Prop) {G : Gm} (l : List α) (hit : iSeq (fVar i) G = .ok (l.map enc, [i]) G) (h0 : I (lockAll G [i]))
    (hs : ∀ a ∈ l, ∀ G, I G → ∃ G1, gN v (enc a) G = some G1 ∧ ∃ G2, body G1 = .ok .nx G2 ∧ I G2) : ∃ G', sFor (iSeq (fVar i)) (gN v) body G = .ok .nx (unlockAll G G') ∧ I G' := by
  have lp := loop_findA (tg := gN v) (body := body) enc I (fun _ => False) (fun _ => none) l (lockAll G [i]) h0 fun a ha G hG => by
    obtain ⟨G1, e1, G2, e2, h2⟩ := hs a ha G hG
    exact ⟨G1, e1, G2, .inl e2, h2⟩
  rw [List.findSome?_eq_none_iff.mpr fun _ _ => rfl] at lp
  obtain ⟨G', e, h'⟩ := lp
  exact ⟨G', for_nx hit e, h'⟩
theorem lock_one (G : Gm) (j : Nat) (o : Ao) (h : G[j]? = some (.l o)) : lockAll G [j] = G.set j (.k o) := by
  refine List.ext_getElem? fun t => ?_
  unfold lockAll
  rw [List.getElem?_mapIdx]
  by_cases f : j = t
  · subst f
    rw [h, List.getElem?_set_self (List.getElem?_eq_some_iff.mp h).1]
    show some (if [j].contains j then lockS (.l o) else .l o) = _
    rw [if_pos (by simp)]
    rfl
  · rw [List.getElem?_set_ne f]
    cases G[t]? with
    | none => rfl
    | some x =>
      show some (if [j].contains t then lockS x else x) = some x
      rw [if_neg (by simpa using fun q => f q.symm)]
section
variable {sc : PyData} {D : List PyData} {g : List (List Int)} {n m i : Nat} {s6 : Sl} {os : List Nat} {s8 s9 s10 s11 s12 s13 s14 s16 s17 s18 s19 s20 s21 s22 : Sl}
theorem bSm_ev {r : List Nat} (h : Good g n m) (ho : Own os n m) (hi : i < n) (p16 : Pl s16) (hr : envL g os r n i ≠ []) :
    bSm (kS sc D g n m s6 os s8 s9 s10 s11 s12 (.d (osD r)) s14 i s16 s17 s18 s19 s20 s21 s22) = .ok .nx (kS sc D g n m s6 os s8 s9 s10 s11 s12 (.d (osD r)) s14 i s16 s17 s18 s19 s20 s21 s22) := by
  have e3 := envs_ev (sc := sc) (D := D) (s6 := s6) (s8 := s8) (s9 := s9) (s10 := s10) (s11 := s11) (s12 := s12) (s13 := .d (osD r)) (s14 := s14) (s17 := s17) (s18 := s18) (s19 := s19) (s20 := s20) (s21 := s21) (s22 := s22) (fh := fVar 13) (hs := r) h ho hi p16 fun k => rfl
  have c := test_ev (op_ev (k := kEq) (fb := fLst fNil) e3 rfl (eq_nil _ _))
  unfold bSm
  refine if_f c (decide_eq_false hr) ?_
  rfl
theorem smLoop {rs : List (List Nat)} (h : Good g n m) (ho : Own os n m) (hi : i < n) (p6 : Pl s6) (p8 : Pl s8) (p9 : Pl s9) (p10 : Fr s10) (p11 : Pl s11) (p12 : Pl s12) (p13 : Pl s13) (p14 : Pl s14) (p16 : Pl s16) (p17 : Fr s17) (p18 : Pl s18) (p19 : Fr s19) (p20 : Fr s20) (p21 : Pl s21) (hr : ∀ r ∈ rs, envL g os r n i ≠ []) :
    ∃ t13, Pl t13 ∧ (sFor (iSeq (fVar 22)) (gN 13) bSm) (kS sc D g n m s6 os s8 s9 s10 s11 s12 s13 s14 i s16 s17 s18 s19 s20 s21 (.l (.lst (rs.map osD)))) = .ok .nx (kS sc D g n m s6 os s8 s9 s10 s11 s12 t13 s14 i s16 s17 s18 s19 s20 s21 (.l (.lst (rs.map osD)))) := by
  obtain ⟨G', e, t13, q13, rfl⟩ := forOw (body := bSm) (v := 13) (i := 22) osD (fun G => ∃ t13, Pl t13 ∧ G = kS sc D g n m s6 os s8 s9 s10 s11 s12 t13 s14 i s16 s17 s18 s19 s20 s21 (.k (.lst (rs.map osD))))
    (G := kS sc D g n m s6 os s8 s9 s10 s11 s12 s13 s14 i s16 s17 s18 s19 s20 s21 (.l (.lst (rs.map osD)))) rs rfl ⟨s13, p13, lock_one _ 22 (.lst (rs.map osD)) rfl⟩ (by
      rintro r hrm G ⟨t13, q13, rfl⟩
      refine ⟨kS sc D g n m s6 os s8 s9 s10 s11 s12 (.d (osD r)) s14 i s16 s17 s18 s19 s20 s21 (.k (.lst (rs.map osD))), by rcases q13 with rfl | ⟨_, rfl⟩ <;> rfl, _, bSm_ev h ho hi p16 (hr r hrm), .d (osD r), .dd _, rfl⟩)
  refine ⟨t13, q13, e.trans ?_⟩
  have N : ∀ {a s : Sl}, noK s = true → unlk a s = s := unlk_noK
  show Res.ok Out.nx [_, _, _, _, _, _, unlk s6 s6, _, unlk s8 s8, unlk s9 s9, unlk s10 s10, unlk s11 s11, unlk s12 s12, unlk s13 t13, unlk s14 s14, _, unlk s16 s16, unlk s17 s17, unlk s18 s18, unlk s19 s19, unlk s20 s20, unlk s21 s21, _, _, _, _, _, _, _] = _
  rw [N (noK_pl p6), N (noK_pl p8), N (noK_pl p9), N (noK_fr p10), N (noK_pl p11), N (noK_pl p12), N (noK_pl q13), N (noK_pl p14), N (noK_pl p16), N (noK_fr p17), N (noK_pl p18), N (noK_fr p19), N (noK_fr p20), N (noK_pl p21)]
  rfl
theorem bI_ev (h : Good g n m) (hm : m ≤ 6) (ho : Own os n m) (hi : i < n) (p6 : Pl s6) (p8 : Pl s8) (p9 : Pl s9) (p10 : Fr s10) (p11 : Pl s11) (p12 : Pl s12) (p13 : Pl s13) (p16 : Pl s16) (p17 : Fr s17) (p18 : Pl s18) (p19 : Fr s19) (p20 : Fr s20) (p21 : Pl s21) (p22 : Fr s22) :
    ∃ t10 t13 t16 t17 t19 t20 t22, Fr t10 ∧ Pl t13 ∧ Pl t16 ∧ Fr t17 ∧ Fr t19 ∧ Fr t20 ∧ Fr t22 ∧ bI (kS sc D g n m s6 os s8 s9 s10 s11 s12 s13 (.d (toldD g os n)) i s16 s17 s18 s19 s20 s21 s22)
      = .ok .nx (kS sc D g n m s6 os s8 s9 t10 s11 s12 t13 (.d (toldD g os n)) i t16 t17 s18 t19 t20 s21 t22) := by
  have e0 : sSet 10 (fLst fNil) (kS sc D g n m s6 os s8 s9 s10 s11 s12 s13 (.d (toldD g os n)) i s16 s17 s18 s19 s20 s21 s22) = .ok .nx (kS sc D g n m s6 os s8 s9 (.l (.lst [])) s11 s12 s13 (.d (toldD g os n)) i s16 s17 s18 s19 s20 s21 s22) :=
    set_new (i := 10) (G1 := kS sc D g n m s6 os s8 s9 s10 s11 s12 s13 (.d (toldD g os n)) i s16 s17 s18 s19 s20 s21 s22) rfl (by rcases p10 with (rfl | ⟨_, rfl⟩) | ⟨_, rfl⟩ <;> rfl)
  obtain ⟨t16, t17, t19, t20, q16, q17, q19, q20, e1⟩ := kLoop (sc := sc) (D := D) (s14 := .d (toldD g os n)) h ho hi p6 p8 p9 p11 p12 p13 (.dd _) p16 p17 p18 p19 p20 p21 p22
  have e2 := tI_ev (sc := sc) (D := D) (s6 := s6) (s8 := s8) (s9 := s9) (s11 := s11) (s12 := s12) (s13 := s13) (s17 := t17) (s18 := s18) (s19 := t19) (s20 := t20) (s21 := s21) (s22 := s22) h ho hi q16
  have e3 := fSm_ev (sc := sc) (D := D) (s6 := s6) (os := os) (s8 := s8) (s9 := s9) (s10 := .l (.lst ((outs g os i n).map natD))) (s11 := s11) (s12 := s12) (s16 := t16) (s17 := t17) (s18 := s18) (s19 := t19) (s20 := t20) (s21 := s21) h hm hi p13 p22
  obtain ⟨t13, q13, e4⟩ := smLoop (sc := sc) (D := D) (s10 := .l (.lst ((outs g os i n).map natD))) (s14 := .d (toldD g os n)) (rs := (setsL m).filter fun r => decide (r.length < (hidL g os n i).length)) h ho hi p6 p8 p9 (.l _) p11 p12 p13 (.dd _) q16 q17 p18 q19 q20 p21 (fun r hr => by
    obtain ⟨h1, h2⟩ := List.mem_filter.mp hr
    have hh := setsL_hid hm h1
    exact envL_small h hi (hh.2.1.imp fun h => Nat.ne_of_lt h) (of_decide_eq_true h2))
  exact ⟨_, t13, t16, t17, t19, t20, _, .l _, q13, q16, q17, q19, q20, .l _, seq_go e0 (seq_go e1 (seq_go (if_f e2 rfl rfl) (seq_go e3 e4)))⟩
end
end D71
namespace D71
open PySem PySem.Spec PyProof.Rows L2 Fx
theorem callM_ev {F : Gm → Res Rv} {fs : Gm → Res (List Rv)} {G A : Gm} {i : Nat} {D D' : List PyData} {x : PyData} (ds : List PyData) (hv : fVar i G = .ok (.own i) G) (hm : mutAt G i = some (.lst D)) (hs : fs G = .ok (ds.map Rv.d) G) (hF : F (.x (.lst D) :: ds.map Sl.d) = .ok (.d x) (.x (.lst D') :: A)) :
    fCallK (kCallM F) (fCons (fVar i) fs) G = .ok (.d x) (setOwn G i (.lst D')) := by
  unfold fCallK
  rw [cons_ev hv hs, Res.bind_ok]
  unfold kCallM
  dsimp only
  rw [hm, argsOf_d]
  dsimp only
  rw [hF]
/-- the slots of the law -/
abbrev tS (sc : PyData) (D : List PyData) (g : List (List Int)) (n m : Nat) (s6 s7 s8 s9 s10 s11 s12 s13 s14 s15 s16 s17 s18 s19 s20 s21 s22 : Sl) : Gm :=
  [.d sc, .l (.lst D), .d (gameD g), .d (natD n), .d (natD m), .l (.lst ((setsL m).map osD)), s6, s7, s8, s9, s10, s11, s12, s13, s14, s15, s16, s17, s18, s19, s20, s21, s22, .no, .no, .no, .no, .no, .no]
def bT : Gm → Res Out := (sSeq (sSet 7 (fCallK (kCallM F_law_owners) (fCons (fVar 1) (fCons (fVar 2) fNil))))
  (sSeq (sFor (iRg1 (fC (.int 4))) (gN 8) bChk)
  (sSeq (sSet 12 (fOp2 kIdx (fComp (iSeq (fVar 5)) [13] (gN 13) (fTest (fOp2 kIsN (fCallK (kCall F_law_objection) (fCons (fVar 2) (fCons (fVar 7) (fCons (fVar 13) fNil)))) (fC .none))) (fVar 13)) (fC (.int 0))))
  (sSeq (sIf (fTest (fOp2 kNe (fCallK (kCall F_least_hidden) (fCons (fVar 2) (fCons (fVar 7) fNil))) (fVar 12))) (sRet (fC (.bool false))) sNx)
  (sSeq (sSet 14 (fCallK (kCall F_hidden_of) (fCons (fVar 2) (fCons (fVar 7) fNil))))
  (sSeq (sIf (tOr' (tNot' (fTest (fUn (kIsi "tuple") (fVar 14)))) (fTest (fOp2 kNe (fCallK kLen (fCons (fVar 14) fNil)) (fVar 3)))) (sRet (fC (.bool false))) sNx)
  (sFor (iRg1 (fVar 3)) (gN 15) bI)))))))
theorem tS_noK {sc : PyData} {D : List PyData} {g : List (List Int)} {n m : Nat} {s6 s7 s8 s9 s10 s11 s12 s13 s14 s15 s16 s17 s18 s19 s20 s21 s22 : Sl} (h : ∀ s ∈ [s6, s7, s8, s9, s10, s11, s12, s13, s14, s15, s16, s17, s18, s19, s20, s21, s22], noK s = true) :
    ∀ s ∈ tS sc D g n m s6 s7 s8 s9 s10 s11 s12 s13 s14 s15 s16 s17 s18 s19 s20 s21 s22, noK s = true := by
  simp only [List.mem_cons, List.not_mem_nil, or_false, forall_eq_or_imp, forall_eq] at h ⊢
  obtain ⟨a1, a2, a3, a4, a5, a6, a7, a8, a9, a10, a11, a12, a13, a14, a15, a16, a17⟩ := h
  exact ⟨rfl, rfl, rfl, rfl, rfl, rfl, a1, a2, a3, a4, a5, a6, a7, a8, a9, a10, a11, a12, a13, a14, a15, a16, a17, rfl, rfl, rfl, rfl, rfl, rfl⟩
/-- what the slots may hold between two turns -/
structure Tt (s6 s7 s8 s9 s10 s11 s12 s13 s14 s15 s16 s17 s18 s19 s20 s21 s22 : Sl) : Prop where
  p6 : Pl s6
  p7 : Pl s7
  p8 : Pl s8
  p9 : Pl s9
  p10 : Fr s10
  p11 : Pl s11
  p12 : Pl s12
  p13 : Pl s13
  p14 : Pl s14
  p15 : Pl s15
  p16 : Pl s16
  p17 : Fr s17
  p18 : Pl s18
  p19 : Fr s19
  p20 : Fr s20
  p21 : Pl s21
  p22 : Fr s22
section
variable {sc : PyData} {D : List PyData} {g : List (List Int)} {n m : Nat} {s6 s7 s8 s9 s10 s11 s12 s13 s14 s15 s16 s17 s18 s19 s20 s21 s22 : Sl}
theorem Tt.noK (T : Tt s6 s7 s8 s9 s10 s11 s12 s13 s14 s15 s16 s17 s18 s19 s20 s21 s22) : ∀ s ∈ tS sc D g n m s6 s7 s8 s9 s10 s11 s12 s13 s14 s15 s16 s17 s18 s19 s20 s21 s22, noK s = true := by
  refine tS_noK ?_
  simp only [List.mem_cons, List.not_mem_nil, or_false, forall_eq_or_imp, forall_eq]
  exact ⟨noK_pl T.p6, noK_pl T.p7, noK_pl T.p8, noK_pl T.p9, noK_fr T.p10, noK_pl T.p11, noK_pl T.p12, noK_pl T.p13, noK_pl T.p14, noK_pl T.p15, noK_pl T.p16, noK_fr T.p17, noK_pl T.p18, noK_fr T.p19, noK_fr T.p20, noK_pl T.p21, noK_fr T.p22⟩
theorem iLoop {os : List Nat} (h : Good g n m) (hm : m ≤ 6) (ho : Own os n m) (T : Tt s6 (.d (osD os)) s8 s9 s10 s11 s12 s13 (.d (toldD g os n)) s15 s16 s17 s18 s19 s20 s21 s22) :
    ∃ t10 t13 t15 t16 t17 t19 t20 t22, Tt s6 (.d (osD os)) s8 s9 t10 s11 s12 t13 (.d (toldD g os n)) t15 t16 t17 s18 t19 t20 s21 t22 ∧ (sFor (iRg1 (fVar 3)) (gN 15) bI) (tS sc D g n m s6 (.d (osD os)) s8 s9 s10 s11 s12 s13 (.d (toldD g os n)) s15 s16 s17 s18 s19 s20 s21 s22)
      = .ok .nx (tS sc D g n m s6 (.d (osD os)) s8 s9 t10 s11 s12 t13 (.d (toldD g os n)) t15 t16 t17 s18 t19 t20 s21 t22) := by
  have n6 := h.n6
  obtain ⟨G', e, t10, t13, t15, t16, t17, t19, t20, t22, T', rfl⟩ := forRg (f := fVar 3) (body := bI) (v := 15) (fun _ G => ∃ t10 t13 t15 t16 t17 t19 t20 t22, Tt s6 (.d (osD os)) s8 s9 t10 s11 s12 t13 (.d (toldD g os n)) t15 t16 t17 s18 t19 t20 s21 t22 ∧ G = tS sc D g n m s6 (.d (osD os)) s8 s9 t10 s11 s12 t13 (.d (toldD g os n)) t15 t16 t17 s18 t19 t20 s21 t22)
    (G := tS sc D g n m s6 (.d (osD os)) s8 s9 s10 s11 s12 s13 (.d (toldD g os n)) s15 s16 s17 s18 s19 s20 s21 s22) n (by omega) rfl ⟨s10, s13, s15, s16, s17, s19, s20, s22, T, rfl⟩ (by
      rintro G' ⟨t10, t13, t15, t16, t17, t19, t20, t22, T', rfl⟩
      exact ⟨rfl, T'.noK⟩) (by
      rintro i hi G ⟨t10, t13, t15, t16, t17, t19, t20, t22, T', rfl⟩
      obtain ⟨u10, u13, u16, u17, u19, u20, u22, q10, q13, q16, q17, q19, q20, q22, e⟩ := bI_ev (sc := sc) (D := D) h hm ho hi T'.p6 T'.p8 T'.p9 T'.p10 T'.p11 T'.p12 T'.p13 T'.p16 T'.p17 T'.p18 T'.p19 T'.p20 T'.p21 T'.p22
      refine ⟨_, ?_, _, e, u10, u13, .d (natD i), u16, u17, u19, u20, u22, ⟨T'.p6, T'.p7, T'.p8, T'.p9, q10, T'.p11, T'.p12, q13, T'.p14, .dd _, q16, q17, T'.p18, q19, q20, T'.p21, q22⟩, rfl⟩
      rcases T'.p15 with rfl | ⟨_, rfl⟩ <;> rfl)
  exact ⟨t10, t13, t15, t16, t17, t19, t20, t22, T', e⟩
theorem bT_ev (h : Good g n m) (hm : m ≤ 6) (hD : Dr D) (T : Tt s6 s7 s8 s9 s10 s11 s12 s13 s14 s15 s16 s17 s18 s19 s20 s21 s22) :
    ∃ D' os t8 t9 t10 t11 t12 t13 t14 t15 t16 t17 t19 t20 t22, Own os n m ∧ Dr D' ∧ Tt s6 (.d (osD os)) t8 t9 t10 t11 t12 t13 t14 t15 t16 t17 s18 t19 t20 s21 t22 ∧ bT (tS sc D g n m s6 s7 s8 s9 s10 s11 s12 s13 s14 s15 s16 s17 s18 s19 s20 s21 s22)
      = .ok .nx (tS sc D' g n m s6 (.d (osD os)) t8 t9 t10 t11 t12 t13 t14 t15 t16 t17 s18 t19 t20 s21 t22) := by
  obtain ⟨f1, f2⟩ := sets_few m (by omega)
  obtain ⟨os, D1, ho, hD1, e0⟩ := owners_ev h hD
  have e1 : sSet 7 (fCallK (kCallM F_law_owners) (fCons (fVar 1) (fCons (fVar 2) fNil))) (tS sc D g n m s6 s7 s8 s9 s10 s11 s12 s13 s14 s15 s16 s17 s18 s19 s20 s21 s22) = .ok .nx (tS sc D1 g n m s6 (.d (osD os)) s8 s9 s10 s11 s12 s13 s14 s15 s16 s17 s18 s19 s20 s21 s22) :=
    set_d (i := 7) (G1 := tS sc D1 g n m s6 s7 s8 s9 s10 s11 s12 s13 s14 s15 s16 s17 s18 s19 s20 s21 s22) (callM_ev [gameD g] rfl rfl rfl e0) (by rcases T.p7 with rfl | ⟨_, rfl⟩ <;> rfl)
  obtain ⟨D2, t8, t9, t10, t11, hD2, q8, q9, q10, q11, e2⟩ := chkAll_ev (sc := sc) (D := D1) (s6 := s6) (s8 := s8) (s9 := s9) (s10 := s10) (s11 := s11) (tl := [s12, s13, s14, s15, s16, s17, s18, s19, s20, s21, s22, .no, .no, .no, .no, .no, .no]) h hm ho hD1 T.p6 T.p8 T.p9 T.p10 T.p11 (by
    simp only [List.mem_cons, List.not_mem_nil, or_false, forall_eq_or_imp, forall_eq]
    exact ⟨noK_pl T.p12, noK_pl T.p13, noK_pl T.p14, noK_pl T.p15, noK_pl T.p16, noK_fr T.p17, noK_pl T.p18, noK_fr T.p19, noK_fr T.p20, noK_pl T.p21, noK_fr T.p22, rfl, rfl, rfl, rfl, rfl, rfl⟩)
  obtain ⟨l, el⟩ := least_head h hm ho
  have e3 : sSet 12 (fOp2 kIdx (fComp (iSeq (fVar 5)) [13] (gN 13) (fTest (fOp2 kIsN (fCallK (kCall F_law_objection) (fCons (fVar 2) (fCons (fVar 7) (fCons (fVar 13) fNil)))) (fC .none))) (fVar 13)) (fC (.int 0))) (tS sc D2 g n m s6 (.d (osD os)) t8 t9 t10 t11 s12 s13 s14 s15 s16 s17 s18 s19 s20 s21 s22)
      = .ok .nx (tS sc D2 g n m s6 (.d (osD os)) t8 t9 t10 t11 (.d (osD ((leastL g os n m).getD (List.range m)))) s13 s14 s15 s16 s17 s18 s19 s20 s21 s22) := by
    have c : (fComp (iSeq (fVar 5)) [13] (gN 13) (fTest (fOp2 kIsN (fCallK (kCall F_law_objection) (fCons (fVar 2) (fCons (fVar 7) (fCons (fVar 13) fNil)))) (fC .none))) (fVar 13)) (tS sc D2 g n m s6 (.d (osD os)) t8 t9 t10 t11 s12 s13 s14 s15 s16 s17 s18 s19 s20 s21 s22)
        = .ok (.new (.lst (((setsL m).filter fun r => hides g os r n).map osD))) (tS sc D2 g n m s6 (.d (osD os)) t8 t9 t10 t11 s12 s13 s14 s15 s16 s17 s18 s19 s20 s21 s22) := by
      refine comp_evA (enc := osD) (e := osD) (l := setsL m) (lk := [5]) rfl (by rcases T.p13 with rfl | ⟨_, rfl⟩ <;> rfl) rfl (by omega) (fun r _ => ?_) fun r _ _ => .d ?_
      · rw [wipe_lock _ 13 5 _ (.lst ((setsL m).map osD)) (by omega) rfl]
        refine test_ev (op_ev (call_ev [gameD g, osD os, osD r] rfl (obj_ev h ho)) rfl ?_)
        unfold hides
        rw [← isN_objD]
        rfl
      · rw [wipe_lock _ 13 5 _ (.lst ((setsL m).map osD)) (by omega) rfl]
        rfl
    rw [el] at c
    exact set_d (i := 12) (G1 := tS sc D2 g n m s6 (.d (osD os)) t8 t9 t10 t11 s12 s13 s14 s15 s16 s17 s18 s19 s20 s21 s22) (idx_ev c rfl (.inr rfl) rfl (atI_natL (j := 0) rfl)) (by rcases T.p12 with rfl | ⟨_, rfl⟩ <;> rfl)
  have e4 : (fTest (fOp2 kNe (fCallK (kCall F_least_hidden) (fCons (fVar 2) (fCons (fVar 7) fNil))) (fVar 12))) (tS sc D2 g n m s6 (.d (osD os)) t8 t9 t10 t11 (.d (osD ((leastL g os n m).getD (List.range m)))) s13 s14 s15 s16 s17 s18 s19 s20 s21 s22)
      = .ok false (tS sc D2 g n m s6 (.d (osD os)) t8 t9 t10 t11 (.d (osD ((leastL g os n m).getD (List.range m)))) s13 s14 s15 s16 s17 s18 s19 s20 s21 s22) := by
    have := ne_osD (tS sc D2 g n m s6 (.d (osD os)) t8 t9 t10 t11 (.d (osD ((leastL g os n m).getD (List.range m)))) s13 s14 s15 s16 s17 s18 s19 s20 s21 s22) ((leastL g os n m).getD (List.range m)) ((leastL g os n m).getD (List.range m))
    rw [decide_eq_true rfl] at this
    exact test_ev (op_ev (call_ev [gameD g, osD os] rfl (least_ev h hm ho)) rfl this)
  have e5 : sSet 14 (fCallK (kCall F_hidden_of) (fCons (fVar 2) (fCons (fVar 7) fNil))) (tS sc D2 g n m s6 (.d (osD os)) t8 t9 t10 t11 (.d (osD ((leastL g os n m).getD (List.range m)))) s13 s14 s15 s16 s17 s18 s19 s20 s21 s22)
      = .ok .nx (tS sc D2 g n m s6 (.d (osD os)) t8 t9 t10 t11 (.d (osD ((leastL g os n m).getD (List.range m)))) s13 (.d (toldD g os n)) s15 s16 s17 s18 s19 s20 s21 s22) :=
    set_d (i := 14) (G1 := tS sc D2 g n m s6 (.d (osD os)) t8 t9 t10 t11 (.d (osD ((leastL g os n m).getD (List.range m)))) s13 s14 s15 s16 s17 s18 s19 s20 s21 s22) (call_ev [gameD g, osD os] rfl (hidden_ev h ho)) (by rcases T.p14 with rfl | ⟨_, rfl⟩ <;> rfl)
  have e6 : (tOr' (tNot' (fTest (fUn (kIsi "tuple") (fVar 14)))) (fTest (fOp2 kNe (fCallK kLen (fCons (fVar 14) fNil)) (fVar 3)))) (tS sc D2 g n m s6 (.d (osD os)) t8 t9 t10 t11 (.d (osD ((leastL g os n m).getD (List.range m)))) s13 (.d (toldD g os n)) s15 s16 s17 s18 s19 s20 s21 s22)
      = .ok (false || false) (tS sc D2 g n m s6 (.d (osD os)) t8 t9 t10 t11 (.d (osD ((leastL g os n m).getD (List.range m)))) s13 (.d (toldD g os n)) s15 s16 s17 s18 s19 s20 s21 s22) := by
    refine or_ev (a := false) (b := false) rfl fun _ => test_ev ?_
    have l : (fCallK kLen (fCons (fVar 14) fNil)) (tS sc D2 g n m s6 (.d (osD os)) t8 t9 t10 t11 (.d (osD ((leastL g os n m).getD (List.range m)))) s13 (.d (toldD g os n)) s15 s16 s17 s18 s19 s20 s21 s22) = .ok (.d (natD n)) (tS sc D2 g n m s6 (.d (osD os)) t8 t9 t10 t11 (.d (osD ((leastL g os n m).getD (List.range m)))) s13 (.d (toldD g os n)) s15 s16 s17 s18 s19 s20 s21 s22) := by
      show Res.ok (Rv.d (.int (((List.range n).map fun i => osD (hidL g os n i)).length : Nat))) _ = _
      rw [List.length_map, List.length_range]
      rfl
    have q := kNe_nat (tS sc D2 g n m s6 (.d (osD os)) t8 t9 t10 t11 (.d (osD ((leastL g os n m).getD (List.range m)))) s13 (.d (toldD g os n)) s15 s16 s17 s18 s19 s20 s21 s22) n n
    rw [decide_eq_true rfl] at q
    exact op_ev (k := kNe) (fb := fVar 3) l rfl q
  obtain ⟨u10, u13, u15, u16, u17, u19, u20, u22, T', e7⟩ := iLoop (sc := sc) (D := D2) (g := g) h hm ho (s6 := s6) (s8 := t8) (s9 := t9) (s10 := t10) (s11 := t11) (s12 := .d (osD ((leastL g os n m).getD (List.range m)))) (s13 := s13) (s15 := s15) (s16 := s16) (s17 := s17) (s18 := s18) (s19 := s19) (s20 := s20) (s21 := s21) (s22 := s22)
    ⟨T.p6, .dd _, q8, q9, q10, q11, .dd _, T.p13, .dd _, T.p15, T.p16, T.p17, T.p18, T.p19, T.p20, T.p21, T.p22⟩
  exact ⟨D2, os, _, _, _, _, _, _, _, _, _, _, _, _, _, ho, hD2, T', seq_go e1 (seq_go e2 (seq_go e3 (seq_go (if_f e4 rfl rfl) (seq_go e5 (seq_go (if_f e6 rfl rfl) e7)))))⟩
end
end D71
namespace D71
open PySem PySem.Spec PyProof.Rows L2 Fx
def tailF : Gm → Res Out := (sSeq (sAsg (gT 2 (gsCons (gN 23) (gsCons (gN 24) gsNil))) (fTup (fCons (fCallK (kCallM F_law_bad_game) (fCons (fVar 1) (fCons (fVar 2) fNil))) (fCons (fCallK (kCallM F_law_bad_owners) (fCons (fVar 1) (fCons (fVar 2) (fCons (fVar 7) fNil)))) fNil))))
  (sSeq (sSet 25 (fOp2 kIdx (fLst (fCons (fC .none) (fCons (fLst (fCons (fC (.int 0)) fNil)) (fCons (fTup (fCons (fVar 4) fNil)) (fCons (fTup (fCons (fUn kNeg (fC (.int 1))) fNil)) (fCons (fTup (fCons (fC (.int 0)) (fCons (fC (.int 0)) fNil))) (fCons (fTup (fCons (fC (.bool true)) fNil)) (fCons (fC (.str (Str.ofString "0"))) (fCons (fC (.int 0)) fNil))))))))) (fCallK (kCallM F_law_take) (fCons (fVar 1) (fCons (fC (.int 8)) fNil)))))
  (sSeq (sSet 26 (fOp2 kAdd (fOp2 kAdd (fComp (iRg1 (fC (.int 4))) [27] (gN 27) tYesF (fTup (fCons (fVar 27) (fCons (fVar 23) (fCons (fVar 7) (fCons (fTup fNil) fNil)))))) (fComp (iRg1 (fC (.int 4))) [27] (gN 27) tYesF (fTup (fCons (fVar 27) (fCons (fVar 2) (fCons (fVar 24) (fCons (fTup fNil) fNil))))))) (fComp (iRg1 (fC (.int 2))) [27] (gN 27) tYesF (fTup (fCons (fVar 27) (fCons (fVar 2) (fCons (fVar 7) (fCons (fVar 25) fNil))))))))
  (sRet (fOp2 kEq (fComp (iSeq (fVar 26)) [28] (gN 28) (fTest (fOp2 kNe (fCallK (kCall F_law_word) (fCons (fVar 28) fNil)) (fC (.str (Str.ofString "malformed"))))) (fVar 28)) (fLst fNil))))))
theorem retAll_d (G : Gm) : ∀ ds : List PyData, retainAll G (ds.map Rv.d) = some (ds, G)
  | [] => rfl
  | d :: r => by
    show (match retain G (.d d) with | some (d, G1) => (match retainAll G1 (r.map Rv.d) with | some (ds, G2) => some (d :: ds, G2) | none => none) | none => none) = _
    show (match retainAll G (r.map Rv.d) with | some (ds, G2) => some (d :: ds, G2) | none => none) = _
    rw [retAll_d G r]
theorem ne_str (G : Gm) (x : Str) (hx : PyData.strOk x = true) : kNe G (.d (.str x)) (.d (.str x)) = .ok (.d (.bool false)) G := by
  show (match Fx.opNe (.str x) (.str x) with | some z => Res.ok (Rv.d z) G | none => .bad) = _
  unfold Fx.opNe
  have e : PyData.eqv (.str x) (.str x) = true := by
    rw [PyData.eqv]
    simp
  rw [e, show okD 60 (.str x) = true from hx]
  rfl
theorem tup_ev {fs : Gm → Res (List Rv)} {G G1 : Gm} (ds : List PyData) (h : fs G = .ok (ds.map Rv.d) G1) (hl : ds.length ≤ 16777216 := by decide) : fTup fs G = .ok (.d (.tuple ds)) G1 := by
  unfold fTup
  rw [h, Res.bind_ok]
  unfold Fx.kTup
  rw [retAll_d]
  dsimp only
  rw [if_pos (by unfold lim; exact decide_eq_true hl)]
theorem asg_ev {f : Gm → Res Rv} {tg : PyData → Gm → Option Gm} {G G1 G2 : Gm} {x : PyData} (h : f G = .ok (.d x) G1) (ht : tg x G1 = some G2) : sAsg tg f G = .ok .nx G2 := by
  unfold sAsg
  rw [h, Res.bind_ok]
  unfold kAsg
  dsimp only [retain]
  rw [ht]
def callD (f : Nat → PyData) (k : Nat) : List PyData := (List.range k).map f
theorem callD_mem {f : Nat → PyData} {k : Nat} {d : PyData} (h : d ∈ callD f k) : ∃ j, j < k ∧ d = f j := by
  obtain ⟨j, hj, rfl⟩ := List.mem_map.mp h
  exact ⟨j, List.mem_range.mp hj, rfl⟩
theorem tail_ev {sc : PyData} {D : List PyData} {g : List (List Int)} {n m : Nat} {s6 : Sl} {os : List Nat} {s8 s9 s10 s11 s12 s13 s14 s15 s16 s17 s18 s19 s20 s21 s22 : Sl} (h : Good g n m) (ho : Own os n m) (hD : Dr D) :
    ∃ G', tailF (tS sc D g n m s6 (.d (osD os)) s8 s9 s10 s11 s12 s13 s14 s15 s16 s17 s18 s19 s20 s21 s22) = .ok (.rt (.d (.bool true))) G' := by
  obtain ⟨b, D1, hb, hD1, e1⟩ := badgame_ev h hD
  obtain ⟨w, D2, hw, hD2, e2⟩ := badown_ev h ho hD1
  have t1 : (sAsg (gT 2 (gsCons (gN 23) (gsCons (gN 24) gsNil))) (fTup (fCons (fCallK (kCallM F_law_bad_game) (fCons (fVar 1) (fCons (fVar 2) fNil))) (fCons (fCallK (kCallM F_law_bad_owners) (fCons (fVar 1) (fCons (fVar 2) (fCons (fVar 7) fNil)))) fNil)))) (tS sc D g n m s6 (.d (osD os)) s8 s9 s10 s11 s12 s13 s14 s15 s16 s17 s18 s19 s20 s21 s22)
      = .ok .nx [.d sc, .l (.lst D2), .d (gameD g), .d (natD n), .d (natD m), .l (.lst ((setsL m).map osD)), s6, .d (osD os), s8, s9, s10, s11, s12, s13, s14, s15, s16, s17, s18, s19, s20, s21, s22, .d b, .d w, .no, .no, .no, .no] := by
    refine asg_ev (G1 := [.d sc, .l (.lst D2), .d (gameD g), .d (natD n), .d (natD m), .l (.lst ((setsL m).map osD)), s6, .d (osD os), s8, s9, s10, s11, s12, s13, s14, s15, s16, s17, s18, s19, s20, s21, s22, .no, .no, .no, .no, .no, .no]) (tup_ev (ds := [b, w]) (hl := by show 2 ≤ 16777216; omega) (cons_ev (callM_ev (i := 1) [gameD g] rfl rfl rfl e1) (cons_ev (callM_ev (i := 1) (G := [.d sc, .l (.lst D1), .d (gameD g), .d (natD n), .d (natD m), .l (.lst ((setsL m).map osD)), s6, .d (osD os), s8, s9, s10, s11, s12, s13, s14, s15, s16, s17, s18, s19, s20, s21, s22, .no, .no, .no, .no, .no, .no]) [gameD g, osD os] rfl rfl rfl e2) rfl))) ?_
    rfl
  obtain ⟨d, D3, hd, hD3, e3⟩ := odds_ev (G := [.d sc, .l (.lst D2), .d (gameD g), .d (natD n), .d (natD m), .l (.lst ((setsL m).map osD)), s6, .d (osD os), s8, s9, s10, s11, s12, s13, s14, s15, s16, s17, s18, s19, s20, s21, s22, .d b, .d w, .no, .no, .no, .no]) h rfl rfl rfl hD2
  have t2 := set_d (i := 25) (G1 := [.d sc, .l (.lst D3), .d (gameD g), .d (natD n), .d (natD m), .l (.lst ((setsL m).map osD)), s6, .d (osD os), s8, s9, s10, s11, s12, s13, s14, s15, s16, s17, s18, s19, s20, s21, s22, .d b, .d w, .no, .no, .no, .no]) e3
  have c1 : (fComp (iRg1 (fC (.int 4))) [27] (gN 27) tYesF (fTup (fCons (fVar 27) (fCons (fVar 23) (fCons (fVar 7) (fCons (fTup fNil) fNil)))))) [.d sc, .l (.lst D3), .d (gameD g), .d (natD n), .d (natD m), .l (.lst ((setsL m).map osD)), s6, .d (osD os), s8, s9, s10, s11, s12, s13, s14, s15, s16, s17, s18, s19, s20, s21, s22, .d b, .d w, .d d, .no, .no, .no]
      = .ok (.new (.lst (callD (fun k => .tuple [natD k, b, osD os, .tuple []]) 4))) [.d sc, .l (.lst D3), .d (gameD g), .d (natD n), .d (natD m), .l (.lst ((setsL m).map osD)), s6, .d (osD os), s8, s9, s10, s11, s12, s13, s14, s15, s16, s17, s18, s19, s20, s21, s22, .d b, .d w, .d d, .no, .no, .no] :=
    Eq.trans (comp_evR (enc := natD) (p := fun _ => true) (tst := tYesF) (l := List.range 4) (e := fun k => .tuple [natD k, b, osD os, .tuple []]) (rg_ev 4 rfl (by omega)) rfl rfl (by decide) (fun _ _ => rfl) fun k _ _ => .d rfl) rfl
  have c2 : (fComp (iRg1 (fC (.int 4))) [27] (gN 27) tYesF (fTup (fCons (fVar 27) (fCons (fVar 2) (fCons (fVar 24) (fCons (fTup fNil) fNil)))))) [.d sc, .l (.lst D3), .d (gameD g), .d (natD n), .d (natD m), .l (.lst ((setsL m).map osD)), s6, .d (osD os), s8, s9, s10, s11, s12, s13, s14, s15, s16, s17, s18, s19, s20, s21, s22, .d b, .d w, .d d, .no, .no, .no]
      = .ok (.new (.lst (callD (fun k => .tuple [natD k, gameD g, w, .tuple []]) 4))) [.d sc, .l (.lst D3), .d (gameD g), .d (natD n), .d (natD m), .l (.lst ((setsL m).map osD)), s6, .d (osD os), s8, s9, s10, s11, s12, s13, s14, s15, s16, s17, s18, s19, s20, s21, s22, .d b, .d w, .d d, .no, .no, .no] :=
    Eq.trans (comp_evR (enc := natD) (p := fun _ => true) (tst := tYesF) (l := List.range 4) (e := fun k => .tuple [natD k, gameD g, w, .tuple []]) (rg_ev 4 rfl (by omega)) rfl rfl (by decide) (fun _ _ => rfl) fun k _ _ => .d rfl) rfl
  have c3 : (fComp (iRg1 (fC (.int 2))) [27] (gN 27) tYesF (fTup (fCons (fVar 27) (fCons (fVar 2) (fCons (fVar 7) (fCons (fVar 25) fNil)))))) [.d sc, .l (.lst D3), .d (gameD g), .d (natD n), .d (natD m), .l (.lst ((setsL m).map osD)), s6, .d (osD os), s8, s9, s10, s11, s12, s13, s14, s15, s16, s17, s18, s19, s20, s21, s22, .d b, .d w, .d d, .no, .no, .no]
      = .ok (.new (.lst (callD (fun k => .tuple [natD k, gameD g, osD os, d]) 2))) [.d sc, .l (.lst D3), .d (gameD g), .d (natD n), .d (natD m), .l (.lst ((setsL m).map osD)), s6, .d (osD os), s8, s9, s10, s11, s12, s13, s14, s15, s16, s17, s18, s19, s20, s21, s22, .d b, .d w, .d d, .no, .no, .no] :=
    Eq.trans (comp_evR (enc := natD) (p := fun _ => true) (tst := tYesF) (l := List.range 2) (e := fun k => .tuple [natD k, gameD g, osD os, d]) (rg_ev 2 rfl (by omega)) rfl rfl (by decide) (fun _ _ => rfl) fun k _ _ => .d rfl) rfl
  let C := (callD (fun k => .tuple [natD k, b, osD os, .tuple []]) 4 ++ callD (fun k => .tuple [natD k, gameD g, w, .tuple []]) 4) ++ callD (fun k => .tuple [natD k, gameD g, osD os, d]) 2
  have t3 := set_new (i := 26) (x := .lst C) (op_ev (op_ev c1 c2 (kAdd_l rfl rfl (by show 4 + 4 ≤ 16777216; omega))) c3 (kAdd_l rfl rfl (by show 8 + 2 ≤ 16777216; omega)))
  have hC : ∀ c ∈ C, F_law_word [.d c] = .ok (.d (.str "malformed")) [.d c] := by
    intro c hc
    obtain hc | hc := List.mem_append.mp hc
    · obtain hc | hc := List.mem_append.mp hc
      · obtain ⟨k, hk, rfl⟩ := callD_mem hc
        exact lword_bad (lcall_bad k hk (share_badG hb))
      · obtain ⟨k, hk, rfl⟩ := callD_mem hc
        exact lword_bad (lcall_bad k hk (share_bad h hw))
    · obtain ⟨k, hk, rfl⟩ := callD_mem hc
      exact lword_bad (lcall_odd k hk h ho hd)
  have t4 : (fComp (iSeq (fVar 26)) [28] (gN 28) (fTest (fOp2 kNe (fCallK (kCall F_law_word) (fCons (fVar 28) fNil)) (fC (.str (Str.ofString "malformed"))))) (fVar 28)) [.d sc, .l (.lst D3), .d (gameD g), .d (natD n), .d (natD m), .l (.lst ((setsL m).map osD)), s6, .d (osD os), s8, s9, s10, s11, s12, s13, s14, s15, s16, s17, s18, s19, s20, s21, s22, .d b, .d w, .d d, .l (.lst C), .no, .no]
      = .ok (.new (.lst ((C.filter fun _ => false).map id))) [.d sc, .l (.lst D3), .d (gameD g), .d (natD n), .d (natD m), .l (.lst ((setsL m).map osD)), s6, .d (osD os), s8, s9, s10, s11, s12, s13, s14, s15, s16, s17, s18, s19, s20, s21, s22, .d b, .d w, .d d, .l (.lst C), .no, .no] := by
    refine comp_ev (ds := C) (lk := [26]) rfl rfl rfl (by show 10 ≤ 16777216; omega) (fun c hc => ?_) fun c _ z => by cases z
    rw [wipe_lock _ 28 26 _ (.lst C) (by omega) rfl]
    exact test_ev (op_ev (call_ev [c] rfl (hC c hc)) rfl (ne_str _ _ (by decide +kernel)))
  rw [List.filter_eq_nil_iff.mpr fun _ _ z => by cases z] at t4
  exact ⟨_, seq_go t1 (seq_go t2 (seq_go t3 (ret_ev (op_ev t4 rfl rfl))))⟩
end D71
namespace D71
open PySem PySem.Spec PyProof.Rows L2 Fx
theorem par_ev {fs : Gm → Res (List Rv)} {G G1 : Gm} {i j : Nat} {a b : PyData} (hs : fs G = .ok [.d a, .d b] G1) (h1 : freeAt G1 i = true := by rfl) (h2 : freeAt (G1.set i (.d a)) j = true := by rfl) : sPar i j fs G = .ok .nx ((G1.set i (.d a)).set j (.d b)) := by
  unfold sPar
  rw [hs, Res.bind_ok]
  dsimp only [plainR, Bool.and_self, if_true]
  unfold setSl
  rw [if_pos h1]
  dsimp only
  rw [if_pos h2]
  rfl
theorem law_true (ns : List Int) (h : ns.length ≤ 63) : ∃ G, F_law [.d (.dict [(.none, .list (ns.map .int))])] = .ok (.d (.bool true)) G := by
  obtain ⟨D, A, hD, e0⟩ := draw_ev ns h
  obtain ⟨g, n, m, D1, hg, _, hm, hD1, e1⟩ := game_draw hD (people := 4) (goods := 6) (most := 30) (by omega) (by omega) (by omega) (by omega) (by omega) (by omega)
  have n6 := hg.n6
  have lp := forRg (f := fC (.int 2)) (body := bT) (v := 6) (fun j G => ∃ D s6 s7 s8 s9 s10 s11 s12 s13 s14 s15 s16 s17 s18 s19 s20 s21 s22, Dr D ∧ Tt s6 s7 s8 s9 s10 s11 s12 s13 s14 s15 s16 s17 s18 s19 s20 s21 s22 ∧ (j = 0 ∨ ∃ os, Own os n m ∧ s7 = .d (osD os)) ∧ G = tS (.dict [(.none, .list (ns.map .int))]) D g n m s6 s7 s8 s9 s10 s11 s12 s13 s14 s15 s16 s17 s18 s19 s20 s21 s22)
    (G := tS (.dict [(.none, .list (ns.map .int))]) D1 g n m .no .no .no .no .no .no .no .no .no .no .no .no .no .no .no .no .no) 2 (by omega) rfl
    ⟨D1, _, _, _, _, _, _, _, _, _, _, _, _, _, _, _, _, _, hD1, ⟨.no, .no, .no, .no, .inl .no, .no, .no, .no, .no, .no, .no, .inl .no, .no, .inl .no, .inl .no, .no, .inl .no⟩, .inl rfl, rfl⟩ (by
      rintro G' ⟨D, s6, s7, s8, s9, s10, s11, s12, s13, s14, s15, s16, s17, s18, s19, s20, s21, s22, hD, T, _, rfl⟩
      exact ⟨rfl, T.noK⟩) (by
      rintro j _ G ⟨D, s6, s7, s8, s9, s10, s11, s12, s13, s14, s15, s16, s17, s18, s19, s20, s21, s22, hD, T, _, rfl⟩
      obtain ⟨D', os, t8, t9, t10, t11, t12, t13, t14, t15, t16, t17, t19, t20, t22, ho, hD', T', e⟩ := bT_ev (sc := .dict [(.none, .list (ns.map .int))]) hg hm hD (⟨.dd (natD j), T.p7, T.p8, T.p9, T.p10, T.p11, T.p12, T.p13, T.p14, T.p15, T.p16, T.p17, T.p18, T.p19, T.p20, T.p21, T.p22⟩)
      refine ⟨_, ?_, _, e, D', _, _, _, _, _, _, _, _, _, _, _, _, _, _, _, _, _, hD', T', .inr ⟨os, ho, rfl⟩, rfl⟩
      rcases T.p6 with rfl | ⟨_, rfl⟩ <;> rfl)
  obtain ⟨G', e4, D, s6, s7, s8, s9, s10, s11, s12, s13, s14, s15, s16, s17, s18, s19, s20, s21, s22, hD, T, hos, rfl⟩ := lp
  obtain ⟨os, ho, rfl⟩ := hos.resolve_left (by omega)
  obtain ⟨G5, e5⟩ := tail_ev (sc := .dict [(.none, .list (ns.map .int))]) (s6 := s6) (s8 := s8) (s9 := s9) (s10 := s10) (s11 := s11) (s12 := s12) (s13 := s13) (s14 := s14) (s15 := s15) (s16 := s16) (s17 := s17) (s18 := s18) (s19 := s19) (s20 := s20) (s21 := s21) (s22 := s22) hg ho hD
  exact ⟨_, run_d _ (seq_go (set_new (call_new [_] rfl e0)) (seq_go (set_d (callM_ev [natD 4, natD 6, natD 30] rfl rfl rfl e1)) (seq_go (par_ev (cons_ev (lenG_ev hg rfl) (cons_ev (g0_ev hg rfl) rfl))) (seq_go (set_new (call_new [natD m] rfl (sets_ev m hm))) (seq_go e4 e5)))))⟩
end D71
namespace D71
open PySem PySem.Spec PyProof.Rows L2 Fx
theorem all_mk {l : PySem.W.OpenLaw} {w : World} {K : PySem.W.Frag} {h : Heap} {mg : Str → Option Value} {fa : Addr} {f0 : Addr} {od0 an0 : Option Addr} {sl0 : Array (Option Value)} {oc0 kV0 dc0 pm0 ct0 : Value} {cd0 : Value} {f1 : Addr} {od1 an1 : Option Addr} {sl1 : Array (Option Value)} {oc1 kV1 dc1 pm1 ct1 : Value} {cd1 : Value} {f2 : Addr} {od2 an2 : Option Addr} {sl2 : Array (Option Value)} {oc2 kV2 dc2 pm2 ct2 : Value} {cd2 : Value} {f3 : Addr} {od3 an3 : Option Addr} {sl3 : Array (Option Value)} {oc3 kV3 dc3 pm3 ct3 : Value} {cd3 : Value} {f4 : Addr} {od4 an4 : Option Addr} {sl4 : Array (Option Value)} {oc4 kV4 dc4 pm4 ct4 : Value} {cd4 : Value} {f5 : Addr} {od5 an5 : Option Addr} {sl5 : Array (Option Value)} {oc5 kV5 dc5 pm5 ct5 : Value} {cd5 : Value} {f6 : Addr} {od6 an6 : Option Addr} {sl6 : Array (Option Value)} {oc6 kV6 dc6 pm6 ct6 : Value} {cd6 : Value} {f7 : Addr} {od7 an7 : Option Addr} {sl7 : Array (Option Value)} {oc7 kV7 dc7 pm7 ct7 : Value} {cd7 : Value} {f8 : Addr} {od8 an8 : Option Addr} {sl8 : Array (Option Value)} {oc8 kV8 dc8 pm8 ct8 : Value} {cd8 : Value} {f9 : Addr} {od9 an9 : Option Addr} {sl9 : Array (Option Value)} {oc9 kV9 dc9 pm9 ct9 : Value} {cd9 : Value} {f10 : Addr} {od10 an10 : Option Addr} {sl10 : Array (Option Value)} {oc10 kV10 dc10 pm10 ct10 : Value} {cd10 : Value} {f11 : Addr} {od11 an11 : Option Addr} {sl11 : Array (Option Value)} {oc11 kV11 dc11 pm11 ct11 : Value} {cd11 : Value} {f12 : Addr} {od12 an12 : Option Addr} {sl12 : Array (Option Value)} {oc12 kV12 dc12 pm12 ct12 : Value} {cd12 : Value} {f13 : Addr} {od13 an13 : Option Addr} {sl13 : Array (Option Value)} {oc13 kV13 dc13 pm13 ct13 : Value} {f14 : Addr} {od14 an14 : Option Addr} {sl14 : Array (Option Value)} {oc14 kV14 dc14 pm14 ct14 : Value} {cd14 : Value} {f15 : Addr} {od15 an15 : Option Addr} {sl15 : Array (Option Value)} {oc15 kV15 dc15 pm15 ct15 : Value} {cd15 : Value} {f16 : Addr} {od16 an16 : Option Addr} {sl16 : Array (Option Value)} {oc16 kV16 dc16 pm16 ct16 : Value} {cd16 : Value} {f17 : Addr} {od17 an17 : Option Addr} {sl17 : Array (Option Value)} {oc17 kV17 dc17 pm17 ct17 : Value} {cd17 : Value} {f18 : Addr} {od18 an18 : Option Addr} {sl18 : Array (Option Value)} {oc18 kV18 dc18 pm18 ct18 : Value} {cd18 : Value} {f19 : Addr} {od19 an19 : Option Addr} {sl19 : Array (Option Value)} {oc19 kV19 dc19 pm19 ct19 : Value} {cd19 : Value} {f20 : Addr} {od20 an20 : Option Addr} {sl20 : Array (Option Value)} {oc20 kV20 dc20 pm20 ct20 : Value} {cd20 : Value} {f21 : Addr} {od21 an21 : Option Addr} {sl21 : Array (Option Value)} {oc21 kV21 dc21 pm21 ct21 : Value} {cd21 : Value} {f22 : Addr} {od22 an22 : Option Addr} {sl22 : Array (Option Value)} {oc22 kV22 dc22 pm22 ct22 : Value} {cd22 : Value} {f23 : Addr} {od23 an23 : Option Addr} {sl23 : Array (Option Value)} {oc23 kV23 dc23 pm23 ct23 : Value} {cd23 : Value} {f24 : Addr} {od24 an24 : Option Addr} {sl24 : Array (Option Value)} {oc24 kV24 dc24 pm24 ct24 : Value} {cd24 : Value} {f25 : Addr} {od25 an25 : Option Addr} {sl25 : Array (Option Value)} {oc25 kV25 dc25 pm25 ct25 : Value} {cd25 : Value} {f26 : Addr} {od26 an26 : Option Addr} {sl26 : Array (Option Value)} {oc26 kV26 dc26 pm26 ct26 : Value} {cd26 : Value} {t_MOST_GOODS : Tok} {t_MOST_PEOPLE : Tok} {t_MOST_WISH : Tok} {CM CF CR lC lP : Addr} (X : K.In h) (G : h.Ns mainGlobals mg) (hfa : mg "law" = some (.ref fa)) (hT8 : ∀ P ∈ [lP], h.get? P = some (PySem.W.tabObj #[]))
    (a0 : PySem.W.nsIn K mainGlobals "is_whole" = some (some (.ref f0))) (l0 : K.lookup f0 = some ⟨oc0, od0, .func (PySem.W.fnOf "is_whole" "is_whole" (defArgs st_is_whole) (defBody st_is_whole) (defScope st_is_whole) .none kV0 dc0 pm0 an0 cd0 ct0), sl0⟩) (c0 : PySem.W.codeIn K cd0 "is_whole" = true) (k0 : PySem.W.keepIn K (.ref f0) = true)
    (a1 : PySem.W.nsIn K mainGlobals "is_wishes" = some (some (.ref f1))) (l1 : K.lookup f1 = some ⟨oc1, od1, .func (PySem.W.fnOf "is_wishes" "is_wishes" (defArgs st_is_wishes) (defBody st_is_wishes) (defScope st_is_wishes) .none kV1 dc1 pm1 an1 cd1 ct1), sl1⟩) (c1 : PySem.W.codeIn K cd1 "is_wishes" = true) (k1 : PySem.W.keepIn K (.ref f1) = true)
    (a2 : PySem.W.nsIn K mainGlobals "is_game" = some (some (.ref f2))) (l2 : K.lookup f2 = some ⟨oc2, od2, .func (PySem.W.fnOf "is_game" "is_game" (defArgs st_is_game) (defBody st_is_game) (defScope st_is_game) .none kV2 dc2 pm2 an2 cd2 ct2), sl2⟩) (c2 : PySem.W.codeIn K cd2 "is_game" = true) (k2 : PySem.W.keepIn K (.ref f2) = true)
    (a3 : PySem.W.nsIn K mainGlobals "check_game" = some (some (.ref f3))) (l3 : K.lookup f3 = some ⟨oc3, od3, .func (PySem.W.fnOf "check_game" "check_game" (defArgs st_check_game) (defBody st_check_game) (defScope st_check_game) .none kV3 dc3 pm3 an3 cd3 ct3), sl3⟩) (c3 : PySem.W.codeIn K cd3 "check_game" = true) (k3 : PySem.W.keepIn K (.ref f3) = true)
    (a4 : PySem.W.nsIn K mainGlobals "fits_owners" = some (some (.ref f4))) (l4 : K.lookup f4 = some ⟨oc4, od4, .func (PySem.W.fnOf "fits_owners" "fits_owners" (defArgs st_fits_owners) (defBody st_fits_owners) (defScope st_fits_owners) .none kV4 dc4 pm4 an4 cd4 ct4), sl4⟩) (c4 : PySem.W.codeIn K cd4 "fits_owners" = true) (k4 : PySem.W.keepIn K (.ref f4) = true)
    (a5 : PySem.W.nsIn K mainGlobals "check_share" = some (some (.ref f5))) (l5 : K.lookup f5 = some ⟨oc5, od5, .func (PySem.W.fnOf "check_share" "check_share" (defArgs st_check_share) (defBody st_check_share) (defScope st_check_share) .none kV5 dc5 pm5 an5 cd5 ct5), sl5⟩) (c5 : PySem.W.codeIn K cd5 "check_share" = true) (k5 : PySem.W.keepIn K (.ref f5) = true)
    (a6 : PySem.W.nsIn K mainGlobals "parts_of" = some (some (.ref f6))) (l6 : K.lookup f6 = some ⟨oc6, od6, .func (PySem.W.fnOf "parts_of" "parts_of" (defArgs st_parts_of) (defBody st_parts_of) (defScope st_parts_of) .none kV6 dc6 pm6 an6 cd6 ct6), sl6⟩) (c6 : PySem.W.codeIn K cd6 "parts_of" = true) (k6 : PySem.W.keepIn K (.ref f6) = true)
    (a7 : PySem.W.nsIn K mainGlobals "worth" = some (some (.ref f7))) (l7 : K.lookup f7 = some ⟨oc7, od7, .func (PySem.W.fnOf "worth" "worth" (defArgs st_worth) (defBody st_worth) (defScope st_worth) .none kV7 dc7 pm7 an7 cd7 ct7), sl7⟩) (c7 : PySem.W.codeIn K cd7 "worth" = true) (k7 : PySem.W.keepIn K (.ref f7) = true)
    (a8 : PySem.W.nsIn K mainGlobals "is_hidden" = some (some (.ref f8))) (l8 : K.lookup f8 = some ⟨oc8, od8, .func (PySem.W.fnOf "is_hidden" "is_hidden" (defArgs st_is_hidden) (defBody st_is_hidden) (defScope st_is_hidden) .none kV8 dc8 pm8 an8 cd8 ct8), sl8⟩) (c8 : PySem.W.codeIn K cd8 "is_hidden" = true) (k8 : PySem.W.keepIn K (.ref f8) = true)
    (a9 : PySem.W.nsIn K mainGlobals "seen_objection" = some (some (.ref f9))) (l9 : K.lookup f9 = some ⟨oc9, od9, .func (PySem.W.fnOf "seen_objection" "seen_objection" (defArgs st_seen_objection) (defBody st_seen_objection) (defScope st_seen_objection) .none kV9 dc9 pm9 an9 cd9 ct9), sl9⟩) (c9 : PySem.W.codeIn K cd9 "seen_objection" = true) (k9 : PySem.W.keepIn K (.ref f9) = true)
    (a10 : PySem.W.nsIn K mainGlobals "does_hide" = some (some (.ref f10))) (l10 : K.lookup f10 = some ⟨oc10, od10, .func (PySem.W.fnOf "does_hide" "does_hide" (defArgs st_does_hide) (defBody st_does_hide) (defScope st_does_hide) .none kV10 dc10 pm10 an10 cd10 ct10), sl10⟩) (c10 : PySem.W.codeIn K cd10 "does_hide" = true) (k10 : PySem.W.keepIn K (.ref f10) = true)
    (a11 : PySem.W.nsIn K mainGlobals "rows_of" = some (some (.ref f11))) (l11 : K.lookup f11 = some ⟨oc11, od11, .func (PySem.W.fnOf "rows_of" "rows_of" (defArgs st_rows_of) (defBody st_rows_of) (defScope st_rows_of) .none kV11 dc11 pm11 an11 cd11 ct11), sl11⟩) (c11 : PySem.W.codeIn K cd11 "rows_of" = true) (k11 : PySem.W.keepIn K (.ref f11) = true)
    (a12 : PySem.W.nsIn K mainGlobals "least_hidden" = some (some (.ref f12))) (l12 : K.lookup f12 = some ⟨oc12, od12, .func (PySem.W.fnOf "least_hidden" "least_hidden" (defArgs st_least_hidden) (defBody st_least_hidden) (defScope st_least_hidden) .none kV12 dc12 pm12 an12 cd12 ct12), sl12⟩) (c12 : PySem.W.codeIn K cd12 "least_hidden" = true) (k12 : PySem.W.keepIn K (.ref f12) = true)
    (a13 : PySem.W.nsIn K mainGlobals "hidden_of" = some (some (.ref f13))) (l13 : K.lookup f13 = some ⟨oc13, od13, .func (PySem.W.fnOf "hidden_of" "hidden_of" (defArgs st_hidden_of) (defBody st_hidden_of) (defScope st_hidden_of) .none kV13 dc13 pm13 an13 (.ref lC) ct13), sl13⟩) (c13 : PySem.W.codeIn K (.ref lC) "hidden_of" = true) (k13 : PySem.W.keepIn K (.ref f13) = true)
    (a14 : PySem.W.nsIn K mainGlobals "_law_draw" = some (some (.ref f14))) (l14 : K.lookup f14 = some ⟨oc14, od14, .func (PySem.W.fnOf "_law_draw" "_law_draw" (defArgs st_law_draw) (defBody st_law_draw) (defScope st_law_draw) .none kV14 dc14 pm14 an14 cd14 ct14), sl14⟩) (c14 : PySem.W.codeIn K cd14 "_law_draw" = true) (k14 : PySem.W.keepIn K (.ref f14) = true)
    (a15 : PySem.W.nsIn K mainGlobals "_law_take" = some (some (.ref f15))) (l15 : K.lookup f15 = some ⟨oc15, od15, .func (PySem.W.fnOf "_law_take" "_law_take" (defArgs st_law_take) (defBody st_law_take) (defScope st_law_take) .none kV15 dc15 pm15 an15 cd15 ct15), sl15⟩) (c15 : PySem.W.codeIn K cd15 "_law_take" = true) (k15 : PySem.W.keepIn K (.ref f15) = true)
    (a16 : PySem.W.nsIn K mainGlobals "_law_game" = some (some (.ref f16))) (l16 : K.lookup f16 = some ⟨oc16, od16, .func (PySem.W.fnOf "_law_game" "_law_game" (defArgs st_law_game) (defBody st_law_game) (defScope st_law_game) .none kV16 dc16 pm16 an16 cd16 ct16), sl16⟩) (c16 : PySem.W.codeIn K cd16 "_law_game" = true) (k16 : PySem.W.keepIn K (.ref f16) = true)
    (a17 : PySem.W.nsIn K mainGlobals "_law_owners" = some (some (.ref f17))) (l17 : K.lookup f17 = some ⟨oc17, od17, .func (PySem.W.fnOf "_law_owners" "_law_owners" (defArgs st_law_owners) (defBody st_law_owners) (defScope st_law_owners) .none kV17 dc17 pm17 an17 cd17 ct17), sl17⟩) (c17 : PySem.W.codeIn K cd17 "_law_owners" = true) (k17 : PySem.W.keepIn K (.ref f17) = true)
    (a18 : PySem.W.nsIn K mainGlobals "_law_worth" = some (some (.ref f18))) (l18 : K.lookup f18 = some ⟨oc18, od18, .func (PySem.W.fnOf "_law_worth" "_law_worth" (defArgs st_law_worth) (defBody st_law_worth) (defScope st_law_worth) .none kV18 dc18 pm18 an18 cd18 ct18), sl18⟩) (c18 : PySem.W.codeIn K cd18 "_law_worth" = true) (k18 : PySem.W.keepIn K (.ref f18) = true)
    (a19 : PySem.W.nsIn K mainGlobals "_law_bad_game" = some (some (.ref f19))) (l19 : K.lookup f19 = some ⟨oc19, od19, .func (PySem.W.fnOf "_law_bad_game" "_law_bad_game" (defArgs st_law_bad_game) (defBody st_law_bad_game) (defScope st_law_bad_game) .none kV19 dc19 pm19 an19 cd19 ct19), sl19⟩) (c19 : PySem.W.codeIn K cd19 "_law_bad_game" = true) (k19 : PySem.W.keepIn K (.ref f19) = true)
    (a20 : PySem.W.nsIn K mainGlobals "_law_bad_owners" = some (some (.ref f20))) (l20 : K.lookup f20 = some ⟨oc20, od20, .func (PySem.W.fnOf "_law_bad_owners" "_law_bad_owners" (defArgs st_law_bad_owners) (defBody st_law_bad_owners) (defScope st_law_bad_owners) .none kV20 dc20 pm20 an20 cd20 ct20), sl20⟩) (c20 : PySem.W.codeIn K cd20 "_law_bad_owners" = true) (k20 : PySem.W.keepIn K (.ref f20) = true)
    (a21 : PySem.W.nsIn K mainGlobals "_law_call" = some (some (.ref f21))) (l21 : K.lookup f21 = some ⟨oc21, od21, .func (PySem.W.fnOf "_law_call" "_law_call" (defArgs st_law_call) (defBody st_law_call) (defScope st_law_call) .none kV21 dc21 pm21 an21 cd21 ct21), sl21⟩) (c21 : PySem.W.codeIn K cd21 "_law_call" = true) (k21 : PySem.W.keepIn K (.ref f21) = true)
    (a22 : PySem.W.nsIn K mainGlobals "_law_word" = some (some (.ref f22))) (l22 : K.lookup f22 = some ⟨oc22, od22, .func (PySem.W.fnOf "_law_word" "_law_word" (defArgs st_law_word) (defBody st_law_word) (defScope st_law_word) .none kV22 dc22 pm22 an22 cd22 ct22), sl22⟩) (c22 : PySem.W.codeIn K cd22 "_law_word" = true) (k22 : PySem.W.keepIn K (.ref f22) = true)
    (a23 : PySem.W.nsIn K mainGlobals "_law_envies" = some (some (.ref f23))) (l23 : K.lookup f23 = some ⟨oc23, od23, .func (PySem.W.fnOf "_law_envies" "_law_envies" (defArgs st_law_envies) (defBody st_law_envies) (defScope st_law_envies) .none kV23 dc23 pm23 an23 cd23 ct23), sl23⟩) (c23 : PySem.W.codeIn K cd23 "_law_envies" = true) (k23 : PySem.W.keepIn K (.ref f23) = true)
    (a24 : PySem.W.nsIn K mainGlobals "_law_objection" = some (some (.ref f24))) (l24 : K.lookup f24 = some ⟨oc24, od24, .func (PySem.W.fnOf "_law_objection" "_law_objection" (defArgs st_law_objection) (defBody st_law_objection) (defScope st_law_objection) .none kV24 dc24 pm24 an24 cd24 ct24), sl24⟩) (c24 : PySem.W.codeIn K cd24 "_law_objection" = true) (k24 : PySem.W.keepIn K (.ref f24) = true)
    (a25 : PySem.W.nsIn K mainGlobals "_law_sets" = some (some (.ref f25))) (l25 : K.lookup f25 = some ⟨oc25, od25, .func (PySem.W.fnOf "_law_sets" "_law_sets" (defArgs st_law_sets) (defBody st_law_sets) (defScope st_law_sets) .none kV25 dc25 pm25 an25 cd25 ct25), sl25⟩) (c25 : PySem.W.codeIn K cd25 "_law_sets" = true) (k25 : PySem.W.keepIn K (.ref f25) = true)
    (a26 : PySem.W.nsIn K mainGlobals "law" = some (some (.ref f26))) (l26 : K.lookup f26 = some ⟨oc26, od26, .func (PySem.W.fnOf "law" "law" (defArgs st_law) (defBody st_law) (defScope st_law) .none kV26 dc26 pm26 an26 cd26 ct26), sl26⟩) (c26 : PySem.W.codeIn K cd26 "law" = true) (k26 : PySem.W.keepIn K (.ref f26) = true)
    (z_abs : PySem.W.nsIn K mainGlobals "abs" = some none)
    (z_all : PySem.W.nsIn K mainGlobals "all" = some none)
    (z_bool : PySem.W.nsIn K mainGlobals "bool" = some none)
    (z_enumerate : PySem.W.nsIn K mainGlobals "enumerate" = some none)
    (z_int : PySem.W.nsIn K mainGlobals "int" = some none)
    (z_isinstance : PySem.W.nsIn K mainGlobals "isinstance" = some none)
    (z_len : PySem.W.nsIn K mainGlobals "len" = some none)
    (z_list : PySem.W.nsIn K mainGlobals "list" = some none)
    (z_range : PySem.W.nsIn K mainGlobals "range" = some none)
    (z_sorted : PySem.W.nsIn K mainGlobals "sorted" = some none)
    (z_sum : PySem.W.nsIn K mainGlobals "sum" = some none)
    (z_tuple : PySem.W.nsIn K mainGlobals "tuple" = some none)
    (m_MOST_GOODS : PySem.W.nsIn K mainGlobals "MOST_GOODS" = some (some (.int 10 t_MOST_GOODS)))
    (m_MOST_PEOPLE : PySem.W.nsIn K mainGlobals "MOST_PEOPLE" = some (some (.int 6 t_MOST_PEOPLE)))
    (m_MOST_WISH : PySem.W.nsIn K mainGlobals "MOST_WISH" = some (some (.int 1000 t_MOST_WISH)))
    (gM : PySem.W.nsIn K mainGlobals "Malformed" = some (some (.ref CM)))
    (kM : PySem.W.keepIn K (.ref CM) = true)
    (xM : PySem.W.excIn K CM [.type "ValueError", .type "Exception", .type "BaseException", .type "object"] "ValueError.__new__" = true)
    (bM : PySem.W.subIn K (.ref CM) (.type "BaseException") = some true)
    (tM : PySem.W.typeIn K (.ref CM) = some (.type "type"))
    (gF : PySem.W.nsIn K mainGlobals "Fault" = some (some (.ref CF)))
    (gR : PySem.W.nsIn K mainGlobals "Refused" = some (some (.ref CR)))
    (kMF : PySem.W.kitOne K (.ref CM) (.ref CF) = some true)
    (sMM : PySem.W.subIn K (.ref CM) (.ref CM) = some true)
    (e1 : PySem.W.findIn K (.ref CM) "__getattribute__" = some (some (.builtin "BaseException.__getattribute__")))
    (e2 : PySem.W.findIn K (.ref CM) "__getattr__" = some none)
    (e3 : PySem.W.hasDictIn K CM = true)
    (e4 : PySem.W.findIn K (.ref CM) "__class__" = some (some (.builtin "object.__class__")))
    (e5 : PySem.W.specialIn K (.builtin "object.__class__") "__get__" = some (some (.builtin "getset_descriptor.__get__")))
    (e6 : PySem.W.takesIn K (.builtin "object.__class__") = some true)
    (e7 : PySem.W.mroIn K CM (.type "object") = some true)
    (lt : PySem.W.tabIn K lamDef = some (lC, lP))
    (lh : PySem.W.codeHdIn K lC lP = true)
    (ln : K.lookup lP = none) : LamX.LawAtS l w K (L2.CX l.prog w) 11 63 "script" mg fa h := by
  obtain rfl : f26 = fa := by
    have e := (PySem.W.mg_of X G a26).symm.trans hfa
    cases e; rfl
  refine ⟨PySem.W.fnOf "law" "law" (defArgs st_law) (defBody st_law) (defScope st_law) .none kV26 dc26 pm26 an26 cd26 ct26, [(lC, lP)], spF K (XRm CM) F_law, (fun p hp => by cases List.mem_singleton.mp hp; exact hT8 lP List.mem_cons_self), (fun p hp => by cases List.mem_singleton.mp hp; exact ln), (fun p hp => by cases List.mem_singleton.mp hp; exact PySem.W.codeHd_of_K X lh), fun s v => .of_eq rfl, fun H b ns hl _ hH hS => law_sp (fun c P q => by rw [lt] at q; cases q; exact LamX.TabS.nil (hH (lC, lP) List.mem_cons_self)) hS (law_true ns hl), fun base KX G2 TB => ?_⟩
  exact ok_law (a := { f_is_whole := f0, d_is_whole := PySem.W.fnOf "is_whole" "is_whole" (defArgs st_is_whole) (defBody st_is_whole) (defScope st_is_whole) .none kV0 dc0 pm0 an0 cd0 ct0, f_is_wishes := f1, d_is_wishes := PySem.W.fnOf "is_wishes" "is_wishes" (defArgs st_is_wishes) (defBody st_is_wishes) (defScope st_is_wishes) .none kV1 dc1 pm1 an1 cd1 ct1, f_is_game := f2, d_is_game := PySem.W.fnOf "is_game" "is_game" (defArgs st_is_game) (defBody st_is_game) (defScope st_is_game) .none kV2 dc2 pm2 an2 cd2 ct2, f_check_game := f3, d_check_game := PySem.W.fnOf "check_game" "check_game" (defArgs st_check_game) (defBody st_check_game) (defScope st_check_game) .none kV3 dc3 pm3 an3 cd3 ct3, f_fits_owners := f4, d_fits_owners := PySem.W.fnOf "fits_owners" "fits_owners" (defArgs st_fits_owners) (defBody st_fits_owners) (defScope st_fits_owners) .none kV4 dc4 pm4 an4 cd4 ct4, f_check_share := f5, d_check_share := PySem.W.fnOf "check_share" "check_share" (defArgs st_check_share) (defBody st_check_share) (defScope st_check_share) .none kV5 dc5 pm5 an5 cd5 ct5, f_parts_of := f6, d_parts_of := PySem.W.fnOf "parts_of" "parts_of" (defArgs st_parts_of) (defBody st_parts_of) (defScope st_parts_of) .none kV6 dc6 pm6 an6 cd6 ct6, f_worth := f7, d_worth := PySem.W.fnOf "worth" "worth" (defArgs st_worth) (defBody st_worth) (defScope st_worth) .none kV7 dc7 pm7 an7 cd7 ct7, f_is_hidden := f8, d_is_hidden := PySem.W.fnOf "is_hidden" "is_hidden" (defArgs st_is_hidden) (defBody st_is_hidden) (defScope st_is_hidden) .none kV8 dc8 pm8 an8 cd8 ct8, f_seen_objection := f9, d_seen_objection := PySem.W.fnOf "seen_objection" "seen_objection" (defArgs st_seen_objection) (defBody st_seen_objection) (defScope st_seen_objection) .none kV9 dc9 pm9 an9 cd9 ct9, f_does_hide := f10, d_does_hide := PySem.W.fnOf "does_hide" "does_hide" (defArgs st_does_hide) (defBody st_does_hide) (defScope st_does_hide) .none kV10 dc10 pm10 an10 cd10 ct10, f_rows_of := f11, d_rows_of := PySem.W.fnOf "rows_of" "rows_of" (defArgs st_rows_of) (defBody st_rows_of) (defScope st_rows_of) .none kV11 dc11 pm11 an11 cd11 ct11, f_least_hidden := f12, d_least_hidden := PySem.W.fnOf "least_hidden" "least_hidden" (defArgs st_least_hidden) (defBody st_least_hidden) (defScope st_least_hidden) .none kV12 dc12 pm12 an12 cd12 ct12, f_hidden_of := f13, d_hidden_of := PySem.W.fnOf "hidden_of" "hidden_of" (defArgs st_hidden_of) (defBody st_hidden_of) (defScope st_hidden_of) .none kV13 dc13 pm13 an13 (.ref lC) ct13, f_law_draw := f14, d_law_draw := PySem.W.fnOf "_law_draw" "_law_draw" (defArgs st_law_draw) (defBody st_law_draw) (defScope st_law_draw) .none kV14 dc14 pm14 an14 cd14 ct14, f_law_take := f15, d_law_take := PySem.W.fnOf "_law_take" "_law_take" (defArgs st_law_take) (defBody st_law_take) (defScope st_law_take) .none kV15 dc15 pm15 an15 cd15 ct15, f_law_game := f16, d_law_game := PySem.W.fnOf "_law_game" "_law_game" (defArgs st_law_game) (defBody st_law_game) (defScope st_law_game) .none kV16 dc16 pm16 an16 cd16 ct16, f_law_owners := f17, d_law_owners := PySem.W.fnOf "_law_owners" "_law_owners" (defArgs st_law_owners) (defBody st_law_owners) (defScope st_law_owners) .none kV17 dc17 pm17 an17 cd17 ct17, f_law_worth := f18, d_law_worth := PySem.W.fnOf "_law_worth" "_law_worth" (defArgs st_law_worth) (defBody st_law_worth) (defScope st_law_worth) .none kV18 dc18 pm18 an18 cd18 ct18, f_law_bad_game := f19, d_law_bad_game := PySem.W.fnOf "_law_bad_game" "_law_bad_game" (defArgs st_law_bad_game) (defBody st_law_bad_game) (defScope st_law_bad_game) .none kV19 dc19 pm19 an19 cd19 ct19, f_law_bad_owners := f20, d_law_bad_owners := PySem.W.fnOf "_law_bad_owners" "_law_bad_owners" (defArgs st_law_bad_owners) (defBody st_law_bad_owners) (defScope st_law_bad_owners) .none kV20 dc20 pm20 an20 cd20 ct20, f_law_call := f21, d_law_call := PySem.W.fnOf "_law_call" "_law_call" (defArgs st_law_call) (defBody st_law_call) (defScope st_law_call) .none kV21 dc21 pm21 an21 cd21 ct21, f_law_word := f22, d_law_word := PySem.W.fnOf "_law_word" "_law_word" (defArgs st_law_word) (defBody st_law_word) (defScope st_law_word) .none kV22 dc22 pm22 an22 cd22 ct22, f_law_envies := f23, d_law_envies := PySem.W.fnOf "_law_envies" "_law_envies" (defArgs st_law_envies) (defBody st_law_envies) (defScope st_law_envies) .none kV23 dc23 pm23 an23 cd23 ct23, f_law_objection := f24, d_law_objection := PySem.W.fnOf "_law_objection" "_law_objection" (defArgs st_law_objection) (defBody st_law_objection) (defScope st_law_objection) .none kV24 dc24 pm24 an24 cd24 ct24, f_law_sets := f25, d_law_sets := PySem.W.fnOf "_law_sets" "_law_sets" (defArgs st_law_sets) (defBody st_law_sets) (defScope st_law_sets) .none kV25 dc25 pm25 an25 cd25 ct25, f_law := f26, d_law := PySem.W.fnOf "law" "law" (defArgs st_law) (defBody st_law) (defScope st_law) .none kV26 dc26 pm26 an26 cd26 ct26, CM := CM, CF := CF, CR := CR, lC := lC, lP := lP }) { F_is_whole := fun_mk (st := st_is_whole) l0 c0 k0, g_is_whole := PySem.W.mg_of X G a0, b_is_whole := (fun_mk (st := st_is_whole) l0 c0 k0).binds (ps := ["value"]) (fun _ _ _ _ _ _ us hl => match us, hl with | [_], _ => rfl), F_is_wishes := fun_mk (st := st_is_wishes) l1 c1 k1, g_is_wishes := PySem.W.mg_of X G a1, b_is_wishes := (fun_mk (st := st_is_wishes) l1 c1 k1).binds (ps := ["value", "size"]) (fun _ _ _ _ _ _ us hl => match us, hl with | [_, _], _ => rfl), F_is_game := fun_mk (st := st_is_game) l2 c2 k2, g_is_game := PySem.W.mg_of X G a2, b_is_game := (fun_mk (st := st_is_game) l2 c2 k2).binds (ps := ["value"]) (fun _ _ _ _ _ _ us hl => match us, hl with | [_], _ => rfl), F_check_game := fun_mk (st := st_check_game) l3 c3 k3, g_check_game := PySem.W.mg_of X G a3, b_check_game := (fun_mk (st := st_check_game) l3 c3 k3).binds (ps := ["game"]) (fun _ _ _ _ _ _ us hl => match us, hl with | [_], _ => rfl), F_fits_owners := fun_mk (st := st_fits_owners) l4 c4 k4, g_fits_owners := PySem.W.mg_of X G a4, b_fits_owners := (fun_mk (st := st_fits_owners) l4 c4 k4).binds (ps := ["game", "value"]) (fun _ _ _ _ _ _ us hl => match us, hl with | [_, _], _ => rfl), F_check_share := fun_mk (st := st_check_share) l5 c5 k5, g_check_share := PySem.W.mg_of X G a5, b_check_share := (fun_mk (st := st_check_share) l5 c5 k5).binds (ps := ["game", "owners"]) (fun _ _ _ _ _ _ us hl => match us, hl with | [_, _], _ => rfl), F_parts_of := fun_mk (st := st_parts_of) l6 c6 k6, g_parts_of := PySem.W.mg_of X G a6, b_parts_of := (fun_mk (st := st_parts_of) l6 c6 k6).binds (ps := ["n", "owners"]) (fun _ _ _ _ _ _ us hl => match us, hl with | [_, _], _ => rfl), F_worth := fun_mk (st := st_worth) l7 c7 k7, g_worth := PySem.W.mg_of X G a7, b_worth := (fun_mk (st := st_worth) l7 c7 k7).binds (ps := ["row", "goods"]) (fun _ _ _ _ _ _ us hl => match us, hl with | [_, _], _ => rfl), F_is_hidden := fun_mk (st := st_is_hidden) l8 c8 k8, g_is_hidden := PySem.W.mg_of X G a8, b_is_hidden := (fun_mk (st := st_is_hidden) l8 c8 k8).binds (ps := ["game", "value"]) (fun _ _ _ _ _ _ us hl => match us, hl with | [_, _], _ => rfl), F_seen_objection := fun_mk (st := st_seen_objection) l9 c9 k9, g_seen_objection := PySem.W.mg_of X G a9, b_seen_objection := (fun_mk (st := st_seen_objection) l9 c9 k9).binds (ps := ["game", "owners", "hidden"]) (fun _ _ _ _ _ _ us hl => match us, hl with | [_, _, _], _ => rfl), F_does_hide := fun_mk (st := st_does_hide) l10 c10 k10, g_does_hide := PySem.W.mg_of X G a10, b_does_hide := (fun_mk (st := st_does_hide) l10 c10 k10).binds (ps := ["game", "owners", "hidden"]) (fun _ _ _ _ _ _ us hl => match us, hl with | [_, _, _], _ => rfl), F_rows_of := fun_mk (st := st_rows_of) l11 c11 k11, g_rows_of := PySem.W.mg_of X G a11, b_rows_of := (fun_mk (st := st_rows_of) l11 c11 k11).binds (ps := ["goods", "size"]) (fun _ _ _ _ _ _ us hl => match us, hl with | [_, _], _ => rfl), F_least_hidden := fun_mk (st := st_least_hidden) l12 c12 k12, g_least_hidden := PySem.W.mg_of X G a12, b_least_hidden := (fun_mk (st := st_least_hidden) l12 c12 k12).binds (ps := ["game", "owners"]) (fun _ _ _ _ _ _ us hl => match us, hl with | [_, _], _ => rfl), F_hidden_of := fun_mk (st := st_hidden_of) l13 c13 k13, g_hidden_of := PySem.W.mg_of X G a13, b_hidden_of := (fun_mk (st := st_hidden_of) l13 c13 k13).binds (ps := ["game", "owners"]) (fun _ _ _ _ _ _ us hl => match us, hl with | [_, _], _ => rfl), F_law_draw := fun_mk (st := st_law_draw) l14 c14 k14, g_law_draw := PySem.W.mg_of X G a14, b_law_draw := (fun_mk (st := st_law_draw) l14 c14 k14).binds (ps := ["script"]) (fun _ _ _ _ _ _ us hl => match us, hl with | [_], _ => rfl), F_law_take := fun_mk (st := st_law_take) l15 c15 k15, g_law_take := PySem.W.mg_of X G a15, b_law_take := (fun_mk (st := st_law_take) l15 c15 k15).binds (ps := ["draw", "many"]) (fun _ _ _ _ _ _ us hl => match us, hl with | [_, _], _ => rfl), F_law_game := fun_mk (st := st_law_game) l16 c16 k16, g_law_game := PySem.W.mg_of X G a16, b_law_game := (fun_mk (st := st_law_game) l16 c16 k16).binds (ps := ["draw", "people", "goods", "most"]) (fun _ _ _ _ _ _ us hl => match us, hl with | [_, _, _, _], _ => rfl), F_law_owners := fun_mk (st := st_law_owners) l17 c17 k17, g_law_owners := PySem.W.mg_of X G a17, b_law_owners := (fun_mk (st := st_law_owners) l17 c17 k17).binds (ps := ["draw", "game"]) (fun _ _ _ _ _ _ us hl => match us, hl with | [_, _], _ => rfl), F_law_worth := fun_mk (st := st_law_worth) l18 c18 k18, g_law_worth := PySem.W.mg_of X G a18, b_law_worth := (fun_mk (st := st_law_worth) l18 c18 k18).binds (ps := ["game", "owners", "i", "k"]) (fun _ _ _ _ _ _ us hl => match us, hl with | [_, _, _, _], _ => rfl), F_law_bad_game := fun_mk (st := st_law_bad_game) l19 c19 k19, g_law_bad_game := PySem.W.mg_of X G a19, b_law_bad_game := (fun_mk (st := st_law_bad_game) l19 c19 k19).binds (ps := ["draw", "game"]) (fun _ _ _ _ _ _ us hl => match us, hl with | [_, _], _ => rfl), F_law_bad_owners := fun_mk (st := st_law_bad_owners) l20 c20 k20, g_law_bad_owners := PySem.W.mg_of X G a20, b_law_bad_owners := (fun_mk (st := st_law_bad_owners) l20 c20 k20).binds (ps := ["draw", "game", "owners"]) (fun _ _ _ _ _ _ us hl => match us, hl with | [_, _, _], _ => rfl), F_law_call := fun_mk (st := st_law_call) l21 c21 k21, g_law_call := PySem.W.mg_of X G a21, b_law_call := (fun_mk (st := st_law_call) l21 c21 k21).binds (ps := ["call"]) (fun _ _ _ _ _ _ us hl => match us, hl with | [_], _ => rfl), F_law_word := fun_mk (st := st_law_word) l22 c22 k22, g_law_word := PySem.W.mg_of X G a22, b_law_word := (fun_mk (st := st_law_word) l22 c22 k22).binds (ps := ["call"]) (fun _ _ _ _ _ _ us hl => match us, hl with | [_], _ => rfl), F_law_envies := fun_mk (st := st_law_envies) l23 c23 k23, g_law_envies := PySem.W.mg_of X G a23, b_law_envies := (fun_mk (st := st_law_envies) l23 c23 k23).binds (ps := ["game", "owners", "hidden", "i", "k"]) (fun _ _ _ _ _ _ us hl => match us, hl with | [_, _, _, _, _], _ => rfl), F_law_objection := fun_mk (st := st_law_objection) l24 c24 k24, g_law_objection := PySem.W.mg_of X G a24, b_law_objection := (fun_mk (st := st_law_objection) l24 c24 k24).binds (ps := ["game", "owners", "hidden"]) (fun _ _ _ _ _ _ us hl => match us, hl with | [_, _, _], _ => rfl), F_law_sets := fun_mk (st := st_law_sets) l25 c25 k25, g_law_sets := PySem.W.mg_of X G a25, b_law_sets := (fun_mk (st := st_law_sets) l25 c25 k25).binds (ps := ["m"]) (fun _ _ _ _ _ _ us hl => match us, hl with | [_], _ => rfl), F_law := fun_mk (st := st_law) l26 c26 k26, g_law := PySem.W.mg_of X G a26, b_law := (fun_mk (st := st_law) l26 c26 k26).binds (ps := ["script"]) (fun _ _ _ _ _ _ us hl => match us, hl with | [_], _ => rfl), n_abs := PySem.W.mg_none_of X G z_abs, n_all := PySem.W.mg_none_of X G z_all, n_bool := PySem.W.mg_none_of X G z_bool, n_enumerate := PySem.W.mg_none_of X G z_enumerate, n_int := PySem.W.mg_none_of X G z_int, n_isinstance := PySem.W.mg_none_of X G z_isinstance, n_len := PySem.W.mg_none_of X G z_len, n_list := PySem.W.mg_none_of X G z_list, n_range := PySem.W.mg_none_of X G z_range, n_sorted := PySem.W.mg_none_of X G z_sorted, n_sum := PySem.W.mg_none_of X G z_sum, n_tuple := PySem.W.mg_none_of X G z_tuple, m_MOST_GOODS := ⟨_, PySem.W.mg_of X G m_MOST_GOODS⟩, m_MOST_PEOPLE := ⟨_, PySem.W.mg_of X G m_MOST_PEOPLE⟩, m_MOST_WISH := ⟨_, PySem.W.mg_of X G m_MOST_WISH⟩, gM := PySem.W.mg_of X G gM, kM := kM, xM := xM, bM := bM, tM := tM, cM := ⟨e1, e2, bM, e3, e4, e5, e6, e7⟩, gF := PySem.W.mg_of X G gF, gR := PySem.W.mg_of X G gR, kMF := kMF, eMM := PySem.W.exm_ref bM e3 tM sMM, lb := TB (lC, lP) List.mem_cons_self, lc := rfl, lt := lt }
end D71
open PySem PySem.W PyProof.Rows
set_option maxHeartbeats 0 in
theorem PySem.Challenge.cw_fairfields_k71_whole_hidden_goods_holds : PySem.Challenge.rw_fairfields_k71_whole_hidden_goods.Holds := by
  w_on; o_law; k_head; (case hw => w_witness2)
  k_fill
  refine LamX.walk_ofTs (l := PySem.Challenge.rw_fairfields_k71_whole_hidden_goods) (n := 63) (k := 11) (x := "script") (CX := fun w => L2.CX PySem.Challenge.pw_fairfields_k71_whole_hidden_goods w) rfl (by decide) rfl ⟨rfl, by decide, by decide⟩ (fun w h Y => PySem.W.km_in_of Y) ?F (fun _ _ _ _ _ h => by obtain ⟨_, _, _, _, _, _, _, _, _, _, _, _, z⟩ := h; exact z)
  case F =>
    intro w mg fa h Y KX G hmg
    refine' D71.all_mk KX G hmg (PySem.W.km_tabs_of Y) ?a0 ?l0 ?c0 ?k0 ?a1 ?l1 ?c1 ?k1 ?a2 ?l2 ?c2 ?k2 ?a3 ?l3 ?c3 ?k3 ?a4 ?l4 ?c4 ?k4 ?a5 ?l5 ?c5 ?k5 ?a6 ?l6 ?c6 ?k6 ?a7 ?l7 ?c7 ?k7 ?a8 ?l8 ?c8 ?k8 ?a9 ?l9 ?c9 ?k9 ?a10 ?l10 ?c10 ?k10 ?a11 ?l11 ?c11 ?k11 ?a12 ?l12 ?c12 ?k12 ?a13 ?l13 ?c13 ?k13 ?a14 ?l14 ?c14 ?k14 ?a15 ?l15 ?c15 ?k15 ?a16 ?l16 ?c16 ?k16 ?a17 ?l17 ?c17 ?k17 ?a18 ?l18 ?c18 ?k18 ?a19 ?l19 ?c19 ?k19 ?a20 ?l20 ?c20 ?k20 ?a21 ?l21 ?c21 ?k21 ?a22 ?l22 ?c22 ?k22 ?a23 ?l23 ?c23 ?k23 ?a24 ?l24 ?c24 ?k24 ?a25 ?l25 ?c25 ?k25 ?a26 ?l26 ?c26 ?k26 ?z_abs ?z_all ?z_bool ?z_enumerate ?z_int ?z_isinstance ?z_len ?z_list ?z_range ?z_sorted ?z_sum ?z_tuple ?m_MOST_GOODS ?m_MOST_PEOPLE ?m_MOST_WISH ?gM ?kM ?xM ?bM ?tM ?gF ?gR ?kMF ?sMM ?e1 ?e2 ?e3 ?e4 ?e5 ?e6 ?e7 ?lt ?lh ?ln
    (case a0 => k_is); (case l0 => k_is); (case c0 => k_is); (case k0 => k_is); (case a1 => k_is); (case l1 => k_is); (case c1 => k_is); (case k1 => k_is); (case a2 => k_is); (case l2 => k_is); (case c2 => k_is); (case k2 => k_is); (case a3 => k_is); (case l3 => k_is); (case c3 => k_is); (case k3 => k_is); (case a4 => k_is); (case l4 => k_is); (case c4 => k_is); (case k4 => k_is); (case a5 => k_is); (case l5 => k_is); (case c5 => k_is); (case k5 => k_is); (case a6 => k_is); (case l6 => k_is); (case c6 => k_is); (case k6 => k_is); (case a7 => k_is); (case l7 => k_is); (case c7 => k_is); (case k7 => k_is); (case a8 => k_is); (case l8 => k_is); (case c8 => k_is); (case k8 => k_is); (case a9 => k_is); (case l9 => k_is); (case c9 => k_is); (case k9 => k_is); (case a10 => k_is); (case l10 => k_is); (case c10 => k_is); (case k10 => k_is); (case a11 => k_is); (case l11 => k_is); (case c11 => k_is); (case k11 => k_is); (case a12 => k_is); (case l12 => k_is); (case c12 => k_is); (case k12 => k_is); (case a13 => k_is); (case l13 => k_is); (case c13 => k_is); (case k13 => k_is); (case a14 => k_is); (case l14 => k_is); (case c14 => k_is); (case k14 => k_is); (case a15 => k_is); (case l15 => k_is); (case c15 => k_is); (case k15 => k_is); (case a16 => k_is); (case l16 => k_is); (case c16 => k_is); (case k16 => k_is); (case a17 => k_is); (case l17 => k_is); (case c17 => k_is); (case k17 => k_is); (case a18 => k_is); (case l18 => k_is); (case c18 => k_is); (case k18 => k_is); (case a19 => k_is); (case l19 => k_is); (case c19 => k_is); (case k19 => k_is); (case a20 => k_is); (case l20 => k_is); (case c20 => k_is); (case k20 => k_is); (case a21 => k_is); (case l21 => k_is); (case c21 => k_is); (case k21 => k_is); (case a22 => k_is); (case l22 => k_is); (case c22 => k_is); (case k22 => k_is); (case a23 => k_is); (case l23 => k_is); (case c23 => k_is); (case k23 => k_is); (case a24 => k_is); (case l24 => k_is); (case c24 => k_is); (case k24 => k_is); (case a25 => k_is); (case l25 => k_is); (case c25 => k_is); (case k25 => k_is); (case a26 => k_is); (case l26 => k_is); (case c26 => k_is); (case k26 => k_is); (case z_abs => k_is); (case z_all => k_is); (case z_bool => k_is); (case z_enumerate => k_is); (case z_int => k_is); (case z_isinstance => k_is); (case z_len => k_is); (case z_list => k_is); (case z_range => k_is); (case z_sorted => k_is); (case z_sum => k_is); (case z_tuple => k_is); (case m_MOST_GOODS => k_is); (case m_MOST_PEOPLE => k_is); (case m_MOST_WISH => k_is); (case gM => k_is); (case kM => k_is); (case xM => kernel_rfl); (case bM => k_is); (case tM => k_is); (case gF => k_is); (case gR => k_is); (case kMF => kernel_rfl); (case sMM => k_is); (case e1 => kernel_rfl); (case e2 => kernel_rfl); (case e3 => kernel_rfl); (case e4 => kernel_rfl); (case e5 => kernel_rfl); (case e6 => kernel_rfl); (case e7 => kernel_rfl); (case lt => kernel_rfl); (case lh => kernel_rfl); (case ln => kernel_rfl)
