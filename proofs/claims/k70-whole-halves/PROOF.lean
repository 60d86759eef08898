import PyProof.Rows.All
import Wide.All
import OpenK.AllK
import Wide.FinOn
import HandS.ForMost
import HandS.Exc
import HandS.ExcCtx
import HandS.Lambda
import HandS.Deep
import HandS.TupAny
import HandS.IsInst
import HandS.Zip
import HandS.Wide
import HandS.Defaults
import HandS.TupMul
import HandS.Conv
import HandS.SortInts
import HandS.HeadHook4
import HandS.Strs
import HandS.SetFor
import HandS.HotCalls
import HandS.ExcIs
import HandS.CallLocal
import PyProof.StrOps2
import HandS.HeadWalk
import HandS.EndTab
import KE.KTupSum
import HandS.Style
import HandS.SortKw
import KE.KRevSl
import KE.DataMinMax
import HandS.Dict
import HandS.TupSets
import HandS.SortOrd
import PySem.Challenge.RW_fewlooks_k70_whole_halves
import KE.KStateDown
import HandS.Head0
import HandS.Head1
import HandS.Head2
set_option Elab.async false
set_option linter.all false
set_option maxRecDepth 100000
set_option maxHeartbeats 4000000
/-! FL1: data, what stands for data in a heap, steps of the heap, judgements with a semantics. -/
namespace FL
open PySem PySem.Spec PyProof.Rows L2

inductive D where
  | non
  | bl (b : Bool)
  | int (i : Int)
  | str (x : Str)
  | fn (x : Str)
  | scr (ns : List Int)
  | tup (ds : List D)
  | lst (ds : List D)
  | adr (a : Addr)

inductive R (α : Type) where
  | ok (a : α)
  | er (c : Str)
  | no

def R.bind {α β : Type} (r : R α) (f : α → R β) : R β := match r with
  | .ok a => f a
  | .er c => .er c
  | .no => .no
@[simp] theorem R.bind_ok {α β : Type} (a : α) (f : α → R β) : (R.ok a).bind f = f a := rfl
@[simp] theorem R.bind_er {α β : Type} (c : Str) (f : α → R β) : (R.er c).bind f = R.er c := rfl
@[simp] theorem R.bind_no {α β : Type} (f : α → R β) : (R.no).bind f = (R.no : R β) := rfl
/-- an error counts as no answer (within a comprehension) -/
def R.strict {α : Type} (r : R α) : R α := match r with
  | .ok a => .ok a
  | _ => .no
@[simp] theorem R.strict_ok {α : Type} (a : α) : (R.ok a).strict = R.ok a := rfl
@[simp] theorem R.strict_er {α : Type} (c : Str) : (R.er c : R α).strict = R.no := rfl
@[simp] theorem R.strict_no {α : Type} : (R.no : R α).strict = R.no := rfl

mutual
def Is (K : PySem.W.Frag) (mg : Str → Option Value) (H : Hp) : D → V → Prop
  | .non, v => v = .non
  | .bl b, v => v = .bl b
  | .int i, v => v = .int i
  | .str x, v => v = .str x
  | .fn x, v => ∃ a, mg x = some (.ref a) ∧ v = .ref a
  | .scr ns, v => ∃ a, v = .ref a ∧ SqL K H a (ns.map V.int)
  | .tup ds, v => ∃ a vs, v = .ref a ∧ SqT K H a vs ∧ IsL K mg H ds vs
  | .lst ds, v => ∃ a vs, v = .ref a ∧ H a = some (.lst vs) ∧ IsL K mg H ds vs
  | .adr a, v => v = .ref a
def IsL (K : PySem.W.Frag) (mg : Str → Option Value) (H : Hp) : List D → List V → Prop
  | [], vs => vs = []
  | d :: ds, vs => ∃ v r, vs = v :: r ∧ Is K mg H d v ∧ IsL K mg H ds r
end

/-- the heap grows: what is tracked stays, but tables of code objects may grow -/
def ExtW (H H' : Hp) : Prop := ∀ b o, H b = some o → H' b = some o ∨ ∃ ps qs, o = .tbl ps ∧ H' b = some (.tbl qs)
theorem ExtW.refl (H : Hp) : ExtW H H := fun _ _ h => .inl h
theorem ExtW.trans {H H1 H2 : Hp} (a : ExtW H H1) (b : ExtW H1 H2) : ExtW H H2 := fun c o h => by
  rcases a c o h with e | ⟨ps, qs, e, e1⟩
  · exact b c o e
  · rcases b c _ e1 with e2 | ⟨ps', qs', e2, e3⟩
    · exact .inr ⟨ps, qs, e, e2⟩
    · exact .inr ⟨ps, qs', e, e3⟩
theorem ExtW.at {H H' : Hp} (x : ExtW H H') {a : Addr} {o : HO} (h : H a = some o) (n : ∀ ps, o ≠ .tbl ps) : H' a = some o := by
  rcases x a o h with e | ⟨ps, qs, e, _⟩
  · exact e
  · exact absurd e (n ps)
theorem ExtW.stays {H H' : Hp} (x : ExtW H H') {a : Addr} (h : H a ≠ none) : H' a ≠ none := by
  cases e : H a with
  | none => exact absurd e h
  | some o =>
    rcases x a o e with q | ⟨_, _, _, q⟩ <;> rw [q] <;> exact fun z => nomatch z
theorem ExtW.free {H H' : Hp} (x : ExtW H H') {a : Addr} (h : H' a = none) : H a = none := by
  cases e : H a with
  | none => rfl
  | some o => exact absurd h (x.stays (by rw [e]; exact fun z => nomatch z))
theorem ExtW.of {H H' : Hp} (e : ∀ b o, H b = some o → H' b = some o) : ExtW H H' := fun b o h => .inl (e b o h)
theorem ExtW.new {H : Hp} {p : Addr} {o : HO} (h : H p = none) : ExtW H (upd H p o) := .of fun b u e => by
  rw [upd_ne (ne_of_none e h)]; exact e
theorem ExtW.rd {H H' : Hp} (x : ExtW H H') {a : Addr} {u : HO} (n : ∀ ps, u ≠ .tbl ps) (r : Rd H a u) : Rd H' a u := by
  rcases r with r | ⟨o, r⟩
  · exact .inl (x.at r n)
  · exact .inr ⟨o, x.at r fun ps z => nomatch z⟩
theorem ExtW.sqL {K : PySem.W.Frag} {H H' : Hp} (x : ExtW H H') {a : Addr} {vs : List V} (h : SqL K H a vs) : SqL K H' a vs := by
  rcases h with h | h
  · exact .inl (x.rd (fun _ z => nomatch z) h)
  · exact .inr h
theorem ExtW.sqT {K : PySem.W.Frag} {H H' : Hp} (x : ExtW H H') {a : Addr} {vs : List V} (h : SqT K H a vs) : SqT K H' a vs := by
  rcases h with h | h
  · exact .inl (x.rd (fun _ z => nomatch z) h)
  · exact .inr h

section
variable {K : PySem.W.Frag} {mg : Str → Option Value} {H H' : Hp}
mutual
theorem Is.mono (x : ExtW H H') : ∀ (d : D) (v : V), Is K mg H d v → Is K mg H' d v
  | .non, _, h => h
  | .bl _, _, h => h
  | .int _, _, h => h
  | .str _, _, h => h
  | .fn _, _, h => h
  | .scr _, _, h => by
    obtain ⟨a, e, q⟩ := h
    exact ⟨a, e, x.sqL q⟩
  | .tup ds, _, h => by
    obtain ⟨a, vs, e, q, r⟩ := h
    exact ⟨a, vs, e, x.sqT q, IsL.mono x ds vs r⟩
  | .lst ds, _, h => by
    obtain ⟨a, vs, e, q, r⟩ := h
    exact ⟨a, vs, e, x.at q (fun _ z => nomatch z), IsL.mono x ds vs r⟩
  | .adr _, _, h => h
theorem IsL.mono (x : ExtW H H') : ∀ (ds : List D) (vs : List V), IsL K mg H ds vs → IsL K mg H' ds vs
  | [], _, h => h
  | d :: ds, _, h => by
    obtain ⟨v, r, e, h1, h2⟩ := h
    exact ⟨v, r, e, Is.mono x d v h1, IsL.mono x ds r h2⟩
end
theorem IsL.length : ∀ {ds : List D} {vs : List V}, IsL K mg H ds vs → vs.length = ds.length
  | [], _, h => by cases h; rfl
  | d :: ds, _, h => by
    obtain ⟨v, r, rfl, _, h2⟩ := h
    rw [List.length_cons, List.length_cons, IsL.length h2]
theorem IsL.get : ∀ {ds : List D} {vs : List V} {i : Nat} {d : D}, IsL K mg H ds vs → ds[i]? = some d → ∃ v, vs[i]? = some v ∧ Is K mg H d v
  | [], _, _, _, _, e => by simp at e
  | _ :: _, _, 0, _, h, e => by
    obtain ⟨v, r, rfl, h1, _⟩ := h
    simp at e; subst e
    exact ⟨v, rfl, h1⟩
  | _ :: _, _, i + 1, _, h, e => by
    obtain ⟨v, r, rfl, _, h2⟩ := h
    obtain ⟨u, e1, e2⟩ := IsL.get (i := i) h2 (by simpa using e)
    exact ⟨u, by simpa using e1, e2⟩
theorem IsL.getV : ∀ {ds : List D} {vs : List V} {i : Nat} {v : V}, IsL K mg H ds vs → vs[i]? = some v → ∃ d, ds[i]? = some d ∧ Is K mg H d v := fun {ds vs i v} h e => by
  have hl := h.length
  have hi : i < ds.length := by rw [← hl]; exact (List.getElem?_eq_some_iff.mp e).1
  obtain ⟨u, e1, e2⟩ := h.get (List.getElem?_eq_getElem hi)
  rw [e] at e1; cases e1
  exact ⟨_, List.getElem?_eq_getElem hi, e2⟩
theorem IsL.append : ∀ {ds es : List D} {vs us : List V}, IsL K mg H ds vs → IsL K mg H es us → IsL K mg H (ds ++ es) (vs ++ us)
  | [], _, _, _, h, q => by cases h; exact q
  | d :: ds, _, _, _, h, q => by
    obtain ⟨v, r, rfl, h1, h2⟩ := h
    exact ⟨v, _, rfl, h1, h2.append q⟩
theorem IsL.take : ∀ {ds : List D} {vs : List V} (n : Nat), IsL K mg H ds vs → IsL K mg H (ds.take n) (vs.take n)
  | _, _, 0, _ => by rw [List.take_zero, List.take_zero]; rfl
  | [], _, n + 1, h => by cases h; rfl
  | d :: ds, _, n + 1, h => by
    obtain ⟨v, r, rfl, h1, h2⟩ := h
    exact ⟨v, _, rfl, h1, h2.take n⟩
theorem IsL.drop : ∀ {ds : List D} {vs : List V} (n : Nat), IsL K mg H ds vs → IsL K mg H (ds.drop n) (vs.drop n)
  | _, _, 0, h => h
  | [], _, n + 1, h => by cases h; rfl
  | d :: ds, _, n + 1, h => by
    obtain ⟨v, r, rfl, h1, h2⟩ := h
    exact h2.drop n
theorem IsL.reverse {ds : List D} {vs : List V} (h : IsL K mg H ds vs) : IsL K mg H ds.reverse vs.reverse := by
  induction ds generalizing vs with
  | nil => cases h; rfl
  | cons d ds ih =>
    obtain ⟨v, r, rfl, h1, h2⟩ := h
    rw [List.reverse_cons, List.reverse_cons]
    exact (ih h2).append ⟨v, [], rfl, h1, rfl⟩
theorem IsL.one {d : D} {v : V} (h : Is K mg H d v) : IsL K mg H [d] [v] := ⟨v, [], rfl, h, rfl⟩
theorem IsL.snoc {ds : List D} {vs : List V} {d : D} {v : V} (h : IsL K mg H ds vs) (q : Is K mg H d v) : IsL K mg H (ds ++ [d]) (vs ++ [v]) := h.append (.one q)
theorem IsL.rep {ds : List D} {vs : List V} (h : IsL K mg H ds vs) : ∀ k : Nat, IsL K mg H (List.replicate k ds).flatten (List.replicate k vs).flatten
  | 0 => rfl
  | k + 1 => by
    rw [List.replicate_succ, List.replicate_succ, List.flatten_cons, List.flatten_cons]
    exact h.append (h.rep k)
theorem IsL.ints : ∀ {ns : List Int} {vs : List V}, IsL K mg H (ns.map D.int) vs → vs = ns.map V.int
  | [], _, h => h
  | n :: ns, _, h => by
    obtain ⟨v, r, rfl, h1, h2⟩ := h
    cases h1
    rw [IsL.ints h2] <;> rfl
theorem IsL.of_ints : ∀ {ns : List Int}, IsL K mg H (ns.map D.int) (ns.map V.int)
  | [] => rfl
  | n :: ns => ⟨_, _, rfl, rfl, IsL.of_ints⟩
theorem IsL.bls : ∀ {bs : List Bool} {vs : List V}, IsL K mg H (bs.map D.bl) vs → vs = bs.map V.bl
  | [], _, h => h
  | n :: ns, _, h => by
    obtain ⟨v, r, rfl, h1, h2⟩ := h
    cases h1
    rw [IsL.bls h2] <;> rfl
end

/-- lists and tuples that are tracked are not too long -/
def Sz (H : Hp) : Prop := ∀ a vs, (Rd H a (.lst vs) ∨ Rd H a (.tup vs)) → vs.length ≤ sizeLine
structure At (T : List (Addr × Str)) (Hs H : Hp) : Prop where
  sub : ExtW Hs H
  tab : LamX.Tabs T H
  sz : Sz Hs
/-- from the shared part Hs of H to the shared part Hs' of H' -/
structure Step (T : List (Addr × Str)) (Hs H Hs' H' : Hp) : Prop where
  s : ExtW Hs Hs'
  a : ExtW H H'
  to : At T Hs' H'
  n : ∀ b, H b ≠ none → Hs b = none → Hs' b = none
section
variable {T : List (Addr × Str)} {Hs H Hs' H' Hs2 H2 : Hp}
theorem Step.refl (h : At T Hs H) : Step T Hs H Hs H := ⟨.refl _, .refl _, h, fun _ _ z => z⟩
theorem Step.trans (x : Step T Hs H Hs' H') (y : Step T Hs' H' Hs2 H2) : Step T Hs H Hs2 H2 :=
  ⟨x.s.trans y.s, x.a.trans y.a, y.to, fun b h z => y.n b (x.a.stays h) (x.n b h z)⟩
theorem Sz.upd_ {p : Addr} {o : HO} (z : Sz H) (ho : ∀ vs, (o = .lst vs ∨ o = .tup vs) → vs.length ≤ sizeLine) (hf : ∀ ob vs, o ≠ .frz ob (.lst vs) ∧ o ≠ .frz ob (.tup vs)) : Sz (upd H p o) := fun a vs h => by
  by_cases e : a = p
  · subst e
    rcases h with (h | ⟨ob, h⟩) | (h | ⟨ob, h⟩)
    · rw [upd_same] at h; cases h; exact ho vs (.inl rfl)
    · rw [upd_same] at h; exact absurd (Option.some.inj h) (hf ob vs).1
    · rw [upd_same] at h; cases h; exact ho vs (.inr rfl)
    · rw [upd_same] at h; exact absurd (Option.some.inj h) (hf ob vs).2
  · refine z a vs ?_
    rcases h with (h | ⟨ob, h⟩) | (h | ⟨ob, h⟩)
    · rw [upd_ne e] at h; exact .inl (.inl h)
    · rw [upd_ne e] at h; exact .inl (.inr ⟨ob, h⟩)
    · rw [upd_ne e] at h; exact .inr (.inl h)
    · rw [upd_ne e] at h; exact .inr (.inr ⟨ob, h⟩)
theorem tabs_ext {H H' : Hp} (t : LamX.Tabs T H) (e : ∀ b o, H b = some o → H' b = some o) : LamX.Tabs T H' := t.ext e
/-- a new object, shared -/
theorem Step.new {p : Addr} {o : HO} (h : At T Hs H) (hp : H p = none) (ho : ∀ vs, (o = .lst vs ∨ o = .tup vs) → vs.length ≤ sizeLine) (hf : ∀ ob vs, o ≠ .frz ob (.lst vs) ∧ o ≠ .frz ob (.tup vs)) : Step T Hs H (upd Hs p o) (upd H p o) where
  s := .new (h.sub.free hp)
  a := .new hp
  to := {
    sub := fun b u e => by
      by_cases z : b = p
      · subst z
        rw [upd_same] at e ⊢
        exact .inl e
      · rw [upd_ne z] at e ⊢
        exact h.sub b u e
    tab := tabs_ext h.tab fun b u e => by rw [upd_ne (ne_of_none e hp)]; exact e
    sz := h.sz.upd_ ho hf }
  n := fun b hb z => by
    have e : b ≠ p := fun q => by subst q; exact hb hp
    rw [upd_ne e]; exact z
theorem Step.lst {p : Addr} {vs : List V} (h : At T Hs H) (hp : H p = none) (hz : vs.length ≤ sizeLine) : Step T Hs H (upd Hs p (.lst vs)) (upd H p (.lst vs)) :=
  .new h hp (fun us q => by rcases q with q | q <;> cases q; exact hz) fun _ _ => ⟨(fun z => nomatch z), fun z => nomatch z⟩
theorem Step.tup {p : Addr} {vs : List V} (h : At T Hs H) (hp : H p = none) (hz : vs.length ≤ sizeLine) : Step T Hs H (upd Hs p (.tup vs)) (upd H p (.tup vs)) :=
  .new h hp (fun us q => by rcases q with q | q <;> cases q; exact hz) fun _ _ => ⟨(fun z => nomatch z), fun z => nomatch z⟩
end

/-- what stands for d, perhaps only now: a list of the def's own that it still grows -/
def IsT (K : PySem.W.Frag) (mg : Str → Option Value) (Hs H : Hp) (d : D) (v : V) : Prop :=
  Is K mg Hs d v ∨ ∃ ds p vs, d = .lst ds ∧ v = .ref p ∧ Hs p = none ∧ H p = some (.lst vs) ∧ IsL K mg Hs ds vs ∧ vs.length ≤ sizeLine
section
variable {K : PySem.W.Frag} {mg : Str → Option Value} {T : List (Addr × Str)} {Hs H Hs' H' : Hp} {d : D} {v : V}
theorem IsT.step (h : IsT K mg Hs H d v) (st : Step T Hs H Hs' H') : IsT K mg Hs' H' d v := by
  rcases h with h | ⟨ds, p, vs, h1, h2, h3, h4, h5, h6⟩
  · exact .inl (Is.mono st.s d v h)
  · exact .inr ⟨ds, p, vs, h1, h2, st.n p (by rw [h4]; exact fun z => nomatch z) h3, st.a.at h4 (fun _ z => nomatch z), IsL.mono st.s ds vs h5, h6⟩
theorem IsT.lst {ds : List D} (h : IsT K mg Hs H (.lst ds) v) (a : At T Hs H) : ∃ p vs, v = .ref p ∧ H p = some (.lst vs) ∧ IsL K mg Hs ds vs ∧ vs.length ≤ sizeLine := by
  rcases h with ⟨p, vs, h1, h2, h3⟩ | ⟨ds', p, vs, h1, h2, h3, h4, h5, h6⟩
  · exact ⟨p, vs, h1, a.sub.at h2 (fun _ z => nomatch z), h3, a.sz p vs (.inl (.inl h2))⟩
  · cases h1
    exact ⟨p, vs, h2, h4, h5, h6⟩
theorem IsT.tup {ds : List D} (h : IsT K mg Hs H (.tup ds) v) (a : At T Hs H) : ∃ p vs, v = .ref p ∧ SqT K H p vs ∧ SqT K Hs p vs ∧ IsL K mg Hs ds vs ∧ vs.length ≤ sizeLine := by
  rcases h with ⟨p, vs, h1, h2, h3⟩ | ⟨ds', p, vs, h1, _⟩
  · refine ⟨p, vs, h1, a.sub.sqT h2, h2, h3, ?_⟩
    rcases h2 with h2 | ⟨o, its, n, e1, e2, e3, e4, e5⟩
    · exact a.sz p vs (.inr h2)
    · have := e5.length
      simp only [Array.length_toList] at this
      omega
  · cases h1
theorem IsT.full (h : IsT K mg Hs H d v) (a : At T Hs H) : Is K mg H d v := by
  rcases h with h | ⟨ds, p, vs, h1, h2, h3, h4, h5, h6⟩
  · exact Is.mono a.sub d v h
  · subst h1
    exact ⟨p, vs, h2, h4, IsL.mono a.sub ds vs h5⟩
theorem IsT.flat (h : IsT K mg Hs H d v) (n : ∀ ds, d ≠ .lst ds) : Is K mg Hs d v := by
  rcases h with h | ⟨ds, _, _, h1, _⟩
  · exact h
  · exact absurd h1 (n ds)
end

/-! ### slots -/
/-- a thing of the def's own: a list, a dict -/
inductive Ob where
  | lst (ds : List D)
  | dct (es : List (Key × D))
inductive Sl where
  | no
  | sh (d : D)
  | ob (o : Ob)
abbrev Sl.ow (ds : List D) : Sl := .ob (.lst ds)
abbrev Sl.od (es : List (Key × D)) : Sl := .ob (.dct es)
abbrev Env := List Sl
def ObIs (K : PySem.W.Frag) (mg : Str → Option Value) (Hs : Hp) : Ob → HO → Prop
  | .lst ds, h => ∃ vs, h = .lst vs ∧ IsL K mg Hs ds vs ∧ vs.length ≤ sizeLine
  | .dct es, h => ∃ vs, h = .dK ((es.map (·.1)).zip vs) ∧ IsL K mg Hs (es.map (·.2)) vs ∧ vs.length ≤ sizeLine
theorem ObIs.mono {K : PySem.W.Frag} {mg : Str → Option Value} {H H' : Hp} (x : ExtW H H') : ∀ {o : Ob} {h : HO}, ObIs K mg H o h → ObIs K mg H' o h
  | .lst _, _, q => by
    obtain ⟨vs, e, h1, h2⟩ := q
    exact ⟨vs, e, IsL.mono x _ _ h1, h2⟩
  | .dct _, _, q => by
    obtain ⟨vs, e, h1, h2⟩ := q
    exact ⟨vs, e, IsL.mono x _ _ h1, h2⟩
theorem ObIs.ntbl {K : PySem.W.Frag} {mg : Str → Option Value} {H : Hp} : ∀ {o : Ob} {h : HO}, ObIs K mg H o h → ∀ ps, h ≠ .tbl ps
  | .lst _, _, q, _ => by obtain ⟨vs, rfl, _⟩ := q; exact fun z => nomatch z
  | .dct _, _, q, _ => by obtain ⟨vs, rfl, _⟩ := q; exact fun z => nomatch z
theorem ObIs.next {K : PySem.W.Frag} {mg : Str → Option Value} {H : Hp} : ∀ {o : Ob} {h : HO}, ObIs K mg H o h → ∀ φ, h ≠ .ext φ
  | .lst _, _, q, _ => by obtain ⟨vs, rfl, _⟩ := q; exact fun z => nomatch z
  | .dct _, _, q, _ => by obtain ⟨vs, rfl, _⟩ := q; exact fun z => nomatch z
def SlOk (K : PySem.W.Frag) (mg : Str → Option Value) (Hs H : Hp) (σ : L2.St) (i : Nat) : Sl → Prop
  | .no => True
  | .sh d => ∃ v, σ[i]? = some (some v) ∧ Is K mg Hs d v
  | .ob o => ∃ p h, σ[i]? = some (some (.ref p)) ∧ Hs p = none ∧ H p = some h ∧ ObIs K mg Hs o h
structure Rp (K : PySem.W.Frag) (mg : Str → Option Value) (T : List (Addr × Str)) (Hs H : Hp) (σ : L2.St) (ρ : Env) : Prop where
  to : At T Hs H
  len : ρ.length = σ.length
  ok : ∀ (i : Nat) (s : Sl), ρ[i]? = some s → SlOk K mg Hs H σ i s
  sep : ∀ (i j : Nat) (ds es : Ob) (p : Addr), i ≠ j → ρ[i]? = some (Sl.ob ds) → ρ[j]? = some (Sl.ob es) → σ[i]? = some (some (V.ref p)) → σ[j]? = some (some (V.ref p)) → False
section
variable {K : PySem.W.Frag} {mg : Str → Option Value} {T : List (Addr × Str)} {Hs H Hs' H' : Hp} {σ : L2.St} {ρ : Env} {d : D} {v : V} {i : Nat}
theorem SlOk.step {s : Sl} (h : SlOk K mg Hs H σ i s) (st : Step T Hs H Hs' H') : SlOk K mg Hs' H' σ i s := by
  cases s with
  | no => trivial
  | sh d =>
    obtain ⟨v, e, h⟩ := h
    exact ⟨v, e, Is.mono st.s d v h⟩
  | ob o =>
    obtain ⟨p, u, e, h3, h4, h5⟩ := h
    exact ⟨p, u, e, st.n p (by rw [h4]; exact fun z => nomatch z) h3, st.a.at h4 h5.ntbl, h5.mono st.s⟩
theorem Rp.step (h : Rp K mg T Hs H σ ρ) (st : Step T Hs H Hs' H') : Rp K mg T Hs' H' σ ρ :=
  ⟨st.to, h.len, fun i s e => (h.ok i s e).step st, h.sep⟩
theorem SlOk.ne {s : Sl} {j : Nat} {x : Option V} (h : SlOk K mg Hs H σ i s) (n : j ≠ i) : SlOk K mg Hs H (σ.set j x) i s := by
  cases s with
  | no => trivial
  | sh d =>
    obtain ⟨v, e, h⟩ := h
    exact ⟨v, by rw [List.getElem?_set_ne n]; exact e, h⟩
  | ob ds =>
    obtain ⟨p, vs, e, h⟩ := h
    exact ⟨p, vs, by rw [List.getElem?_set_ne n]; exact e, h⟩
/-- slot i is told -/
theorem Rp.set (h : Rp K mg T Hs H σ ρ) (q : Is K mg Hs d v) : Rp K mg T Hs H (σ.set i (some v)) (ρ.set i (.sh d)) where
  to := h.to
  len := by rw [List.length_set, List.length_set, h.len]
  ok := fun j s e => by
    by_cases z : i = j
    · subst z
      have hi : i < ρ.length := by
        have := (List.getElem?_eq_some_iff.mp e).1
        rwa [List.length_set] at this
      rw [List.getElem?_set_self hi] at e
      cases e
      exact ⟨v, List.getElem?_set_self (by rw [← h.len]; exact hi), q⟩
    · rw [List.getElem?_set_ne z] at e
      exact (h.ok j s e).ne z
  sep := fun a b ds es p n e1 e2 e3 e4 => by
    have key : ∀ {c : Nat} {cs : Ob}, (ρ.set i (Sl.sh d))[c]? = some (Sl.ob cs) → i ≠ c ∧ ρ[c]? = some (Sl.ob cs) := fun {c cs} e => by
      by_cases z : i = c
      · subst z
        have hi : i < ρ.length := by
          have := (List.getElem?_eq_some_iff.mp e).1
          rwa [List.length_set] at this
        rw [List.getElem?_set_self hi] at e
        cases e
      · rw [List.getElem?_set_ne z] at e
        exact ⟨z, e⟩
    obtain ⟨n1, k1⟩ := key e1
    obtain ⟨n2, k2⟩ := key e2
    rw [List.getElem?_set_ne n1] at e3
    rw [List.getElem?_set_ne n2] at e4
    exact h.sep a b ds es p n k1 k2 e3 e4
/-- slot i is forgotten -/
theorem Rp.drop (h : Rp K mg T Hs H σ ρ) {x : Option V} : Rp K mg T Hs H (σ.set i x) (ρ.set i .no) where
  to := h.to
  len := by rw [List.length_set, List.length_set, h.len]
  ok := fun j s e => by
    by_cases z : i = j
    · subst z
      have hi : i < ρ.length := by
        have := (List.getElem?_eq_some_iff.mp e).1
        rwa [List.length_set] at this
      rw [List.getElem?_set_self hi] at e
      cases e
      trivial
    · rw [List.getElem?_set_ne z] at e
      exact (h.ok j s e).ne z
  sep := fun a b ds es p n e1 e2 e3 e4 => by
    have key : ∀ {c : Nat} {cs : Ob}, (ρ.set i Sl.no)[c]? = some (Sl.ob cs) → i ≠ c ∧ ρ[c]? = some (Sl.ob cs) := fun {c cs} e => by
      by_cases z : i = c
      · subst z
        have hi : i < ρ.length := by
          have := (List.getElem?_eq_some_iff.mp e).1
          rwa [List.length_set] at this
        rw [List.getElem?_set_self hi] at e
        cases e
      · rw [List.getElem?_set_ne z] at e
        exact ⟨z, e⟩
    obtain ⟨n1, k1⟩ := key e1
    obtain ⟨n2, k2⟩ := key e2
    rw [List.getElem?_set_ne n1] at e3
    rw [List.getElem?_set_ne n2] at e4
    exact h.sep a b ds es p n k1 k2 e3 e4
/-- slot i gets a new list of the def's own -/
theorem Rp.own (h : Rp K mg T Hs H σ ρ) {p : Addr} {u : HO} {ds : Ob} (hp : H p = none) (q : ObIs K mg Hs ds u) :
    Rp K mg T Hs (upd H p u) (σ.set i (some (.ref p))) (ρ.set i (.ob ds)) where
  to := ⟨h.to.sub.trans (.new hp), tabs_ext h.to.tab fun b u e => by rw [upd_ne (ne_of_none e hp)]; exact e, h.to.sz⟩
  len := by rw [List.length_set, List.length_set, h.len]
  ok := fun j s e => by
    by_cases z : i = j
    · subst z
      have hi : i < ρ.length := by
        have := (List.getElem?_eq_some_iff.mp e).1
        rwa [List.length_set] at this
      rw [List.getElem?_set_self hi] at e
      cases e
      exact ⟨p, u, List.getElem?_set_self (by rw [← h.len]; exact hi), h.to.sub.free hp, upd_same, q⟩
    · rw [List.getElem?_set_ne z] at e
      have k := (h.ok j s e).ne (x := some (.ref p)) z
      cases s with
      | no => trivial
      | sh d => exact k
      | ob es =>
        obtain ⟨b, us, e1, e2, e3, e4⟩ := k
        exact ⟨b, us, e1, e2, by rw [upd_ne (ne_of_none e3 hp)]; exact e3, e4⟩
  sep := fun a b es fs c n e1 e2 e3 e4 => by
    have at_ : ∀ {x : Nat} {xs : Ob}, i ≠ x → (ρ.set i (Sl.ob ds))[x]? = some (Sl.ob xs) → ∀ y : Addr, (σ.set i (some (V.ref p)))[x]? = some (some (V.ref y)) → y ≠ p := fun {x xs} nx ex y ey => by
      rw [List.getElem?_set_ne nx] at ex ey
      obtain ⟨b, us, k1, k2, k3, _⟩ := h.ok x _ ex
      rw [ey] at k1; cases k1
      exact ne_of_none k3 hp
    have hi : ∀ {x : Nat} {xs : Ob} {y : Addr}, i = x → (ρ.set i (Sl.ob ds))[x]? = some (Sl.ob xs) → (σ.set i (some (V.ref p)))[x]? = some (some (V.ref y)) → y = p := fun {x xs y} ex e ey => by
      subst ex
      have hi : i < ρ.length := by
        have := (List.getElem?_eq_some_iff.mp e).1
        rwa [List.length_set] at this
      rw [List.getElem?_set_self (by rw [← h.len]; exact hi)] at ey
      cases ey
      rfl
    by_cases z1 : i = a
    · by_cases z2 : i = b
      · exact n (z1.symm.trans z2)
      · exact at_ z2 e2 c e4 (hi z1 e1 e3)
    · by_cases z2 : i = b
      · exact at_ z1 e1 c e3 (hi z2 e2 e4)
      · rw [List.getElem?_set_ne z1] at e1 e3
        rw [List.getElem?_set_ne z2] at e2 e4
        exact h.sep a b es fs c n e1 e2 e3 e4
end

/-! ### what is wanted behind a piece -/
def PostG {α β : Type} (T : List (Addr × Str)) (rel : Hp → Hp → α → β → Prop) (W : Str → Hp → Prop) (r : R α) (Hs H : Hp) (Q : β → Hp → Prop) : Prop := match r with
  | .ok a => ∀ b Hs' H', Step T Hs H Hs' H' → rel Hs' H' a b → Q b H'
  | .er c => ∀ Hs' H', Step T Hs H Hs' H' → W c H'
  | .no => False
section
variable {α β γ δ : Type} {T : List (Addr × Str)} {rel rel' : Hp → Hp → α → β → Prop} {rel2 : Hp → Hp → γ → δ → Prop} {W : Str → Hp → Prop} {r : R α} {Hs H Hs' H' : Hp} {Q Q' : β → Hp → Prop}
theorem PostG.mono (h : PostG T rel W r Hs H Q) (q : ∀ b H, Q b H → Q' b H) : PostG T rel W r Hs H Q' := by
  cases r with
  | ok a => exact fun b Hs' H' st k => q _ _ (h b Hs' H' st k)
  | er c => exact h
  | no => exact h
theorem PostG.step (h : PostG T rel W r Hs H Q) (st : Step T Hs H Hs' H') : PostG T rel W r Hs' H' Q := by
  cases r with
  | ok a => exact fun b Hs2 H2 st2 k => h b Hs2 H2 (st.trans st2) k
  | er c => exact fun Hs2 H2 st2 => h Hs2 H2 (st.trans st2)
  | no => exact h
theorem PostG.rel_ (h : PostG T rel W r Hs H Q) (q : ∀ Hs' H' a b, rel' Hs' H' a b → rel Hs' H' a b) : PostG T rel' W r Hs H Q := by
  cases r with
  | ok a => exact fun b Hs' H' st k => h b Hs' H' st (q _ _ _ _ k)
  | er c => exact h
  | no => exact h
theorem PostG.bind {f : α → R γ} {Q : δ → Hp → Prop} (h : PostG T rel2 W (r.bind f) Hs H Q) :
    PostG T rel W r Hs H fun b H' => ∃ Hs' a, Step T Hs H Hs' H' ∧ rel Hs' H' a b ∧ PostG T rel2 W (f a) Hs' H' Q := by
  cases r with
  | ok a => exact fun b Hs' H' st k => ⟨Hs', a, st, k, PostG.step (show PostG T rel2 W (f a) Hs H Q from h) st⟩
  | er c => exact fun Hs' H' st => h Hs' H' st
  | no => exact h
theorem PostG.ret {a : α} {b : β} (h : PostG T rel W (.ok a) Hs H Q) (to : At T Hs H) (k : rel Hs H a b) : Q b H := h b Hs H (.refl to) k
end
abbrev rIs (K : PySem.W.Frag) (mg : Str → Option Value) : Hp → Hp → D → V → Prop := fun Hs _ d v => Is K mg Hs d v
abbrev rIsT (K : PySem.W.Frag) (mg : Str → Option Value) : Hp → Hp → D → V → Prop := fun Hs H d v => IsT K mg Hs H d v
abbrev rIsL (K : PySem.W.Frag) (mg : Str → Option Value) : Hp → Hp → List D → List V → Prop := fun Hs _ d v => IsL K mg Hs d v
abbrev rB : Hp → Hp → Bool → Bool → Prop := fun _ _ a b => a = b

/-! ### the judgements -/
section
variable (X : Cx) (T : List (Addr × Str)) (W : Str → Hp → Prop)
/-- an expression with its semantics -/
def PD (e : Expr) (m : Env → R D) : Prop := ∃ te : TE, PE X e te ∧ ∀ ρ Hs σ H Q, Rp X.K X.mg T Hs H σ ρ → PostG T (rIs X.K X.mg) W (m ρ) Hs H Q → te σ H Q
/-- .. whose value is only looked at -/
def PDt (e : Expr) (m : Env → R D) : Prop := ∃ te : TE, PE X e te ∧ ∀ ρ Hs σ H Q, Rp X.K X.mg T Hs H σ ρ → PostG T (rIsT X.K X.mg) W (m ρ) Hs H Q → te σ H Q
/-- a test -/
def PTD (e : Expr) (m : Env → R Bool) : Prop := ∃ tt : TT, PT X e tt ∧ ∀ ρ Hs σ H Q, Rp X.K X.mg T Hs H σ ρ → PostG T rB W (m ρ) Hs H Q → tt σ H Q
def PWD (e : Expr) (m : Env → R Bool) : Prop := ∃ tt : TT, PW X e tt ∧ ∀ ρ Hs σ H Q, Rp X.K X.mg T Hs H σ ρ → PostG T rB W (m ρ) Hs H Q → tt σ H Q
/-- arguments -/
def PAD (es : List Expr) (m : Env → R (List D)) : Prop := ∃ ta : TA, PA X es ta ∧ ∀ ρ Hs σ H Q, Rp X.K X.mg T Hs H σ ρ → PostG T (rIsL X.K X.mg) W (m ρ) Hs H Q → ta σ H Q
end
section
variable {X : Cx} {T : List (Addr × Str)} {W : Str → Hp → Prop} {e a b : Expr} {es : List Expr} {m ma mb : Env → R D} {pos : Pos}
theorem PD.t (h : PD X T W e m) : PDt X T W e m := by
  obtain ⟨te, pe, ev⟩ := h
  exact ⟨te, pe, fun ρ Hs σ H Q rp hp => ev ρ Hs σ H Q rp (hp.rel_ fun _ _ _ _ k => .inl k)⟩
theorem PWD.p {mt : Env → R Bool} (h : PWD X T W e mt) : PTD X T W e mt := by
  obtain ⟨te, pe, ev⟩ := h
  exact ⟨te, pe.pt, ev⟩

/-! ### names, constants -/
def mVar (i : Nat) : Env → R D := fun ρ => match ρ[i]? with
  | some (.sh d) => .ok d
  | _ => .no
def mVarT (i : Nat) : Env → R D := fun ρ => match ρ[i]? with
  | some (.sh d) => .ok d
  | some (.ob (.lst ds)) => .ok (.lst ds)
  | _ => .no
def mC (d : D) : Env → R D := fun _ => .ok d
theorem pd_var (i : Nat) {x : Str} (hN : X.N[i]? = some x := by rfl) (hv : Vis X.env.scope x := by first | exact Or.inl rfl | exact Or.inr (Or.inl rfl) | exact Or.inr (Or.inr rfl)) (hd : (x == ("__debug__" : Str)) = false := by decide)
    (hcd : (x == ("__classdict__" : Str)) = false := by decide) : PD X T W (.Name x pos) (mVar i) := by
  refine ⟨tVar i, pe_var hN hv hd hcd, fun ρ Hs σ H Q rp hp => ?_⟩
  unfold mVar at hp
  split at hp
  · rename_i d e
    obtain ⟨v, e1, e2⟩ := rp.ok i _ e
    exact ⟨v, e1, hp.ret rp.to e2⟩
  · exact hp.elim
theorem pdt_var (i : Nat) {x : Str} (hN : X.N[i]? = some x := by rfl) (hv : Vis X.env.scope x := by first | exact Or.inl rfl | exact Or.inr (Or.inl rfl) | exact Or.inr (Or.inr rfl)) (hd : (x == ("__debug__" : Str)) = false := by decide)
    (hcd : (x == ("__classdict__" : Str)) = false := by decide) : PDt X T W (.Name x pos) (mVarT i) := by
  refine ⟨tVar i, pe_var hN hv hd hcd, fun ρ Hs σ H Q rp hp => ?_⟩
  unfold mVarT at hp
  split at hp
  · rename_i d e
    obtain ⟨v, e1, e2⟩ := rp.ok i _ e
    exact ⟨v, e1, hp.ret rp.to (.inl e2)⟩
  · rename_i ds e
    obtain ⟨p, _, e1, e2, e3, vs, rfl, e4, e5⟩ := rp.ok i _ e
    exact ⟨_, e1, hp.ret rp.to (.inr ⟨ds, p, vs, rfl, rfl, e2, e3, e4, e5⟩)⟩
  · exact hp.elim
theorem pd_const {d : D} {v : V} (he : PE X e (tC v)) (hv : ∀ Hs, Is X.K X.mg Hs d v) : PD X T W e (mC d) :=
  ⟨tC v, he, fun ρ Hs σ H Q rp hp => PostG.ret (rel := rIs X.K X.mg) hp rp.to (hv Hs)⟩
theorem pd_int {i j} : PD X T W (.Constant (.int i) j pos) (mC (.int i)) := pd_const pe_int fun _ => rfl
theorem pd_bl {i j} : PD X T W (.Constant (.bool i) j pos) (mC (.bl i)) := pd_const pe_bl fun _ => rfl
theorem pd_non {j} : PD X T W (.Constant .none j pos) (mC .non) := pd_const pe_non fun _ => rfl
theorem pd_str {x j} : PD X T W (.Constant (.str x) j pos) (mC (.str x)) := pd_const pe_str fun _ => rfl
/-- a def of the module as a value -/
theorem pd_fn {x : Str} {f : Addr} (hg : Gl X x) (hm : X.mg x = some (.ref f)) (hd : (x == ("__debug__" : Str)) = false := by decide) : PD X T W (.Name x pos) (mC (.fn x)) :=
  pd_const (pe_glob (v := .ref f) hg hm rfl hd) fun _ => ⟨f, hm, rfl⟩
/-- an int of the module -/
theorem pd_gint {x : Str} {i : Int} {t : Tok} (hg : Gl X x) (hm : X.mg x = some (.int i t)) (hd : (x == ("__debug__" : Str)) = false := by decide) : PD X T W (.Name x pos) (mC (.int i)) :=
  pd_const (pe_glob (v := .int i) hg hm ⟨t, rfl⟩ hd) fun _ => rfl
/-- a tuple of ints of the module -/
theorem pd_gtup {x : Str} {f : Addr} {ns : List Int} (hg : Gl X x) (hm : X.mg x = some (.ref f)) (ht : ∀ H, SqT X.K H f (ns.map V.int)) (hd : (x == ("__debug__" : Str)) = false := by decide) : PD X T W (.Name x pos) (mC (.tup (ns.map D.int))) :=
  pd_const (pe_glob (v := .ref f) hg hm rfl hd) fun _ => ⟨f, _, rfl, ht _, IsL.of_ints⟩

/-! ### arguments, displays -/
def mNil : Env → R (List D) := fun _ => .ok []
def mCons (m : Env → R D) (r : Env → R (List D)) : Env → R (List D) := fun ρ => (m ρ).bind fun d => (r ρ).bind fun ds => .ok (d :: ds)
theorem pad_nil : PAD X T W [] mNil := ⟨tNil, pa_nil, fun ρ Hs σ H Q rp hp => PostG.ret (rel := rIsL X.K X.mg) hp rp.to rfl⟩
theorem pad_cons {r : Env → R (List D)} (h : PD X T W e m) (hr : PAD X T W es r) (hs : starEach (e :: es) X.env = (false, eval e X.env) :: starEach es X.env := by rfl) : PAD X T W (e :: es) (mCons m r) := by
  obtain ⟨te, pe, ev⟩ := h
  obtain ⟨ta, pa, ea⟩ := hr
  refine ⟨_, pa_cons pe pa hs, fun ρ Hs σ H Q rp hp => ev ρ Hs σ H _ rp ?_⟩
  refine PostG.mono (PostG.bind hp) fun v H1 ⟨Hs1, d, st, is, hp1⟩ => ea ρ Hs1 σ H1 _ (rp.step st) ?_
  refine PostG.mono (PostG.bind hp1) fun vs H2 ⟨Hs2, ds, st2, is2, hp2⟩ => ?_
  exact PostG.ret (rel := rIsL X.K X.mg) hp2 st2.to ⟨v, vs, rfl, Is.mono st2.s d v is, is2⟩
def mTup (m : Env → R (List D)) : Env → R D := fun ρ => (m ρ).bind fun ds => if ds.length ≤ sizeLine then .ok (.tup ds) else .no
def mLst (m : Env → R (List D)) : Env → R D := fun ρ => (m ρ).bind fun ds => if ds.length ≤ sizeLine then .ok (.lst ds) else .no
theorem pd_tup {m : Env → R (List D)} {x1} (h : PAD X T W es m) : PD X T W (.Tuple es x1 pos) (mTup m) := by
  obtain ⟨ta, pa, ea⟩ := h
  refine ⟨_, pe_tup pa, fun ρ Hs σ H Q rp hp => ea ρ Hs σ H _ rp ?_⟩
  refine PostG.mono (PostG.bind hp) fun vs H1 ⟨Hs1, ds, st, is, hp1⟩ => ?_
  by_cases hl : ds.length ≤ sizeLine
  · rw [if_pos hl] at hp1
    have hv : vs.length ≤ sizeLine := by rw [is.length]; exact hl
    refine ⟨hv, fun p hp => ?_⟩
    have st2 := Step.tup st.to hp hv
    exact hp1 _ _ _ st2 ⟨p, vs, rfl, .of upd_same, IsL.mono st2.s ds vs is⟩
  · rw [if_neg hl] at hp1
    exact hp1.elim
theorem pd_lst {m : Env → R (List D)} (h : PAD X T W es m) : PD X T W (.List es pos) (mLst m) := by
  obtain ⟨ta, pa, ea⟩ := h
  refine ⟨_, pe_lst pa, fun ρ Hs σ H Q rp hp => ea ρ Hs σ H _ rp ?_⟩
  refine PostG.mono (PostG.bind hp) fun vs H1 ⟨Hs1, ds, st, is, hp1⟩ => ?_
  by_cases hl : ds.length ≤ sizeLine
  · rw [if_pos hl] at hp1
    have hv : vs.length ≤ sizeLine := by rw [is.length]; exact hl
    refine ⟨hv, fun p hp => ?_⟩
    have st2 := Step.lst st.to hp hv
    exact hp1 _ _ _ st2 ⟨p, vs, rfl, upd_same, IsL.mono st2.s ds vs is⟩
  · rw [if_neg hl] at hp1
    exact hp1.elim

/-! ### operators by values -/
/-- an operation of two values does g -/
def Op2 (X : Cx) (T : List (Addr × Str)) (f : Value → Value → Sem Value) (g : D → D → R D) : Prop :=
  ∃ r : R2, OpR X f r ∧ ∀ (W : Str → Hp → Prop) d e x y Hs H Q, At T Hs H → IsT X.K X.mg Hs H d x → IsT X.K X.mg Hs H e y → PostG T (rIs X.K X.mg) W (g d e) Hs H Q → r x y H Q
def mBin (g : D → D → R D) (ma mb : Env → R D) : Env → R D := fun ρ => (ma ρ).bind fun x => (mb ρ).bind fun y => g x y
theorem ev_bin {g : D → D → R D} {ta tb : TE} {r : R2} (ea : ∀ ρ Hs σ H Q, Rp X.K X.mg T Hs H σ ρ → PostG T (rIsT X.K X.mg) W (ma ρ) Hs H Q → ta σ H Q) (eb : ∀ ρ Hs σ H Q, Rp X.K X.mg T Hs H σ ρ → PostG T (rIsT X.K X.mg) W (mb ρ) Hs H Q → tb σ H Q)
    (er : ∀ (W : Str → Hp → Prop) d e x y Hs H Q, At T Hs H → IsT X.K X.mg Hs H d x → IsT X.K X.mg Hs H e y → PostG T (rIs X.K X.mg) W (g d e) Hs H Q → r x y H Q) :
    ∀ ρ Hs σ H Q, Rp X.K X.mg T Hs H σ ρ → PostG T (rIs X.K X.mg) W (mBin g ma mb ρ) Hs H Q → tOp r ta tb σ H Q := by
  intro ρ Hs σ H Q rp hp
  refine ea ρ Hs σ H _ rp (PostG.mono (PostG.bind hp) fun x H1 ⟨Hs1, d, st, is, hp1⟩ => eb ρ Hs1 σ H1 _ (rp.step st) ?_)
  refine PostG.mono (PostG.bind hp1) fun y H2 ⟨Hs2, d2, st2, is2, hp2⟩ => ?_
  exact er W d d2 x y Hs2 H2 Q st2.to (is.step st2) is2 hp2
theorem pd_bin {op : Operator} {g : D → D → R D} (o : Op2 X T (binaryOp op) g) (ha : PDt X T W a ma) (hb : PDt X T W b mb) : PD X T W (.BinOp a op b pos) (mBin g ma mb) := by
  obtain ⟨r, hr, er⟩ := o
  obtain ⟨ta, pa, ea⟩ := ha
  obtain ⟨tb, pb, eb⟩ := hb
  exact ⟨_, pe_op hr pa pb, ev_bin ea eb er⟩
theorem pd_cmp {op : CmpOp} {g : D → D → R D} (o : Op2 X T (compareOp op) g) (ha : PDt X T W a ma) (hb : PDt X T W b mb) (hm : behindInMarks op b = false := by first | exact nomark _ | rfl) : PD X T W (.Compare a [op] [b] pos) (mBin g ma mb) := by
  obtain ⟨r, hr, er⟩ := o
  obtain ⟨ta, pa, ea⟩ := ha
  obtain ⟨tb, pb, eb⟩ := hb
  exact ⟨_, pe_cmpR hr pa pb hm, ev_bin ea eb er⟩
/-- a truth value -/
def asB : D → R Bool
  | .bl b => .ok b
  | _ => .no
@[simp] theorem asB_bl (b : Bool) : asB (.bl b) = .ok b := rfl
def mB (m : Env → R D) : Env → R Bool := fun ρ => (m ρ).bind asB
theorem ev_B {te : TE} (ev : ∀ ρ Hs σ H Q, Rp X.K X.mg T Hs H σ ρ → PostG T (rIs X.K X.mg) W (m ρ) Hs H Q → te σ H Q) :
    ∀ ρ Hs σ H Q, Rp X.K X.mg T Hs H σ ρ → PostG T rB W (mB m ρ) Hs H Q → te σ H fun x H1 => ∃ k, x = .bl k ∧ Q k H1 := by
  intro ρ Hs σ H Q rp hp
  refine ev ρ Hs σ H _ rp (PostG.mono (PostG.bind hp) fun x H1 ⟨Hs1, d, st, is, hp1⟩ => ?_)
  cases d with
  | bl b =>
    cases is
    exact ⟨b, rfl, PostG.ret (rel := rB) hp1 st.to rfl⟩
  | _ => exact hp1.elim
theorem ptd_cmp {op : CmpOp} {g : D → D → R D} (o : Op2 X T (compareOp op) g) (ha : PDt X T W a ma) (hb : PDt X T W b mb) (hm : behindInMarks op b = false := by first | exact nomark _ | rfl) : PTD X T W (.Compare a [op] [b] pos) (mB (mBin g ma mb)) := by
  obtain ⟨r, hr, er⟩ := o
  obtain ⟨ta, pa, ea⟩ := ha
  obtain ⟨tb, pb, eb⟩ := hb
  exact ⟨_, pt_cmpR hr pa pb hm, ev_B (ev_bin ea eb er)⟩
/-- an expression that gives a truth value, as a test -/
theorem ptd_val (h : PD X T W e m) (he : ∀ whole, isTrue e X.env whole = (do let v ← whole; standAt e.pos; holding [v] (truthy v)) := by intro _; rfl) : PTD X T W e (mB m) := by
  obtain ⟨te, pe, ev⟩ := h
  exact ⟨_, pt_val pe he, ev_B ev⟩

/-! ### not, and, or, if else -/
def mNot (m : Env → R Bool) : Env → R Bool := fun ρ => (m ρ).bind fun b => .ok (!b)
def mAnd (m m' : Env → R Bool) : Env → R Bool := fun ρ => (m ρ).bind fun b => if b = true then m' ρ else .ok false
def mOr (m m' : Env → R Bool) : Env → R Bool := fun ρ => (m ρ).bind fun b => if b = true then .ok true else m' ρ
variable {mt mt' : Env → R Bool} {rest : List Expr}
theorem ptd_not (h : PTD X T W a mt) : PTD X T W (.UnaryOp .Not a pos) (mNot mt) := by
  obtain ⟨tt, pt, ev⟩ := h
  refine ⟨_, pt_not pt, fun ρ Hs σ H Q rp hp => ev ρ Hs σ H _ rp (PostG.mono (PostG.bind hp) fun b H1 ⟨Hs1, d, st, is, hp1⟩ => ?_)⟩
  cases is
  exact PostG.ret (rel := rB) hp1 st.to rfl
theorem pwd_and1 (h : PTD X T W a mt) : PWD X T W (.BoolOp .And [a] pos) mt := by
  obtain ⟨tt, pt, ev⟩ := h
  exact ⟨_, pw_and1 pt, ev⟩
theorem pwd_or1 (h : PTD X T W a mt) : PWD X T W (.BoolOp .Or [a] pos) mt := by
  obtain ⟨tt, pt, ev⟩ := h
  exact ⟨_, pw_or1 pt, ev⟩
theorem pwd_and (h : PTD X T W a mt) (h' : PWD X T W (.BoolOp .And (b :: rest) pos) mt') : PWD X T W (.BoolOp .And (a :: b :: rest) pos) (mAnd mt mt') := by
  obtain ⟨tt, pt, ev⟩ := h
  obtain ⟨tt', pt', ev'⟩ := h'
  refine ⟨_, pw_and pt pt', fun ρ Hs σ H Q rp hp => ev ρ Hs σ H _ rp (PostG.mono (PostG.bind hp) fun b H1 ⟨Hs1, d, st, is, hp1⟩ => ?_)⟩
  cases is
  cases b with
  | true =>
    rw [if_pos rfl] at hp1 ⊢
    exact ev' ρ Hs1 σ H1 Q (rp.step st) hp1
  | false =>
    rw [if_neg Bool.false_ne_true] at hp1 ⊢
    exact PostG.ret (rel := rB) hp1 st.to rfl
theorem pwd_or (h : PTD X T W a mt) (h' : PWD X T W (.BoolOp .Or (b :: rest) pos) mt') : PWD X T W (.BoolOp .Or (a :: b :: rest) pos) (mOr mt mt') := by
  obtain ⟨tt, pt, ev⟩ := h
  obtain ⟨tt', pt', ev'⟩ := h'
  refine ⟨_, pw_or pt pt', fun ρ Hs σ H Q rp hp => ev ρ Hs σ H _ rp (PostG.mono (PostG.bind hp) fun b H1 ⟨Hs1, d, st, is, hp1⟩ => ?_)⟩
  cases is
  cases b with
  | true =>
    rw [if_pos rfl] at hp1 ⊢
    exact PostG.ret (rel := rB) hp1 st.to rfl
  | false =>
    rw [if_neg Bool.false_ne_true] at hp1 ⊢
    exact ev' ρ Hs1 σ H1 Q (rp.step st) hp1
/-- as values -/
def vB (m : Env → R Bool) : Env → R D := fun ρ => (m ρ).bind fun b => .ok (.bl b)
theorem pd_one {op} (h : PD X T W a m) : PD X T W (.BoolOp op [a] pos) (vB (mB m)) := by
  obtain ⟨te, pe, ev⟩ := h
  refine ⟨_, pe_one pe, fun ρ Hs σ H Q rp hp => ?_⟩
  have e : vB (mB m) ρ = (m ρ).bind fun d => (asB d).bind fun b => .ok (.bl b) := by
    unfold vB mB
    cases m ρ <;> rfl
  rw [e] at hp
  refine ev ρ Hs σ H _ rp (PostG.mono (PostG.bind hp) fun v H1 ⟨Hs1, d, st, is, hp1⟩ => ?_)
  cases d with
  | bl b =>
    cases is
    exact PostG.ret (rel := rIs X.K X.mg) hp1 st.to rfl
  | _ => exact hp1.elim
theorem pd_and (h : PD X T W a m) (h' : PD X T W (.BoolOp .And (b :: rest) pos) (vB mt')) : PD X T W (.BoolOp .And (a :: b :: rest) pos) (vB (mAnd (mB m) mt')) := by
  obtain ⟨te, pe, ev⟩ := h
  obtain ⟨te', pe', ev'⟩ := h'
  refine ⟨_, L2.pe_and pe pe', fun ρ Hs σ H Q rp hp => ?_⟩
  have e : vB (mAnd (mB m) mt') ρ = (m ρ).bind fun d => (asB d).bind fun b => if b = true then vB mt' ρ else .ok (.bl false) := by
    unfold vB mAnd mB
    cases m ρ with
    | ok d =>
      simp only [R.bind_ok]
      cases asB d with
      | ok b => cases b <;> rfl
      | _ => rfl
    | _ => rfl
  rw [e] at hp
  refine ev ρ Hs σ H _ rp (PostG.mono (PostG.bind hp) fun v H1 ⟨Hs1, d, st, is, hp1⟩ => ?_)
  cases d with
  | bl b =>
    cases is
    refine ⟨b, rfl, ?_⟩
    simp only [asB_bl, R.bind_ok] at hp1
    cases b with
    | true =>
      rw [if_pos rfl] at hp1 ⊢
      exact ev' ρ Hs1 σ H1 Q (rp.step st) hp1
    | false =>
      rw [if_neg Bool.false_ne_true] at hp1 ⊢
      exact PostG.ret (rel := rIs X.K X.mg) hp1 st.to rfl
  | _ => exact hp1.elim
theorem pd_or (h : PD X T W a m) (h' : PD X T W (.BoolOp .Or (b :: rest) pos) (vB mt')) : PD X T W (.BoolOp .Or (a :: b :: rest) pos) (vB (mOr (mB m) mt')) := by
  obtain ⟨te, pe, ev⟩ := h
  obtain ⟨te', pe', ev'⟩ := h'
  refine ⟨_, L2.pe_or pe pe', fun ρ Hs σ H Q rp hp => ?_⟩
  have e : vB (mOr (mB m) mt') ρ = (m ρ).bind fun d => (asB d).bind fun b => if b = true then .ok (.bl true) else vB mt' ρ := by
    unfold vB mOr mB
    cases m ρ with
    | ok d =>
      simp only [R.bind_ok]
      cases asB d with
      | ok b => cases b <;> rfl
      | _ => rfl
    | _ => rfl
  rw [e] at hp
  refine ev ρ Hs σ H _ rp (PostG.mono (PostG.bind hp) fun v H1 ⟨Hs1, d, st, is, hp1⟩ => ?_)
  cases d with
  | bl b =>
    cases is
    refine ⟨b, rfl, ?_⟩
    simp only [asB_bl, R.bind_ok] at hp1
    cases b with
    | true =>
      rw [if_pos rfl] at hp1 ⊢
      exact PostG.ret (rel := rIs X.K X.mg) hp1 st.to rfl
    | false =>
      rw [if_neg Bool.false_ne_true] at hp1 ⊢
      exact ev' ρ Hs1 σ H1 Q (rp.step st) hp1
  | _ => exact hp1.elim
theorem pd_not (h : PD X T W a m) : PD X T W (.UnaryOp .Not a pos) (vB (mNot (mB m))) := by
  obtain ⟨te, pe, ev⟩ := h
  refine ⟨_, L2.pe_not pe, fun ρ Hs σ H Q rp hp => ?_⟩
  have e : vB (mNot (mB m)) ρ = (m ρ).bind fun d => (asB d).bind fun b => .ok (.bl (!b)) := by
    unfold vB mNot mB
    cases m ρ with
    | ok d =>
      simp only [R.bind_ok]
      cases asB d <;> rfl
    | _ => rfl
  rw [e] at hp
  refine ev ρ Hs σ H _ rp (PostG.mono (PostG.bind hp) fun v H1 ⟨Hs1, d, st, is, hp1⟩ => ?_)
  cases d with
  | bl b =>
    cases is
    exact ⟨b, rfl, PostG.ret (rel := rIs X.K X.mg) hp1 st.to rfl⟩
  | _ => exact hp1.elim
def mIf (mt : Env → R Bool) (ma mb : Env → R D) : Env → R D := fun ρ => (mt ρ).bind fun b => if b = true then ma ρ else mb ρ
theorem pd_if {c : Expr} (hc : PTD X T W c mt) (ha : PD X T W a ma) (hb : PD X T W b mb) : PD X T W (.IfExp c a b pos) (mIf mt ma mb) := by
  obtain ⟨tt, pt, ev⟩ := hc
  obtain ⟨ta, pa, ea⟩ := ha
  obtain ⟨tb, pb, eb⟩ := hb
  refine ⟨_, pe_ifExp pt pa pb, fun ρ Hs σ H Q rp hp => ev ρ Hs σ H _ rp (PostG.mono (PostG.bind hp) fun b H1 ⟨Hs1, d, st, is, hp1⟩ => ?_)⟩
  cases is
  cases b with
  | true =>
    rw [if_pos rfl] at hp1 ⊢
    exact ea ρ Hs1 σ H1 Q (rp.step st) hp1
  | false =>
    rw [if_neg Bool.false_ne_true] at hp1 ⊢
    exact eb ρ Hs1 σ H1 Q (rp.step st) hp1
end
end FL
set_option maxHeartbeats 4000000
/-! FL2: operators, comparisons, subscripts on data. -/
namespace FL
open PySem PySem.Spec PyProof.Rows L2

/-! ### data as the library's data -/
mutual
def toP : D → PyData
  | .non => .none
  | .bl b => .bool b
  | .int i => .int i
  | .str x => .str x
  | .fn _ => .none
  | .scr _ => .none
  | .adr _ => .none
  | .tup ds => .tuple (toPs ds)
  | .lst ds => .list (toPs ds)
def toPs : List D → List PyData
  | [] => []
  | d :: ds => toP d :: toPs ds
end
mutual
/-- no def within, texts of true signs, not too deep -/
def shD : Nat → D → Bool
  | _, .non => true
  | _, .bl _ => true
  | _, .int _ => true
  | _, .str x => PyData.canLay0 (.str x)
  | _, .fn _ => false
  | _, .scr _ => false
  | _, .adr _ => false
  | n, .tup ds => decide (0 < n) && shL (n - 1) ds
  | n, .lst ds => decide (0 < n) && shL (n - 1) ds
def shL : Nat → List D → Bool
  | _, [] => true
  | n, d :: ds => shD n d && shL n ds
end
mutual
/-- Python's == -/
def eqvD : D → D → Bool
  | .non, .non => true
  | .bl a, .bl b => a == b
  | .bl a, .int j => (if a then 1 else 0) == j
  | .int i, .bl b => i == (if b then 1 else 0)
  | .int i, .int j => i == j
  | .str x, .str y => x == y
  | .lst xs, .lst ys => eqvL xs ys
  | .tup xs, .tup ys => eqvL xs ys
  | _, _ => false
def eqvL : List D → List D → Bool
  | [], [] => true
  | x :: xs, y :: ys => eqvD x y && eqvL xs ys
  | _, _ => false
end
mutual
theorem sh_lay : ∀ (d : D) (n : Nat), shD n d = true → PyData.canLay0 (toP d) = true ∧ (toP d).depth ≤ n
  | .non, _, _ => ⟨rfl, by simp [toP, PyData.depth]⟩
  | .bl _, _, _ => ⟨rfl, by simp [toP, PyData.depth]⟩
  | .int _, _, _ => ⟨rfl, by simp [toP, PyData.depth]⟩
  | .str x, _, h => ⟨by unfold shD at h; exact h, by simp [toP, PyData.depth]⟩
  | .fn _, _, h => by unfold shD at h; cases h
  | .scr ns, _, h => by unfold shD at h; cases h
  | .adr _, _, h => by unfold shD at h; cases h
  | .tup ds, n, h => by
    unfold shD at h
    obtain ⟨h1, h2⟩ := Bool.and_eq_true_iff.mp h
    have h1 := of_decide_eq_true h1
    obtain ⟨k1, k2⟩ := sh_lays ds _ h2
    refine ⟨k1, ?_⟩
    simp only [toP, PyData.depth]
    omega
  | .lst ds, n, h => by
    unfold shD at h
    obtain ⟨h1, h2⟩ := Bool.and_eq_true_iff.mp h
    have h1 := of_decide_eq_true h1
    obtain ⟨k1, k2⟩ := sh_lays ds _ h2
    refine ⟨k1, ?_⟩
    simp only [toP, PyData.depth]
    omega
theorem sh_lays : ∀ (ds : List D) (n : Nat), shL n ds = true → PyData.canLayAll0 (toPs ds) = true ∧ PyData.depthAll (toPs ds) ≤ n
  | [], _, _ => ⟨rfl, by simp [toPs, PyData.depthAll]⟩
  | d :: ds, n, h => by
    unfold shL at h
    obtain ⟨h1, h2⟩ := Bool.and_eq_true_iff.mp h
    obtain ⟨k1, k2⟩ := sh_lay d n h1
    obtain ⟨k3, k4⟩ := sh_lays ds n h2
    refine ⟨by simp [toPs, PyData.canLayAll0, k1, k3], ?_⟩
    simp only [toPs, PyData.depthAll]
    omega
end
theorem shaped_of {d : D} (h : shD 60 d = true) : SeqAt.shaped (toP d) = true := by
  obtain ⟨h1, h2⟩ := sh_lay d 60 h
  unfold SeqAt.shaped
  rw [h1, Bool.true_and]
  exact decide_eq_true (by omega)
mutual
theorem eqv_toP : ∀ (d e : D) (n : Nat), shD n d = true → shD n e = true → PyData.eqv (toP d) (toP e) = eqvD d e
  | .non, e, _, _, h => by cases e <;> first | rfl | (unfold shD at h; cases h)
  | .bl a, e, _, _, h => by cases e <;> first | rfl | (unfold shD at h; cases h)
  | .int a, e, _, _, h => by cases e <;> first | rfl | (unfold shD at h; cases h)
  | .str a, e, _, _, h => by cases e <;> first | rfl | (unfold shD at h; cases h)
  | .fn a, e, _, h, _ => by unfold shD at h; cases h
  | .scr a, e, _, h, _ => by unfold shD at h; cases h
  | .adr _, _, _, h, _ => by unfold shD at h; cases h
  | .tup ds, e, n, h1, h2 => by
    cases e with
    | tup es =>
      show PyData.eqvAll (toPs ds) (toPs es) = eqvL ds es
      exact eqv_toPs ds es (n - 1) (by unfold shD at h1; exact (Bool.and_eq_true_iff.mp h1).2) (by unfold shD at h2; exact (Bool.and_eq_true_iff.mp h2).2)
    | fn _ => unfold shD at h2; cases h2
    | scr _ => unfold shD at h2; cases h2
    | adr _ => unfold shD at h2; cases h2
    | _ => rfl
  | .lst ds, e, n, h1, h2 => by
    cases e with
    | lst es =>
      show PyData.eqvAll (toPs ds) (toPs es) = eqvL ds es
      exact eqv_toPs ds es (n - 1) (by unfold shD at h1; exact (Bool.and_eq_true_iff.mp h1).2) (by unfold shD at h2; exact (Bool.and_eq_true_iff.mp h2).2)
    | fn _ => unfold shD at h2; cases h2
    | scr _ => unfold shD at h2; cases h2
    | adr _ => unfold shD at h2; cases h2
    | _ => rfl
theorem eqv_toPs : ∀ (ds es : List D) (n : Nat), shL n ds = true → shL n es = true → PyData.eqvAll (toPs ds) (toPs es) = eqvL ds es
  | [], [], _, _, _ => rfl
  | [], _ :: _, _, _, _ => rfl
  | _ :: _, [], _, _, _ => rfl
  | d :: ds, e :: es, n, h1, h2 => by
    unfold shL at h1 h2
    obtain ⟨a1, a2⟩ := Bool.and_eq_true_iff.mp h1
    obtain ⟨b1, b2⟩ := Bool.and_eq_true_iff.mp h2
    show (PyData.eqv (toP d) (toP e) && PyData.eqvAll (toPs ds) (toPs es)) = (eqvD d e && eqvL ds es)
    rw [eqv_toP d e n a1 b1, eqv_toPs ds es n a2 b2]
end
section
variable {K : PySem.W.Frag} {mg : Str → Option Value} {H : Hp}
mutual
theorem dp_of : ∀ (d : D) (n : Nat) (v : V), shD n d = true → Is K mg H d v → Dp K H v (toP d)
  | .non, _, _, _, h => by cases h; exact .non
  | .bl b, _, _, _, h => by cases h; exact .bl b
  | .int i, _, _, _, h => by cases h; exact .int i
  | .str x, _, _, _, h => by cases h; exact .str x
  | .fn _, _, _, h, _ => by unfold shD at h; cases h
  | .scr _, _, _, h, _ => by unfold shD at h; cases h
  | .tup ds, n, _, h, q => by
    obtain ⟨a, vs, rfl, q1, q2⟩ := q
    unfold shD at h
    exact .tup q1 (dps_of ds (n - 1) vs (Bool.and_eq_true_iff.mp h).2 q2)
  | .lst ds, n, _, h, q => by
    obtain ⟨a, vs, rfl, q1, q2⟩ := q
    unfold shD at h
    exact .lst (.of q1) (dps_of ds (n - 1) vs (Bool.and_eq_true_iff.mp h).2 q2)
theorem dps_of : ∀ (ds : List D) (n : Nat) (vs : List V), shL n ds = true → IsL K mg H ds vs → DpAll K H vs (toPs ds)
  | [], _, _, _, h => by cases h; exact .nil
  | d :: ds, n, _, h, q => by
    obtain ⟨v, r, rfl, q1, q2⟩ := q
    unfold shL at h
    obtain ⟨h1, h2⟩ := Bool.and_eq_true_iff.mp h
    exact .cons (dp_of d n v h1 q1) (dps_of ds n r h2 q2)
end
end

/-! ### == and != -/
def eqD (neg : Bool) (d e : D) : R D := match d, e with
  | .scr ns, .lst [] => .ok (.bl (xor neg ns.isEmpty))
  | d, e => if shD 60 d && shD 60 e then .ok (.bl (xor neg (eqvD d e))) else .no
section
variable {X : Cx} {T : List (Addr × Str)}
theorem dpInts {K : PySem.W.Frag} {H : Hp} : ∀ ns : List Int, DpAll K H (ns.map V.int) (ns.map PyData.int)
  | [] => .nil
  | n :: ns => .cons (.int n) (dpInts ns)
theorem depthInts : ∀ ns : List Int, PyData.depthAll (ns.map PyData.int) ≤ 0
  | [] => by simp [PyData.depthAll]
  | n :: ns => by
    have := depthInts ns
    simp only [List.map_cons, PyData.depthAll, PyData.depth]
    omega
theorem layInts : ∀ ns : List Int, PyData.canLayAll0 (ns.map PyData.int) = true
  | [] => rfl
  | n :: ns => by
    simp only [List.map_cons, PyData.canLayAll0, PyData.canLay0, layInts ns] <;> rfl
theorem eqD_core {d e : D} {neg : Bool} {W : Str → Hp → Prop} {Hs H : Hp} {x y : V} {Q : VK} (a : At T Hs H) (hd : IsT X.K X.mg Hs H d x) (he : IsT X.K X.mg Hs H e y) (hp : PostG T (rIs X.K X.mg) W (eqD neg d e) Hs H Q) :
    ∃ p q, Dp X.K H x p ∧ Dp X.K H y q ∧ SeqAt.shaped p = true ∧ SeqAt.shaped q = true ∧ Q (.bl (xor neg (PyData.eqv p q))) H := by
  have gen : ∀ {d e : D}, Is X.K X.mg H d x → Is X.K X.mg H e y → PostG T (rIs X.K X.mg) W (if shD 60 d && shD 60 e then .ok (.bl (xor neg (eqvD d e))) else .no) Hs H Q →
      ∃ p q, Dp X.K H x p ∧ Dp X.K H y q ∧ SeqAt.shaped p = true ∧ SeqAt.shaped q = true ∧ Q (.bl (xor neg (PyData.eqv p q))) H := fun {d e} hd he hp => by
    cases c : (shD 60 d && shD 60 e) with
    | false => rw [c] at hp; exact (show False from hp).elim
    | true =>
      rw [c] at hp
      obtain ⟨c1, c2⟩ := Bool.and_eq_true_iff.mp c
      refine ⟨_, _, dp_of d 60 x c1 hd, dp_of e 60 y c2 he, shaped_of c1, shaped_of c2, ?_⟩
      rw [eqv_toP d e 60 c1 c2]
      exact PostG.ret (rel := rIs X.K X.mg) hp a rfl
  have fd := hd.full a
  have fe := he.full a
  unfold eqD at hp
  split at hp
  · rename_i ns
    obtain ⟨p, rfl, q1⟩ := fd
    obtain ⟨b, vs, rfl, q2, q3⟩ := fe
    cases q3
    refine ⟨.list (ns.map .int), .list [], .lst q1 (dpInts ns), .lst (.of q2) .nil, ?_, rfl, ?_⟩
    · unfold SeqAt.shaped
      have := depthInts ns
      refine Bool.and_eq_true_iff.mpr ⟨layInts ns, decide_eq_true ?_⟩
      simp only [PyData.depth]
      omega
    · have e : PyData.eqv (.list (ns.map PyData.int)) (.list []) = ns.isEmpty := by cases ns <;> rfl
      rw [e]
      exact PostG.ret (rel := rIs X.K X.mg) hp a rfl
  · exact gen fd fe hp
theorem o_eq (hu : X.A.units + 64 < cLine) : Op2 X T (compareOp .Eq) (eqD false) :=
  ⟨_, op_eqD hu, fun W d e x y Hs H Q a hd he hp => by
    obtain ⟨p, q, h1, h2, h3, h4, h5⟩ := eqD_core (neg := false) a hd he hp
    rw [Bool.false_xor] at h5
    exact ⟨p, q, h1, h2, h3, h4, h5⟩⟩
theorem o_ne (hu : X.A.units + 64 < cLine) : Op2 X T (compareOp .NotEq) (eqD true) :=
  ⟨_, op_neD hu, fun W d e x y Hs H Q a hd he hp => by
    obtain ⟨p, q, h1, h2, h3, h4, h5⟩ := eqD_core (neg := true) a hd he hp
    rw [Bool.true_xor] at h5
    exact ⟨p, q, h1, h2, h3, h4, h5⟩⟩

/-! ### arithmetic -/
def addD : D → D → R D
  | .int i, .int j => .ok (.int (i + j))
  | .tup xs, .tup ys => if xs.length + ys.length ≤ sizeLine then .ok (.tup (xs ++ ys)) else .no
  | .lst xs, .lst ys => if xs.length + ys.length ≤ sizeLine then .ok (.lst (xs ++ ys)) else .no
  | _, _ => .no
theorem o_add : Op2 X T (binaryOp .Add) addD := by
  refine ⟨_, op_add.or (op_catA.or op_cat), fun W d e x y Hs H Q a hd he hp => ?_⟩
  unfold addD at hp
  split at hp
  · rename_i i j
    cases hd.flat (fun _ z => nomatch z)
    cases he.flat (fun _ z => nomatch z)
    exact .inl ⟨i, j, rfl, rfl, PostG.ret (rel := rIs X.K X.mg) hp a rfl⟩
  · rename_i xs ys
    by_cases hl : xs.length + ys.length ≤ sizeLine
    · rw [if_pos hl] at hp
      obtain ⟨p, vs, rfl, p1, p2, p3, p4⟩ := hd.tup a
      obtain ⟨q, us, rfl, q1, q2, q3, q4⟩ := he.tup a
      have hz : vs.length + us.length ≤ sizeLine := by rw [p3.length, q3.length]; exact hl
      refine .inr (.inl ⟨p, q, vs, us, rfl, rfl, p1, q1, hz, fun e => ?_, fun e1 e2 => ?_, fun _ _ c hc => ?_⟩)
      · subst e
        have : xs = [] := by have := p3.length; cases xs with | nil => rfl | cons _ _ => simp at this
        subst this
        exact PostG.ret (rel := rIs X.K X.mg) hp a ⟨q, us, rfl, q2, q3⟩
      · subst e2
        have : ys = [] := by have := q3.length; cases ys with | nil => rfl | cons _ _ => simp at this
        subst this
        rw [List.append_nil] at hp
        exact PostG.ret (rel := rIs X.K X.mg) hp a ⟨p, vs, rfl, p2, p3⟩
      · have st := Step.tup a hc (show (vs ++ us).length ≤ sizeLine by rw [List.length_append]; exact hz)
        exact hp _ _ _ st ⟨c, _, rfl, .of upd_same, IsL.mono st.s _ _ (p3.append q3)⟩
    · rw [if_neg hl] at hp
      exact hp.elim
  · rename_i xs ys
    by_cases hl : xs.length + ys.length ≤ sizeLine
    · rw [if_pos hl] at hp
      obtain ⟨p, vs, rfl, p1, p3, p4⟩ := hd.lst a
      obtain ⟨q, us, rfl, q1, q3, q4⟩ := he.lst a
      have hz : vs.length + us.length ≤ sizeLine := by rw [p3.length, q3.length]; exact hl
      refine .inr (.inr ⟨p, q, vs, us, rfl, rfl, p1, q1, hz, fun c hc => ?_⟩)
      have st := Step.lst a hc (show (vs ++ us).length ≤ sizeLine by rw [List.length_append]; exact hz)
      exact hp _ _ _ st ⟨c, _, rfl, upd_same, IsL.mono st.s _ _ (p3.append q3)⟩
    · rw [if_neg hl] at hp
      exact hp.elim
  · exact hp.elim
def intsD (C : Int → Int → Bool) (g : Int → Int → D) : D → D → R D
  | .int i, .int j => if C i j then .ok (g i j) else .no
  | _, _ => .no
@[simp] theorem intsD_int (C : Int → Int → Bool) (g : Int → Int → D) (i j : Int) : intsD C g (.int i) (.int j) = if C i j then .ok (g i j) else .no := rfl
theorem o_ints {f : Value → Value → Sem Value} {P : Int → Int → Prop} {C : Int → Int → Bool} {g : Int → Int → Int} (h : OpR X f (rI P fun i j => .int (g i j))) (hc : ∀ i j, C i j = true → P i j) : Op2 X T f (intsD C fun i j => .int (g i j)) := by
  refine ⟨_, h, fun W d e x y Hs H Q a hd he hp => ?_⟩
  unfold intsD at hp
  split at hp
  · rename_i i j
    cases hd.flat (fun _ z => nomatch z)
    cases he.flat (fun _ z => nomatch z)
    cases c : C i j with
    | true =>
      rw [c] at hp
      exact ⟨i, j, rfl, rfl, hc i j c, PostG.ret (rel := rIs X.K X.mg) hp a rfl⟩
    | false => rw [c] at hp; exact (show False from hp).elim
  · exact hp.elim
theorem o_ints0 {f : Value → Value → Sem Value} {g : Int → Int → Int} (h : OpR X f (rI0 fun i j => .int (g i j))) : Op2 X T f (intsD (fun _ _ => true) fun i j => .int (g i j)) := by
  refine ⟨_, h, fun W d e x y Hs H Q a hd he hp => ?_⟩
  unfold intsD at hp
  split at hp
  · rename_i i j
    cases hd.flat (fun _ z => nomatch z)
    cases he.flat (fun _ z => nomatch z)
    exact ⟨i, j, rfl, rfl, PostG.ret (rel := rIs X.K X.mg) (show PostG T (rIs X.K X.mg) W (.ok (.int (g i j))) Hs H Q from hp) a rfl⟩
  · exact hp.elim
def subD : D → D → R D := intsD (fun _ _ => true) fun i j => .int (i - j)
theorem o_sub : Op2 X T (binaryOp .Sub) subD := o_ints0 op_sub
def cMod (_ j : Int) : Bool := decide (j ≠ 0)
def modD : D → D → R D := intsD cMod fun i j => .int (i.fmod j)
theorem o_mod : Op2 X T (binaryOp .Mod) modD := o_ints op_modN fun _ _ h => of_decide_eq_true h
def cDiv (_ j : Int) : Bool := decide (0 < j ∧ j.natAbs.log2 < 9000)
def divD : D → D → R D := intsD cDiv fun i j => .int (i / j)
theorem o_div : Op2 X T (binaryOp .FloorDiv) divD := o_ints op_fdivW fun _ _ h => by
  have h := of_decide_eq_true h
  exact h
def cMul (i j : Int) : Bool := decide (i.natAbs.log2 + j.natAbs.log2 < 134000000)
theorem cMul_ok {i j : Int} (h : cMul i j = true) : IntMulOk i j := by
  have h := of_decide_eq_true h
  have b : ∀ x : Int, Builtin.Int.intBits x ≤ x.natAbs.log2 + 1 := fun x => by
    unfold Builtin.Int.intBits
    split <;> omega
  have h1 := b i
  have h2 := b j
  have e : bitsLine = 134217728 := by decide
  intro z
  have z2 := (Bool.and_eq_true_iff.mp z).2
  unfold Builtin.Int.intTooBig at z2
  have z3 := of_decide_eq_true z2
  rw [e] at z3
  omega
def mulD : D → D → R D
  | .int i, .int j => if cMul i j then .ok (.int (i * j)) else .no
  | .lst xs, .int k => if xs.length * k.toNat ≤ sizeLine ∧ k.natAbs < 1000000 then .ok (.lst (List.replicate k.toNat xs).flatten) else .no
  | .tup xs, .int k => if xs ≠ [] ∧ 2 ≤ k ∧ k ≤ 1000 ∧ xs.length ≤ 1000 then .ok (.tup (List.replicate k.toNat xs).flatten) else .no
  | _, _ => .no
theorem len_rep {α : Type} (xs : List α) : ∀ k : Nat, (List.replicate k xs).flatten.length = xs.length * k
  | 0 => by simp
  | k + 1 => by rw [List.replicate_succ, List.flatten_cons, List.length_append, len_rep xs k, Nat.mul_succ, Nat.add_comm]
theorem op_mulB : OpR X (binaryOp .Mult) (rI (fun i j => cMul i j = true) fun i j => .int (i * j)) := opI fun _ _ _ _ _ _ _ hc q => mul_int q (cMul_ok hc)
theorem o_mul : Op2 X T (binaryOp .Mult) mulD := by
  refine ⟨_, op_mulB.or (op_rep.or op_repT), fun W d e x y Hs H Q a hd he hp => ?_⟩
  unfold mulD at hp
  split at hp
  · rename_i i j
    cases hd.flat (fun _ z => nomatch z)
    cases he.flat (fun _ z => nomatch z)
    cases c : cMul i j with
    | true =>
      rw [c] at hp
      exact .inl ⟨i, j, rfl, rfl, c, PostG.ret (rel := rIs X.K X.mg) hp a rfl⟩
    | false => rw [c] at hp; exact (show False from hp).elim
  · rename_i xs k
    by_cases hl : xs.length * k.toNat ≤ sizeLine ∧ k.natAbs < 1000000
    · rw [if_pos hl] at hp
      obtain ⟨p, vs, rfl, p1, p3, p4⟩ := hd.lst a
      cases he.flat (fun _ z => nomatch z)
      have hz : vs.length * k.toNat ≤ sizeLine := by rw [p3.length]; exact hl.1
      refine .inr (.inl ⟨p, k, vs, rfl, rfl, p1, by omega, by omega, hz, fun c hc => ?_⟩)
      have st := Step.lst a hc (show (List.replicate k.toNat vs).flatten.length ≤ sizeLine by rw [len_rep]; exact hz)
      exact hp _ _ _ st ⟨c, _, rfl, upd_same, IsL.mono st.s _ _ (p3.rep _)⟩
    · rw [if_neg hl] at hp
      exact hp.elim
  · rename_i xs k
    by_cases hl : xs ≠ [] ∧ 2 ≤ k ∧ k ≤ 1000 ∧ xs.length ≤ 1000
    · rw [if_pos hl] at hp
      obtain ⟨h1, h2, h3, h4⟩ := hl
      obtain ⟨p, vs, rfl, p1, p2, p3, p4⟩ := hd.tup a
      cases he.flat (fun _ z => nomatch z)
      have hv : vs.length ≤ 1000 := by rw [p3.length]; exact h4
      have hn : vs ≠ [] := fun z => by
        subst z
        have := p3.length
        cases xs with
        | nil => exact h1 rfl
        | cons _ _ => simp at this
      refine .inr (.inr ⟨p, k, vs, rfl, rfl, p1, hn, h2, h3, hv, fun c hc => ?_⟩)
      have hz : (List.replicate k.toNat vs).flatten.length ≤ sizeLine := by
        rw [len_rep, sizeLine_eq]
        have : vs.length * k.toNat ≤ 1000 * 1000 := Nat.mul_le_mul hv (by omega)
        omega
      have st := Step.tup a hc hz
      exact hp _ _ _ st ⟨c, _, rfl, .of upd_same, IsL.mono st.s _ _ (p3.rep _)⟩
    · rw [if_neg hl] at hp
      exact hp.elim
  · exact hp.elim
def cPow (i j : Int) : Bool := decide (0 ≤ j ∧ j ≤ 1000000 ∧ i.natAbs < 2 ^ 64)
def powD : D → D → R D := intsD cPow fun i j => .int (i ^ j.toNat)
theorem o_pow : Op2 X T (binaryOp .Pow) powD := o_ints op_pow fun _ _ h => by
  have h := of_decide_eq_true h
  exact h
def shlD : D → D → R D := intsD cPow fun i j => .int (i * 2 ^ j.toNat)
theorem o_shl : Op2 X T (binaryOp .LShift) shlD := o_ints op_shl fun _ _ h => by
  have h := of_decide_eq_true h
  exact h
def bandD : D → D → R D := intsD (fun _ _ => true) fun i j => .int (Builtin.bitAnd i j)
theorem o_band : Op2 X T (binaryOp .BitAnd) bandD := o_ints0 op_and
def bxorD : D → D → R D := intsD (fun _ _ => true) fun i j => .int (Builtin.bitXor i j)
theorem o_bxor : Op2 X T (binaryOp .BitXor) bxorD := o_ints0 op_xor

/-! ### order -/
def asInts : List D → Option (List Int)
  | [] => some []
  | .int i :: r => (asInts r).map (i :: ·)
  | _ :: _ => none
theorem asInts_eq : ∀ {ds : List D} {ns : List Int}, asInts ds = some ns → ds = ns.map D.int
  | [], _, h => by cases h; rfl
  | d :: ds, ns, h => by
    cases d with
    | int i =>
      unfold asInts at h
      cases e : asInts ds with
      | none => rw [e] at h; cases h
      | some ms =>
        rw [e] at h; cases h
        rw [asInts_eq e] <;> rfl
    | _ => cases h
@[simp] theorem asInts_map : ∀ ns : List Int, asInts (ns.map D.int) = some ns
  | [] => rfl
  | n :: ns => by
    show (asInts (ns.map D.int)).map (n :: ·) = _
    rw [asInts_map ns] <;> rfl
def ltD : D → D → R D
  | .int i, .int j => .ok (.bl (decide (i < j)))
  | .tup xs, .tup ys => match asInts xs, asInts ys with
    | some ns, some ms => .ok (.bl (HT.lexLt ns ms))
    | _, _ => .no
  | _, _ => .no
theorem op_ltI : OpR X (compareOp .Lt) (rI0 fun i j => .bl (decide (i < j))) := opB0 fun _ _ _ _ _ _ _ q => lt_int q
theorem o_lt (hu : X.A.units < cLine) : Op2 X T (compareOp .Lt) ltD := by
  refine ⟨_, op_ltI.or (op_ltT hu), fun W d e x y Hs H Q a hd he hp => ?_⟩
  unfold ltD at hp
  split at hp
  · rename_i i j
    cases hd.flat (fun _ z => nomatch z)
    cases he.flat (fun _ z => nomatch z)
    exact .inl ⟨i, j, rfl, rfl, PostG.ret (rel := rIs X.K X.mg) hp a rfl⟩
  · rename_i xs ys
    split at hp
    · rename_i ns ms e1 e2
      have e1 := asInts_eq e1
      have e2 := asInts_eq e2
      subst e1 e2
      obtain ⟨p, vs, rfl, p1, p2, p3, p4⟩ := hd.tup a
      obtain ⟨q, us, rfl, q1, q2, q3, q4⟩ := he.tup a
      rw [p3.ints] at p1
      rw [q3.ints] at q1
      exact .inr ⟨p, q, ns, ms, rfl, rfl, p1, q1, PostG.ret (rel := rIs X.K X.mg) hp a rfl⟩
    · exact hp.elim
  · exact hp.elim
theorem o_cmpI {f : Value → Value → Sem Value} {g : Int → Int → Bool} (h : OpR X f (rI0 fun i j => .bl (g i j))) : Op2 X T f (intsD (fun _ _ => true) fun i j => .bl (g i j)) := by
  refine ⟨_, h, fun W d e x y Hs H Q a hd he hp => ?_⟩
  unfold intsD at hp
  split at hp
  · rename_i i j
    cases hd.flat (fun _ z => nomatch z)
    cases he.flat (fun _ z => nomatch z)
    exact ⟨i, j, rfl, rfl, PostG.ret (rel := rIs X.K X.mg) (show PostG T (rIs X.K X.mg) W (.ok (.bl (g i j))) Hs H Q from hp) a rfl⟩
  · exact hp.elim
def leD : D → D → R D := intsD (fun _ _ => true) fun i j => .bl (decide (i ≤ j))
theorem o_le : Op2 X T (compareOp .LtE) leD := o_cmpI (opB0 fun _ _ _ _ _ _ _ q => le_int q)
def gtD : D → D → R D := intsD (fun _ _ => true) fun i j => .bl (decide (j < i))
theorem o_gt : Op2 X T (compareOp .Gt) gtD := o_cmpI (opB0 fun _ _ _ _ _ _ _ q => gt_int q)
def geD : D → D → R D := intsD (fun _ _ => true) fun i j => .bl (decide (j ≤ i))
theorem o_ge : Op2 X T (compareOp .GtE) geD := o_cmpI (opB0 fun _ _ _ _ _ _ _ q => ge_int q)

/-! ### in, not in -/
def flD : D → Bool
  | .non => true
  | .bl _ => true
  | .int _ => true
  | .str _ => true
  | _ => false
def inD (neg : Bool) (d e : D) : R D := match e with
  | .tup es => if flD d && es.all flD then .ok (.bl (xor neg (es.any fun z => eqvD z d))) else .no
  | .lst es => if shD 60 d && shL 59 es then .ok (.bl (xor neg (es.any fun z => eqvD z d))) else .no
  | _ => .no
theorem fl_flat {K : PySem.W.Frag} {mg : Str → Option Value} {H : Hp} {d : D} {v : V} (h : Is K mg H d v) (f : flD d = true) : flatV v = true := by
  cases d <;> first | (cases h; rfl) | cases f
theorem fl_flats {K : PySem.W.Frag} {mg : Str → Option Value} {H : Hp} : ∀ {ds : List D} {vs : List V}, IsL K mg H ds vs → ds.all flD = true → vs.all flatV = true
  | [], _, h, _ => by cases h; rfl
  | d :: ds, _, h, f => by
    obtain ⟨v, r, rfl, h1, h2⟩ := h
    rw [List.all_cons] at f ⊢
    obtain ⟨f1, f2⟩ := Bool.and_eq_true_iff.mp f
    rw [fl_flat h1 f1, fl_flats h2 f2] <;> rfl
theorem eqV_is {K : PySem.W.Frag} {mg : Str → Option Value} {H : Hp} {d e : D} {v u : V} (h : Is K mg H d v) (q : Is K mg H e u) (f : flD d = true) (g : flD e = true) : eqV v u = eqvD d e := by
  cases d <;> first | cases f | skip
  all_goals (cases e <;> first | cases g | skip)
  all_goals (cases h; cases q)
  all_goals first
    | rfl
    | (unfold eqV eqvD; simp)
    | (unfold eqV eqvD; simp [b2i]; done)
    | skip
theorem any_is {K : PySem.W.Frag} {mg : Str → Option Value} {H : Hp} {d : D} {v : V} (h : Is K mg H d v) (f : flD d = true) : ∀ {es : List D} {us : List V}, IsL K mg H es us → es.all flD = true → inV v us = es.any fun z => eqvD z d
  | [], _, q, _ => by cases q; rfl
  | e :: es, _, q, g => by
    obtain ⟨u, r, rfl, q1, q2⟩ := q
    rw [List.all_cons] at g
    obtain ⟨g1, g2⟩ := Bool.and_eq_true_iff.mp g
    show (eqV u v || inV v r) = _
    rw [List.any_cons, eqV_is q1 h g1 f, any_is h f q2 g2]
theorem any_toPs {d : D} : ∀ {es : List D}, shL 60 es = true → shD 60 d = true → ((toPs es).any fun z => PyData.eqv z (toP d)) = es.any fun z => eqvD z d
  | [], _, _ => rfl
  | e :: es, h, q => by
    unfold shL at h
    obtain ⟨h1, h2⟩ := Bool.and_eq_true_iff.mp h
    show (PyData.eqv (toP e) (toP d) || (toPs es).any fun z => PyData.eqv z (toP d)) = _
    rw [List.any_cons, eqv_toP e d 60 h1 q, any_toPs h2 q]
mutual
theorem shD_up : ∀ (d : D) (n m : Nat), n ≤ m → shD n d = true → shD m d = true
  | .non, _, _, _, _ => rfl
  | .bl _, _, _, _, _ => rfl
  | .int _, _, _, _, _ => rfl
  | .str _, _, _, _, h => h
  | .fn _, _, _, _, h => by unfold shD at h; cases h
  | .scr _, _, _, _, h => by unfold shD at h; cases h
  | .tup ds, n, m, hm, h => by
    unfold shD at h ⊢
    obtain ⟨h1, h2⟩ := Bool.and_eq_true_iff.mp h
    have h1 := of_decide_eq_true h1
    exact Bool.and_eq_true_iff.mpr ⟨decide_eq_true (by omega), shL_up ds _ _ (by omega) h2⟩
  | .lst ds, n, m, hm, h => by
    unfold shD at h ⊢
    obtain ⟨h1, h2⟩ := Bool.and_eq_true_iff.mp h
    have h1 := of_decide_eq_true h1
    exact Bool.and_eq_true_iff.mpr ⟨decide_eq_true (by omega), shL_up ds _ _ (by omega) h2⟩
theorem shL_up : ∀ (ds : List D) (n m : Nat), n ≤ m → shL n ds = true → shL m ds = true
  | [], _, _, _, _ => rfl
  | d :: ds, n, m, hm, h => by
    unfold shL at h ⊢
    obtain ⟨h1, h2⟩ := Bool.and_eq_true_iff.mp h
    exact Bool.and_eq_true_iff.mpr ⟨shD_up d n m hm h1, shL_up ds n m hm h2⟩
end
theorem inD_core {d e : D} {neg : Bool} {W : Str → Hp → Prop} {Hs H : Hp} {x y : V} {Q : VK} (a : At T Hs H) (hd : IsT X.K X.mg Hs H d x) (he : IsT X.K X.mg Hs H e y) (hp : PostG T (rIs X.K X.mg) W (inD neg d e) Hs H Q) :
    (∃ p xs, y = .ref p ∧ (SqL X.K H p xs ∨ SqT X.K H p xs) ∧ flatV x = true ∧ xs.all flatV = true ∧ Q (.bl (xor neg (inV x xs))) H) ∨
      ∃ d ds, Dp X.K H x d ∧ Dp X.K H y (.list ds) ∧ SeqAt.shaped d = true ∧ SeqAt.shaped (.list ds) = true ∧ Q (.bl (xor neg (ds.any fun z => PyData.eqv z d))) H := by
  unfold inD at hp
  split at hp
  · rename_i es
    cases c : (flD d && es.all flD) with
    | false => rw [c] at hp; exact (show False from hp).elim
    | true =>
      rw [c] at hp
      obtain ⟨c1, c2⟩ := Bool.and_eq_true_iff.mp c
      obtain ⟨q, us, rfl, q1, q2, q3, q4⟩ := he.tup a
      have hd' := hd.full a
      have q3' := IsL.mono a.sub _ _ q3
      refine .inl ⟨q, us, rfl, .inr q1, fl_flat hd' c1, fl_flats q3' c2, ?_⟩
      rw [any_is hd' c1 q3' c2]
      exact PostG.ret (rel := rIs X.K X.mg) hp a rfl
  · rename_i es
    cases c : (shD 60 d && shL 59 es) with
    | false => rw [c] at hp; exact (show False from hp).elim
    | true =>
      rw [c] at hp
      obtain ⟨c1, c2⟩ := Bool.and_eq_true_iff.mp c
      have sh : shD 60 (.lst es) = true := by unfold shD; exact Bool.and_eq_true_iff.mpr ⟨rfl, c2⟩
      refine .inr ⟨_, _, dp_of d 60 x c1 (hd.full a), dp_of (.lst es) 60 y sh (he.full a), shaped_of c1, shaped_of sh, ?_⟩
      rw [any_toPs (shL_up es 59 60 (by omega) c2) c1]
      exact PostG.ret (rel := rIs X.K X.mg) hp a rfl
  · exact hp.elim
theorem o_in (hu : X.A.units + 65 < cLine) : Op2 X T (compareOp .In) (inD false) :=
  ⟨_, op_in_seq.or (op_inD hu), fun W d e x y Hs H Q a hd he hp => by
    rcases inD_core (neg := false) a hd he hp with ⟨p, xs, h1, h2, h3, h4, h5⟩ | ⟨p, q, h1, h2, h3, h4, h5⟩
    · rw [Bool.false_xor] at h5
      exact .inl ⟨p, xs, h1, h2, h3, h4, h5⟩
    · rw [Bool.false_xor] at h5
      exact .inr ⟨p, q, h1, h2, h3, h4, h5⟩⟩
theorem o_nin (hu : X.A.units + 65 < cLine) : Op2 X T (compareOp .NotIn) (inD true) :=
  ⟨_, op_notIn_seq.or (op_notInD hu), fun W d e x y Hs H Q a hd he hp => by
    rcases inD_core (neg := true) a hd he hp with ⟨p, xs, h1, h2, h3, h4, h5⟩ | ⟨p, q, h1, h2, h3, h4, h5⟩
    · rw [Bool.true_xor] at h5
      exact .inl ⟨p, xs, h1, h2, h3, h4, h5⟩
    · rw [Bool.true_xor] at h5
      exact .inr ⟨p, q, h1, h2, h3, h4, h5⟩⟩

/-! ### is None -/
def isN : D → Bool
  | .non => true
  | _ => false
def mIsN (neg : Bool) (m : Env → R D) : Env → R D := fun ρ => (m ρ).bind fun d => .ok (.bl (xor neg (isN d)))
theorem isN_is {K : PySem.W.Frag} {mg : Str → Option Value} {Hs H : Hp} {d : D} {v : V} (h : IsT K mg Hs H d v) : decide (v = V.non) = isN d := by
  rcases h with h | ⟨ds, p, vs, rfl, rfl, _⟩
  · cases d with
    | non => cases h; rfl
    | bl b => cases h; rfl
    | int b => cases h; rfl
    | str b => cases h; rfl
    | fn x => obtain ⟨a, _, rfl⟩ := h; rfl
    | scr x => obtain ⟨a, rfl, _⟩ := h; rfl
    | tup x => obtain ⟨a, _, rfl, _⟩ := h; rfl
    | lst x => obtain ⟨a, _, rfl, _⟩ := h; rfl
    | adr a => cases h; rfl
  · rfl
variable {W : Str → Hp → Prop} {a b c : Expr} {ma mb mc : Env → R D} {pos : Pos}
theorem pd_isN {j pos'} (ha : PDt X T W a ma) : PD X T W (.Compare a [.Is] [.Constant .none j pos'] pos) (mIsN false ma) := by
  obtain ⟨ta, pa, ea⟩ := ha
  refine ⟨_, pe_cmp (pc_isN pa) rfl, fun ρ Hs σ H Q rp hp => ea ρ Hs σ H _ rp (PostG.mono (PostG.bind hp) fun x H1 ⟨Hs1, d, st, is, hp1⟩ => ?_)⟩
  rw [isN_is is]
  rw [Bool.false_xor] at hp1
  exact PostG.ret (rel := rIs X.K X.mg) hp1 st.to rfl
theorem pd_notN {j pos'} (ha : PDt X T W a ma) : PD X T W (.Compare a [.IsNot] [.Constant .none j pos'] pos) (mIsN true ma) := by
  obtain ⟨ta, pa, ea⟩ := ha
  refine ⟨_, pe_cmp (pc_notN pa) rfl, fun ρ Hs σ H Q rp hp => ea ρ Hs σ H _ rp (PostG.mono (PostG.bind hp) fun x H1 ⟨Hs1, d, st, is, hp1⟩ => ?_)⟩
  rw [isN_is is]
  rw [Bool.true_xor] at hp1
  exact PostG.ret (rel := rIs X.K X.mg) hp1 st.to rfl

/-! ### a < b < c -/
def mChain (g g' : D → D → R D) (ma mb mc : Env → R D) : Env → R D := fun ρ => (ma ρ).bind fun x => (mb ρ).bind fun y => (g x y).bind fun z => (asB z).bind fun k => if k = true then (mc ρ).bind fun w => g' y w else .ok (.bl false)
theorem ev_chain {g g' : D → D → R D} {r r' : R2} {ta tb tc : TE} (ea : ∀ ρ Hs σ H Q, Rp X.K X.mg T Hs H σ ρ → PostG T (rIsT X.K X.mg) W (ma ρ) Hs H Q → ta σ H Q) (eb : ∀ ρ Hs σ H Q, Rp X.K X.mg T Hs H σ ρ → PostG T (rIsT X.K X.mg) W (mb ρ) Hs H Q → tb σ H Q)
    (ec : ∀ ρ Hs σ H Q, Rp X.K X.mg T Hs H σ ρ → PostG T (rIsT X.K X.mg) W (mc ρ) Hs H Q → tc σ H Q)
    (er : ∀ (W : Str → Hp → Prop) d e x y Hs H Q, At T Hs H → IsT X.K X.mg Hs H d x → IsT X.K X.mg Hs H e y → PostG T (rIs X.K X.mg) W (g d e) Hs H Q → r x y H Q)
    (er' : ∀ (W : Str → Hp → Prop) d e x y Hs H Q, At T Hs H → IsT X.K X.mg Hs H d x → IsT X.K X.mg Hs H e y → PostG T (rIs X.K X.mg) W (g' d e) Hs H Q → r' x y H Q) :
    ∀ ρ Hs σ H Q, Rp X.K X.mg T Hs H σ ρ → PostG T (rIs X.K X.mg) W (mChain g g' ma mb mc ρ) Hs H Q → tChain r r' ta tb tc σ H Q := by
  intro ρ Hs σ H Q rp hp
  refine ea ρ Hs σ H _ rp (PostG.mono (PostG.bind hp) fun x H1 ⟨Hs1, d, st, is, hp1⟩ => eb ρ Hs1 σ H1 _ (rp.step st) ?_)
  refine PostG.mono (PostG.bind hp1) fun y H2 ⟨Hs2, d2, st2, is2, hp2⟩ => ?_
  refine er W d d2 x y Hs2 H2 _ st2.to (is.step st2) is2 ?_
  refine PostG.mono (PostG.bind hp2) fun z H3 ⟨Hs3, d3, st3, is3, hp3⟩ => ?_
  cases d3 with
  | bl k =>
    cases is3
    refine ⟨k, rfl, ?_⟩
    simp only [asB_bl, R.bind_ok] at hp3
    cases k with
    | true =>
      rw [if_pos rfl] at hp3 ⊢
      refine ec ρ Hs3 σ H3 _ (((rp.step st).step st2).step st3) (PostG.mono (PostG.bind hp3) fun w' H4 ⟨Hs4, d4, st4, is4, hp4⟩ => ?_)
      exact er' W d2 d4 y w' Hs4 H4 Q st4.to ((is2.step st3).step st4) is4 hp4
    | false =>
      rw [if_neg Bool.false_ne_true] at hp3 ⊢
      exact PostG.ret (rel := rIs X.K X.mg) hp3 st3.to rfl
  | _ => exact hp3.elim
theorem pd_chain {op op' : CmpOp} {g g' : D → D → R D} (o : Op2 X T (compareOp op) g) (o' : Op2 X T (compareOp op') g') (ha : PDt X T W a ma) (hb : PDt X T W b mb) (hc : PDt X T W c mc)
    (hm : lastMarks [op, op'] [b, c] = false := by with_unfolding_all rfl) : PD X T W (.Compare a [op, op'] [b, c] pos) (mChain g g' ma mb mc) := by
  obtain ⟨r, hr, er⟩ := o
  obtain ⟨r', hr', er'⟩ := o'
  obtain ⟨ta, pa, ea⟩ := ha
  obtain ⟨tb, pb, eb⟩ := hb
  obtain ⟨tc, pc, ec⟩ := hc
  exact ⟨_, pe_chain hr hr' pa pb pc hm, ev_chain ea eb ec er er'⟩
theorem ptd_chain {op op' : CmpOp} {g g' : D → D → R D} (o : Op2 X T (compareOp op) g) (o' : Op2 X T (compareOp op') g') (ha : PDt X T W a ma) (hb : PDt X T W b mb) (hc : PDt X T W c mc)
    (hm : lastMarks [op, op'] [b, c] = false := by with_unfolding_all rfl) : PTD X T W (.Compare a [op, op'] [b, c] pos) (mB (mChain g g' ma mb mc)) := by
  obtain ⟨r, hr, er⟩ := o
  obtain ⟨r', hr', er'⟩ := o'
  obtain ⟨ta, pa, ea⟩ := ha
  obtain ⟨tb, pb, eb⟩ := hb
  obtain ⟨tc, pc, ec⟩ := hc
  exact ⟨_, pt_chain hr hr' pa pb pc hm, ev_B (ev_chain ea eb ec er er')⟩

/-! ### a[i], a[i:j] -/
def idxD : D → D → R D
  | .lst ds, .int i => match atI ds i with
    | some d => .ok d
    | none => .no
  | .tup ds, .int i => match atI ds i with
    | some d => .ok d
    | none => .no
  | .scr ns, .int i => match atI ns i with
    | some n => .ok (.int n)
    | none => .no
  | _, _ => .no
theorem atI_is {K : PySem.W.Frag} {mg : Str → Option Value} {H : Hp} {ds : List D} {vs : List V} {i : Int} {d : D} (h : IsL K mg H ds vs) (e : atI ds i = some d) : ∃ v, atI vs i = some v ∧ Is K mg H d v := by
  unfold atI at e ⊢
  rw [h.length]
  cases q : ixN ds.length i with
  | none => rw [q] at e; cases e
  | some j =>
    rw [q] at e
    exact h.get e
theorem idx_core {d d2 : D} {W : Str → Hp → Prop} {x y : V} {Hs2 H2 : Hp} {Q : VK} (to : At T Hs2 H2) (is : IsT X.K X.mg Hs2 H2 d x) (is2 : IsT X.K X.mg Hs2 H2 d2 y) (hp2 : PostG T (rIs X.K X.mg) W (idxD d d2) Hs2 H2 Q) : rIxL X.K x y H2 Q ∨ rIxT X.K x y H2 Q := by
  cases d <;> first | exact hp2.elim | skip
  all_goals (cases d2 <;> first | exact hp2.elim | skip)
  · rename_i ns i
    cases is2.flat (fun _ z => nomatch z)
    obtain ⟨p, rfl, p1⟩ := is.full to
    cases e : atI ns i with
    | none => simp only [idxD, e] at hp2; exact hp2.elim
    | some n =>
      simp only [idxD, e] at hp2
      refine .inl ⟨p, ns.map V.int, i, .int n, rfl, rfl, p1, ?_, PostG.ret (rel := rIs X.K X.mg) hp2 to rfl⟩
      unfold atI at e ⊢
      rw [List.length_map]
      cases q : ixN ns.length i with
      | none => rw [q] at e; cases e
      | some j =>
        rw [q] at e
        have e : ns[j]? = some n := e
        show (ns.map V.int)[j]? = _
        rw [List.getElem?_map, e] <;> rfl
  · rename_i ds i
    cases is2.flat (fun _ z => nomatch z)
    obtain ⟨p, vs, rfl, p1, p2, p3, p4⟩ := is.tup to
    cases e : atI ds i with
    | none => simp only [idxD, e] at hp2; exact hp2.elim
    | some d =>
      simp only [idxD, e] at hp2
      obtain ⟨v, e1, e2⟩ := atI_is p3 e
      exact .inr ⟨p, vs, i, v, rfl, rfl, p1, e1, PostG.ret (rel := rIs X.K X.mg) hp2 to e2⟩
  · rename_i ds i
    cases is2.flat (fun _ z => nomatch z)
    obtain ⟨p, vs, rfl, p1, p3, p4⟩ := is.lst to
    cases e : atI ds i with
    | none => simp only [idxD, e] at hp2; exact hp2.elim
    | some d =>
      simp only [idxD, e] at hp2
      obtain ⟨v, e1, e2⟩ := atI_is p3 e
      exact .inl ⟨p, vs, i, v, rfl, rfl, .of p1, e1, PostG.ret (rel := rIs X.K X.mg) hp2 to e2⟩
theorem pd_idx (ha : PDt X T W a ma) (hb : PDt X T W b mb) (hs : PlainIx b := by exact fun _ _ => rfl) : PD X T W (.Subscript a b pos) (mBin idxD ma mb) := by
  obtain ⟨ta, pa, ea⟩ := ha
  obtain ⟨tb, pb, eb⟩ := hb
  exact ⟨_, pe_ix (ix_list.or ix_tup) pa pb hs, ev_bin ea eb fun W d e x y Hs H Q => idx_core⟩
/-- a part of a slice -/
def POD (X : Cx) (T : List (Addr × Str)) (W : Str → Hp → Prop) (e : Option Expr) (m : Env → R (Option Int)) : Prop :=
  ∃ t : TO, PO X e t ∧ ∀ ρ Hs σ H Q, Rp X.K X.mg T Hs H σ ρ → PostG T (fun _ _ a b => a = b) W (m ρ) Hs H Q → t σ H Q
theorem pod_none : POD X T W none (fun _ => .ok none) := ⟨_, po_none, fun ρ Hs σ H Q rp hp => PostG.ret (rel := fun _ _ a b => a = b) hp rp.to rfl⟩
def asI : D → R (Option Int)
  | .int i => .ok (some i)
  | _ => .no
@[simp] theorem asI_int (i : Int) : asI (.int i) = .ok (some i) := rfl
theorem pod_some (ha : PDt X T W a ma) : POD X T W (some a) (fun ρ => (ma ρ).bind asI) := by
  obtain ⟨ta, pa, ea⟩ := ha
  refine ⟨_, po_some pa, fun ρ Hs σ H Q rp hp => ea ρ Hs σ H _ rp (PostG.mono (PostG.bind hp) fun x H1 ⟨Hs1, d, st, is, hp1⟩ => ?_)⟩
  cases d with
  | int i =>
    cases is.flat (fun _ z => nomatch z)
    exact ⟨i, rfl, PostG.ret (rel := fun _ _ (a b : Option Int) => a = b) hp1 st.to rfl⟩
  | _ => exact hp1.elim
def cutD {α : Type} (xs : List α) (lo hi : Option Int) : List α := (xs.drop (HT.sIx xs.length 0 lo)).take (HT.sIx xs.length xs.length hi - HT.sIx xs.length 0 lo)
theorem cutD_len {α : Type} (xs : List α) (lo hi : Option Int) : (cutD xs lo hi).length ≤ xs.length := by
  unfold cutD
  rw [List.length_take, List.length_drop]
  omega
def slD (d : D) (lo hi : Option Int) : R D := match d with
  | .lst ds => .ok (.lst (cutD ds lo hi))
  | .tup ds => .ok (.tup (cutD ds lo hi))
  | _ => .no
def mSl (m : Env → R D) (ml mh : Env → R (Option Int)) : Env → R D := fun ρ => (m ρ).bind fun d => (ml ρ).bind fun lo => (mh ρ).bind fun hi => slD d lo hi
theorem cut_is {K : PySem.W.Frag} {mg : Str → Option Value} {H : Hp} {ds : List D} {vs : List V} (h : IsL K mg H ds vs) (lo hi : Option Int) : IsL K mg H (cutD ds lo hi) (cutV vs lo hi) := by
  unfold cutD cutV
  rw [h.length]
  exact (h.drop _).take _
theorem pd_sl {lo hi : Option Expr} {ml mh : Env → R (Option Int)} {p2 : Pos} (ha : PDt X T W a ma) (hl : POD X T W lo ml) (hh : POD X T W hi mh) : PD X T W (.Subscript a (.Slice lo hi none p2) pos) (mSl ma ml mh) := by
  obtain ⟨ta, pa, ea⟩ := ha
  obtain ⟨tl, pl, el⟩ := hl
  obtain ⟨th, ph, eh⟩ := hh
  refine ⟨_, pe_slice (SlR.or sl_list sl_tupA) pa pl ph, fun ρ Hs σ H Q rp hp => ea ρ Hs σ H _ rp (PostG.mono (PostG.bind hp) fun x H1 ⟨Hs1, d, st, is, hp1⟩ => el ρ Hs1 σ H1 _ (rp.step st) ?_)⟩
  refine PostG.mono (PostG.bind hp1) fun l H2 ⟨Hs2, l', st2, e2, hp2⟩ => eh ρ Hs2 σ H2 _ ((rp.step st).step st2) ?_
  refine PostG.mono (PostG.bind hp2) fun u H3 ⟨Hs3, u', st3, e3, hp3⟩ => ?_
  have e2 : l' = l := e2
  have e3 : u' = u := e3
  subst e2 e3
  have is := (is.step st2).step st3
  cases d with
  | lst ds =>
    obtain ⟨p, vs, rfl, p1, p3, p4⟩ := is.lst st3.to
    refine .inl ⟨p, vs, rfl, .of p1, fun c hc => ?_⟩
    have st4 := Step.lst st3.to hc (Nat.le_trans (cutV_length vs l' u') p4)
    exact (show PostG T (rIs X.K X.mg) W (.ok (.lst (cutD ds l' u'))) Hs3 H3 Q from hp3) _ _ _ st4 ⟨c, _, rfl, upd_same, IsL.mono st4.s _ _ (cut_is p3 l' u')⟩
  | tup ds =>
    obtain ⟨p, vs, rfl, p1, p2, p3, p4⟩ := is.tup st3.to
    have hp3 := (show PostG T (rIs X.K X.mg) W (.ok (.tup (cutD ds l' u'))) Hs3 H3 Q from hp3)
    refine .inr ⟨p, vs, rfl, p1, fun ⟨h1, h2⟩ => ?_, fun _ c hc => ?_⟩
    · refine PostG.ret hp3 st3.to ⟨p, vs, rfl, p2, ?_⟩
      have q := cut_is p3 l' u'
      have e : cutV vs l' u' = vs := by
        unfold cutV
        rw [h1, h2]
        simp
      rw [e] at q
      exact q
    · have st4 := Step.tup st3.to hc (Nat.le_trans (cutV_length vs l' u') p4)
      exact hp3 _ _ _ st4 ⟨c, _, rfl, .of upd_same, IsL.mono st4.s _ _ (cut_is p3 l' u')⟩
  | _ => exact hp3.elim
end
end FL
set_option maxHeartbeats 4000000
/-! FL3: what is walked, targets, comprehensions. -/
namespace FL
open PySem PySem.Spec PyProof.Rows L2

/-! ### what a loop walks -/
/-- the iterator J tells the items ds, as long as what is shared only grows -/
structure ItD (K : PySem.W.Frag) (mg : Str → Option Value) (T : List (Addr × Str)) (J : It) (ds : List D) (Hs : Hp) : Prop where
  stop : ∀ i Hs2 H2, ExtW Hs Hs2 → At T Hs2 H2 → ds.length ≤ i → J.stop i H2
  go : ∀ i Hs2 H2, ExtW Hs Hs2 → At T Hs2 H2 → i < ds.length → J.go i H2
  yld : ∀ i Hs2 H2 x H3, ExtW Hs Hs2 → At T Hs2 H2 → i < ds.length → J.yld i H2 x H3 → ∃ Hs3 d, Step T Hs2 H2 Hs3 H3 ∧ ds[i]? = some d ∧ Is K mg Hs3 d x
  sz : ds.length ≤ sizeLine
/-- .. as long as the whole heap only grows -/
structure ItT (K : PySem.W.Frag) (mg : Str → Option Value) (T : List (Addr × Str)) (J : It) (ds : List D) (Hs H : Hp) : Prop where
  stop : ∀ i Hs2 H2, Step T Hs H Hs2 H2 → ds.length ≤ i → J.stop i H2
  go : ∀ i Hs2 H2, Step T Hs H Hs2 H2 → i < ds.length → J.go i H2
  yld : ∀ i Hs2 H2 x H3, Step T Hs H Hs2 H2 → i < ds.length → J.yld i H2 x H3 → ∃ Hs3 d, Step T Hs2 H2 Hs3 H3 ∧ ds[i]? = some d ∧ Is K mg Hs3 d x
  sz : ds.length ≤ sizeLine
theorem ItD.t {K : PySem.W.Frag} {mg : Str → Option Value} {T : List (Addr × Str)} {J : It} {ds : List D} {Hs H : Hp} (h : ItD K mg T J ds Hs) : ItT K mg T J ds Hs H :=
  ⟨fun i Hs2 H2 st => h.stop i Hs2 H2 st.s st.to, fun i Hs2 H2 st => h.go i Hs2 H2 st.s st.to, fun i Hs2 H2 x H3 st => h.yld i Hs2 H2 x H3 st.s st.to, h.sz⟩
section
variable {K : PySem.W.Frag} {mg : Str → Option Value} {T : List (Addr × Str)} {Hs H : Hp}
theorem at_lt {ds : List D} {i : Nat} (h : i < ds.length) : ∃ d, ds[i]? = some d := ⟨_, List.getElem?_eq_getElem h⟩
theorem itD_list {a : Addr} {ds : List D} {vs : List V} (h : Hs a = some (.lst vs)) (q : IsL K mg Hs ds vs) (hz : vs.length ≤ sizeLine) : ItD K mg T (Itl K a) ds Hs where
  stop := fun i Hs2 H2 e to hi => ⟨vs, .of (to.sub.at (e.at h fun _ z => nomatch z) fun _ z => nomatch z), by rw [q.length]; exact hi⟩
  go := fun i Hs2 H2 e to hi => ⟨vs, vs[i]'(by rw [q.length]; exact hi), .of (to.sub.at (e.at h fun _ z => nomatch z) fun _ z => nomatch z), List.getElem?_eq_getElem _⟩
  yld := fun i Hs2 H2 x H3 e to hi y => by
    obtain ⟨e3, y⟩ := y
    subst e3
    obtain ⟨d, hd⟩ := at_lt hi
    obtain ⟨v', e1, e2⟩ := q.get hd
    have := y vs (.of (to.sub.at (e.at h fun _ z => nomatch z) fun _ z => nomatch z))
    rw [e1] at this; cases this
    exact ⟨Hs2, d, .refl to, hd, Is.mono e d _ e2⟩
  sz := by rw [← q.length]; exact hz
theorem itD_tup {a : Addr} {ds : List D} {vs : List V} (h : SqT K Hs a vs) (q : IsL K mg Hs ds vs) (hz : vs.length ≤ sizeLine) : ItD K mg T (Itt K a) ds Hs where
  stop := fun i Hs2 H2 e to hi => ⟨vs, to.sub.sqT (e.sqT h), by rw [q.length]; exact hi⟩
  go := fun i Hs2 H2 e to hi => ⟨vs, vs[i]'(by rw [q.length]; exact hi), to.sub.sqT (e.sqT h), List.getElem?_eq_getElem _⟩
  yld := fun i Hs2 H2 x H3 e to hi y => by
    obtain ⟨e3, y⟩ := y
    subst e3
    obtain ⟨d, hd⟩ := at_lt hi
    obtain ⟨v, e1, e2⟩ := q.get hd
    have := y vs (to.sub.sqT (e.sqT h))
    rw [e1] at this; cases this
    exact ⟨Hs2, d, .refl to, hd, Is.mono e d _ e2⟩
  sz := by rw [← q.length]; exact hz
theorem itT_list {a : Addr} {ds : List D} {vs : List V} (h : H a = some (.lst vs)) (q : IsL K mg Hs ds vs) (hz : vs.length ≤ sizeLine) : ItT K mg T (Itl K a) ds Hs H where
  stop := fun i Hs2 H2 st hi => ⟨vs, .of (st.a.at h fun _ z => nomatch z), by rw [q.length]; exact hi⟩
  go := fun i Hs2 H2 st hi => ⟨vs, vs[i]'(by rw [q.length]; exact hi), .of (st.a.at h fun _ z => nomatch z), List.getElem?_eq_getElem _⟩
  yld := fun i Hs2 H2 x H3 st hi y => by
    obtain ⟨e3, y⟩ := y
    subst e3
    obtain ⟨d, hd⟩ := at_lt hi
    obtain ⟨v, e1, e2⟩ := q.get hd
    have := y vs (.of (st.a.at h fun _ z => nomatch z))
    rw [e1] at this; cases this
    exact ⟨Hs2, d, .refl st.to, hd, Is.mono st.s d _ e2⟩
  sz := by rw [← q.length]; exact hz
def rgD (lo hi : Int) : List D := (List.range (hi - lo).toNat).map fun i => D.int (lo + (i : Nat))
theorem rgD_len (lo hi : Int) : (rgD lo hi).length = (hi - lo).toNat := by unfold rgD; rw [List.length_map, List.length_range]
theorem rgD_get {lo hi : Int} {i : Nat} (h : i < (hi - lo).toNat) : (rgD lo hi)[i]? = some (.int (lo + (i : Nat))) := by
  unfold rgD
  rw [List.getElem?_map, List.getElem?_range h] <;> rfl
theorem itD_range {lo hi : Int} (hz : (hi - lo).toNat ≤ sizeLine) : ItD K mg T (Itr lo (hi - lo).toNat) (rgD lo hi) Hs where
  stop := fun i Hs2 H2 e to h => by rw [rgD_len] at h; exact h
  go := fun i Hs2 H2 e to h => by rw [rgD_len] at h; exact h
  yld := fun i Hs2 H2 x H3 e to h y => by
    rw [rgD_len] at h
    obtain ⟨e3, y⟩ := y
    subst e3 y
    exact ⟨Hs2, _, .refl to, rgD_get h, rfl⟩
  sz := by rw [rgD_len]; exact hz
def zipL (ds es : List D) : List D := (ds.zip es).map fun p => .tup [p.1, p.2]
theorem zipL_len (ds es : List D) : (zipL ds es).length = min ds.length es.length := by unfold zipL; rw [List.length_map, List.length_zip]
theorem zipL_get {ds es : List D} {i : Nat} {d e : D} (h : ds[i]? = some d) (q : es[i]? = some e) : (zipL ds es)[i]? = some (.tup [d, e]) := by
  unfold zipL
  have : (ds.zip es)[i]? = some (d, e) := by rw [List.getElem?_zip_eq_some]; exact ⟨h, q⟩
  rw [List.getElem?_map, this] <;> rfl
theorem two_le : 2 ≤ sizeLine := by rw [sizeLine_eq]; omega
theorem pair_step {Hs2 H2 : Hp} {p : Addr} {d e : D} {x y : V} (to : At T Hs2 H2) (hp : H2 p = none) (h1 : Is K mg Hs2 d x) (h2 : Is K mg Hs2 e y) :
    ∃ Hs3, Step T Hs2 H2 Hs3 (upd H2 p (.tup [x, y])) ∧ Is K mg Hs3 (.tup [d, e]) (.ref p) := by
  have st := Step.tup (vs := [x, y]) to hp two_le
  exact ⟨_, st, p, _, rfl, .of upd_same, x, _, rfl, Is.mono st.s d x h1, y, _, rfl, Is.mono st.s e y h2, rfl⟩
theorem itD_zip {a b : Addr} {ds es : List D} {vs us : List V} (h : Hs a = some (.lst vs)) (q : IsL K mg Hs ds vs) (h' : Hs b = some (.lst us)) (q' : IsL K mg Hs es us) (hz : vs.length ≤ sizeLine) : ItD K mg T (Itz K a b) (zipL ds es) Hs where
  stop := fun i Hs2 H2 e to hi => by
    rw [zipL_len] at hi
    refine ⟨vs, us, .of (to.sub.at (e.at h fun _ z => nomatch z) fun _ z => nomatch z), .of (to.sub.at (e.at h' fun _ z => nomatch z) fun _ z => nomatch z), ?_⟩
    rw [q.length, q'.length]
    omega
  go := fun i Hs2 H2 e to hi => by
    rw [zipL_len] at hi
    exact ⟨vs, us, vs[i]'(by rw [q.length]; omega), us[i]'(by rw [q'.length]; omega), .of (to.sub.at (e.at h fun _ z => nomatch z) fun _ z => nomatch z), .of (to.sub.at (e.at h' fun _ z => nomatch z) fun _ z => nomatch z), List.getElem?_eq_getElem _, List.getElem?_eq_getElem _⟩
  yld := fun i Hs2 H2 x H3 e to hi y => by
    rw [zipL_len] at hi
    obtain ⟨p, x1, x2, rfl, hp, rfl, y1, y2⟩ := y
    obtain ⟨d1, hd1⟩ := at_lt (ds := ds) (i := i) (by omega)
    obtain ⟨d2, hd2⟩ := at_lt (ds := es) (i := i) (by omega)
    obtain ⟨v1, e1, e2⟩ := q.get hd1
    obtain ⟨v2, e3, e4⟩ := q'.get hd2
    have z1 := y1 vs (.of (to.sub.at (e.at h fun _ z => nomatch z) fun _ z => nomatch z))
    have z2 := y2 us (.of (to.sub.at (e.at h' fun _ z => nomatch z) fun _ z => nomatch z))
    rw [e1] at z1; cases z1
    rw [e3] at z2; cases z2
    obtain ⟨Hs3, st, is⟩ := pair_step (K := K) (mg := mg) to hp (Is.mono e _ _ e2) (Is.mono e _ _ e4)
    exact ⟨Hs3, _, st, zipL_get hd1 hd2, is⟩
  sz := by rw [zipL_len, ← q.length]; omega
theorem itD_zipT {a b : Addr} {ds es : List D} {vs us : List V} (h : SqT K Hs a vs) (q : IsL K mg Hs ds vs) (h' : SqT K Hs b us) (q' : IsL K mg Hs es us) (hz : vs.length ≤ sizeLine) : ItD K mg T (RZ.ItzT K a b) (zipL ds es) Hs where
  stop := fun i Hs2 H2 e to hi => by
    rw [zipL_len] at hi
    refine ⟨vs, us, to.sub.sqT (e.sqT h), to.sub.sqT (e.sqT h'), ?_⟩
    rw [q.length, q'.length]
    omega
  go := fun i Hs2 H2 e to hi => by
    rw [zipL_len] at hi
    exact ⟨vs, us, vs[i]'(by rw [q.length]; omega), us[i]'(by rw [q'.length]; omega), to.sub.sqT (e.sqT h), to.sub.sqT (e.sqT h'), List.getElem?_eq_getElem _, List.getElem?_eq_getElem _⟩
  yld := fun i Hs2 H2 x H3 e to hi y => by
    rw [zipL_len] at hi
    obtain ⟨p, x1, x2, rfl, hp, rfl, y1, y2⟩ := y
    obtain ⟨d1, hd1⟩ := at_lt (ds := ds) (i := i) (by omega)
    obtain ⟨d2, hd2⟩ := at_lt (ds := es) (i := i) (by omega)
    obtain ⟨v1, e1, e2⟩ := q.get hd1
    obtain ⟨v2, e3, e4⟩ := q'.get hd2
    have z1 := y1 vs (to.sub.sqT (e.sqT h))
    have z2 := y2 us (to.sub.sqT (e.sqT h'))
    rw [e1] at z1; cases z1
    rw [e3] at z2; cases z2
    obtain ⟨Hs3, st, is⟩ := pair_step (K := K) (mg := mg) to hp (Is.mono e _ _ e2) (Is.mono e _ _ e4)
    exact ⟨Hs3, _, st, zipL_get hd1 hd2, is⟩
  sz := by rw [zipL_len, ← q.length]; omega
def enumL (ds : List D) : List D := (List.range ds.length).zipWith (fun i d => .tup [.int ((i : Nat) : Int), d]) ds
theorem enumL_len (ds : List D) : (enumL ds).length = ds.length := by unfold enumL; rw [List.length_zipWith, List.length_range, Nat.min_self]
theorem enumL_get {ds : List D} {i : Nat} {d : D} (h : ds[i]? = some d) : (enumL ds)[i]? = some (.tup [.int (i : Nat), d]) := by
  have hi : i < ds.length := (List.getElem?_eq_some_iff.mp h).1
  unfold enumL
  rw [List.getElem?_zipWith, List.getElem?_range hi, h]
theorem itD_enum {a : Addr} {ds : List D} {vs : List V} (h : Hs a = some (.lst vs)) (q : IsL K mg Hs ds vs) (hz : vs.length ≤ sizeLine) : ItD K mg T (Ite K a) (enumL ds) Hs where
  stop := fun i Hs2 H2 e to hi => by
    rw [enumL_len] at hi
    exact ⟨vs, .of (to.sub.at (e.at h fun _ z => nomatch z) fun _ z => nomatch z), by rw [q.length]; exact hi⟩
  go := fun i Hs2 H2 e to hi => by
    rw [enumL_len] at hi
    exact ⟨vs, vs[i]'(by rw [q.length]; exact hi), .of (to.sub.at (e.at h fun _ z => nomatch z) fun _ z => nomatch z), List.getElem?_eq_getElem _⟩
  yld := fun i Hs2 H2 x H3 e to hi y => by
    rw [enumL_len] at hi
    obtain ⟨p, x1, rfl, hp, rfl, y1⟩ := y
    obtain ⟨d, hd⟩ := at_lt hi
    obtain ⟨v, e1, e2⟩ := q.get hd
    have z1 := y1 vs (.of (to.sub.at (e.at h fun _ z => nomatch z) fun _ z => nomatch z))
    rw [e1] at z1; cases z1
    obtain ⟨Hs3, st, is⟩ := pair_step (K := K) (mg := mg) (d := .int ((i : Nat) : Int)) (x := .int ((i : Nat) : Int)) to hp rfl (Is.mono e _ _ e2)
    exact ⟨Hs3, _, st, enumL_get hd, is⟩
  sz := by rw [enumL_len, ← q.length]; exact hz
end

/-- something walked, with its items -/
def PDI (X : Cx) (T : List (Addr × Str)) (W : Str → Hp → Prop) (tg e : Expr) (m : Env → R (List D)) : Prop :=
  ∃ wi : TI, PI X tg e wi ∧ ∀ ρ Hs σ H (Q : It → Hp → Prop), Rp X.K X.mg T Hs H σ ρ → PostG T (fun Hs _ ds J => ItD X.K X.mg T J ds Hs) W (m ρ) Hs H Q → wi σ H Q
def PDIt (X : Cx) (T : List (Addr × Str)) (W : Str → Hp → Prop) (tg e : Expr) (m : Env → R (List D)) : Prop :=
  ∃ wi : TI, PI X tg e wi ∧ ∀ ρ Hs σ H (Q : It → Hp → Prop), Rp X.K X.mg T Hs H σ ρ → PostG T (fun Hs H ds J => ItT X.K X.mg T J ds Hs H) W (m ρ) Hs H Q → wi σ H Q
section
variable {X : Cx} {T : List (Addr × Str)} {W : Str → Hp → Prop} {tg e a b : Expr} {es : List Expr} {m ma mb : Env → R D} {pos p : Pos}
theorem PDI.t {mi : Env → R (List D)} (h : PDI X T W tg e mi) : PDIt X T W tg e mi := by
  obtain ⟨wi, pi, ev⟩ := h
  exact ⟨wi, pi, fun ρ Hs σ H Q rp hp => ev ρ Hs σ H Q rp (hp.rel_ fun _ _ _ _ k => k.t)⟩
def iSeq (K : PySem.W.Frag) (tl : TE) : TI := fun σ H R => tl σ H fun x H1 => (∃ a, x = .ref a ∧ (∃ xs, SqL K H1 a xs) ∧ R (Itl K a) H1) ∨ (∃ a, x = .ref a ∧ (∃ xs, SqT K H1 a xs) ∧ R (Itt K a) H1)
theorem pi_seq {l : Expr} {tl : TE} (hl : PE X l tl) : PI X tg l (iSeq X.K tl) := by
  refine ⟨fun pins s σ H R I h => ?_⟩
  refine thn (hl.run pins s σ H _ I h) fun v s1 ⟨x, H1, I1, r1, q1⟩ => ?_
  have fresh : ∀ b ∈ [s1.heap.objs.size], FpOk X pins H1 b := fun b hb => by
    have e : b = s1.heap.objs.size := by simpa using hb
    subst e
    exact I1.fpOk (Nat.le_refl _) (I1.hok.fresh (Nat.le_refl _))
  have grown : ∀ o : Obj, Inv X pins σ H1 { s1 with heap := s1.heap.push o } := fun o => I1.kept (t' := s1.toks) fun b o e => Heap.get?_push_of_some _ e
  rcases q1 with ⟨a, e, ⟨xs, hq⟩, q⟩ | ⟨a, e, ⟨xs, hq⟩, q⟩
  · subst e
    cases r1
    obtain ⟨its, rv, p, hz⟩ := I1.list hq
    exact wpAny_pyIter_list p.isList ⟨s1.heap.objs.size, [s1.heap.objs.size], _, _, H1, rfl, grown _, turn_list a _, ⟨_, Heap.get?_push_size _ rfl, rfl, rfl⟩, fresh, q⟩
  · subst e
    cases r1
    obtain ⟨its, rv, p, hz⟩ := I1.tuple hq
    exact wpAny_pyIter_tuple (show s1.heap.IsTuple a its.toArray from p) ⟨s1.heap.objs.size, [s1.heap.objs.size], _, _, H1, rfl, grown _, turn_tuple a _, ⟨_, Heap.get?_push_size _ rfl, rfl, rfl⟩, fresh, q⟩
def itemsD : D → R (List D)
  | .lst ds => .ok ds
  | .tup ds => .ok ds
  | _ => .no
@[simp] theorem itemsD_lst (ds : List D) : itemsD (.lst ds) = .ok ds := rfl
@[simp] theorem itemsD_tup (ds : List D) : itemsD (.tup ds) = .ok ds := rfl
theorem pdi_seq (h : PD X T W e m) : PDI X T W tg e (fun ρ => (m ρ).bind itemsD) := by
  obtain ⟨te, pe, ev⟩ := h
  refine ⟨_, pi_seq pe, fun ρ Hs σ H Q rp hp => ev ρ Hs σ H _ rp (PostG.mono (PostG.bind hp) fun v H1 ⟨Hs1, d, st, is, hp1⟩ => ?_)⟩
  cases d with
  | lst ds =>
    obtain ⟨a, vs, rfl, q1, q2⟩ := is
    have hz := st.to.sz a vs (.inl (.inl q1))
    exact .inl ⟨a, rfl, ⟨vs, .of (st.to.sub.at q1 fun _ z => nomatch z)⟩, PostG.ret (rel := fun Hs _ ds J => ItD X.K X.mg T J ds Hs) hp1 st.to (itD_list q1 q2 hz)⟩
  | tup ds =>
    obtain ⟨a, vs, rfl, q1, q1', q2, hz⟩ := IsT.tup (.inl is) st.to
    exact .inr ⟨a, rfl, ⟨vs, q1⟩, PostG.ret (rel := fun Hs _ ds J => ItD X.K X.mg T J ds Hs) hp1 st.to (itD_tup q1' q2 hz)⟩
  | _ => exact hp1.elim
theorem pdit_seq (h : PDt X T W e m) : PDIt X T W tg e (fun ρ => (m ρ).bind itemsD) := by
  obtain ⟨te, pe, ev⟩ := h
  refine ⟨_, pi_seq pe, fun ρ Hs σ H Q rp hp => ev ρ Hs σ H _ rp (PostG.mono (PostG.bind hp) fun v H1 ⟨Hs1, d, st, is, hp1⟩ => ?_)⟩
  cases d with
  | lst ds =>
    obtain ⟨a, vs, rfl, q1, q2, hz⟩ := is.lst st.to
    exact .inl ⟨a, rfl, ⟨vs, .of q1⟩, PostG.ret (rel := fun Hs H ds J => ItT X.K X.mg T J ds Hs H) hp1 st.to (itT_list q1 q2 hz)⟩
  | tup ds =>
    obtain ⟨a, vs, rfl, q1, q1', q2, hz⟩ := is.tup st.to
    exact .inr ⟨a, rfl, ⟨vs, q1⟩, PostG.ret (rel := fun Hs H ds J => ItT X.K X.mg T J ds Hs H) hp1 st.to (itD_tup q1' q2 hz).t⟩
  | _ => exact hp1.elim
def rg1D : D → R (List D)
  | .int j => if -1000000 ≤ j ∧ j ≤ 1000000 then .ok (rgD 0 j) else .no
  | _ => .no
def rg2D : D → D → R (List D)
  | .int i, .int j => if -1000000 ≤ i ∧ i ≤ 1000000 ∧ -1000000 ≤ j ∧ j ≤ 1000000 then .ok (rgD i j) else .no
  | _, _ => .no
abbrev rItD (K : PySem.W.Frag) (mg : Str → Option Value) (T : List (Addr × Str)) : Hp → Hp → List D → It → Prop := fun Hs _ ds J => ItD K mg T J ds Hs
theorem pdi_range1 (hg : Gl X "range") (hm : X.mg "range" = none) (ha : PDt X T W a ma) (hs : starEach [a] X.env = [(false, eval a X.env)] := by rfl) : PDI X T W tg (.Call (.Name "range" p) [a] [] pos) (fun ρ => (ma ρ).bind rg1D) := by
  obtain ⟨ta, pa, ea⟩ := ha
  refine ⟨_, pi_range1 hg hm (pa_cons pa pa_nil hs) hs, fun ρ Hs σ H Q rp hp => ea ρ Hs σ H _ rp (PostG.mono (PostG.bind hp) fun v H1 ⟨Hs1, d, st, is, hp1⟩ => ?_)⟩
  cases d with
  | int j =>
    cases is.flat (fun _ z => nomatch z)
    by_cases hj : -1000000 ≤ j ∧ j ≤ 1000000
    · rw [show rg1D (.int j) = .ok (rgD 0 j) from if_pos hj] at hp1
      refine ⟨j, rfl, by omega, by omega, ?_⟩
      have e : (j - 0).toNat = j.toNat := by omega
      have q := PostG.ret (rel := rItD X.K X.mg T) hp1 st.to (itD_range (by rw [sizeLine_eq]; omega))
      rw [e] at q
      exact q
    · rw [show rg1D (.int j) = .no from if_neg hj] at hp1
      exact hp1.elim
  | _ => exact hp1.elim
theorem pdi_range2 (hg : Gl X "range") (hm : X.mg "range" = none) (ha : PDt X T W a ma) (hb : PDt X T W b mb) (hs : starEach [a, b] X.env = [(false, eval a X.env), (false, eval b X.env)] := by rfl) (hs2 : starEach [b] X.env = [(false, eval b X.env)] := by rfl) :
    PDI X T W tg (.Call (.Name "range" p) [a, b] [] pos) (fun ρ => (ma ρ).bind fun x => (mb ρ).bind fun y => rg2D x y) := by
  obtain ⟨ta, pa, ea⟩ := ha
  obtain ⟨tb, pb, eb⟩ := hb
  refine ⟨_, pi_range2 hg hm (pa_cons pa (pa_cons pb pa_nil hs2) (by rw [hs, hs2])) hs hs2, fun ρ Hs σ H Q rp hp => ea ρ Hs σ H _ rp (PostG.mono (PostG.bind hp) fun v H1 ⟨Hs1, d, st, is, hp1⟩ => eb ρ Hs1 σ H1 _ (rp.step st) (PostG.mono (PostG.bind hp1) fun u H2 ⟨Hs2, d2, st2, is2, hp2⟩ => ?_))⟩
  cases d with
  | int i =>
    cases d2 with
    | int j =>
      cases is.flat (fun _ z => nomatch z)
      cases is2.flat (fun _ z => nomatch z)
      by_cases hj : -1000000 ≤ i ∧ i ≤ 1000000 ∧ -1000000 ≤ j ∧ j ≤ 1000000
      · rw [show rg2D (.int i) (.int j) = .ok (rgD i j) from if_pos hj] at hp2
        exact ⟨i, j, rfl, ⟨by omega, by omega, by omega, by omega⟩, PostG.ret (rel := rItD X.K X.mg T) hp2 st2.to (itD_range (by rw [sizeLine_eq]; omega))⟩
      · rw [show rg2D (.int i) (.int j) = .no from if_neg hj] at hp2
        exact hp2.elim
    | _ => exact hp2.elim
  | _ => exact hp2.elim
def zipD : D → D → R (List D)
  | .lst ds, .lst es => .ok (zipL ds es)
  | .tup ds, .tup es => .ok (zipL ds es)
  | _, _ => .no
theorem pdi_zip {tpos : Pos} {elts : List Expr} {kk : Nat} (hg : Gl X "zip") (hm : X.mg "zip" = none) (ha : PD X T W a ma) (hb : PD X T W b mb) (hs : starEach [a, b] X.env = (false, eval a X.env) :: starEach [b] X.env := by rfl) (hs2 : starEach [b] X.env = [(false, eval b X.env)] := by rfl)
    (hpl : (backTo pos (starEach [b] X.env)).any (·.1) = false := by rfl) :
    PDI X T W (.Tuple elts kk tpos) (.Call (.Name "zip" p) [a, b] [] pos) (fun ρ => (ma ρ).bind fun x => (mb ρ).bind fun y => zipD x y) := by
  obtain ⟨ta, pa, ea⟩ := ha
  obtain ⟨tb, pb, eb⟩ := hb
  refine ⟨_, RZ.pi_zipA hg hm (pa_cons pa (pa_cons pb pa_nil hs2) hs) hs hpl, fun ρ Hs σ H Q rp hp => ea ρ Hs σ H _ rp (PostG.mono (PostG.bind hp) fun v H1 ⟨Hs1, d, st, is, hp1⟩ => eb ρ Hs1 σ H1 _ (rp.step st) (PostG.mono (PostG.bind hp1) fun u H2 ⟨Hs2, d2, st2, is2, hp2⟩ => ?_))⟩
  have is : Is X.K X.mg Hs2 d v := Is.mono st2.s d v is
  have is2 : Is X.K X.mg Hs2 d2 u := is2
  cases d with
  | lst ds =>
    cases d2 with
    | lst es =>
      obtain ⟨a1, vs, rfl, q1, q2⟩ := is
      obtain ⟨a2, us, rfl, q3, q4⟩ := is2
      exact ⟨a1, a2, vs, us, rfl, .inl ⟨.of (st2.to.sub.at q1 fun _ z => nomatch z), .of (st2.to.sub.at q3 fun _ z => nomatch z), PostG.ret (rel := rItD X.K X.mg T) hp2 st2.to (itD_zip q1 q2 q3 q4 (st2.to.sz _ _ (.inl (.inl q1))))⟩⟩
    | _ => exact hp2.elim
  | tup ds =>
    cases d2 with
    | tup es =>
      obtain ⟨a1, vs, rfl, q1, q1', q2, hz⟩ := IsT.tup (.inl is) st2.to
      obtain ⟨a2, us, rfl, q3, q3', q4, hz'⟩ := IsT.tup (.inl is2) st2.to
      exact ⟨a1, a2, vs, us, rfl, .inr ⟨q1, q3, PostG.ret (rel := rItD X.K X.mg T) hp2 st2.to (itD_zipT q1' q2 q3' q4 hz)⟩⟩
    | _ => exact hp2.elim
  | _ => exact hp2.elim
def enumD : D → R (List D)
  | .lst ds => .ok (enumL ds)
  | _ => .no
theorem pdi_enum {tpos : Pos} {elts : List Expr} {kk : Nat} (hg : Gl X "enumerate") (hm : X.mg "enumerate" = none) (ha : PD X T W a ma) (hs : starEach [a] X.env = [(false, eval a X.env)] := by rfl) :
    PDI X T W (.Tuple elts kk tpos) (.Call (.Name "enumerate" p) [a] [] pos) (fun ρ => (ma ρ).bind enumD) := by
  obtain ⟨ta, pa, ea⟩ := ha
  refine ⟨_, pi_enum hg hm (pa_cons pa pa_nil hs) hs, fun ρ Hs σ H Q rp hp => ea ρ Hs σ H _ rp (PostG.mono (PostG.bind hp) fun v H1 ⟨Hs1, d, st, is, hp1⟩ => ?_)⟩
  have is : Is X.K X.mg Hs1 d v := is
  cases d with
  | lst ds =>
    obtain ⟨a1, vs, rfl, q1, q2⟩ := is
    exact ⟨a1, vs, rfl, .of (st.to.sub.at q1 fun _ z => nomatch z), PostG.ret (rel := rItD X.K X.mg T) hp1 st.to (itD_enum q1 q2 (st.to.sz _ _ (.inl (.inl q1))))⟩
  | _ => exact hp1.elim
end
end FL
set_option maxHeartbeats 4000000
/-! FL4: targets, comprehensions, built-in calls. -/
namespace FL
open PySem PySem.Spec PyProof.Rows L2

/-! ### readings that hang on K, mg, T alone -/
theorem PE.weak {X : Cx} {e : Expr} {t t' : TE} (h : PE X e t) (q : ∀ σ H Q, t' σ H Q → t σ H Q) : PE X e t' := ⟨fun pins s σ H Q I hq => h.run pins s σ H Q I (q σ H Q hq)⟩
theorem PTs.weak {X : Cx} {e : List Expr} {t t' : TT} (h : PTs X e t) (q : ∀ σ H Q, t' σ H Q → t σ H Q) : PTs X e t' := ⟨fun pins s σ H Q I hq => h.run pins s σ H Q I (q σ H Q hq)⟩
def tD (K : PySem.W.Frag) (mg : Str → Option Value) (T : List (Addr × Str)) (W : Str → Hp → Prop) (m : Env → R D) : TE := fun σ H Q => ∃ ρ Hs, Rp K mg T Hs H σ ρ ∧ PostG T (rIs K mg) W (m ρ) Hs H Q
def tDB (K : PySem.W.Frag) (mg : Str → Option Value) (T : List (Addr × Str)) (W : Str → Hp → Prop) (m : Env → R Bool) : TT := fun σ H Q => ∃ ρ Hs, Rp K mg T Hs H σ ρ ∧ PostG T rB W (m ρ) Hs H Q
section
variable {X : Cx} {T : List (Addr × Str)} {W : Str → Hp → Prop} {e : Expr} {m : Env → R D} {mt : Env → R Bool}
theorem PD.canon (h : PD X T W e m) : PE X e (tD X.K X.mg T W m) := by
  obtain ⟨te, pe, ev⟩ := h
  exact PE.weak pe fun σ H Q ⟨ρ, Hs, rp, hp⟩ => ev ρ Hs σ H Q rp hp
/-- the tests of a comprehension's clause -/
def PTsD (X : Cx) (T : List (Addr × Str)) (W : Str → Hp → Prop) (ifs : List Expr) (m : Env → R Bool) : Prop := ∃ tt : TT, PTs X ifs tt ∧ ∀ ρ Hs σ H Q, Rp X.K X.mg T Hs H σ ρ → PostG T rB W (m ρ) Hs H Q → tt σ H Q
def mYes : Env → R Bool := fun _ => .ok true
theorem pts0 : PTsD X T W [] mYes := ⟨_, pts_nil, fun ρ Hs σ H Q rp hp => PostG.ret (rel := rB) hp rp.to rfl⟩
theorem pts1 (h : PTD X T W e mt) : PTsD X T W [e] mt := by
  obtain ⟨tt, pt, ev⟩ := h
  exact ⟨tt, pts_one pt, ev⟩
theorem PTsD.canon {ifs : List Expr} (h : PTsD X T W ifs mt) : PTs X ifs (tDB X.K X.mg T W mt) := by
  obtain ⟨tt, pt, ev⟩ := h
  exact PTs.weak pt fun σ H Q ⟨ρ, Hs, rp, hp⟩ => ev ρ Hs σ H Q rp hp
end

/-! ### targets: a name, or a tuple of names -/
inductive Tg where
  | one (i : Nat)
  | many (is : List Nat)
def Tg.slots : Tg → List Nat
  | .one i => [i]
  | .many is => is
def setAll : List Nat → List D → Env → Option Env
  | [], [], ρ => some ρ
  | i :: is, d :: ds, ρ => setAll is ds (ρ.set i (.sh d))
  | _, _, _ => none
def Tg.put : Tg → D → Env → Option Env
  | .one i, d, ρ => some (ρ.set i (.sh d))
  | .many is, .tup ds, ρ => setAll is ds ρ
  | _, _, _ => none
def setV : List Nat → List V → L2.St → L2.St
  | i :: is, v :: vs, σ => setV is vs (σ.set i (some v))
  | _, _, σ => σ
section
variable {X : Cx} {T : List (Addr × Str)} {W : Str → Hp → Prop}
/-- a target does what t says -/
def PGD (X : Cx) (T : List (Addr × Str)) (tg : Expr) (t : Tg) : Prop :=
  ∃ g : TG, PG X tg g ∧ ∀ d v ρ ρ' Hs σ H Q, Rp X.K X.mg T Hs H σ ρ → Is X.K X.mg Hs d v → t.put d ρ = some ρ' → (∀ vs, Rp X.K X.mg T Hs H (setV t.slots vs σ) ρ' → Q (setV t.slots vs σ) H) → g v σ H Q
def gD (K : PySem.W.Frag) (mg : Str → Option Value) (T : List (Addr × Str)) (t : Tg) : TG := fun v σ H Q => ∃ ρ ρ' Hs d, Rp K mg T Hs H σ ρ ∧ Is K mg Hs d v ∧ t.put d ρ = some ρ' ∧ ∀ vs, Rp K mg T Hs H (setV t.slots vs σ) ρ' → Q (setV t.slots vs σ) H
theorem PGD.canon {tg : Expr} {t : Tg} (h : PGD X T tg t) : PG X tg (gD X.K X.mg T t) := by
  obtain ⟨g, pg, ev⟩ := h
  exact ⟨fun pins s σ H v u Q I r ⟨ρ, ρ', Hs, d, rp, is, hp, k⟩ => pg.run pins s σ H v u Q I r (ev d v ρ ρ' Hs σ H Q rp is hp k)⟩
theorem pgd_name (i : Nat) {x : Str} {pos : Pos} (hN : X.N.Nodup) (hi : X.N[i]? = some x := by rfl) (hx : Loc X.env.scope x := by first | exact Or.inl rfl | exact Or.inr rfl) (hf : X.fn x = true ∨ X.env.scope.names.lookup x = some .local := by first | exact .inl rfl | exact .inr rfl) : PGD X T (.Name x pos) (.one i) := by
  refine ⟨gName i, pg_name hN hi hx hf, fun d v ρ ρ' Hs σ H Q rp is hp q => ?_⟩
  cases hp
  exact q [v] (rp.set is)
/-- the names of a tuple target -/
def PGsD (X : Cx) (T : List (Addr × Str)) (es : List Expr) (is : List Nat) : Prop := ∃ g : TGs, PGs X es g ∧ es.length = is.length ∧ ∀ ds vs ρ ρ' Hs σ H Q, Rp X.K X.mg T Hs H σ ρ → IsL X.K X.mg Hs ds vs → setAll is ds ρ = some ρ' → (∀ vs, Rp X.K X.mg T Hs H (setV is vs σ) ρ' → Q (setV is vs σ) H) → g vs σ H Q
theorem pgsd_nil : PGsD X T [] [] := ⟨_, pgs_nil, rfl, fun ds vs ρ ρ' Hs σ H Q rp is hp k => by
  cases ds with
  | nil =>
    cases hp
    cases is
    exact ⟨rfl, k [] rp⟩
  | cons d ds => cases hp⟩
theorem pgsd_cons (i : Nat) {x : Str} {pos : Pos} {es : List Expr} {is : List Nat} (h : PGsD X T es is) (hN : X.N.Nodup) (hi : X.N[i]? = some x := by rfl) (hx : Loc X.env.scope x := by first | exact Or.inl rfl | exact Or.inr rfl)
    (hf : X.fn x = true ∨ X.env.scope.names.lookup x = some .local := by first | exact .inl rfl | exact .inr rfl) (hs : (assignEach (.Name x pos :: es) X.env).map (·.2) = assign (.Name x pos) X.env :: (assignEach es X.env).map (·.2) := by rfl) : PGsD X T (.Name x pos :: es) (i :: is) := by
  obtain ⟨g, pg, hl, ev⟩ := h
  refine ⟨_, pgs_cons (pg_name hN hi hx hf) pg hs, by rw [List.length_cons, List.length_cons, hl], fun ds vs ρ ρ' Hs σ H Q rp is hp k => ?_⟩
  cases ds with
  | nil => cases hp
  | cons d ds =>
    obtain ⟨v, r, rfl, h1, h2⟩ := is
    exact ⟨v, r, rfl, ev ds r _ _ Hs _ H Q (rp.set h1) h2 hp fun vs rp' => k (v :: vs) rp'⟩
theorem setAll_len : ∀ {is : List Nat} {ds : List D} {ρ ρ' : Env}, setAll is ds ρ = some ρ' → ds.length = is.length
  | [], [], _, _, _ => rfl
  | [], _ :: _, _, _, h => by cases h
  | _ :: _, [], _, _, h => by cases h
  | i :: is, d :: ds, ρ, ρ', h => by
    rw [List.length_cons, List.length_cons, setAll_len (is := is) (ds := ds) h]
theorem pgd_tup {es : List Expr} {is : List Nat} {k : Nat} {pos : Pos} (h : PGsD X T es is) (hc : X.calm = true) (hn : (assignEach es X.env).length = is.length := by rfl) (hst : (assignEach es X.env).findIdx? (·.1) = none := by rfl) : PGD X T (.Tuple es k pos) (.many is) := by
  obtain ⟨g, pg, hl, ev⟩ := h
  refine ⟨_, pg_tup hc pg hn hst, fun d v ρ ρ' Hs σ H Q rp is' hp k' => ?_⟩
  cases d with
  | tup ds =>
    obtain ⟨a, vs, rfl, q1, q2⟩ := is'
    exact ⟨a, vs, rfl, rp.to.sub.sqT q1, by rw [q2.length]; exact setAll_len hp, ev ds vs ρ ρ' Hs σ H Q rp q2 hp k'⟩
  | _ => cases hp
end

/-! ### slots wiped -/
def wipeE (ρ : Env) : List Nat → Env
  | [] => ρ
  | v :: vs => (wipeE ρ vs).set v .no
theorem Rp.wipe {K : PySem.W.Frag} {mg : Str → Option Value} {T : List (Addr × Str)} {Hs H : Hp} {σ : L2.St} {ρ : Env} (h : Rp K mg T Hs H σ ρ) : ∀ vs : List Nat, Rp K mg T Hs H (L2.wipe σ vs) (wipeE ρ vs)
  | [] => h
  | v :: vs => (h.wipe vs).drop
theorem wipe_get (σ : L2.St) (i : Nat) : ∀ vs : List Nat, (L2.wipe σ vs)[i]? = if i ∈ vs then (if i < σ.length then some none else none) else σ[i]?
  | [] => by simp [L2.wipe]
  | v :: vs => by
    unfold L2.wipe
    by_cases e : v = i
    · subst e
      rw [if_pos List.mem_cons_self]
      by_cases hl : v < σ.length
      · rw [if_pos hl, List.getElem?_set_self (by rw [wipe_length]; exact hl)]
      · rw [if_neg hl, List.getElem?_eq_none (by rw [List.length_set, wipe_length]; omega)]
    · rw [List.getElem?_set_ne e, wipe_get σ i vs]
      by_cases hm : i ∈ vs
      · rw [if_pos hm, if_pos (List.mem_cons_of_mem _ hm)]
      · rw [if_neg hm, if_neg]
        intro z
        rcases List.mem_cons.mp z with z | z
        · exact e z.symm
        · exact hm z
theorem wipe_wipe (σ : L2.St) (vs : List Nat) : L2.wipe (L2.wipe σ vs) vs = L2.wipe σ vs := by
  apply List.ext_getElem?
  intro i
  rw [wipe_get, wipe_get, wipe_length]
  by_cases h : i ∈ vs
  · rw [if_pos h, if_pos h]
  · rw [if_neg h, if_neg h]
theorem wipe_set (σ : L2.St) (vs : List Nat) {j : Nat} (x : Option V) (h : j ∈ vs) : L2.wipe (σ.set j x) vs = L2.wipe σ vs := by
  apply List.ext_getElem?
  intro i
  rw [wipe_get, wipe_get, List.length_set]
  by_cases hm : i ∈ vs
  · rw [if_pos hm, if_pos hm]
  · rw [if_neg hm, if_neg hm, List.getElem?_set_ne]
    intro e
    subst e
    exact hm h
theorem wipe_setV : ∀ (is : List Nat) (us : List V) (σ : L2.St) (vs : List Nat), (∀ j ∈ is, j ∈ vs) → L2.wipe (setV is us σ) vs = L2.wipe σ vs
  | [], _, _, _, _ => rfl
  | _ :: _, [], _, _, _ => rfl
  | i :: is, u :: us, σ, vs, h => by
    show L2.wipe (setV is us (σ.set i (some u))) vs = _
    rw [wipe_setV is us _ vs fun j hj => h j (List.mem_cons_of_mem _ hj), wipe_set _ _ _ (h i List.mem_cons_self)]

/-! ### list comprehensions -/
/-- one turn: nothing, or an item -/
def lcTurn (t : Tg) (mt : Env → R Bool) (me : Env → R D) (ρ : Env) (d : D) : R (List D) := match t.put d ρ with
  | none => .no
  | some ρ' => ((mt ρ').strict).bind fun b => if b = true then ((me ρ').strict).bind fun x => .ok [x] else .ok []
def lcGo (f : D → R (List D)) : List D → R (List D)
  | [] => .ok []
  | d :: ds => (f d).bind fun o => (lcGo f ds).bind fun r => .ok (o ++ r)
def mLc (mi : Env → R (List D)) (t : Tg) (mt : Env → R Bool) (me : Env → R D) (vs : List Nat) : Env → R D := fun ρ => (mi ρ).bind fun ds => (lcGo (lcTurn t mt me (wipeE ρ vs)) ds).bind fun r => .ok (.lst r)
theorem strict_ok' {α : Type} {r : R α} {a : α} (h : r.strict = .ok a) : r = .ok a := by
  cases r with
  | ok b => cases h; rfl
  | er c => cases h
  | no => cases h
theorem bind_ok' {α β : Type} {r : R α} {f : α → R β} {b : β} (h : r.bind f = .ok b) : ∃ a, r = .ok a ∧ f a = .ok b := by
  cases r with
  | ok a => exact ⟨a, rfl, h⟩
  | er c => cases h
  | no => cases h
theorem lcGo_ner {f : D → R (List D)} (hf : ∀ d c, f d ≠ .er c) : ∀ (ds : List D) (c : Str), lcGo f ds ≠ .er c
  | [], c, h => by cases h
  | d :: ds, c, h => by
    unfold lcGo at h
    cases e : f d with
    | er c' => exact hf d c' e
    | no => rw [e] at h; cases h
    | ok o =>
      rw [e] at h
      simp only [R.bind_ok] at h
      cases e2 : lcGo f ds with
      | er c' => exact lcGo_ner hf ds c' e2
      | no => rw [e2] at h; cases h
      | ok r => rw [e2] at h; cases h
theorem strict_ner {α : Type} (r : R α) (c : Str) : r.strict ≠ .er c := by cases r <;> intro h <;> cases h
theorem lcTurn_ner {t : Tg} {mt : Env → R Bool} {me : Env → R D} {ρ : Env} (d : D) (c : Str) : lcTurn t mt me ρ d ≠ .er c := by
  unfold lcTurn
  split
  · intro h; cases h
  · rename_i ρ' _
    intro h
    cases e : (mt ρ').strict with
    | er c' => exact strict_ner _ _ e
    | no => rw [e] at h; cases h
    | ok b =>
      rw [e] at h
      simp only [R.bind_ok] at h
      cases b with
      | false => rw [if_neg Bool.false_ne_true] at h; cases h
      | true =>
        rw [if_pos rfl] at h
        cases e2 : (me ρ').strict with
        | er c' => exact strict_ner _ _ e2
        | no => rw [e2] at h; cases h
        | ok x => rw [e2] at h; cases h
theorem upd_back {H : Hp} {p : Addr} {o : HO} (h : H p = some o) : upd H p o = H := by
  funext b
  by_cases e : b = p
  · subst e; rw [upd_same, h]
  · rw [upd_ne e]
/-- the comprehension's loop, from its parts -/
theorem lc_loop {K : PySem.W.Frag} {mg : Str → Option Value} {T : List (Addr × Str)} {t : Tg} {mt : Env → R Bool} {me : Env → R D} {vs : List Nat} {ρ : Env} {σ : L2.St} {J : It} {ds res : List D} {Hs1 H1 : Hp} {Q : VK}
    (rp : Rp K mg T Hs1 H1 σ ρ) (it : ItT K mg T J ds Hs1 H1) (hsub : ∀ j ∈ t.slots, j ∈ vs) (hgo : lcGo (lcTurn t mt me (wipeE ρ vs)) ds = .ok res) (hQ : ∀ v Hs' H', Step T Hs1 H1 Hs' H' → Is K mg Hs' (.lst res) v → Q v H') :
    ∀ D, H1 D = none → ∃ W : Nat → Nat → Hp → Prop, (∃ m, W 0 m (upd H1 D (.lst []))) ∧ ∀ i m H, W i m H →
      (J.stop i H ∧ Q (.ref D) H) ∨ (J.go i H ∧ ∃ Nx : Hp → Prop, (∀ H', Nx H' → ∃ m', m' < m ∧ W (i + 1) m' H') ∧ ∀ x H', J.yld i H x H' → gD K mg T t x (L2.wipe σ vs) H' fun σ2 H2 => L2.wipe σ2 vs = L2.wipe σ vs ∧ tDB K mg T (fun _ _ => False) mt σ2 H2 fun b H3 =>
        if b = true then tD K mg T (fun _ _ => False) me σ2 H3 fun y H4 => ∃ acc, H4 D = some (.lst acc) ∧ acc.length < sizeLine ∧ Nx (upd H4 D (.lst (acc ++ [y]))) else Nx H3) := by
  intro D hD
  refine ⟨fun i m H => m = ds.length - i ∧ i ≤ ds.length ∧ ∃ Hs acc ad r, Step T Hs1 H1 Hs H ∧ Hs D = none ∧ H D = some (.lst acc) ∧ IsL K mg Hs ad acc ∧ acc.length ≤ i ∧ lcGo (lcTurn t mt me (wipeE ρ vs)) (ds.drop i) = .ok r ∧ ad ++ r = res,
    ⟨ds.length, by simp, Nat.zero_le _, Hs1, [], [], res, ?_, rp.to.sub.free hD, upd_same, rfl, Nat.le_refl _, by rw [List.drop_zero]; exact hgo, rfl⟩, ?_⟩
  · exact ⟨.refl _, .new hD, ⟨rp.to.sub.trans (.new hD), tabs_ext rp.to.tab fun b u e => by rw [upd_ne (ne_of_none e hD)]; exact e, rp.to.sz⟩, fun b _ z => z⟩
  · rintro i m H ⟨rfl, hi, Hs, acc, ad, r, st, nD, eD, ia, hl, hr, he⟩
    by_cases hlt : i < ds.length
    · refine .inr ⟨it.go i Hs H st hlt, fun H' => i + 1 ≤ ds.length ∧ ∃ Hs' acc' ad' r', Step T Hs1 H1 Hs' H' ∧ Hs' D = none ∧ H' D = some (.lst acc') ∧ IsL K mg Hs' ad' acc' ∧ acc'.length ≤ i + 1 ∧ lcGo (lcTurn t mt me (wipeE ρ vs)) (ds.drop (i + 1)) = .ok r' ∧ ad' ++ r' = res,
        fun H' ⟨h1, h2⟩ => ⟨ds.length - (i + 1), by omega, rfl, h1, h2⟩, fun x H' hy => ?_⟩
      obtain ⟨Hs3, d, st3, hd, is⟩ := it.yld i Hs H x H' st hlt hy
      have hdrop : ds.drop i = d :: ds.drop (i + 1) := by
        obtain ⟨h1, h2⟩ := List.getElem?_eq_some_iff.mp hd
        rw [List.drop_eq_getElem_cons h1, h2]
      rw [hdrop] at hr
      obtain ⟨o, ho, hr⟩ := bind_ok' hr
      obtain ⟨r', hr', hr⟩ := bind_ok' hr
      cases hr
      have st13 := st.trans st3
      have rp3 := (rp.wipe vs).step st13
      have nD3 : Hs3 D = none := st3.n D (by rw [eD]; exact fun z => nomatch z) nD
      have eD3 : H' D = some (.lst acc) := st3.a.at eD fun _ z => nomatch z
      unfold lcTurn at ho
      split at ho
      · cases ho
      · rename_i ρ' hput
        obtain ⟨b, hb, ho⟩ := bind_ok' ho
        have hb := strict_ok' hb
        refine ⟨_, ρ', Hs3, d, rp3, is, hput, fun us rpz => ⟨?_, ρ', Hs3, rpz, ?_⟩⟩
        · rw [wipe_setV _ _ _ _ hsub, wipe_wipe]
        · rw [hb]
          intro b' Hs4 H4 st4 hbb
          have hbb : b = b' := hbb
          subst hbb
          have st14 := st13.trans st4
          have nD4 : Hs4 D = none := st4.n D (by rw [eD3]; exact fun z => nomatch z) nD3
          have eD4 : H4 D = some (.lst acc) := st4.a.at eD3 fun _ z => nomatch z
          cases b with
          | false =>
            rw [if_neg Bool.false_ne_true] at ho ⊢
            cases ho
            exact ⟨hlt, Hs4, acc, ad, r', st14, nD4, eD4, IsL.mono (st3.s.trans st4.s) _ _ ia, by omega, hr', he⟩
          | true =>
            rw [if_pos rfl] at ho ⊢
            obtain ⟨y, hy2, ho⟩ := bind_ok' ho
            cases ho
            have hy2 := strict_ok' hy2
            refine ⟨ρ', Hs4, rpz.step st4, ?_⟩
            rw [hy2]
            intro v Hs5 H5 st5 isv
            have st15 := st14.trans st5
            have nD5 : Hs5 D = none := st5.n D (by rw [eD4]; exact fun z => nomatch z) nD4
            have eD5 : H5 D = some (.lst acc) := st5.a.at eD4 fun _ z => nomatch z
            have hz := it.sz
            refine ⟨acc, eD5, by omega, hlt, Hs5, acc ++ [v], ad ++ [y], r', ?_, nD5, upd_same, (IsL.mono ((st3.s.trans st4.s).trans st5.s) _ _ ia).snoc isv, by rw [List.length_append]; simp; omega, hr', by rw [← he]; simp⟩
            have hn : ∀ b u, Hs5 b = some u → b ≠ D := fun b u e z => by rw [z, nD5] at e; cases e
            refine ⟨st15.s, fun b u e => ?_, ⟨fun b u e => ?_, ?_, st15.to.sz⟩, fun b hb z => st15.n b hb z⟩
            · have : b ≠ D := fun z => by rw [z, hD] at e; cases e
              rw [upd_ne this]
              exact st15.a b u e
            · rw [upd_ne (hn b u e)]
              exact st15.to.sub b u e
            · intro p hp
              obtain ⟨ps, h1, h2, h3⟩ := st15.to.tab p hp
              have ne : ∀ c u, H5 c = some u → (∀ ws, u ≠ .lst ws) → c ≠ D := fun c u e n z => by
                rw [z, eD5] at e
                exact n acc (Option.some.inj e).symm
              refine ⟨ps, by rw [upd_ne (ne _ _ h1 fun ws z => nomatch z)]; exact h1, h2, fun pos cv hc => ?_⟩
              obtain ⟨c, e1, e2⟩ := h3 pos cv hc
              exact ⟨c, e1, by rw [upd_ne (ne _ _ e2 fun ws z => by unfold LamX.CodeO at z; cases z)]; exact e2⟩
    · have e : i = ds.length := by omega
      subst e
      rw [List.drop_length] at hr
      cases hr
      rw [List.append_nil] at he
      subst he
      refine .inl ⟨it.stop _ Hs H st (Nat.le_refl _), hQ _ (upd Hs D (.lst acc)) H ?_ ⟨D, acc, rfl, upd_same, IsL.mono (.new nD) _ _ ia⟩⟩
      have hz := it.sz
      refine ⟨st.s.trans (.new nD), st.a, ⟨fun b u e => ?_, st.to.tab, st.to.sz.upd_ (fun us q => by rcases q with q | q <;> cases q; omega) fun _ _ => ⟨(fun z => nomatch z), fun z => nomatch z⟩⟩, fun b hb z => ?_⟩
      · by_cases hb : b = D
        · subst hb
          rw [upd_same] at e
          cases e
          exact .inl eD
        · rw [upd_ne hb] at e
          exact st.to.sub b u e
      · have : b ≠ D := fun q => by rw [q] at hb; exact hb hD
        rw [upd_ne this]
        exact st.n b hb z
section
variable {X : Cx} {T : List (Addr × Str)} {W : Str → Hp → Prop} {elt tg iter : Expr} {ifs : List Expr} {scope : Scope} {own : List (Str × Nat)} {pos : Pos} {mi : Env → R (List D)} {t : Tg} {mt : Env → R Bool} {me : Env → R D}
theorem ev_lc {wi : TI} (ev : ∀ ρ Hs σ H (Q : It → Hp → Prop), Rp X.K X.mg T Hs H σ ρ → PostG T (fun Hs H ds J => ItT X.K X.mg T J ds Hs H) W (mi ρ) Hs H Q → wi σ H Q) (hsub : ∀ j ∈ t.slots, j ∈ own.map (·.2)) :
    ∀ ρ Hs σ H Q, Rp X.K X.mg T Hs H σ ρ → PostG T (rIs X.K X.mg) W (mLc mi t mt me (own.map (·.2)) ρ) Hs H Q → tLc wi (gD X.K X.mg T t) (tDB X.K X.mg T (fun _ _ => False) mt) (tD X.K X.mg T (fun _ _ => False) me) (own.map (·.2)) σ H Q := by
  intro ρ Hs σ H Q rp hp
  refine ev ρ Hs σ H _ rp (PostG.mono (PostG.bind hp) fun J H1 ⟨Hs1, ds, st, it, hp1⟩ => ?_)
  cases e : lcGo (lcTurn t mt me (wipeE ρ (own.map (·.2)))) ds with
  | er c => exact absurd e (lcGo_ner (fun d c => lcTurn_ner d c) ds c)
  | no => rw [e] at hp1; exact hp1.elim
  | ok res =>
    rw [e] at hp1
    exact lc_loop (rp.step st) it hsub e hp1
theorem pd_lc (hc : X.calm = true) (hN : X.N.Nodup) (hi : PDIt X T W tg iter mi) (ok : BlkOk X.N X.env.scope scope own) (hsub : ∀ j ∈ t.slots, j ∈ own.map (·.2))
    (hg : ∀ (s : Shared) (H : Hp) (C : Addr) (cl : List (Str × Addr)) (fp : List Addr), PGD (X.blk s H scope (compEnvC scope cl C X.env) fp) T tg t) (ht : ∀ (s : Shared) (H : Hp) (C : Addr) (cl : List (Str × Addr)) (fp : List Addr), PTsD (X.blk s H scope (compEnvC scope cl C X.env) fp) T (fun _ _ => False) ifs mt)
    (he : ∀ (s : Shared) (H : Hp) (C : Addr) (cl : List (Str × Addr)) (fp : List Addr), PD (X.blk s H scope (compEnvC scope cl C X.env) fp) T (fun _ _ => False) elt me) (hs : ∀ x, foldedSetIterable iter X.env x = pure x := by intro _; rfl) :
    PD X T W (.ListComp elt [⟨tg, iter, ifs, 0⟩] scope pos) (mLc mi t mt me (own.map (·.2))) := by
  obtain ⟨wi, pi, ev⟩ := hi
  exact ⟨_, pe_lc hc hN pi ok (fun s H C cl fp => (hg s H C cl fp).canon) (fun s H C cl fp => (ht s H C cl fp).canon) (fun s H C cl fp => (he s H C cl fp).canon) hs, ev_lc ev hsub⟩
end
end FL
set_option maxHeartbeats 4000000
/-! FL5: statements, loops, defs. -/
namespace FL
open PySem PySem.Spec PyProof.Rows L2

/-- what is wanted of a callee's exception -/
def EW (mg : Str → Option Value) (W : Str → Hp → Prop) : XK := fun cls d H' => ∃ c, mg c = some cls ∧ d = none ∧ W c H'
/-- what is wanted of an exception of a def of which E is wanted -/
def Wof (mg : Str → Option Value) (E : XK) : Str → Hp → Prop := fun c H' => ∀ cls, mg c = some cls → E cls none H'
/-- the context's facts -/
structure Cg (X : Cx) (W : Str → Hp → Prop) (k : Nat) : Prop where
  nd : X.N.Nodup
  calm : X.calm = true
  room : Room k X.A
  pass : Passes (L2N.CX X.prog X.w) X (EW X.mg W)
abbrev W0 : Str → Hp → Prop := fun _ _ => False
theorem Cg.blk {X : Cx} {W : Str → Hp → Prop} {k : Nat} (c : Cg X W k) (s : Shared) (H : Hp) (scope : Scope) (cenv : PySem.Env) (fp : List Addr) : Cg (X.blk s H scope cenv fp) W0 k where
  nd := c.nd
  calm := c.calm
  room := c.room
  pass := fun _ _ _ _ _ _ _ x => by
    obtain ⟨_, _, _, _, _, _, _, _, _, _, _, _, _, _, _, z⟩ := x
    exact z
theorem Cg.hu {X : Cx} {W : Str → Hp → Prop} {k : Nat} (c : Cg X W k) : X.A.units + 64 < cLine := c.room.units
theorem Cg.hu5 {X : Cx} {W : Str → Hp → Prop} {k : Nat} (c : Cg X W k) : X.A.units + 65 < cLine := by have := c.room.un; omega
theorem Cg.hu0 {X : Cx} {W : Str → Hp → Prop} {k : Nat} (c : Cg X W k) : X.A.units < cLine := c.room.units0

/-- a def's promise -/
def spD (K : PySem.W.Frag) (mg : Str → Option Value) (T : List (Addr × Str)) (n : Nat) (F : List D → R D) : Sp := fun vs H Q E => ∃ Hs ds, At T Hs H ∧ IsL K mg Hs ds vs ∧ ds.length = n ∧ PostG T (rIs K mg) (Wof mg E) (F ds) Hs H Q
theorem spD_len {K : PySem.W.Frag} {mg : Str → Option Value} {T : List (Addr × Str)} {n : Nat} {F : List D → R D} (vs : List V) (H : Hp) (Q : VK) (E : XK) (h : spD K mg T n F vs H Q E) : vs.length = n := by
  obtain ⟨Hs, ds, _, h1, h2, _⟩ := h
  rw [h1.length, h2]
section
variable {X : Cx} {T : List (Addr × Str)} {W : Str → Hp → Prop} {e a b : Expr} {es : List Expr} {m ma mb : Env → R D} {pos p : Pos}
def mCall (n : Nat) (F : List D → R D) (r : Env → R (List D)) : Env → R D := fun ρ => (r ρ).bind fun ds => if ds.length = n then F ds else .no
theorem pd_call {k j n : Nat} {f : Addr} {fd : FuncData} {ps : List Str} {x : Str} {F : List D → R D} {r : Env → R (List D)} (G : FnOk X.prog X.w X.K X.mg X.base (L2N.CX X.prog X.w) k f fd ps (spD X.K X.mg T n F)) (c : Cg X W j) (hk : k ≤ j) (hg : Gl X x) (hm : X.mg x = some (.ref f)) (kp : PySem.W.keepIn X.K (.ref f) = true)
    (hb : Binds X.K fd ps []) (ha : PAD X T W (e :: es) r) (hdb : (x == ("__debug__" : Str)) = false := by decide) (he : starEach (e :: es) X.env = (false, eval e X.env) :: starEach es X.env := by rfl) (hpl : (backTo pos (starEach es X.env)).any (·.1) = false := by rfl) :
    PD X T W (.Call (.Name x p) (e :: es) [] pos) (mCall n F r) := by
  obtain ⟨ta, pa, ea⟩ := ha
  refine ⟨_, pe_call G (c.room.mono hk) hg hm kp hb .nil c.pass pa hdb he hpl, fun ρ Hs σ H Q rp hp => ea ρ Hs σ H _ rp (PostG.mono (PostG.bind hp) fun vs H1 ⟨Hs1, ds, st, is, hp1⟩ => ?_)⟩
  by_cases hl : ds.length = n
  · rw [if_pos hl] at hp1
    rw [List.append_nil]
    refine ⟨Hs1, ds, st.to, is, hl, ?_⟩
    cases q : F ds with
    | ok d => rw [q] at hp1; exact hp1
    | er c => rw [q] at hp1; exact fun Hs' H' st' cls hc => ⟨c, hc, rfl, hp1 Hs' H' st'⟩
    | no => rw [q] at hp1; exact hp1
  · rw [if_neg hl] at hp1
    exact hp1.elim
end

/-! ### statements -/
inductive Oc where
  | nx (ρ : Env)
  | rt (d : D)
  | bk (ρ : Env)
  | ct (ρ : Env)
  | er (c : Str)
  | no
/-- from the entry's heaps to now -/
structure Fr (K : PySem.W.Frag) (mg : Str → Option Value) (T : List (Addr × Str)) (Hs0 H0 Hs H : Hp) (σ : L2.St) (ρ : Env) : Prop where
  rp : Rp K mg T Hs H σ ρ
  st : Step T Hs0 H0 Hs H
  ow : ∀ (i : Nat) (ds : Ob) (p : Addr), ρ[i]? = some (Sl.ob ds) → σ[i]? = some (some (V.ref p)) → H0 p = none
theorem Fr.step {K : PySem.W.Frag} {mg : Str → Option Value} {T : List (Addr × Str)} {Hs0 H0 Hs H Hs' H' : Hp} {σ : L2.St} {ρ : Env} (h : Fr K mg T Hs0 H0 Hs H σ ρ) (st : Step T Hs H Hs' H') : Fr K mg T Hs0 H0 Hs' H' σ ρ :=
  ⟨h.rp.step st, h.st.trans st, h.ow⟩
theorem Step.rebase {T : List (Addr × Str)} {Hs0 H0 Hs H Hs' H' : Hp} (x : Step T Hs0 H0 Hs H) (y : Step T Hs H0 Hs' H') : Step T Hs0 H0 Hs' H' := ⟨x.s.trans y.s, y.a, y.to, fun b h z => y.n b h (x.n b h z)⟩
theorem Step.mid {T : List (Addr × Str)} {Hs0 H0 Hs H : Hp} (x : Step T Hs0 H0 Hs H) : Step T Hs H0 Hs H := ⟨.refl _, x.a, x.to, fun _ _ z => z⟩
theorem Fr.mid {K : PySem.W.Frag} {mg : Str → Option Value} {T : List (Addr × Str)} {Hs0 H0 Hs H : Hp} {σ : L2.St} {ρ : Env} (h : Fr K mg T Hs0 H0 Hs H σ ρ) : Fr K mg T Hs H0 Hs H σ ρ := ⟨h.rp, h.st.mid, h.ow⟩
theorem Fr.rebase {K : PySem.W.Frag} {mg : Str → Option Value} {T : List (Addr × Str)} {Hs0 H0 Hs H Hs' H' : Hp} {σ σ' : L2.St} {ρ ρ' : Env} (h : Fr K mg T Hs0 H0 Hs H σ ρ) (q : Fr K mg T Hs H0 Hs' H' σ' ρ') : Fr K mg T Hs0 H0 Hs' H' σ' ρ' := ⟨q.rp, h.st.rebase q.st, q.ow⟩
def PostS (K : PySem.W.Frag) (mg : Str → Option Value) (T : List (Addr × Str)) (W : Str → Hp → Prop) (o : Oc) (Hs0 H0 : Hp) (N : Ends) : Prop := match o with
  | .nx ρ => ∀ Hs H σ, Fr K mg T Hs0 H0 Hs H σ ρ → N.nx σ H
  | .bk ρ => ∀ Hs H σ, Fr K mg T Hs0 H0 Hs H σ ρ → N.bk σ H
  | .ct ρ => ∀ Hs H σ, Fr K mg T Hs0 H0 Hs H σ ρ → N.ct σ H
  | .rt d => ∀ v Hs H, Step T Hs0 H0 Hs H → Is K mg Hs d v → N.rt v H
  | .er c => ∀ Hs H, Step T Hs0 H0 Hs H → W c H
  | .no => False
/-- a statement with its semantics -/
def PDS (X : Cx) (T : List (Addr × Str)) (W : Str → Hp → Prop) (st : Stmt) (m : Env → Oc) : Prop := ∃ t : TS, PS X st t ∧ ∀ ρ Hs0 H0 Hs H σ N, Fr X.K X.mg T Hs0 H0 Hs H σ ρ → PostS X.K X.mg T W (m ρ) Hs0 H0 N → t N σ H
def PDSs (X : Cx) (T : List (Addr × Str)) (W : Str → Hp → Prop) (st : List Stmt) (m : Env → Oc) : Prop := ∃ t : TS, PSs X st t ∧ ∀ ρ Hs0 H0 Hs H σ N, Fr X.K X.mg T Hs0 H0 Hs H σ ρ → PostS X.K X.mg T W (m ρ) Hs0 H0 N → t N σ H
def Oc.seq (o : Oc) (f : Env → Oc) : Oc := match o with
  | .nx ρ => f ρ
  | o => o
@[simp] theorem Oc.seq_nx (ρ : Env) (f : Env → Oc) : (Oc.nx ρ).seq f = f ρ := rfl
@[simp] theorem Oc.seq_rt (d : D) (f : Env → Oc) : (Oc.rt d).seq f = Oc.rt d := rfl
@[simp] theorem Oc.seq_er (d : Str) (f : Env → Oc) : (Oc.er d).seq f = Oc.er d := rfl
@[simp] theorem Oc.seq_no (f : Env → Oc) : (Oc.no).seq f = Oc.no := rfl
@[simp] theorem Oc.seq_bk (ρ : Env) (f : Env → Oc) : (Oc.bk ρ).seq f = Oc.bk ρ := rfl
@[simp] theorem Oc.seq_ct (ρ : Env) (f : Env → Oc) : (Oc.ct ρ).seq f = Oc.ct ρ := rfl
/-- an expression's answer, then an outcome -/
def R.out {α : Type} (r : R α) (f : α → Oc) : Oc := match r with
  | .ok a => f a
  | .er c => .er c
  | .no => .no
@[simp] theorem R.out_ok {α : Type} (a : α) (f : α → Oc) : (R.ok a).out f = f a := rfl
@[simp] theorem R.out_er {α : Type} (c : Str) (f : α → Oc) : (R.er c : R α).out f = Oc.er c := rfl
@[simp] theorem R.out_no {α : Type} (f : α → Oc) : (R.no : R α).out f = Oc.no := rfl
section
variable {K : PySem.W.Frag} {mg : Str → Option Value} {T : List (Addr × Str)} {W : Str → Hp → Prop} {Hs0 H0 Hs H : Hp} {σ : L2.St} {ρ : Env} {N : Ends}
theorem PostS.out {α β : Type} {rel : Hp → Hp → α → β → Prop} {r : R α} {f : α → Oc} (fr : Fr K mg T Hs0 H0 Hs H σ ρ) (h : PostS K mg T W (r.out f) Hs0 H0 N) :
    PostG T rel W r Hs H fun b H1 => ∃ Hs1 a, Step T Hs H Hs1 H1 ∧ rel Hs1 H1 a b ∧ PostS K mg T W (f a) Hs0 H0 N := by
  cases r with
  | ok a => exact fun b Hs' H' st k => ⟨Hs', a, st, k, h⟩
  | er c => exact fun Hs' H' st => h Hs' H' (fr.st.trans st)
  | no => exact h
end
section
variable {X : Cx} {T : List (Addr × Str)} {W : Str → Hp → Prop} {e a b : Expr} {es : List Expr} {m ma mb : Env → R D} {mt : Env → R Bool} {st : Stmt} {rest sts sts' : List Stmt} {f g : Env → Oc} {pos p : Pos}
theorem pdss_nil : PDSs X T W [] Oc.nx := ⟨_, pss_nil, fun ρ Hs0 H0 Hs H σ N fr h => h Hs H σ fr⟩
theorem pdss_cons (h : PDS X T W st f) (h' : PDSs X T W rest g) : PDSs X T W (st :: rest) (fun ρ => (f ρ).seq g) := by
  obtain ⟨t, ps, ev⟩ := h
  obtain ⟨t', ps', ev'⟩ := h'
  refine ⟨_, pss_cons ps ps', fun ρ Hs0 H0 Hs H σ N fr hp => ev ρ Hs0 H0 Hs H σ _ fr ?_⟩
  have hp : PostS X.K X.mg T W ((f ρ).seq g) Hs0 H0 N := hp
  cases q : f ρ with
  | nx ρ' =>
    rw [q] at hp
    exact fun Hs1 H1 σ1 fr1 => ev' ρ' Hs0 H0 Hs1 H1 σ1 N fr1 hp
  | rt d => rw [q] at hp; exact hp
  | bk d => rw [q] at hp; exact hp
  | ct d => rw [q] at hp; exact hp
  | er d => rw [q] at hp; exact hp
  | no => rw [q] at hp; exact hp
theorem pdss_one (h : PDS X T W st f) : PDSs X T W [st] f := by
  obtain ⟨t, ps, ev⟩ := h
  exact ⟨t, pss_one ps, ev⟩
theorem pds_pass : PDS X T W (.Pass pos) Oc.nx := ⟨_, ps_pass, fun ρ Hs0 H0 Hs H σ N fr h => h Hs H σ fr⟩
theorem pds_break : PDS X T W (.Break pos) Oc.bk := ⟨_, ps_break, fun ρ Hs0 H0 Hs H σ N fr h => h Hs H σ fr⟩
theorem pds_cont : PDS X T W (.Continue pos) Oc.ct := ⟨_, ps_continue, fun ρ Hs0 H0 Hs H σ N fr h => h Hs H σ fr⟩
def sRet (m : Env → R D) : Env → Oc := fun ρ => (m ρ).out Oc.rt
theorem pds_ret (h : PD X T W e m) : PDS X T W (.Return (some e) pos) (sRet m) := by
  obtain ⟨te, pe, ev⟩ := h
  refine ⟨_, ps_ret pe, fun ρ Hs0 H0 Hs H σ N fr hp => ev ρ Hs σ H _ fr.rp (PostG.mono (PostS.out fr hp) fun v H1 ⟨Hs1, d, st, is, hp1⟩ => ?_)⟩
  exact hp1 v Hs1 H1 (fr.st.trans st) is
theorem pds_retN : PDS X T W (.Return none pos) (fun _ => Oc.rt .non) := ⟨_, ps_retN, fun ρ Hs0 H0 Hs H σ N fr h => h .non Hs H fr.st rfl⟩
def sDrop (m : Env → R D) : Env → Oc := fun ρ => (m ρ).out fun _ => Oc.nx ρ
theorem pds_expr (h : PD X T W e m) (hs : swapsWith e none pos.line X.env = pure false := by rfl) : PDS X T W (.Expr e pos) (sDrop m) := by
  obtain ⟨te, pe, ev⟩ := h
  refine ⟨_, ps_expr pe hs, fun ρ Hs0 H0 Hs H σ N fr hp => ev ρ Hs σ H _ fr.rp (PostG.mono (PostS.out fr hp) fun v H1 ⟨Hs1, d, st, is, hp1⟩ => ?_)⟩
  exact hp1 Hs1 H1 σ (fr.step st)
def sIf (mt : Env → R Bool) (f g : Env → Oc) : Env → Oc := fun ρ => (mt ρ).out fun b => if b = true then f ρ else g ρ
theorem pds_if {c : Expr} (hc : PTD X T W c mt) (ha : PDSs X T W sts f) (hb : PDSs X T W sts' g) : PDS X T W (.If c sts sts' pos) (sIf mt f g) := by
  obtain ⟨tt, pt, ev⟩ := hc
  obtain ⟨t, ps, ev1⟩ := ha
  obtain ⟨t', ps', ev2⟩ := hb
  refine ⟨_, ps_if pt ps ps', fun ρ Hs0 H0 Hs H σ N fr hp => ev ρ Hs σ H _ fr.rp (PostG.mono (PostS.out fr hp) fun b H1 ⟨Hs1, d, st, is, hp1⟩ => ?_)⟩
  cases is
  cases b with
  | true =>
    rw [if_pos rfl] at hp1 ⊢
    exact ev1 ρ Hs0 H0 Hs1 H1 σ N (fr.step st) hp1
  | false =>
    rw [if_neg Bool.false_ne_true] at hp1 ⊢
    exact ev2 ρ Hs0 H0 Hs1 H1 σ N (fr.step st) hp1

/-! ### assignments -/
theorem Fr.put {K : PySem.W.Frag} {mg : Str → Option Value} {Hs0 H0 Hs H : Hp} {σ : L2.St} {ρ : Env} {i : Nat} {d : D} {v : V} (h : Fr K mg T Hs0 H0 Hs H σ ρ) (q : Is K mg Hs d v) : Fr K mg T Hs0 H0 Hs H (σ.set i (some v)) (ρ.set i (.sh d)) where
  rp := h.rp.set q
  st := h.st
  ow := fun j ds p e1 e2 => by
    by_cases z : i = j
    · subst z
      have hi : i < ρ.length := by
        have := (List.getElem?_eq_some_iff.mp e1).1
        rwa [List.length_set] at this
      rw [List.getElem?_set_self hi] at e1
      cases e1
    · rw [List.getElem?_set_ne z] at e1 e2
      exact h.ow j ds p e1 e2
def sSet (i : Nat) (m : Env → R D) : Env → Oc := fun ρ => (m ρ).out fun d => Oc.nx (ρ.set i (.sh d))
theorem pds_set (i : Nat) {x : Str} {pos' : Pos} (h : PD X T W e m) (hN : X.N.Nodup) (hi : X.N[i]? = some x := by rfl) (hx : Loc X.env.scope x := by first | exact Or.inl rfl | exact Or.inr rfl) (hs : swapsWith e (some (.Name x pos')) pos.line X.env = pure false := by rfl)
    (hf : X.fn x = true ∨ X.env.scope.names.lookup x = some .local := by first | exact .inl rfl | exact .inr rfl) : PDS X T W (.Assign [.Name x pos'] e pos) (sSet i m) := by
  obtain ⟨te, pe, ev⟩ := h
  refine ⟨_, ps_set hN hi hx pe hs hf, fun ρ Hs0 H0 Hs H σ N fr hp => ev ρ Hs σ H _ fr.rp (PostG.mono (PostS.out fr hp) fun v H1 ⟨Hs1, d, st, is, hp1⟩ => ?_)⟩
  exact hp1 Hs1 H1 _ ((fr.step st).put is)
theorem Fr.putV {K : PySem.W.Frag} {mg : Str → Option Value} {Hs0 H0 Hs H : Hp} : ∀ {is : List Nat} {ds : List D} {vs : List V} {σ : L2.St} {ρ ρ' : Env}, Fr K mg T Hs0 H0 Hs H σ ρ → IsL K mg Hs ds vs → setAll is ds ρ = some ρ' → Fr K mg T Hs0 H0 Hs H (setV is vs σ) ρ'
  | [], [], _, _, _, _, h, q, e => by cases q; cases e; exact h
  | [], _ :: _, _, _, _, _, _, _, e => by cases e
  | _ :: _, [], _, _, _, _, _, _, e => by cases e
  | i :: is, d :: ds, _, _, _, _, h, q, e => by
    obtain ⟨v, r, rfl, h1, h2⟩ := q
    exact Fr.putV (is := is) (h.put h1) h2 e
/-- a target told by a value: what the frame is behind it -/
def PGF (X : Cx) (T : List (Addr × Str)) (tg : Expr) (t : Tg) : Prop :=
  ∃ g : TG, PG X tg g ∧ ∀ d v ρ ρ' Hs0 H0 Hs σ H Q, Fr X.K X.mg T Hs0 H0 Hs H σ ρ → Is X.K X.mg Hs d v → t.put d ρ = some ρ' → (∀ σ', Fr X.K X.mg T Hs0 H0 Hs H σ' ρ' → Q σ' H) → g v σ H Q
theorem pgf_name (i : Nat) {x : Str} {pos : Pos} (hN : X.N.Nodup) (hi : X.N[i]? = some x := by rfl) (hx : Loc X.env.scope x := by first | exact Or.inl rfl | exact Or.inr rfl) (hf : X.fn x = true ∨ X.env.scope.names.lookup x = some .local := by first | exact .inl rfl | exact .inr rfl) : PGF X T (.Name x pos) (.one i) := by
  refine ⟨gName i, pg_name hN hi hx hf, fun d v ρ ρ' Hs0 H0 Hs σ H Q fr is hp q => ?_⟩
  cases hp
  exact q _ (fr.put is)
def PGsF (X : Cx) (T : List (Addr × Str)) (es : List Expr) (is : List Nat) : Prop := ∃ g : TGs, PGs X es g ∧ ∀ ds vs ρ ρ' Hs0 H0 Hs σ H Q, Fr X.K X.mg T Hs0 H0 Hs H σ ρ → IsL X.K X.mg Hs ds vs → setAll is ds ρ = some ρ' → (∀ σ', Fr X.K X.mg T Hs0 H0 Hs H σ' ρ' → Q σ' H) → g vs σ H Q
theorem pgsf_nil : PGsF X T [] [] := ⟨_, pgs_nil, fun ds vs ρ ρ' Hs0 H0 Hs σ H Q fr is hp k => by
  cases ds with
  | nil =>
    cases hp
    cases is
    exact ⟨rfl, k _ fr⟩
  | cons d ds => cases hp⟩
theorem pgsf_cons (i : Nat) {x : Str} {pos : Pos} {es : List Expr} {is : List Nat} (h : PGsF X T es is) (hN : X.N.Nodup) (hi : X.N[i]? = some x := by rfl) (hx : Loc X.env.scope x := by first | exact Or.inl rfl | exact Or.inr rfl)
    (hf : X.fn x = true ∨ X.env.scope.names.lookup x = some .local := by first | exact .inl rfl | exact .inr rfl) (hs : (assignEach (.Name x pos :: es) X.env).map (·.2) = assign (.Name x pos) X.env :: (assignEach es X.env).map (·.2) := by rfl) : PGsF X T (.Name x pos :: es) (i :: is) := by
  obtain ⟨g, pg, ev⟩ := h
  refine ⟨_, pgs_cons (pg_name hN hi hx hf) pg hs, fun ds vs ρ ρ' Hs0 H0 Hs σ H Q fr is hp k => ?_⟩
  cases ds with
  | nil => cases hp
  | cons d ds =>
    obtain ⟨v, r, rfl, h1, h2⟩ := is
    exact ⟨v, r, rfl, ev ds r _ _ Hs0 H0 Hs _ H Q (fr.put h1) h2 hp k⟩
theorem pgf_tup {es : List Expr} {is : List Nat} {k : Nat} {pos : Pos} (h : PGsF X T es is) (hc : X.calm = true) (hn : (assignEach es X.env).length = is.length := by rfl) (hst : (assignEach es X.env).findIdx? (·.1) = none := by rfl) : PGF X T (.Tuple es k pos) (.many is) := by
  obtain ⟨g, pg, ev⟩ := h
  refine ⟨_, pg_tup hc pg hn hst, fun d v ρ ρ' Hs0 H0 Hs σ H Q fr is' hp k' => ?_⟩
  cases d with
  | tup ds =>
    obtain ⟨a, vs, rfl, q1, q2⟩ := is'
    exact ⟨a, vs, rfl, fr.rp.to.sub.sqT q1, by rw [q2.length]; exact setAll_len hp, ev ds vs ρ ρ' Hs0 H0 Hs σ H Q fr q2 hp k'⟩
  | _ => cases hp
def Tg.oc (t : Tg) (d : D) (ρ : Env) (f : Env → Oc) : Oc := match t.put d ρ with
  | some ρ' => f ρ'
  | none => .no
def sAsg (t : Tg) (m : Env → R D) : Env → Oc := fun ρ => (m ρ).out fun d => t.oc d ρ Oc.nx
/-- a, b = e -/
theorem pds_asg {tg : Expr} {t : Tg} (h : PD X T W e m) (hg : PGF X T tg t) (hs : swapsWithSole [tg] e pos.line X.env = pure false := by rfl) (hw : swappedStores [tg] e X.env = pure none := by rfl) (h1 : (assignEach [tg] X.env).map (·.2) = [assign tg X.env] := by rfl) : PDS X T W (.Assign [tg] e pos) (sAsg t m) := by
  obtain ⟨te, pe, ev⟩ := h
  obtain ⟨g, pg, evg⟩ := hg
  refine ⟨_, ps_asg pe pg hs hw h1, fun ρ Hs0 H0 Hs H σ N fr hp => ev ρ Hs σ H _ fr.rp (PostG.mono (PostS.out fr hp) fun v H1 ⟨Hs1, d, st, is, hp1⟩ => ?_)⟩
  unfold Tg.oc at hp1
  split at hp1
  · rename_i ρ' e
    exact evg d v ρ ρ' Hs0 H0 Hs1 σ H1 _ (fr.step st) is e fun σ' fr' => hp1 Hs1 H1 σ' fr'
  · exact hp1.elim
/-- a, b = e1, e2 -/
def sPar (i j : Nat) (ma mb : Env → R D) : Env → Oc := fun ρ => (ma ρ).out fun d => (mb ρ).out fun d' => Oc.nx ((ρ.set i (.sh d)).set j (.sh d'))
theorem pds_par (i j : Nat) {x y : Str} {px py pt : Pos} {kt k2 pt2} (ha : PD X T W a ma) (hb : PD X T W b mb) (hc : X.calm = true) (hN : X.N.Nodup) (hij : i ≠ j := by decide) (hi : X.N[i]? = some x := by rfl) (hj : X.N[j]? = some y := by rfl)
    (hx : X.env.scope.names.lookup x = some .local := by rfl) (hy : X.env.scope.names.lookup y = some .local := by rfl) (hw : swappedStores [.Tuple [.Name x px, .Name y py] kt pt] (.Tuple [a, b] k2 pt2) X.env = pure (some [x, y]) := by rfl)
    (hs : swapsWithSole [.Tuple [.Name x px, .Name y py] kt pt] (.Tuple [a, b] k2 pt2) pos.line X.env = pure false := by rfl) (hsa : starEach [a, b] X.env = (false, eval a X.env) :: starEach [b] X.env := by rfl) (hsb : starEach [b] X.env = [(false, eval b X.env)] := by rfl) :
    PDS X T W (.Assign [.Tuple [.Name x px, .Name y py] kt pt] (.Tuple [a, b] k2 pt2) pos) (sPar i j ma mb) := by
  obtain ⟨ta, pa, ea⟩ := ha
  obtain ⟨tb, pb, eb⟩ := hb
  refine ⟨_, ps_par hc hN hi hj hij hx hy (pa_cons pa (pa_cons pb pa_nil hsb) hsa) hw hs, fun ρ Hs0 H0 Hs H σ N fr hp => ea ρ Hs σ H _ fr.rp (PostG.mono (PostS.out fr hp) fun v H1 ⟨Hs1, d, st, is, hp1⟩ => eb ρ Hs1 σ H1 _ (fr.rp.step st) (PostG.mono (PostS.out (fr.step st) hp1) fun u H2 ⟨Hs2, d2, st2, is2, hp2⟩ => ?_))⟩
  exact ⟨v, u, rfl, hp2 Hs2 H2 _ ((((fr.step st).step st2).put (Is.mono st2.s d v is)).put is2)⟩
/-- y = [..] -/
theorem pds_setLc (i : Nat) {y : Str} {py spos : Pos} {elt tg iter : Expr} {ifs : List Expr} {scope : Scope} {own : List (Str × Nat)} {mi : Env → R (List D)} {t : Tg} {me : Env → R D} (hc : X.calm = true) (hN : X.N.Nodup) (hi : PDIt X T W tg iter mi) (ok : BlkOk X.N X.env.scope scope own) (hsub : ∀ j ∈ t.slots, j ∈ own.map (·.2))
    (hg : ∀ (s : Shared) (H : Hp) (C : Addr) (cl : List (Str × Addr)) (fp : List Addr), PGD (X.blk s H scope (compEnvC scope cl C X.env) fp) T tg t) (ht : ∀ (s : Shared) (H : Hp) (C : Addr) (cl : List (Str × Addr)) (fp : List Addr), PTsD (X.blk s H scope (compEnvC scope cl C X.env) fp) T W0 ifs mt)
    (he : ∀ (s : Shared) (H : Hp) (C : Addr) (cl : List (Str × Addr)) (fp : List Addr), PD (X.blk s H scope (compEnvC scope cl C X.env) fp) T W0 elt me) (hy : X.N[i]? = some y := by rfl) (hyl : X.env.scope.names.lookup y = some .local := by rfl)
    (hsw : swapsWith (.ListComp elt [⟨tg, iter, ifs, 0⟩] scope pos) (some (.Name y py)) spos.line X.env = pure true := by exact sw_true rfl rfl rfl (by decide +kernel)) (hs : ∀ x, foldedSetIterable iter X.env x = pure x := by intro _; rfl) :
    PDS X T W (.Assign [.Name y py] (.ListComp elt [⟨tg, iter, ifs, 0⟩] scope pos) spos) (sSet i (mLc mi t mt me (own.map (·.2)))) := by
  obtain ⟨wi, pi, ev⟩ := hi
  refine ⟨_, ps_setLc (g := gD X.K X.mg T t) (tt := tDB X.K X.mg T W0 mt) (te := tD X.K X.mg T W0 me) hc hN hy hyl hsw pi ok (fun s H C cl fp => (hg s H C cl fp).canon) (fun s H C cl fp => (ht s H C cl fp).canon) (fun s H C cl fp => (he s H C cl fp).canon) hs, fun ρ Hs0 H0 Hs H σ N fr hp => ?_⟩
  refine ev_lc ev hsub ρ Hs σ H _ fr.rp (PostG.mono (PostS.out fr hp) fun v H1 ⟨Hs1, d, st, is, hp1⟩ => ?_)
  exact hp1 Hs1 H1 _ ((fr.step st).put is)

/-! ### lists of the def's own -/
theorem Fr.own {K : PySem.W.Frag} {mg : Str → Option Value} {Hs0 H0 Hs H : Hp} {σ : L2.St} {ρ : Env} {i : Nat} {p : Addr} {u : HO} {ds : Ob} (h : Fr K mg T Hs0 H0 Hs H σ ρ) (hp : H p = none) (q : ObIs K mg Hs ds u) :
    Fr K mg T Hs0 H0 Hs (upd H p u) (σ.set i (some (.ref p))) (ρ.set i (.ob ds)) where
  rp := h.rp.own hp q
  st := ⟨h.st.s, h.st.a.trans (.new hp), ⟨h.st.to.sub.trans (.new hp), tabs_ext h.st.to.tab fun b u e => by rw [upd_ne (ne_of_none e hp)]; exact e, h.st.to.sz⟩, h.st.n⟩
  ow := fun j es c e1 e2 => by
    by_cases z : i = j
    · subst z
      have hi : i < ρ.length := by
        have := (List.getElem?_eq_some_iff.mp e1).1
        rwa [List.length_set] at this
      rw [List.getElem?_set_self (by rw [← h.rp.len]; exact hi)] at e2
      cases e2
      exact h.st.a.free hp
    · rw [List.getElem?_set_ne z] at e1 e2
      exact h.ow j es c e1 e2
def sOwn (i : Nat) (r : Env → R (List D)) : Env → Oc := fun ρ => (r ρ).out fun ds => if ds.length ≤ sizeLine then Oc.nx (ρ.set i (.ow ds)) else .no
/-- x = [..], a list that is to grow -/
theorem pds_own (i : Nat) {x : Str} {pos' lpos : Pos} {r : Env → R (List D)} (h : PAD X T W es r) (hN : X.N.Nodup) (hi : X.N[i]? = some x := by rfl) (hx : Loc X.env.scope x := by first | exact Or.inl rfl | exact Or.inr rfl) (hs : swapsWith (.List es lpos) (some (.Name x pos')) pos.line X.env = pure false := by rfl)
    (hf : X.fn x = true ∨ X.env.scope.names.lookup x = some .local := by first | exact .inl rfl | exact .inr rfl) : PDS X T W (.Assign [.Name x pos'] (.List es lpos) pos) (sOwn i r) := by
  obtain ⟨ta, pa, ea⟩ := h
  refine ⟨_, ps_set hN hi hx (pe_lst pa) hs hf, fun ρ Hs0 H0 Hs H σ N fr hp => ea ρ Hs σ H _ fr.rp (PostG.mono (PostS.out fr hp) fun vs H1 ⟨Hs1, ds, st, is, hp1⟩ => ?_)⟩
  by_cases hl : ds.length ≤ sizeLine
  · rw [if_pos hl] at hp1
    have hv : vs.length ≤ sizeLine := by rw [is.length]; exact hl
    exact ⟨hv, fun c hc => hp1 Hs1 _ _ ((fr.step st).own hc ⟨vs, rfl, is, hv⟩)⟩
  · rw [if_neg hl] at hp1
    exact hp1.elim
/-- the list of slot i grows -/
theorem Fr.grow {K : PySem.W.Frag} {mg : Str → Option Value} {Hs0 H0 Hs H : Hp} {σ : L2.St} {ρ : Env} {i : Nat} {p : Addr} {v u : HO} {ds es : Ob} (h : Fr K mg T Hs0 H0 Hs H σ ρ) (e : ρ[i]? = some (.ob ds)) (ep : σ[i]? = some (some (.ref p))) (eH : H p = some v) (nH : Hs p = none) (oh : ObIs K mg Hs ds v)
    (q : ObIs K mg Hs es u) : Fr K mg T Hs0 H0 Hs (upd H p u) σ (ρ.set i (.ob es)) := by
  have hi : i < ρ.length := (List.getElem?_eq_some_iff.mp e).1
  have h0 : H0 p = none := h.ow i ds p e ep
  have nb : ∀ b u, Hs b = some u → b ≠ p := fun b u q z => by rw [z, nH] at q; cases q
  have at2 : At T Hs (upd H p u) := by
    refine ⟨fun b u q => ?_, fun t ht => ?_, h.rp.to.sz⟩
    · rw [upd_ne (nb b _ q)]
      exact h.rp.to.sub b u q
    · obtain ⟨ps, h1, h2, h3⟩ := h.rp.to.tab t ht
      have ne : ∀ c w, H c = some w → v ≠ w → c ≠ p := fun c w e n z => by
        rw [z, eH] at e
        exact n (Option.some.inj e)
      refine ⟨ps, by rw [upd_ne (ne _ _ h1 (oh.ntbl ps))]; exact h1, h2, fun pos cv hc => ?_⟩
      obtain ⟨c, e1, e2⟩ := h3 pos cv hc
      exact ⟨c, e1, by rw [upd_ne (ne _ _ e2 (oh.next _))]; exact e2⟩
  have key : ∀ {c : Nat} {cs : Ob}, i ≠ c → (ρ.set i (Sl.ob es))[c]? = some (Sl.ob cs) → ρ[c]? = some (Sl.ob cs) := fun {c cs} n e => by
    rw [List.getElem?_set_ne n] at e
    exact e
  refine ⟨⟨at2, by rw [List.length_set]; exact h.rp.len, fun j s ej => ?_, fun a b cs fs c n e1 e2 e3 e4 => ?_⟩, ⟨h.st.s, fun b u q => ?_, at2, h.st.n⟩, fun j cs c e1 e2 => ?_⟩
  · by_cases z : i = j
    · subst z
      rw [List.getElem?_set_self hi] at ej
      cases ej
      exact ⟨p, u, ep, nH, upd_same, q⟩
    · rw [List.getElem?_set_ne z] at ej
      have k := h.rp.ok j s ej
      cases s with
      | no => trivial
      | sh d => exact k
      | ob cs =>
        obtain ⟨b, ws, k1, k2, k3, k4⟩ := k
        refine ⟨b, ws, k1, k2, ?_, k4⟩
        rw [upd_ne]
        · exact k3
        · intro y
          subst y
          exact h.rp.sep i j ds cs b z e ej ep k1
  · by_cases z1 : i = a
    · by_cases z2 : i = b
      · exact n (z1.symm.trans z2)
      · subst z1
        exact h.rp.sep i b ds fs c z2 e (key z2 e2) e3 e4
    · by_cases z2 : i = b
      · subst z2
        exact h.rp.sep a i cs ds c (Ne.symm z1) (key z1 e1) e e3 e4
      · exact h.rp.sep a b cs fs c n (key z1 e1) (key z2 e2) e3 e4
  · have : b ≠ p := fun z => by rw [z, h0] at q; cases q
    rw [upd_ne this]
    exact h.st.a b u q
  · by_cases z : i = j
    · subst z
      rw [ep] at e2
      cases e2
      exact h0
    · exact h.ow j cs c (key z e1) e2
def ownAt (ρ : Env) (i : Nat) : R (List D) := match ρ[i]? with
  | some (.ob (.lst ds)) => .ok ds
  | _ => .no
def sApp (i : Nat) (m : Env → R D) : Env → Oc := fun ρ => (ownAt ρ i).out fun ds => (m ρ).out fun d => if ds.length < sizeLine then Oc.nx (ρ.set i (.ow (ds ++ [d]))) else .no
theorem Rp.ownAt {K : PySem.W.Frag} {mg : Str → Option Value} {Hs H : Hp} {σ : L2.St} {ρ : Env} {i : Nat} (h : Rp K mg T Hs H σ ρ) {ds : List D} (e : FL.ownAt ρ i = .ok ds) : ρ[i]? = some (.ow ds) ∧ ∃ p vs, σ[i]? = some (some (.ref p)) ∧ Hs p = none ∧ H p = some (.lst vs) ∧ IsL K mg Hs ds vs ∧ vs.length ≤ sizeLine := by
  unfold FL.ownAt at e
  split at e
  · rename_i es q
    cases e
    obtain ⟨p, _, e1, e2, e3, vs, rfl, e4, e5⟩ := h.ok i _ q
    exact ⟨q, p, vs, e1, e2, e3, e4, e5⟩
  · cases e
/-- x.append(e) -/
theorem pds_app (i : Nat) {x : Str} {p1 p2 p3 : Pos} (h : PD X T W e m) (hN : X.N[i]? = some x := by rfl) (hv : Vis X.env.scope x := by first | exact Or.inl rfl | exact Or.inr (Or.inl rfl)) (hd : (x == ("__debug__" : Str)) = false := by decide) (hcd : (x == ("__classdict__" : Str)) = false := by decide)
    (hbase : attributeBase (.Name x p1) "append" X.env (eval (.Name x p1) X.env) = eval (.Name x p1) X.env := by rfl)
    (hfew : ((backTo p3 (starEach [e] X.env)).all (fun x => !x.1) && (backToKw p3 (keywordEach [] X.env)).all (fun x => x.1.isSome) && decide ([e].length + ([] : List Keyword).length + (if ([] : List Keyword).isEmpty then 0 else 1) < 30)) = true := by rfl)
    (hline : (p2.endLine == p3.line) = true := by rfl) (hst : starEach [e] X.env = (false, eval e X.env) :: starEach [] X.env := by rfl) (hplain : (backTo p3 (starEach [] X.env)).any (·.1) = false := by rfl)
    (hs : swapsWith (.Call (.Attribute (.Name x p1) "append" p2) [e] [] p3) none pos.line X.env = pure false := by rfl) : PDS X T W (.Expr (.Call (.Attribute (.Name x p1) "append" p2) [e] [] p3) pos) (sApp i m) := by
  obtain ⟨te, pe, ev⟩ := h
  refine ⟨_, ps_expr (pe_bm PySem.F.plainAttrs_list PySem.F.slot_list_append PySem.F.type_list_append mt_append (pe_var hN hv hd hcd) (pa_cons pe pa_nil hst) hbase hfew hline hst hplain) hs, fun ρ Hs0 H0 Hs H σ N fr hp => ?_⟩
  unfold sApp at hp
  cases q : ownAt ρ i with
  | ok ds =>
    rw [q] at hp
    obtain ⟨e0, p, vs, e1, e2, e3, e4, e5⟩ := fr.rp.ownAt q
    refine ⟨_, e1, .inl ⟨rfl, _, .of e3⟩, ev ρ Hs σ H _ fr.rp (PostG.mono (PostS.out fr hp) fun v H1 ⟨Hs1, d, st, is, hp1⟩ => ?_)⟩
    by_cases hl : ds.length < sizeLine
    · rw [if_pos hl] at hp1
      have hv : vs.length < sizeLine := by rw [e4.length]; exact hl
      have e3' : H1 p = some (.lst vs) := st.a.at e3 fun _ z => nomatch z
      have n3' : Hs1 p = none := st.n p (by rw [e3]; exact fun z => nomatch z) e2
      exact ⟨p, vs, v, rfl, rfl, e3', hv, hp1 Hs1 _ σ ((fr.step st).grow e0 e1 e3' n3' ⟨vs, rfl, IsL.mono st.s _ _ e4, e5⟩ ⟨_, rfl, (IsL.mono st.s _ _ e4).snoc is, by rw [List.length_append]; exact hv⟩)⟩
    · rw [if_neg hl] at hp1
      exact hp1.elim
  | er c => unfold ownAt at q; split at q <;> cases q
  | no => rw [q] at hp; exact hp.elim
def sExt (i : Nat) (m : Env → R D) : Env → Oc := fun ρ => (ownAt ρ i).out fun ds => (m ρ).out fun d => match d with
  | .lst es => if ds.length + es.length ≤ sizeLine then Oc.nx (ρ.set i (.ow (ds ++ es))) else .no
  | _ => .no
/-- x.extend(e), e a list -/
theorem pds_ext (i : Nat) {x : Str} {p1 p2 p3 : Pos} (h : PD X T W e m) (hN : X.N[i]? = some x := by rfl) (hv : Vis X.env.scope x := by first | exact Or.inl rfl | exact Or.inr (Or.inl rfl)) (hd : (x == ("__debug__" : Str)) = false := by decide) (hcd : (x == ("__classdict__" : Str)) = false := by decide)
    (hbase : attributeBase (.Name x p1) "extend" X.env (eval (.Name x p1) X.env) = eval (.Name x p1) X.env := by rfl)
    (hfew : ((backTo p3 (starEach [e] X.env)).all (fun x => !x.1) && (backToKw p3 (keywordEach [] X.env)).all (fun x => x.1.isSome) && decide ([e].length + ([] : List Keyword).length + (if ([] : List Keyword).isEmpty then 0 else 1) < 30)) = true := by rfl)
    (hline : (p2.endLine == p3.line) = true := by rfl) (hst : starEach [e] X.env = (false, eval e X.env) :: starEach [] X.env := by rfl) (hplain : (backTo p3 (starEach [] X.env)).any (·.1) = false := by rfl)
    (hs : swapsWith (.Call (.Attribute (.Name x p1) "extend" p2) [e] [] p3) none pos.line X.env = pure false := by rfl) : PDS X T W (.Expr (.Call (.Attribute (.Name x p1) "extend" p2) [e] [] p3) pos) (sExt i m) := by
  obtain ⟨te, pe, ev⟩ := h
  refine ⟨_, ps_expr (pe_bm PySem.F.plainAttrs_list PySem.F.slot_list_extend PySem.F.type_list_extend mt_extend (pe_var hN hv hd hcd) (pa_cons pe pa_nil hst) hbase hfew hline hst hplain) hs, fun ρ Hs0 H0 Hs H σ N fr hp => ?_⟩
  unfold sExt at hp
  cases q : ownAt ρ i with
  | ok ds =>
    rw [q] at hp
    obtain ⟨e0, p, vs, e1, e2, e3, e4, e5⟩ := fr.rp.ownAt q
    refine ⟨_, e1, .inl ⟨rfl, _, .of e3⟩, ev ρ Hs σ H _ fr.rp (PostG.mono (PostS.out fr hp) fun v H1 ⟨Hs1, d, st, is, hp1⟩ => ?_)⟩
    have is : Is X.K X.mg Hs1 d v := is
    cases d with
    | lst es =>
      obtain ⟨b, us, rfl, b1, b2⟩ := is
      have hp1 : PostS X.K X.mg T W (if ds.length + es.length ≤ sizeLine then Oc.nx (ρ.set i (.ow (ds ++ es))) else .no) Hs0 H0 N := hp1
      by_cases hl : ds.length + es.length ≤ sizeLine
      · rw [if_pos hl] at hp1
        have hv : vs.length + us.length ≤ sizeLine := by rw [e4.length, b2.length]; exact hl
        have e3' : H1 p = some (.lst vs) := st.a.at e3 fun _ z => nomatch z
        have n3' : Hs1 p = none := st.n p (by rw [e3]; exact fun z => nomatch z) e2
        exact ⟨p, b, vs, us, rfl, rfl, e3', st.to.sub.at b1 (fun _ z => nomatch z), hv, hp1 Hs1 _ σ ((fr.step st).grow e0 e1 e3' n3' ⟨vs, rfl, IsL.mono st.s _ _ e4, e5⟩ ⟨_, rfl, (IsL.mono st.s _ _ e4).append b2, by rw [List.length_append]; exact hv⟩)⟩
      · rw [if_neg hl] at hp1
        exact hp1.elim
    | _ => exact hp1.elim
  | er c => unfold ownAt at q; split at q <;> cases q
  | no => rw [q] at hp; exact hp.elim
/-- the list of slot i grows no more -/
def frzE (i : Nat) (ρ : Env) : Env := match ρ[i]? with
  | some (.ob (.lst ds)) => ρ.set i (.sh (.lst ds))
  | _ => ρ
theorem Fr.frz {K : PySem.W.Frag} {mg : Str → Option Value} {Hs0 H0 Hs H : Hp} {σ : L2.St} {ρ : Env} (h : Fr K mg T Hs0 H0 Hs H σ ρ) (i : Nat) : ∃ Hs', ExtW Hs Hs' ∧ Fr K mg T Hs0 H0 Hs' H σ (frzE i ρ) := by
  unfold frzE
  split
  · rename_i ds e
    obtain ⟨p, _, e1, e2, e3, vs, rfl, e4, e5⟩ := h.rp.ok i _ e
    have hi : i < ρ.length := (List.getElem?_eq_some_iff.mp e).1
    have h0 : H0 p = none := h.ow i _ p e e1
    have x : ExtW Hs (upd Hs p (.lst vs)) := .new e2
    have to : At T (upd Hs p (.lst vs)) H := by
      refine ⟨fun b u q => ?_, h.rp.to.tab, h.rp.to.sz.upd_ (fun us q => by rcases q with q | q <;> cases q; exact e5) fun _ _ => ⟨(fun z => nomatch z), fun z => nomatch z⟩⟩
      by_cases hb : b = p
      · subst hb
        rw [upd_same] at q
        cases q
        exact .inl e3
      · rw [upd_ne hb] at q
        exact h.rp.to.sub b u q
    have key : ∀ {c : Nat} {cs : Ob}, (ρ.set i (Sl.sh (.lst ds)))[c]? = some (Sl.ob cs) → i ≠ c ∧ ρ[c]? = some (Sl.ob cs) := fun {c cs} e => by
      by_cases z : i = c
      · subst z
        rw [List.getElem?_set_self hi] at e
        cases e
      · rw [List.getElem?_set_ne z] at e
        exact ⟨z, e⟩
    refine ⟨_, x, ⟨⟨to, by rw [List.length_set]; exact h.rp.len, fun j s ej => ?_, fun a b cs fs c n k1 k2 k3 k4 => h.rp.sep a b cs fs c n (key k1).2 (key k2).2 k3 k4⟩, ⟨h.st.s.trans x, h.st.a, to, fun b hb z => ?_⟩, fun j cs c k1 k2 => h.ow j cs c (key k1).2 k2⟩⟩
    · by_cases z : i = j
      · subst z
        rw [List.getElem?_set_self hi] at ej
        cases ej
        exact ⟨_, e1, p, vs, rfl, upd_same, IsL.mono x _ _ e4⟩
      · rw [List.getElem?_set_ne z] at ej
        have k := h.rp.ok j s ej
        cases s with
        | no => trivial
        | sh d =>
          obtain ⟨v, k1, k2⟩ := k
          exact ⟨v, k1, Is.mono x d v k2⟩
        | ob cs =>
          obtain ⟨b, ws, k1, k2, k3, k4⟩ := k
          refine ⟨b, ws, k1, ?_, k3, k4.mono x⟩
          rw [upd_ne]
          · exact k2
          · intro y
            subst y
            exact h.rp.sep i j _ cs b z e ej e1 k1
    · have : b ≠ p := fun q => by rw [q] at hb; exact hb h0
      rw [upd_ne this]
      exact h.st.n b hb z
  · exact ⟨Hs, .refl _, h⟩
theorem pdss_frz (i : Nat) (h : PDSs X T W sts f) : PDSs X T W sts (fun ρ => f (frzE i ρ)) := by
  obtain ⟨t, ps, ev⟩ := h
  refine ⟨t, ps, fun ρ Hs0 H0 Hs H σ N fr hp => ?_⟩
  obtain ⟨Hs', x, fr'⟩ := fr.frz i
  exact ev _ Hs0 H0 Hs' H σ N fr' hp

/-! ### loops -/
def Oc.loop (o : Oc) (f : Env → Oc) : Oc := match o with
  | .nx ρ => f ρ
  | .ct ρ => f ρ
  | .bk ρ => .nx ρ
  | o => o
@[simp] theorem Oc.loop_nx (ρ : Env) (f : Env → Oc) : (Oc.nx ρ).loop f = f ρ := rfl
@[simp] theorem Oc.loop_ct (ρ : Env) (f : Env → Oc) : (Oc.ct ρ).loop f = f ρ := rfl
@[simp] theorem Oc.loop_bk (ρ : Env) (f : Env → Oc) : (Oc.bk ρ).loop f = Oc.nx ρ := rfl
@[simp] theorem Oc.loop_rt (d : D) (f : Env → Oc) : (Oc.rt d).loop f = Oc.rt d := rfl
@[simp] theorem Oc.loop_er (d : Str) (f : Env → Oc) : (Oc.er d).loop f = Oc.er d := rfl
@[simp] theorem Oc.loop_no (f : Env → Oc) : (Oc.no).loop f = Oc.no := rfl
def forGo (t : Tg) (f : Env → Oc) : List D → Env → Oc
  | [], ρ => .nx ρ
  | d :: ds, ρ => t.oc d ρ fun ρ' => (f ρ').loop (forGo t f ds)
def sFor (mi : Env → R (List D)) (t : Tg) (f : Env → Oc) : Env → Oc := fun ρ => (mi ρ).out fun ds => forGo t f ds ρ
theorem pds_for {tg iter : Expr} {t : Tg} {mi : Env → R (List D)} (hi : PDI X T W tg iter mi) (hg : PGF X T tg t) (hb : PDSs X T W sts f) (hp : PassesOwn (model X.prog X.w) X.A X.env X.xe) (hc : X.calm = true) (hs : ∀ x, foldedSetIterable iter X.env x = pure x := by intro _; rfl) :
    PDS X T W (.For tg iter sts [] pos) (sFor mi t f) := by
  obtain ⟨wi, pi, ev⟩ := hi
  obtain ⟨g, pg, evg⟩ := hg
  obtain ⟨tb, ps, evb⟩ := hb
  refine ⟨_, ps_for hp hc pi pg ps hs, fun ρ Hs0 H0 Hs H σ N fr hp => ev ρ Hs σ H _ fr.rp (PostG.mono (PostS.out fr hp) fun J H1 ⟨Hs1, ds, st, it, hp1⟩ => ?_)⟩
  have it : ItD X.K X.mg T J ds Hs1 := it
  refine ⟨fun i m' σ' H' => m' = ds.length - i ∧ i ≤ ds.length ∧ ∃ Hs' ρ', Fr X.K X.mg T Hs0 H0 Hs' H' σ' ρ' ∧ ExtW Hs1 Hs' ∧ PostS X.K X.mg T W (forGo t f (ds.drop i) ρ') Hs0 H0 N,
    ⟨ds.length, by simp, Nat.zero_le _, Hs1, ρ, fr.step st, .refl _, by rw [List.drop_zero]; exact hp1⟩, ?_⟩
  rintro i m' σ' H' ⟨rfl, hi, Hs', ρ', fr', x, hp'⟩
  by_cases hlt : i < ds.length
  · refine .inr ⟨it.go i Hs' H' x fr'.rp.to hlt, fun σ2 H2 => i + 1 ≤ ds.length ∧ ∃ Hs2 ρ2, Fr X.K X.mg T Hs0 H0 Hs2 H2 σ2 ρ2 ∧ ExtW Hs1 Hs2 ∧ PostS X.K X.mg T W (forGo t f (ds.drop (i + 1)) ρ2) Hs0 H0 N,
      fun σ2 H2 ⟨h1, h2⟩ => ⟨ds.length - (i + 1), by omega, rfl, h1, h2⟩, fun v H3 hy => ?_⟩
    obtain ⟨Hs3, d, st3, hd, is⟩ := it.yld i Hs' H' v H3 x fr'.rp.to hlt hy
    have hdrop : ds.drop i = d :: ds.drop (i + 1) := by
      obtain ⟨h1, h2⟩ := List.getElem?_eq_some_iff.mp hd
      rw [List.drop_eq_getElem_cons h1, h2]
    rw [hdrop] at hp'
    have hp' : PostS X.K X.mg T W (t.oc d ρ' fun ρ2 => (f ρ2).loop (forGo t f (ds.drop (i + 1)))) Hs0 H0 N := hp'
    unfold Tg.oc at hp'
    split at hp'
    · rename_i ρ2 e
      have fr3 := fr'.step st3
      -- the body's own end: what is shared grows from Hs3 on
      have x3 : ExtW Hs1 Hs3 := x.trans st3.s
      refine evg d v ρ' ρ2 Hs0 H0 Hs3 σ' H3 _ fr3 is e fun σ4 fr4 => ?_
      have back : ∀ {o : Oc}, PostS X.K X.mg T W (o.loop (forGo t f (ds.drop (i + 1)))) Hs0 H0 N → PostS X.K X.mg T W o Hs3 H0 { N with nx := fun σ2 H2 => i + 1 ≤ ds.length ∧ ∃ Hs2 ρ2, Fr X.K X.mg T Hs0 H0 Hs2 H2 σ2 ρ2 ∧ ExtW Hs1 Hs2 ∧ PostS X.K X.mg T W (forGo t f (ds.drop (i + 1)) ρ2) Hs0 H0 N, ct := fun σ2 H2 => i + 1 ≤ ds.length ∧ ∃ Hs2 ρ2, Fr X.K X.mg T Hs0 H0 Hs2 H2 σ2 ρ2 ∧ ExtW Hs1 Hs2 ∧ PostS X.K X.mg T W (forGo t f (ds.drop (i + 1)) ρ2) Hs0 H0 N, bk := N.nx } := fun {o} h => by
        cases o with
        | nx ρ3 => exact fun Hs6 H6 σ6 fr6 => ⟨hlt, Hs6, ρ3, fr4.rebase fr6, x3.trans fr6.st.s, h⟩
        | ct ρ3 => exact fun Hs6 H6 σ6 fr6 => ⟨hlt, Hs6, ρ3, fr4.rebase fr6, x3.trans fr6.st.s, h⟩
        | bk ρ3 => exact fun Hs6 H6 σ6 fr6 => h Hs6 H6 σ6 (fr4.rebase fr6)
        | rt d => exact fun v Hs6 H6 st6 is6 => h v Hs6 H6 (fr4.st.rebase st6) is6
        | er c => exact fun Hs6 H6 st6 => h Hs6 H6 (fr4.st.rebase st6)
        | no => exact h
      exact evb ρ2 Hs3 H0 Hs3 H3 σ4 _ fr4.mid (back hp')
    · exact hp'.elim
  · have e : i = ds.length := by omega
    subst e
    rw [List.drop_length] at hp'
    exact .inl ⟨it.stop _ Hs' H' x fr'.rp.to (Nat.le_refl _), hp' Hs' H' σ' fr'⟩
/-- while, at most so many turns -/
def whGo (mt : Env → R Bool) (f : Env → Oc) : Nat → Env → Oc
  | 0, _ => .no
  | n + 1, ρ => (mt ρ).out fun b => if b = true then (f ρ).loop (whGo mt f n) else .nx ρ
def sWhile (fu : Env → Nat) (mt : Env → R Bool) (f : Env → Oc) : Env → Oc := fun ρ => whGo mt f (fu ρ) ρ
theorem pds_while {c : Expr} (fu : Env → Nat) (hcn : PTD X T W c mt) (hb : PDSs X T W sts f) (hp : PassesOwn (model X.prog X.w) X.A X.env X.xe) : PDS X T W (.While c sts [] pos) (sWhile fu mt f) := by
  obtain ⟨tc, pc, evc⟩ := hcn
  obtain ⟨tb, ps, evb⟩ := hb
  refine ⟨_, ps_while hp pc ps, fun ρ Hs0 H0 Hs H σ N fr hp => ?_⟩
  refine ⟨fun n σ' H' => ∃ Hs' ρ', Fr X.K X.mg T Hs0 H0 Hs' H' σ' ρ' ∧ PostS X.K X.mg T W (whGo mt f n ρ') Hs0 H0 N, ⟨fu ρ, Hs, ρ, fr, hp⟩, ?_⟩
  rintro n σ' H' ⟨Hs', ρ', fr', hp'⟩
  cases n with
  | zero => exact hp'.elim
  | succ n =>
    refine evc ρ' Hs' σ' H' _ fr'.rp (PostG.mono (PostS.out fr' hp') fun b H1 ⟨Hs1, d, st, is, hp1⟩ => ?_)
    cases is
    have fr1 := fr'.step st
    cases b with
    | false =>
      rw [if_neg Bool.false_ne_true] at hp1 ⊢
      exact hp1 Hs1 H1 σ' fr1
    | true =>
      rw [if_pos rfl] at hp1 ⊢
      refine ⟨fun σ2 H2 => ∃ Hs2 ρ2, Fr X.K X.mg T Hs0 H0 Hs2 H2 σ2 ρ2 ∧ PostS X.K X.mg T W (whGo mt f n ρ2) Hs0 H0 N, fun σ2 H2 h => ⟨n, by omega, h⟩, evb ρ' Hs0 H0 Hs1 H1 σ' _ fr1 ?_⟩
      cases q : f ρ' with
      | nx ρ3 => rw [q] at hp1; exact fun Hs6 H6 σ6 fr6 => ⟨Hs6, ρ3, fr6, hp1⟩
      | ct ρ3 => rw [q] at hp1; exact fun Hs6 H6 σ6 fr6 => ⟨Hs6, ρ3, fr6, hp1⟩
      | bk ρ3 => rw [q] at hp1; exact hp1
      | rt d => rw [q] at hp1; exact hp1
      | er c => rw [q] at hp1; exact hp1
      | no => rw [q] at hp1; exact hp1.elim

/-! ### raise -/
/-- an own class under ValueError without an __init__ -/
structure ExcF (K : PySem.W.Frag) (mg : Str → Option Value) (x : Str) : Prop where
  ex : ∃ C, mg x = some (.ref C) ∧ PySem.W.excIn K C He.veBase "ValueError.__new__" = true ∧ PySem.W.keepIn K (.ref C) = true ∧ PySem.W.subIn K (.ref C) (.type "BaseException") = some true ∧ PySem.W.typeIn K (.ref C) = some (.type "type")
theorem pds_raise {x msg : Str} {j : Nat} {p1 p2 p3 : Pos} (E : ExcF X.K X.mg x) (hc : X.calm = true) (tk : L2N.Takes X (fun cls d _ H => EW X.mg W cls d H)) (hg : Gl X x) (hdb : (x == ("__debug__" : Str)) = false := by decide) :
    PDS X T W (.Raise (some (.Call (.Name x p1) [.Constant (.str msg) j p2] [] p3)) none pos) (fun _ => Oc.er x) := by
  obtain ⟨C, gC, hq, kC, sC, tC⟩ := E.ex
  refine ⟨_, L2N.ps_raise hc tk (L2N.pmk_own PySem.F.excBase_ValueError hq gC kC (raises_own sC tC) hg hdb), fun ρ Hs0 H0 Hs H σ N fr hp => ?_⟩
  exact ⟨x, gC, rfl, hp Hs H fr.st⟩
end

/-! ### defs -/
def runF (N n : Nat) (f : Env → Oc) : List D → R D := fun ds => if ds.length = n then (match f (ds.map Sl.sh ++ List.replicate (N - n) Sl.no) with
  | .rt d => .ok d
  | .nx _ => .ok .non
  | .er c => .er c
  | _ => .no) else .no
theorem start_rp {K : PySem.W.Frag} {mg : Str → Option Value} {T : List (Addr × Str)} {Hs H : Hp} {N : List Str} {n : Nat} {ds : List D} {vs : List V} (to : At T Hs H) (is : IsL K mg Hs ds vs) (hl : ds.length = n) (hn : n ≤ N.length) :
    Rp K mg T Hs H (L2.start N vs) (ds.map Sl.sh ++ List.replicate (N.length - n) Sl.no) := by
  have hv := is.length
  have noow : ∀ (i : Nat) (es : Ob), (ds.map Sl.sh ++ List.replicate (N.length - n) Sl.no)[i]? ≠ some (Sl.ob es) := fun i es e => by
    by_cases hi : i < ds.length
    · rw [List.getElem?_append_left (by rw [List.length_map]; exact hi), List.getElem?_map, List.getElem?_eq_getElem hi] at e
      cases e
    · rw [List.getElem?_append_right (by rw [List.length_map]; omega), List.getElem?_replicate] at e
      split at e <;> cases e
  refine ⟨to, ?_, fun i s e => ?_, fun i j es fs p n e => absurd e (noow i es)⟩
  · unfold L2.start
    rw [List.length_append, List.length_map, List.length_replicate, List.length_append, List.length_map, List.length_replicate, hv, hl]
  · by_cases hi : i < ds.length
    · rw [List.getElem?_append_left (by rw [List.length_map]; exact hi), List.getElem?_map, List.getElem?_eq_getElem hi] at e
      cases e
      obtain ⟨v, e1, e2⟩ := is.get (List.getElem?_eq_getElem hi)
      refine ⟨v, ?_, e2⟩
      unfold L2.start
      rw [List.getElem?_append_left (by rw [List.length_map, hv]; exact hi), List.getElem?_map, e1] <;> rfl
    · rw [List.getElem?_append_right (by rw [List.length_map]; omega), List.getElem?_replicate] at e
      split at e
      · cases e; trivial
      · cases e
/-- A DEF BY ITS BODY -/
theorem fn_okD {P : Program} {w : World} {K : PySem.W.Frag} {mg : Str → Option Value} {base : Heap} {T : List (Addr × Str)} {x qual : Str} {params : Arguments} {body : List Stmt} {scope : Scope} {kws : List (Str × V)} {f : Addr} {fd : FuncData} {N ps : List Str} {k : Nat} {m : Env → Oc}
    (F : FunD K x qual params body scope [] kws f fd) (S : FnScope N ps scope)
    (hbody : ∀ (cdv : Value) (A : Around) (outer : List PySem.Env) (s : Shared) (H : Hp) (E : XK), Cg (cxOf (L2N.CX P w) P w K mg base N qual scope f cdv A outer s H E) (Wof mg E) k → L2N.Takes (cxOf (L2N.CX P w) P w K mg base N qual scope f cdv A outer s H E) (fun cls d _ H => EW mg (Wof mg E) cls d H) →
      PassesOwn (model P w) (A.deeper (envOfC qual scope s.heap.objs.size f cdv)) (envOfC qual scope s.heap.objs.size f cdv) (cxOf (L2N.CX P w) P w K mg base N qual scope f cdv A outer s H E).xe →
      PDSs (cxOf (L2N.CX P w) P w K mg base N qual scope f cdv A outer s H E) T (Wof mg E) body m) :
    FnOk P w K mg base (L2N.CX P w) (k + 1) f fd ps (spD K mg T ps.length (runF N.length ps.length m)) := by
  have hpl : ps.length ≤ N.length := by have := congrArg List.length S.pre; rw [List.length_take] at this; omega
  refine F.ok S spD_len fun cdv A outer s H vs Q E hr h => ?_
  have tk : L2N.Takes (cxOf (L2N.CX P w) P w K mg base N qual scope f cdv A outer s H E) (fun cls d _ H => EW mg (Wof mg E) cls d H) := (L2N.takes_of rfl rfl rfl rfl).imp fun cls d σ H ⟨c, h1, h2, h3⟩ => by subst h2; exact h3 cls h1
  have cg : Cg (cxOf (L2N.CX P w) P w K mg base N qual scope f cdv A outer s H E) (Wof mg E) k := ⟨S.nd, rfl, hr, L2N.passes_call (E := EW mg (Wof mg E)) tk fun cls d σ H h => h⟩
  obtain ⟨t, ps', ev⟩ := hbody cdv A outer s H E cg tk (passes_of rfl)
  refine ⟨t, ps', ?_⟩
  obtain ⟨Hs, ds, to, is, hl, hp⟩ := h
  have rp := start_rp (N := N) (K := K) (mg := mg) to is hl hpl
  refine ev _ Hs H Hs H _ _ ⟨rp, .refl to, fun i es p e => ?_⟩ ?_
  · exfalso
    by_cases hi : i < ds.length
    · rw [List.getElem?_append_left (by rw [List.length_map]; exact hi), List.getElem?_map, List.getElem?_eq_getElem hi] at e
      cases e
    · rw [List.getElem?_append_right (by rw [List.length_map]; omega), List.getElem?_replicate] at e
      split at e <;> cases e
  · unfold runF at hp
    rw [if_pos hl] at hp
    cases q : m (ds.map Sl.sh ++ List.replicate (N.length - ps.length) Sl.no) with
    | rt d => rw [q] at hp; exact fun v Hs' H' st is => hp v Hs' H' st is
    | nx ρ => rw [q] at hp; exact fun Hs' H' σ' fr => hp .non Hs' H' fr.st rfl
    | er c => rw [q] at hp; exact fun Hs' H' st => hp Hs' H' st
    | bk ρ => rw [q] at hp; exact hp.elim
    | ct ρ => rw [q] at hp; exact hp.elim
    | no => rw [q] at hp; exact hp.elim
end FL
set_option maxHeartbeats 4000000
/-! FL6: built-in calls, methods of lists. -/
namespace FL
open PySem PySem.Spec PyProof.Rows L2
section
variable {X : Cx} {T : List (Addr × Str)} {W : Str → Hp → Prop} {e a b : Expr} {es : List Expr} {m ma mb : Env → R D} {pos p : Pos}
/-- a built-in of one value does g -/
def Cal1 (X : Cx) (T : List (Addr × Str)) (f : Value) (g : D → R D) : Prop := ∃ r, CallR X f r ∧ ∀ (W : Str → Hp → Prop) d x Hs H Q, At T Hs H → IsT X.K X.mg Hs H d x → PostG T (rIs X.K X.mg) W (g d) Hs H Q → r [x] H Q
def Cal2 (X : Cx) (T : List (Addr × Str)) (f : Value) (g : D → D → R D) : Prop := ∃ r, CallR X f r ∧ ∀ (W : Str → Hp → Prop) d d2 x y Hs H Q, At T Hs H → IsT X.K X.mg Hs H d x → IsT X.K X.mg Hs H d2 y → PostG T (rIs X.K X.mg) W (g d d2) Hs H Q → r [x, y] H Q
def mUn (g : D → R D) (m : Env → R D) : Env → R D := fun ρ => (m ρ).bind g
theorem pd_b1 {x : Str} {id : String} {g : D → R D} (c : Cal1 X T (.builtin id) g) (hg : Gl X x) (hm : X.mg x = none) (hv : bootBuiltins x = some (.builtin id)) (ha : PDt X T W a ma) (hn : x ≠ "__name__" := by decide) (hdb : (x == ("__debug__" : Str)) = false := by decide)
    (hs : starEach [a] X.env = (false, eval a X.env) :: starEach [] X.env := by rfl) (hpl : (backTo pos (starEach [] X.env)).any (·.1) = false := by rfl) : PD X T W (.Call (.Name x p) [a] [] pos) (mUn g ma) := by
  obtain ⟨r, hr, er⟩ := c
  obtain ⟨ta, pa, ea⟩ := ha
  refine ⟨_, pe_callB hr hg hm hv (pa_cons pa pa_nil hs) hn hdb hs hpl, fun ρ Hs σ H Q rp hp => ea ρ Hs σ H _ rp (PostG.mono (PostG.bind hp) fun v H1 ⟨Hs1, d, st, is, hp1⟩ => er W d v Hs1 H1 Q st.to is hp1)⟩
theorem pd_t1 {x : Str} {id : String} {g : D → R D} (c : Cal1 X T (.type id) g) (hg : Gl X x) (hm : X.mg x = none) (hv : bootBuiltins x = some (.type id)) (ha : PDt X T W a ma) (hn : x ≠ "__name__" := by decide) (hdb : (x == ("__debug__" : Str)) = false := by decide)
    (hs : starEach [a] X.env = (false, eval a X.env) :: starEach [] X.env := by rfl) (hpl : (backTo pos (starEach [] X.env)).any (·.1) = false := by rfl) : PD X T W (.Call (.Name x p) [a] [] pos) (mUn g ma) := by
  obtain ⟨r, hr, er⟩ := c
  obtain ⟨ta, pa, ea⟩ := ha
  refine ⟨_, pe_callTy hr hg hm hv (pa_cons pa pa_nil hs) hn hdb hs hpl, fun ρ Hs σ H Q rp hp => ea ρ Hs σ H _ rp (PostG.mono (PostG.bind hp) fun v H1 ⟨Hs1, d, st, is, hp1⟩ => er W d v Hs1 H1 Q st.to is hp1)⟩
theorem pd_b2 {x : Str} {id : String} {g : D → D → R D} (c : Cal2 X T (.builtin id) g) (hg : Gl X x) (hm : X.mg x = none) (hv : bootBuiltins x = some (.builtin id)) (ha : PDt X T W a ma) (hb : PDt X T W b mb) (hn : x ≠ "__name__" := by decide) (hdb : (x == ("__debug__" : Str)) = false := by decide)
    (hs : starEach [a, b] X.env = (false, eval a X.env) :: starEach [b] X.env := by rfl) (hs2 : starEach [b] X.env = (false, eval b X.env) :: starEach [] X.env := by rfl) (hpl : (backTo pos (starEach [b] X.env)).any (·.1) = false := by rfl) : PD X T W (.Call (.Name x p) [a, b] [] pos) (mBin g ma mb) := by
  obtain ⟨r, hr, er⟩ := c
  obtain ⟨ta, pa, ea⟩ := ha
  obtain ⟨tb, pb, eb⟩ := hb
  refine ⟨_, pe_callB hr hg hm hv (pa_cons pa (pa_cons pb pa_nil hs2) hs) hn hdb hs hpl, fun ρ Hs σ H Q rp hp => ea ρ Hs σ H _ rp (PostG.mono (PostG.bind hp) fun v H1 ⟨Hs1, d, st, is, hp1⟩ => eb ρ Hs1 σ H1 _ (rp.step st) (PostG.mono (PostG.bind hp1) fun u H2 ⟨Hs2, d2, st2, is2, hp2⟩ => er W d d2 v u Hs2 H2 Q st2.to (is.step st2) is2 hp2))⟩

/-! ### len -/
def lenD : D → R D
  | .lst ds => .ok (.int (ds.length : Nat))
  | .tup ds => .ok (.int (ds.length : Nat))
  | .scr ns => .ok (.int (ns.length : Nat))
  | _ => .no
theorem c_len : Cal1 X T (.builtin "len") lenD := by
  refine ⟨_, call_len_seq, fun W d x Hs H Q to is hp => ?_⟩
  cases d with
  | lst ds =>
    obtain ⟨p, vs, rfl, p1, p3, p4⟩ := is.lst to
    refine ⟨p, vs, rfl, .inl (.of p1), ?_⟩
    rw [p3.length]
    exact PostG.ret (rel := rIs X.K X.mg) hp to rfl
  | tup ds =>
    obtain ⟨p, vs, rfl, p1, p2, p3, p4⟩ := is.tup to
    refine ⟨p, vs, rfl, .inr p1, ?_⟩
    rw [p3.length]
    exact PostG.ret (rel := rIs X.K X.mg) hp to rfl
  | scr ns =>
    obtain ⟨p, rfl, p1⟩ := is.full to
    refine ⟨p, _, rfl, .inl p1, ?_⟩
    rw [List.length_map]
    exact PostG.ret (rel := rIs X.K X.mg) hp to rfl
  | _ => exact hp.elim

/-! ### sum, min, max, all, any, sorted of lists -/
def intsOf (g : List Int → R D) : D → R D
  | .lst ds => match asInts ds with
    | some ns => g ns
    | none => .no
  | _ => .no
@[simp] theorem intsOf_map (g : List Int → R D) (ns : List Int) : intsOf g (.lst (ns.map D.int)) = g ns := by
  unfold intsOf
  simp only [asInts_map]
theorem ints_of {g : List Int → R D} {d : D} {x : V} {Hs H : Hp} {Q : VK} {W : Str → Hp → Prop} (to : At T Hs H) (is : IsT X.K X.mg Hs H d x) (hp : PostG T (rIs X.K X.mg) W (intsOf g d) Hs H Q) : ∃ a ns, x = .ref a ∧ SqL X.K H a (ns.map V.int) ∧ ns.length ≤ sizeLine ∧ PostG T (rIs X.K X.mg) W (g ns) Hs H Q := by
  cases d with
  | lst ds =>
    unfold intsOf at hp
    cases e : asInts ds with
    | none => simp only [e] at hp; exact hp.elim
    | some ns =>
      simp only [e] at hp
      have e := asInts_eq e
      subst e
      obtain ⟨p, vs, rfl, p1, p3, p4⟩ := is.lst to
      have e3 := p3.ints
      subst e3
      exact ⟨p, ns, rfl, .of p1, by rw [List.length_map] at p4; exact p4, hp⟩
  | _ => exact hp.elim
def sumD : D → R D := intsOf fun ns => .ok (.int ns.sum)
theorem c_sum (hc : X.calm = true) : Cal1 X T (.builtin "sum") sumD := by
  refine ⟨_, cr_sum hc, fun W d x Hs H Q to is hp => ?_⟩
  obtain ⟨a, ns, rfl, h1, _, h2⟩ := ints_of to is hp
  exact ⟨a, ns, rfl, h1, PostG.ret (rel := rIs X.K X.mg) h2 to rfl⟩
def minI : Int → List Int → Int
  | n, [] => n
  | n, m :: r => minI (if m < n then m else n) r
def maxI : Int → List Int → Int
  | n, [] => n
  | n, m :: r => maxI (if n < m then m else n) r
theorem minI_le : ∀ (r : List Int) (n : Int), minI n r ≤ n ∧ (∀ y ∈ r, minI n r ≤ y) ∧ minI n r ∈ n :: r
  | [], n => ⟨Int.le_refl _, (fun _ h => nomatch h), List.mem_cons_self⟩
  | m :: r, n => by
    obtain ⟨h1, h2, h3⟩ := minI_le r (if m < n then m else n)
    have key : (if m < n then m else n) ≤ n ∧ (if m < n then m else n) ≤ m := by split <;> omega
    refine ⟨Int.le_trans h1 key.1, fun y hy => ?_, ?_⟩
    · rcases List.mem_cons.mp hy with e | hy
      · rw [e]; exact Int.le_trans h1 key.2
      · exact h2 y hy
    · show minI (if m < n then m else n) r ∈ n :: m :: r
      rcases List.mem_cons.mp h3 with e | h3
      · rw [e]
        split
        · exact List.mem_cons_of_mem _ List.mem_cons_self
        · exact List.mem_cons_self
      · exact List.mem_cons_of_mem _ (List.mem_cons_of_mem _ h3)
theorem maxI_le : ∀ (r : List Int) (n : Int), n ≤ maxI n r ∧ (∀ y ∈ r, y ≤ maxI n r) ∧ maxI n r ∈ n :: r
  | [], n => ⟨Int.le_refl _, (fun _ h => nomatch h), List.mem_cons_self⟩
  | m :: r, n => by
    obtain ⟨h1, h2, h3⟩ := maxI_le r (if n < m then m else n)
    have key : n ≤ (if n < m then m else n) ∧ m ≤ (if n < m then m else n) := by split <;> omega
    refine ⟨Int.le_trans key.1 h1, fun y hy => ?_, ?_⟩
    · rcases List.mem_cons.mp hy with e | hy
      · rw [e]; exact Int.le_trans key.2 h1
      · exact h2 y hy
    · show maxI (if n < m then m else n) r ∈ n :: m :: r
      rcases List.mem_cons.mp h3 with e | h3
      · rw [e]
        split
        · exact List.mem_cons_of_mem _ List.mem_cons_self
        · exact List.mem_cons_self
      · exact List.mem_cons_of_mem _ (List.mem_cons_of_mem _ h3)
def minLD : D → R D := intsOf fun ns => match ns with
  | [] => .no
  | n :: r => .ok (.int (minI n r))
def maxLD : D → R D := intsOf fun ns => match ns with
  | [] => .no
  | n :: r => .ok (.int (maxI n r))
theorem c_min (hc : X.calm = true) : Cal1 X T (.builtin "min") minLD := by
  refine ⟨_, cr_min hc, fun W d x Hs H Q to is hp => ?_⟩
  obtain ⟨a, ns, rfl, h1, _, h2⟩ := ints_of to is hp
  cases ns with
  | nil => exact h2.elim
  | cons n r =>
    refine ⟨a, n :: r, rfl, h1, by simp, fun m hm hle => ?_⟩
    obtain ⟨k1, k2, k3⟩ := minI_le r n
    have e : m = minI n r := Int.le_antisymm (hle _ k3) (by
      rcases List.mem_cons.mp hm with q | q
      · rw [q]; exact k1
      · exact k2 m q)
    subst e
    exact PostG.ret (rel := rIs X.K X.mg) h2 to rfl
theorem c_max (hc : X.calm = true) : Cal1 X T (.builtin "max") maxLD := by
  refine ⟨_, cr_max hc, fun W d x Hs H Q to is hp => ?_⟩
  obtain ⟨a, ns, rfl, h1, _, h2⟩ := ints_of to is hp
  cases ns with
  | nil => exact h2.elim
  | cons n r =>
    refine ⟨a, n :: r, rfl, h1, by simp, fun m hm hle => ?_⟩
    obtain ⟨k1, k2, k3⟩ := maxI_le r n
    have e : m = maxI n r := Int.le_antisymm (by
      rcases List.mem_cons.mp hm with q | q
      · rw [q]; exact k1
      · exact k2 m q) (hle _ k3)
    subst e
    exact PostG.ret (rel := rIs X.K X.mg) h2 to rfl
def asBls : List D → Option (List Bool)
  | [] => some []
  | .bl i :: r => (asBls r).map (i :: ·)
  | _ :: _ => none
theorem asBls_eq : ∀ {ds : List D} {ns : List Bool}, asBls ds = some ns → ds = ns.map D.bl
  | [], _, h => by cases h; rfl
  | d :: ds, ns, h => by
    cases d with
    | bl i =>
      unfold asBls at h
      cases e : asBls ds with
      | none => rw [e] at h; cases h
      | some ms =>
        rw [e] at h; cases h
        rw [asBls_eq e] <;> rfl
    | _ => cases h
@[simp] theorem asBls_map : ∀ ns : List Bool, asBls (ns.map D.bl) = some ns
  | [] => rfl
  | n :: ns => by
    show (asBls (ns.map D.bl)).map (n :: ·) = _
    rw [asBls_map ns] <;> rfl
def blsOf (g : List Bool → R D) : D → R D
  | .lst ds => match asBls ds with
    | some ns => g ns
    | none => .no
  | _ => .no
@[simp] theorem blsOf_map (g : List Bool → R D) (ns : List Bool) : blsOf g (.lst (ns.map D.bl)) = g ns := by
  unfold blsOf
  simp only [asBls_map]
theorem bls_of {g : List Bool → R D} {d : D} {x : V} {Hs H : Hp} {Q : VK} {W : Str → Hp → Prop} (to : At T Hs H) (is : IsT X.K X.mg Hs H d x) (hp : PostG T (rIs X.K X.mg) W (blsOf g d) Hs H Q) : ∃ a ns, x = .ref a ∧ SqL X.K H a (ns.map V.bl) ∧ PostG T (rIs X.K X.mg) W (g ns) Hs H Q := by
  cases d with
  | lst ds =>
    unfold blsOf at hp
    cases e : asBls ds with
    | none => simp only [e] at hp; exact hp.elim
    | some ns =>
      simp only [e] at hp
      have e := asBls_eq e
      subst e
      obtain ⟨p, vs, rfl, p1, p3, p4⟩ := is.lst to
      have e3 := p3.bls
      subst e3
      exact ⟨p, ns, rfl, .of p1, hp⟩
  | _ => exact hp.elim
def allD : D → R D := blsOf fun bs => .ok (.bl (bs.all id))
def anyD : D → R D := blsOf fun bs => .ok (.bl (bs.any id))
theorem c_all (hc : X.calm = true) : Cal1 X T (.builtin "all") allD := by
  refine ⟨_, cr_all hc, fun W d x Hs H Q to is hp => ?_⟩
  obtain ⟨a, ns, rfl, h1, h2⟩ := bls_of to is hp
  exact ⟨a, ns, rfl, h1, PostG.ret (rel := rIs X.K X.mg) h2 to rfl⟩
theorem c_any (hc : X.calm = true) : Cal1 X T (.builtin "any") anyD := by
  refine ⟨_, cr_any hc, fun W d x Hs H Q to is hp => ?_⟩
  obtain ⟨a, ns, rfl, h1, h2⟩ := bls_of to is hp
  exact ⟨a, ns, rfl, h1, PostG.ret (rel := rIs X.K X.mg) h2 to rfl⟩
def insI (n : Int) : List Int → List Int
  | [] => [n]
  | m :: r => if n ≤ m then n :: m :: r else m :: insI n r
def sortI : List Int → List Int
  | [] => []
  | n :: r => insI n (sortI r)
theorem insI_perm (n : Int) : ∀ r : List Int, (insI n r).Perm (n :: r)
  | [] => .refl _
  | m :: r => by
    unfold insI
    split
    · exact .refl _
    · exact ((insI_perm n r).cons m).trans (.swap n m r)
theorem sortI_perm : ∀ r : List Int, (sortI r).Perm r
  | [] => .refl _
  | n :: r => (insI_perm n (sortI r)).trans ((sortI_perm r).cons n)
theorem insI_sorted (n : Int) : ∀ r : List Int, r.Pairwise (· ≤ ·) → (insI n r).Pairwise (· ≤ ·)
  | [], _ => by simp [insI]
  | m :: r, h => by
    unfold insI
    obtain ⟨h1, h2⟩ := List.pairwise_cons.mp h
    split
    · rename_i hn
      refine List.pairwise_cons.mpr ⟨fun y hy => ?_, h⟩
      rcases List.mem_cons.mp hy with e | hy
      · rw [e]; exact hn
      · exact Int.le_trans hn (h1 y hy)
    · rename_i hn
      refine List.pairwise_cons.mpr ⟨fun y hy => ?_, insI_sorted n r h2⟩
      rcases List.mem_cons.mp ((insI_perm n r).mem_iff.mp hy) with e | hy
      · rw [e]; omega
      · exact h1 y hy
theorem sortI_sorted : ∀ r : List Int, (sortI r).Pairwise (· ≤ ·)
  | [] => List.Pairwise.nil
  | n :: r => insI_sorted n _ (sortI_sorted r)
theorem sorted_uniq : ∀ {xs ys : List Int}, xs.Perm ys → xs.Pairwise (· ≤ ·) → ys.Pairwise (· ≤ ·) → xs = ys
  | [], ys, p, _, _ => by rw [List.nil_perm.mp p]
  | x :: xs, [], p, _, _ => absurd p.length_eq (by simp)
  | x :: xs, y :: ys, p, h, q => by
    obtain ⟨h1, h2⟩ := List.pairwise_cons.mp h
    obtain ⟨q1, q2⟩ := List.pairwise_cons.mp q
    have e : x = y := Int.le_antisymm
      (by rcases List.mem_cons.mp (p.mem_iff.mpr List.mem_cons_self) with z | z
          · rw [z]; exact Int.le_refl _
          · exact h1 y z)
      (by rcases List.mem_cons.mp (p.mem_iff.mp List.mem_cons_self) with z | z
          · rw [z]; exact Int.le_refl _
          · exact q1 x z)
    subst e
    rw [sorted_uniq (List.perm_cons x |>.mp p) h2 q2]
def sortD : D → R D := intsOf fun ns => .ok (.lst ((sortI ns).map D.int))
theorem c_sorted : Cal1 X T (.builtin "sorted") sortD := by
  refine ⟨_, cr_sortedI, fun W d x Hs H Q to is hp => ?_⟩
  obtain ⟨a, ns, rfl, h1, hz, h2⟩ := ints_of to is hp
  refine ⟨a, ns, rfl, h1, fun ns' p k1 k2 hpn => ?_⟩
  have e : ns' = sortI ns := sorted_uniq (k1.trans (sortI_perm ns).symm) k2 (sortI_sorted ns)
  subst e
  have st := Step.lst (vs := (sortI ns).map V.int) to hpn (by rw [List.length_map, (sortI_perm ns).length_eq]; exact hz)
  exact h2 _ _ _ st ⟨p, _, rfl, upd_same, IsL.of_ints⟩

/-! ### abs, max, min of two, int, tuple, list -/
def absD : D → R D
  | .int i => .ok (.int (if i < 0 then -i else i))
  | _ => .no
theorem c_abs : Cal1 X T (.builtin "abs") absD := by
  refine ⟨_, call_abs, fun W d x Hs H Q to is hp => ?_⟩
  cases d with
  | int i =>
    cases is.flat (fun _ z => nomatch z)
    exact ⟨i, rfl, PostG.ret (rel := rIs X.K X.mg) hp to rfl⟩
  | _ => exact hp.elim
def max2D : D → D → R D := intsD (fun _ _ => true) fun i j => .int (if j > i then j else i)
def min2D : D → D → R D := intsD (fun _ _ => true) fun i j => .int (if j < i then j else i)
theorem c_ints2 {f : Value} {g : Int → Int → D} {g' : Int → Int → V} (hgg : ∀ i j, ∃ k, g i j = .int k ∧ g' i j = .int k) (h : CallR X f (fun xs H Q => ∃ i j, xs = [.int i, .int j] ∧ Q (g' i j) H)) : Cal2 X T f (intsD (fun _ _ => true) g) := by
  refine ⟨_, h, fun W d d2 x y Hs H Q to is is2 hp => ?_⟩
  unfold intsD at hp
  split at hp
  · rename_i i j
    cases is.flat (fun _ z => nomatch z)
    cases is2.flat (fun _ z => nomatch z)
    obtain ⟨k, e1, e2⟩ := hgg i j
    refine ⟨i, j, rfl, ?_⟩
    rw [if_pos rfl, e1] at hp
    rw [e2]
    exact PostG.ret (rel := rIs X.K X.mg) hp to rfl
  · exact hp.elim
theorem c_max2 (hc : X.calm = true) : Cal2 X T (.builtin "max") max2D := c_ints2 (fun i j => ⟨_, rfl, rfl⟩) (call_max2 hc)
theorem c_min2 (hc : X.calm = true) : Cal2 X T (.builtin "min") min2D := c_ints2 (fun i j => ⟨_, rfl, rfl⟩) (call_min2 hc)
def intD : D → R D
  | .int i => .ok (.int i)
  | .bl b => .ok (.int (if b then 1 else 0))
  | _ => .no
theorem c_int : Cal1 X T (.type "int") intD := by
  refine ⟨_, call_int1, fun W d x Hs H Q to is hp => ?_⟩
  cases d with
  | int i =>
    cases is.flat (fun _ z => nomatch z)
    exact .inl ⟨i, rfl, PostG.ret (rel := rIs X.K X.mg) hp to rfl⟩
  | bl b =>
    cases is.flat (fun _ z => nomatch z)
    exact .inr ⟨b, rfl, PostG.ret (rel := rIs X.K X.mg) hp to rfl⟩
  | _ => exact hp.elim
def tupD : D → R D
  | .lst ds => .ok (.tup ds)
  | .tup ds => .ok (.tup ds)
  | _ => .no
theorem c_tuple : Cal1 X T (.type "tuple") tupD := by
  refine ⟨_, call_tuple_of, fun W d x Hs H Q to is hp => ?_⟩
  cases d with
  | lst ds =>
    obtain ⟨p, vs, rfl, p1, p3, p4⟩ := is.lst to
    refine ⟨p, vs, rfl, .inl ⟨.of p1, fun c hc => ?_⟩⟩
    have st := Step.tup to hc p4
    exact (show PostG T (rIs X.K X.mg) W (.ok (.tup ds)) Hs H Q from hp) _ _ _ st ⟨c, _, rfl, .of upd_same, IsL.mono st.s _ _ p3⟩
  | tup ds =>
    obtain ⟨p, vs, rfl, p1, p2, p3, p4⟩ := is.tup to
    exact ⟨p, vs, rfl, .inr ⟨p1, PostG.ret (rel := rIs X.K X.mg) hp to ⟨p, vs, rfl, p2, p3⟩⟩⟩
  | _ => exact hp.elim
def lstD : D → R D
  | .lst ds => .ok (.lst ds)
  | .tup ds => .ok (.lst ds)
  | _ => .no
theorem c_list : Cal1 X T (.type "list") lstD := by
  refine ⟨_, call_list_of, fun W d x Hs H Q to is hp => ?_⟩
  cases d with
  | lst ds =>
    obtain ⟨p, vs, rfl, p1, p3, p4⟩ := is.lst to
    refine ⟨p, vs, rfl, .inl (.of p1), fun c hc => ?_⟩
    have st := Step.lst to hc p4
    exact (show PostG T (rIs X.K X.mg) W (.ok (.lst ds)) Hs H Q from hp) _ _ _ st ⟨c, _, rfl, upd_same, IsL.mono st.s _ _ p3⟩
  | tup ds =>
    obtain ⟨p, vs, rfl, p1, p2, p3, p4⟩ := is.tup to
    refine ⟨p, vs, rfl, .inr p1, fun c hc => ?_⟩
    have st := Step.lst to hc p4
    exact (show PostG T (rIs X.K X.mg) W (.ok (.lst ds)) Hs H Q from hp) _ _ _ st ⟨c, _, rfl, upd_same, IsL.mono st.s _ _ p3⟩
  | _ => exact hp.elim

/-! ### isinstance(x, T), T a built-in type -/
def tyN : D → String
  | .non => "NoneType"
  | .bl _ => "bool"
  | .int _ => "int"
  | .str _ => "str"
  | .fn _ => ""
  | .scr _ => ""
  | .adr _ => ""
  | .tup _ => "tuple"
  | .lst _ => "list"
def isiD (T : String) (d : D) : R D := if tyN d = "" then .no else match kitB (tyN d) T with
  | some b => .ok (.bl b)
  | none => .no
theorem tyX_of {Hs H : Hp} {d : D} {x : V} (to : At T Hs H) (is : IsT X.K X.mg Hs H d x) (h : tyN d ≠ "") : TyX X.K H x (.type (tyN d)) := by
  cases d with
  | non => cases is.flat (fun _ z => nomatch z); exact .base .non
  | bl b => cases is.flat (fun _ z => nomatch z); exact .base (.bl b)
  | int i => cases is.flat (fun _ z => nomatch z); exact .base (.int i)
  | str i => cases is.flat (fun _ z => nomatch z); exact .base (.str i)
  | fn _ => exact absurd rfl h
  | scr _ => exact absurd rfl h
  | adr _ => exact absurd rfl h
  | lst ds =>
    obtain ⟨p, vs, rfl, p1, p3, p4⟩ := is.lst to
    exact .base (.lst p1)
  | tup ds =>
    obtain ⟨p, vs, rfl, p1, p2, p3, p4⟩ := is.tup to
    rcases p1 with (p1 | ⟨o, p1⟩) | ⟨o, its, n, k1, k2, _⟩
    · exact .base (.tup p1)
    · exact .fTuple p1
    · exact .kTuple k1 k2
theorem pd_isi {t : Str} {Ty : String} {pt : Pos} (hg : Gl X "isinstance") (hm : X.mg "isinstance" = none) (ha : PDt X T W a ma) (hgt : Gl X t) (hmt : X.mg t = none) (hvt : bootBuiltins t = some (.type Ty)) (hnt : t ≠ "__name__" := by decide) (hdt : (t == ("__debug__" : Str)) = false := by decide)
    (hs : starEach [a, .Name t pt] X.env = (false, eval a X.env) :: starEach [.Name t pt] X.env := by rfl) (hs2 : starEach [.Name t pt] X.env = (false, eval (.Name t pt) X.env) :: starEach [] X.env := by rfl) (hpl : (backTo pos (starEach [.Name t pt] X.env)).any (·.1) = false := by rfl) :
    PD X T W (.Call (.Name "isinstance" p) [a, .Name t pt] [] pos) (mUn (isiD Ty) ma) := by
  obtain ⟨ta, pa, ea⟩ := ha
  refine ⟨_, pe_callB call_isi hg hm PyProof.Rows.boot_isinstance (pa_cons pa (pa_cons (pe_bltn (v := .ty Ty) hgt hmt hvt rfl hnt hdt) pa_nil hs2) hs) (by decide) (by decide) hs hpl, fun ρ Hs σ H Q rp hp => ea ρ Hs σ H _ rp (PostG.mono (PostG.bind hp) fun v H1 ⟨Hs1, d, st, is, hp1⟩ => ?_)⟩
  have hp1 : PostG T (rIs X.K X.mg) W (isiD Ty d) Hs1 H1 Q := hp1
  unfold isiD at hp1
  by_cases h : tyN d = ""
  · rw [if_pos h] at hp1
    exact hp1.elim
  · rw [if_neg h] at hp1
    cases q : kitB (tyN d) Ty with
    | none => simp only [q] at hp1; exact hp1.elim
    | some k =>
      simp only [q] at hp1
      exact ⟨v, .ty Ty, _, _, k, rfl, .ty Ty, tyX_of st.to is h, kit_ty q, PostG.ret (rel := rIs X.K X.mg) hp1 st.to rfl⟩

/-! ### list.index, list.count -/
def idxOf (x : D) : List D → Option Nat
  | [] => none
  | d :: ds => if eqvD d x then some 0 else (idxOf x ds).map (· + 1)
def asL : D → R (List D)
  | .lst ds => .ok ds
  | _ => .no
@[simp] theorem asL_lst (ds : List D) : asL (.lst ds) = .ok ds := rfl
def lixD (ds : List D) (x : D) : R D := if shD 60 x && shL 59 ds then (match idxOf x ds with
    | some j => .ok (.int (j : Nat))
    | none => .no) else .no
def mLix (ma mb : Env → R D) : Env → R D := fun ρ => (ma ρ).bind fun d => (asL d).bind fun ds => (mb ρ).bind fun y => lixD ds y
theorem toPs_get : ∀ {ds : List D} {j : Nat} {p : PyData}, (toPs ds)[j]? = some p → ∃ d, ds[j]? = some d ∧ p = toP d
  | [], _, _, h => by simp [toPs] at h
  | d :: ds, 0, p, h => by
    have h : some (toP d) = some p := h
    cases h
    exact ⟨d, rfl, rfl⟩
  | d :: ds, j + 1, p, h => by
    obtain ⟨e, h1, h2⟩ := toPs_get (ds := ds) (j := j) h
    exact ⟨e, h1, h2⟩
theorem get_toPs : ∀ {ds : List D} {j : Nat} {d : D}, ds[j]? = some d → (toPs ds)[j]? = some (toP d)
  | [], _, _, h => by simp at h
  | d :: ds, 0, e, h => by
    have h : some d = some e := h
    cases h
    rfl
  | d :: ds, j + 1, e, h => get_toPs (ds := ds) (j := j) h
theorem sh_get : ∀ {ds : List D} {n j : Nat} {d : D}, shL n ds = true → ds[j]? = some d → shD n d = true
  | [], _, _, _, _, h => by simp at h
  | d :: ds, n, 0, e, q, h => by
    have h : some d = some e := h
    cases h
    unfold shL at q
    exact (Bool.and_eq_true_iff.mp q).1
  | d :: ds, n, j + 1, e, q, h => by
    unfold shL at q
    exact sh_get (ds := ds) (j := j) (Bool.and_eq_true_iff.mp q).2 h
theorem idxOf_is {x : D} : ∀ {ds : List D} {j : Nat}, idxOf x ds = some j → (∃ d, ds[j]? = some d ∧ eqvD d x = true) ∧ ∀ (m : Nat) (d : D), m < j → ds[m]? = some d → eqvD d x = false
  | [], j, h => by cases h
  | d :: ds, j, h => by
    unfold idxOf at h
    by_cases e : eqvD d x = true
    · rw [if_pos e] at h
      cases h
      exact ⟨⟨d, rfl, e⟩, fun m _ h => absurd h (Nat.not_lt_zero m)⟩
    · rw [if_neg e] at h
      cases q : idxOf x ds with
      | none => rw [q] at h; cases h
      | some k =>
        rw [q] at h
        have h : some (k + 1) = some j := h
        cases h
        obtain ⟨⟨d', h1, h2⟩, h3⟩ := idxOf_is q
        refine ⟨⟨d', h1, h2⟩, fun m d2 hm hd => ?_⟩
        cases m with
        | zero =>
          have hd : some d = some d2 := hd
          cases hd
          simpa using e
        | succ m => exact h3 m d2 (by omega) hd
theorem pd_lix {p2 p3 : Pos} (hu : X.A.units + 65 < cLine) (ha : PDt X T W a ma) (hb : PDt X T W b mb)
    (hbase : attributeBase a "index" X.env (eval a X.env) = eval a X.env := by rfl)
    (hfew : ((backTo p3 (starEach [b] X.env)).all (fun x => !x.1) && (backToKw p3 (keywordEach [] X.env)).all (fun x => x.1.isSome) && decide ([b].length + ([] : List Keyword).length + (if ([] : List Keyword).isEmpty then 0 else 1) < 30)) = true := by rfl)
    (hline : (p2.endLine == p3.line) = true := by rfl) (hst : starEach [b] X.env = (false, eval b X.env) :: starEach [] X.env := by rfl) (hplain : (backTo p3 (starEach [] X.env)).any (·.1) = false := by rfl) :
    PD X T W (.Call (.Attribute a "index" p2) [b] [] p3) (mLix ma mb) := by
  obtain ⟨ta, pa, ea⟩ := ha
  obtain ⟨tb, pb, eb⟩ := hb
  refine ⟨_, pe_bm PySem.F.plainAttrs_list PySem.F.slot_list_index PySem.F.type_list_index (mt_indexD hu) pa (pa_cons pb pa_nil hst) hbase hfew hline hst hplain, fun ρ Hs σ H Q rp hp => ea ρ Hs σ H _ rp (PostG.mono (PostG.bind hp) fun v H1 ⟨Hs1, d, st, is, hp1⟩ => ?_)⟩
  cases d with
  | lst ds =>
    obtain ⟨q, vs, rfl, q1, q2, q3⟩ := is.lst st.to
    refine ⟨.inl ⟨rfl, _, .of q1⟩, eb ρ Hs1 σ H1 _ (rp.step st) (PostG.mono (PostG.bind hp1) fun u H2 ⟨Hs2, d2, st2, is2, hp2⟩ => ?_)⟩
    have hp2 : PostG T (rIs X.K X.mg) W (lixD ds d2) Hs2 H2 Q := hp2
    unfold lixD at hp2
    cases c : (shD 60 d2 && shL 59 ds) with
    | false => simp only [c] at hp2; exact hp2.elim
    | true =>
      simp only [c, if_true] at hp2
      obtain ⟨c1, c2⟩ := Bool.and_eq_true_iff.mp c
      cases e : idxOf d2 ds with
      | none => simp only [e] at hp2; exact hp2.elim
      | some j =>
        simp only [e] at hp2
        obtain ⟨⟨d3, h1, h2⟩, h3⟩ := idxOf_is e
        have sh : shD 60 (.lst ds) = true := by unfold shD; exact Bool.and_eq_true_iff.mpr ⟨rfl, c2⟩
        have c2' := shL_up ds 59 60 (by omega) c2
        refine ⟨q, u, toP d2, toPs ds, j, toP d3, rfl, rfl, dp_of (.lst ds) 60 _ sh ((is.step st2).full st2.to), dp_of d2 60 u c1 (is2.full st2.to), shaped_of sh, shaped_of c1, get_toPs h1, by rw [eqv_toP d3 d2 60 (sh_get c2' h1) c1]; exact h2, fun mm z' hm hz => ?_, PostG.ret (rel := rIs X.K X.mg) hp2 st2.to rfl⟩
        obtain ⟨d4, k1, rfl⟩ := toPs_get hz
        rw [eqv_toP d4 d2 60 (sh_get c2' k1) c1]
        exact h3 mm d4 hm k1
  | _ => exact hp1.elim
end
end FL
namespace FL
open PySem PySem.Spec PyProof.Rows L2
def bigFu : Nat := 1000000
theorem bt_len : bootBuiltins "len" = some (.builtin "len") := by decide +kernel
theorem bt_sum : bootBuiltins "sum" = some (.builtin "sum") := by decide +kernel
theorem bt_min : bootBuiltins "min" = some (.builtin "min") := by decide +kernel
theorem bt_max : bootBuiltins "max" = some (.builtin "max") := by decide +kernel
theorem bt_all : bootBuiltins "all" = some (.builtin "all") := by decide +kernel
theorem bt_any : bootBuiltins "any" = some (.builtin "any") := by decide +kernel
theorem bt_sorted : bootBuiltins "sorted" = some (.builtin "sorted") := by decide +kernel
theorem bt_abs : bootBuiltins "abs" = some (.builtin "abs") := by decide +kernel
theorem bt_isinstance : bootBuiltins "isinstance" = some (.builtin "isinstance") := by decide +kernel
theorem bt_int : bootBuiltins "int" = some (.type "int") := by decide +kernel
theorem bt_bool : bootBuiltins "bool" = some (.type "bool") := by decide +kernel
theorem bt_str : bootBuiltins "str" = some (.type "str") := by decide +kernel
theorem bt_list : bootBuiltins "list" = some (.type "list") := by decide +kernel
theorem bt_tuple : bootBuiltins "tuple" = some (.type "tuple") := by decide +kernel
theorem bt_dict : bootBuiltins "dict" = some (.type "dict") := by decide +kernel
theorem bt_set : bootBuiltins "set" = some (.type "set") := by decide +kernel
theorem bt_range : bootBuiltins "range" = some (.type "range") := by decide +kernel
theorem bt_zip : bootBuiltins "zip" = some (.type "zip") := by decide +kernel
theorem bt_enumerate : bootBuiltins "enumerate" = some (.type "enumerate") := by decide +kernel
/-! ### defs by name -/
/-- where a def of the text stands -/
structure FunG (K : PySem.W.Frag) (mg : Str → Option Value) (x : Str) (st : Stmt) : Prop where
  ex : ∃ f fd, FunD K x x (defArgs st) (defBody st) (defScope st) [] [] f fd ∧ mg x = some (.ref f)
/-- the def x keeps the promise F -/
structure Def (P : Program) (w : World) (K : PySem.W.Frag) (mg : Str → Option Value) (base : Heap) (T : List (Addr × Str)) (x : Str) (k : Nat) (ps : List Str) (F : List D → R D) : Prop where
  ex : ∃ f fd, FnOk P w K mg base (L2N.CX P w) k f fd ps (spD K mg T ps.length F) ∧ mg x = some (.ref f) ∧ PySem.W.keepIn K (.ref f) = true ∧ Binds K fd ps []
section
variable {X : Cx} {T : List (Addr × Str)} {W : Str → Hp → Prop} {e a b : Expr} {es : List Expr} {m ma mb : Env → R D} {pos p : Pos}
theorem pd_callD {k j n : Nat} {ps : List Str} {x : Str} {F : List D → R D} {r : Env → R (List D)} (G : Def X.prog X.w X.K X.mg X.base T x k ps F) (c : Cg X W j) (hk : k ≤ j) (hg : Gl X x) (hn : ps.length = n) (ha : PAD X T W (e :: es) r)
    (hdb : (x == ("__debug__" : Str)) = false := by decide) (he : starEach (e :: es) X.env = (false, eval e X.env) :: starEach es X.env := by rfl) (hpl : (backTo pos (starEach es X.env)).any (·.1) = false := by rfl) :
    PD X T W (.Call (.Name x p) (e :: es) [] pos) (mCall n F r) := by
  subst hn
  obtain ⟨f, fd, G, hm, kp, hb⟩ := G.ex
  exact pd_call G c hk hg hm kp hb ha hdb he hpl
/-- a def of the module as a value -/
theorem pd_fnD {k : Nat} {ps : List Str} {x : Str} {F : List D → R D} (G : Def X.prog X.w X.K X.mg X.base T x k ps F) (hg : Gl X x) (hd : (x == ("__debug__" : Str)) = false := by decide) : PD X T W (.Name x pos) (mC (.fn x)) := by
  obtain ⟨f, fd, G, hm, kp, hb⟩ := G.ex
  exact pd_fn hg hm hd
def negD : D → R D
  | .int i => .ok (.int (-i))
  | _ => .no
theorem pd_neg (ha : PDt X T W a ma) : PD X T W (.UnaryOp .USub a pos) (mUn negD ma) := by
  obtain ⟨ta, pa, ea⟩ := ha
  refine ⟨_, pe_un un_neg pa, fun ρ Hs σ H Q rp hp => ea ρ Hs σ H _ rp (PostG.mono (PostG.bind hp) fun v H1 ⟨Hs1, d, st, is, hp1⟩ => ?_)⟩
  cases d with
  | int i =>
    cases is.flat (fun _ z => nomatch z)
    exact ⟨i, rfl, PostG.ret (rel := rIs X.K X.mg) hp1 st.to rfl⟩
  | _ => exact hp1.elim
end
theorem def_of {P : Program} {w : World} {K : PySem.W.Frag} {mg : Str → Option Value} {base : Heap} {T : List (Addr × Str)} {x : Str} {st : Stmt} {N ps : List Str} {k na nb : Nat} {m : Env → Oc}
    (F : FunG K mg x st) (S : FnScope N ps (defScope st)) (hN : N.length = na) (hP : ps.length = nb)
    (hb : ∀ (kV doc pm : Value) (an : Option Addr) (cdv ct : Value) (us : List Value), us.length = ps.length → bindArgs (PySem.W.fnOf x x (defArgs st) (defBody st) (defScope st) .none kV doc pm an cdv ct) ⟨us, []⟩ = pure (ps.zip us))
    (hbody : ∀ (f : Addr) (cdv : Value) (A : Around) (outer : List PySem.Env) (s : Shared) (H : Hp) (E : XK), Cg (cxOf (L2N.CX P w) P w K mg base N x (defScope st) f cdv A outer s H E) (Wof mg E) k → L2N.Takes (cxOf (L2N.CX P w) P w K mg base N x (defScope st) f cdv A outer s H E) (fun cls d _ H => EW mg (Wof mg E) cls d H) →
      PassesOwn (model P w) (A.deeper (envOfC x (defScope st) s.heap.objs.size f cdv)) (envOfC x (defScope st) s.heap.objs.size f cdv) (cxOf (L2N.CX P w) P w K mg base N x (defScope st) f cdv A outer s H E).xe →
      PDSs (cxOf (L2N.CX P w) P w K mg base N x (defScope st) f cdv A outer s H E) T (Wof mg E) (defBody st) m) :
    Def P w K mg base T x (k + 1) ps (runF na nb m) := by
  subst hN hP
  obtain ⟨f, fd, F, hg⟩ := F.ex
  exact ⟨f, fd, fn_okD F S (hbody f), hg, F.kp, F.bindsN hb⟩
end FL
set_option maxHeartbeats 4000000
/-! FL7: sets of a tuple's ints, list(range(..)). -/
namespace FL
open PySem PySem.Spec PyProof.Rows L2
/-- the members once each -/
def dst : List Int → List Int
  | [] => []
  | n :: r => if n ∈ r then dst r else n :: dst r
theorem mem_dst (k : Int) : ∀ ns : List Int, k ∈ dst ns ↔ k ∈ ns
  | [] => Iff.rfl
  | n :: r => by
    unfold dst
    by_cases h : n ∈ r
    · rw [if_pos h, mem_dst k r, List.mem_cons]
      exact ⟨.inr, fun z => z.elim (fun e => by rw [e]; exact h) id⟩
    · rw [if_neg h, List.mem_cons, List.mem_cons, mem_dst k r]
theorem dst_nodup : ∀ ns : List Int, (dst ns).Nodup
  | [] => List.nodup_nil
  | n :: r => by
    unfold dst
    by_cases h : n ∈ r
    · rw [if_pos h]; exact dst_nodup r
    · rw [if_neg h]
      exact List.nodup_cons.mpr ⟨fun z => h ((mem_dst n r).mp z), dst_nodup r⟩
theorem dst_len : ∀ ns : List Int, (dst ns).length ≤ ns.length
  | [] => Nat.le_refl _
  | n :: r => by
    unfold dst
    have := dst_len r
    split <;> simp <;> omega
theorem nodup_len : ∀ {xs ys : List Int}, xs.Nodup → ys.Nodup → (∀ k, k ∈ xs ↔ k ∈ ys) → xs.length = ys.length
  | [], ys, _, _, h => by
    cases ys with
    | nil => rfl
    | cons y r => exact absurd ((h y).mpr List.mem_cons_self) (by simp)
  | x :: xs, ys, n, m, h => by
    obtain ⟨n1, n2⟩ := List.nodup_cons.mp n
    have hx : x ∈ ys := (h x).mp List.mem_cons_self
    have m2 := m.erase x
    have e := nodup_len n2 m2 fun k => by
      rw [m.mem_erase_iff]
      constructor
      · intro hk
        exact ⟨fun z => n1 (by rw [← z]; exact hk), (h k).mp (List.mem_cons_of_mem _ hk)⟩
      · intro ⟨h1, h2⟩
        rcases List.mem_cons.mp ((h k).mpr h2) with z | z
        · exact absurd z h1
        · exact z
    have := List.length_erase_of_mem hx
    have pos : 0 < ys.length := List.length_pos_of_mem hx
    rw [List.length_cons]
    omega
theorem Step.keep {T : List (Addr × Str)} {Hs H : Hp} {p : Addr} {o : HO} (h : At T Hs H) (hp : H p = none) : Step T Hs H Hs (upd H p o) :=
  ⟨.refl _, .new hp, ⟨h.sub.trans (.new hp), tabs_ext h.tab fun b u e => by rw [upd_ne (ne_of_none e hp)]; exact e, h.sz⟩, fun _ _ z => z⟩
section
variable {X : Cx} {T : List (Addr × Str)} {W : Str → Hp → Prop} {e a b : Expr} {es : List Expr} {m ma mb : Env → R D} {pos p p2 q : Pos}
def rSetTI (K : PySem.W.Frag) (w : World) : List V → Hp → VK → Prop := fun xs H Q => ∃ (l : Addr) (ns : List Int), xs = [.ref l] ∧ SqT K H l (ns.map V.int) ∧ ns.length < 60 ∧ ∀ c : Addr, H c = none → Q (.ref c) (upd H c (SetO w c (fun j => decide (j ∈ ns)) (dst ns).length))
theorem cr_setTI (hc : X.calm = true) : CallR X (.type "set") (rSetTI X.K X.w) := by
  intro pins s σ H xs us Q I r h
  obtain ⟨l, ns, rfl, hq, hl, k⟩ := h
  rw [Vals.ref1 r]
  obtain ⟨its, rv, ht, hz⟩ := I.tuple hq
  refine call_set_tupI ns (I.ok.hd hc) (show s.heap.IsTuple l its.toArray from ht) (by simpa using rv.ints) (by show _ < 4096; omega) fun h' tk c R hcl hk => ?_
  have hn : H s.heap.objs.size = none := I.hok.fresh (Nat.le_refl _)
  have ec : c = (dst ns).length := by
    obtain ⟨o, es, ep, t, ho, hx, hd, g, nd, hm, hb, hf, hn, _⟩ := R
    have e := nodup_len nd (dst_nodup ns) fun k => by
      rw [← hm k, mem_dst]
      exact decide_eq_true_iff
    rw [List.length_map, Array.length_toList, hn] at e
    exact e
  subst ec
  exact ⟨.ref s.heap.objs.size, _, I.laid hk (Nat.le_refl _) (setO_new R), rfl, k _ hn⟩
def rLenSet (w : World) : List V → Hp → VK → Prop := fun xs H Q => ∃ (l : Addr) (S : Int → Bool) (n : Nat), xs = [.ref l] ∧ H l = some (SetO w l S n) ∧ Q (.int (n : Nat)) H
theorem cr_lenSet : CallR X (.builtin "len") (rLenSet X.w) := by
  intro pins s σ H xs us Q I r h
  obtain ⟨l, S, n, rfl, ha, k⟩ := h
  rw [Vals.ref1 r]
  obtain ⟨o, es, ep, t, ho, hx, hd, g, nd, hm, hb, hf, hn, _⟩ := setO_get I ha
  subst hn
  refine call_len_set ho hx hd hf (by have : scanBound = 4096 := rfl; omega) ⟨.int (es.size : Nat), H, I.tok _, ⟨_, rfl⟩, k⟩
def tintsD : D → R (List Int)
  | .tup ds => match asInts ds with
    | some ns => if ns.length < 60 then .ok ns else .no
    | none => .no
  | _ => .no
theorem tints_of {d : D} {x : V} {Hs H : Hp} {ns : List Int} (to : At T Hs H) (is : IsT X.K X.mg Hs H d x) (h : tintsD d = .ok ns) : ∃ a, x = .ref a ∧ SqT X.K H a (ns.map V.int) ∧ ns.length < 60 := by
  cases d with
  | tup ds =>
    unfold tintsD at h
    cases e : asInts ds with
    | none => simp only [e] at h; cases h
    | some ms =>
      simp only [e] at h
      by_cases hl : ms.length < 60
      · rw [if_pos hl] at h
        cases h
        have e := asInts_eq e
        subst e
        obtain ⟨p, vs, rfl, p1, p2, p3, p4⟩ := is.tup to
        rw [p3.ints] at p1
        exact ⟨p, rfl, p1, hl⟩
      · rw [if_neg hl] at h
        cases h
  | _ => cases h
/-- len(set(e)), sorted(set(e)) -/
def mLenSet (m : Env → R D) : Env → R D := fun ρ => (m ρ).bind fun d => (tintsD d).bind fun ns => .ok (.int ((dst ns).length : Nat))
def mSortSet (m : Env → R D) : Env → R D := fun ρ => (m ρ).bind fun d => (tintsD d).bind fun ns => .ok (.lst ((sortI (dst ns)).map D.int))
theorem tints_ner (d : D) (c : Str) : tintsD d ≠ .er c := by
  cases d with
  | tup ds =>
    intro h
    unfold tintsD at h
    cases e : asInts ds with
    | none => simp only [e] at h; cases h
    | some ms =>
      simp only [e] at h
      by_cases hl : ms.length < 60
      · rw [if_pos hl] at h; cases h
      · rw [if_neg hl] at h; cases h
  | _ => intro h; cases h
theorem pd_lenset (hc : X.calm = true) (hg : Gl X "len") (hm : X.mg "len" = none) (hg2 : Gl X "set") (hm2 : X.mg "set" = none) (ha : PDt X T W a ma) (hs : starEach [a] X.env = (false, eval a X.env) :: starEach [] X.env := by rfl)
    (hs2 : starEach [.Call (.Name "set" p2) [a] [] q] X.env = (false, eval (.Call (.Name "set" p2) [a] [] q) X.env) :: starEach [] X.env := by rfl) : PD X T W (.Call (.Name "len" p) [.Call (.Name "set" p2) [a] [] q] [] pos) (mLenSet ma) := by
  obtain ⟨ta, pa, ea⟩ := ha
  refine ⟨_, pe_callB cr_lenSet hg hm bt_len (pa_cons (pe_callTy (cr_setTI hc) hg2 hm2 bt_set (pa_cons pa pa_nil hs) (by decide) (by decide) hs rfl) pa_nil hs2) (by decide) (by decide) hs2 rfl, fun ρ Hs σ H Q rp hp => ea ρ Hs σ H _ rp (PostG.mono (PostG.bind hp) fun v H1 ⟨Hs1, d, st, is, hp1⟩ => ?_)⟩
  cases e : tintsD d with
  | er c => exact absurd e (tints_ner d c)
  | no => rw [e] at hp1; exact hp1.elim
  | ok ns =>
    rw [e] at hp1
    obtain ⟨l, rfl, h1, h2⟩ := tints_of st.to is e
    exact ⟨l, ns, rfl, h1, h2, fun c hc => ⟨c, _, _, rfl, upd_same, (show PostG T (rIs X.K X.mg) W (.ok (.int ((dst ns).length : Nat))) Hs1 H1 Q from hp1) _ _ _ (.keep st.to hc) rfl⟩⟩
theorem pd_sortset (hc : X.calm = true) (hg : Gl X "sorted") (hm : X.mg "sorted" = none) (hg2 : Gl X "set") (hm2 : X.mg "set" = none) (ha : PDt X T W a ma) (hs : starEach [a] X.env = (false, eval a X.env) :: starEach [] X.env := by rfl)
    (hs2 : starEach [.Call (.Name "set" p2) [a] [] q] X.env = (false, eval (.Call (.Name "set" p2) [a] [] q) X.env) :: starEach [] X.env := by rfl) : PD X T W (.Call (.Name "sorted" p) [.Call (.Name "set" p2) [a] [] q] [] pos) (mSortSet ma) := by
  obtain ⟨ta, pa, ea⟩ := ha
  refine ⟨_, pe_callB (cr_sortedSet hc) hg hm bt_sorted (pa_cons (pe_callTy (cr_setTI hc) hg2 hm2 bt_set (pa_cons pa pa_nil hs) (by decide) (by decide) hs rfl) pa_nil hs2) (by decide) (by decide) hs2 rfl, fun ρ Hs σ H Q rp hp => ea ρ Hs σ H _ rp (PostG.mono (PostG.bind hp) fun v H1 ⟨Hs1, d, st, is, hp1⟩ => ?_)⟩
  cases e : tintsD d with
  | er c => exact absurd e (tints_ner d c)
  | no => rw [e] at hp1; exact hp1.elim
  | ok ns =>
    rw [e] at hp1
    obtain ⟨l, rfl, h1, h2⟩ := tints_of st.to is e
    refine ⟨l, ns, rfl, h1, h2, fun c hc => ⟨c, _, _, rfl, upd_same, by have := dst_len ns; omega, fun ms c2 k1 k2 k3 hc2 => ?_⟩⟩
    have st2 : Step T Hs1 H1 Hs1 _ := .keep (o := SetO X.w c (fun j => decide (j ∈ ns)) (dst ns).length) st.to hc
    have es : ms = sortI (dst ns) := by
      have np : ms.Nodup := k1.imp fun h => Int.ne_of_lt h
      refine sorted_uniq ?_ (k1.imp fun h => Int.le_of_lt h) (sortI_sorted _)
      refine List.Perm.trans ?_ (sortI_perm _).symm
      rw [List.perm_iff_count]
      intro k
      have c1 : ms.count k = if k ∈ ms then 1 else 0 := np.count
      have c2 : (dst ns).count k = if k ∈ dst ns then 1 else 0 := (dst_nodup ns).count
      rw [c1, c2]
      have : k ∈ ms ↔ k ∈ dst ns := by
        rw [k2 k, mem_dst]
        exact decide_eq_true_iff
      simp only [this]
    subst es
    have hz : ((sortI (dst ns)).map V.int).length ≤ sizeLine := by
      have := dst_len ns
      rw [List.length_map, k3, sizeLine_eq]
      omega
    have st3 := st2.trans (Step.lst st2.to hc2 hz)
    exact (show PostG T (rIs X.K X.mg) W (.ok (.lst ((sortI (dst ns)).map D.int))) Hs1 H1 Q from hp1) _ _ _ st3 ⟨c2, _, rfl, upd_same, IsL.of_ints⟩
/-- list(range(e)) -/
def lrD (d : D) : R D := (rg1D d).bind fun l => .ok (.lst l)
theorem is_rg {K : PySem.W.Frag} {mg : Str → Option Value} {H : Hp} (lo hi : Int) : IsL K mg H (rgD lo hi) (rgV lo hi) := by
  unfold rgD rgV
  have : ∀ l : List Nat, IsL K mg H (l.map fun i => D.int (lo + (i : Nat))) (l.map fun i => V.int (lo + (i : Nat))) := fun l => by
    induction l with
    | nil => rfl
    | cons x l ih => exact ⟨_, _, rfl, rfl, ih⟩
  exact this _
theorem pd_lrange (hg : Gl X "list") (hm : X.mg "list" = none) (hg2 : Gl X "range") (hm2 : X.mg "range" = none) (hc : X.calm = true) (ha : PDt X T W a ma) (hs : starEach [a] X.env = (false, eval a X.env) :: starEach [] X.env := by rfl)
    (hs2 : starEach [.Call (.Name "range" p2) [a] [] q] X.env = (false, eval (.Call (.Name "range" p2) [a] [] q) X.env) :: starEach [] X.env := by rfl) : PD X T W (.Call (.Name "list" p) [.Call (.Name "range" p2) [a] [] q] [] pos) (mUn lrD ma) := by
  obtain ⟨ta, pa, ea⟩ := ha
  refine ⟨_, pe_listRg hc hg hm (prg_1 hg2 hm2 pa hs) hs2, fun ρ Hs σ H Q rp hp => ea ρ Hs σ H _ rp (PostG.mono (PostG.bind hp) fun v H1 ⟨Hs1, d, st, is, hp1⟩ => ?_)⟩
  cases d with
  | int j =>
    cases is.flat (fun _ z => nomatch z)
    by_cases hj : -1000000 ≤ j ∧ j ≤ 1000000
    · have hp1 : PostG T (rIs X.K X.mg) W ((rg1D (.int j)).bind fun l => .ok (.lst l)) Hs1 H1 Q := hp1
      rw [show rg1D (.int j) = .ok (rgD 0 j) from if_pos hj] at hp1
      refine ⟨j, rfl, ⟨by omega, by omega, by omega, by omega, by omega⟩, fun c hc => ?_⟩
      have st2 := Step.lst (vs := rgV 0 j) st.to hc (by rw [rgV_length, sizeLine_eq]; omega)
      exact hp1 _ _ _ st2 ⟨c, _, rfl, upd_same, is_rg 0 j⟩
    · have hp1 : PostG T (rIs X.K X.mg) W ((rg1D (.int j)).bind fun l => .ok (.lst l)) Hs1 H1 Q := hp1
      rw [show rg1D (.int j) = .no from if_neg hj] at hp1
      exact hp1.elim
  | _ => exact hp1.elim
end
end FL
set_option maxHeartbeats 4000000
/-! FL8: where an exception is handled: lists gone through, sums, isinstance of the exception. -/
namespace FL
open PySem PySem.Spec PyProof.Rows L2 HotX
open L2H (HotC RoomH Hot1 PinOk cxH inv_startH)
section
variable {prog : Program} {w : World} {A : Around} {E : Value → Shared → Prop} {s : Shared}
theorem list_end_hot {it l x1 : Addr} {i : Nat} {items : Array Value} {Q : Option Value → Shared → Prop} (hot : HotAt A x1 s.heap) (ne : x1 ≠ it) (hit : s.heap.IsListIter it l i) (hl : s.heap.IsList l items) (hx : items[i]? = none)
    (hQ : ∀ h', Heap.ExtBut it s.heap h' → Q none { s with heap := h' }) : wpAny (model prog w) A (pyNext (.ref it)) Q E s := by
  obtain ⟨o, go, gc, gd⟩ := id hit
  obtain ⟨ol, gol, _, nl, gdl⟩ := hl
  obtain ⟨hh, o1, vs1, h1, d1, c1⟩ := hot
  unfold pyNext
  refine wpAny_bind (wpAny_attempt (wpAny_callSpecial?_slot (name := Str.ofString "__next__") hit.typeIs slot_listiter_next
    (wpAny_call_entry slot_listiter_next hit.typeIs entry_listiter_next ?_ (args_listiter_next (.ref it)))))
  show wpAny _ _ (field (Value.ref it) 0 >>= _) _ _ s
  refine wpAny_bind (wpAny_field go gd (x := Value.ref l) rfl ?_)
  show wpAny _ _ (if (Value.ref l == .none) = true then _ else _) _ _ s
  rw [if_neg (show ¬ ((Value.ref l == .none) = true) from Bool.false_ne_true)]
  show wpAny _ _ (field (Value.ref it) 1 >>= _) _ _ s
  refine wpAny_bind (wpAny_field go gd (x := Value.int i 0) rfl ?_)
  show wpAny _ _ (seqItems? (Value.ref l) >>= _) _ _ s
  refine wpAny_bind (wpAny_seqItems gol gdl ?_)
  simp only [hx, Int.toNat_natCast]
  refine wpAny_bind (wpAny_rule (wpAny_bind (wpAny_setField go gd (by simp) ?_)))
  have g1 : (s.heap.update it (Obj.mapFields (·.setIfInBounds 0 Value.none))).get? x1 = some o1 := by
    rw [Heap.get?_update_other _ _ (Ne.symm ne)]; exact h1
  show wpAny _ _ (newExc (Value.type "StopIteration") [] >>= _) _ _ _
  refine wpAny_bind ?_
  simp only [newTuple, newExc]
  refine wpAny_bind (wpAny_newObj_type ?_ (by size_fits))
  refine wpAny_bind (m := firstArgMember _ _) (wpAny_of_eq (a := Value.none) (by first | (simp only [firstArgMember]; rfl) | rfl) ?_)
  refine wpAny_newObj_type ?_ (by size_fits)
  refine raiseNew_hot ⟨hh, o1, vs1, Heap.get?_push_of_some _ (Heap.get?_push_of_some _ g1), d1, c1⟩ (Nat.ne_of_lt (Heap.lt_size (Heap.get?_push_of_some _ g1))) (Heap.get?_push_size _ rfl) rfl (by first | (simp; omega) | (simp only [Array.size_append]; simp; omega) | (simp; done)) ?_
  refine wpAny_bind (wpAny_isInstance (T := "StopIteration") (b := true) ⟨_, Heap.get?_update_self _ (Heap.get?_push_size _ rfl) rfl, rfl⟩ isSubtype_stop ?_)
  refine wpAny_pure (hQ _ fun b u hb e => ?_)
  have e0 := (Heap.SameBut.update (h := s.heap) (a := it) ..).extBut (h' := s.heap.update it (Obj.mapFields (·.setIfInBounds 0 Value.none))) b u hb e
  rw [Heap.get?_update_other _ _ (Nat.ne_of_gt (Heap.lt_size (Heap.get?_push_of_some _ e0)))]
  exact Heap.get?_push_of_some _ (Heap.get?_push_of_some _ e0)
/-- a list gone through there -/
theorem walks_listH (hh : A.handled = some (.ref x1)) (I ax : Addr) (hne : ax ≠ I) (hn1 : x1 ≠ I) (items : Array Value) :
    Walks prog w A I [I, ax, x1] [I] items.size (fun i v => items[i]? = some v) (fun i h => (h.IsListIter I ax i ∧ h.IsList ax items) ∧ HotAt A x1 h) where
  sub := fun b hb => by simp at hb; simp [hb]
  frame := fun _ _ _ st hk => by
    obtain ⟨st, h0, o1, vs1, h1, d1, c1⟩ := st
    exact ⟨⟨st.1.at fun o e => hk I (by simp) o e, st.2.at fun o e => hk ax (by simp) o e⟩, h0, o1, vs1, hk x1 (by simp) o1 h1, d1, c1⟩
  item := fun i s Q E hi st hQ => by
    obtain ⟨st, h0, o1, vs1, h1, d1, c1⟩ := st
    refine wpAny_pyNext_list_item st.1 st.2 (x := items[i]) (by simp [hi]) fun h' i' s' => ?_
    exact hQ _ h' s.toks (by simp [hi]) ⟨⟨i', st.2.extBut s'.extBut hne⟩, h0, o1, vs1, s'.extBut x1 o1 hn1 h1, d1, c1⟩ fun b o hb e => s'.extBut b o (fun h => hb (by simp [h])) e
  done := fun s Q E st hQ => list_end_hot st.2 hn1 st.1.1 st.1.2 (by simp) fun h' he' => hQ h' s.toks fun b o hb e => he' b o (fun h => hb (by simp [h])) e
  self := fun _ _ _ _ st hQ => wpAny_pyIter_listiter st.1.1 hQ
end
section
variable {X : Cx} {T : List (Addr × Str)}
/-- sum of a few small ints -/
def rSumH (K : PySem.W.Frag) : List V → Hp → VK → Prop := fun vs H Q => ∃ (a : Addr) (ns : List Int), vs = [V.ref a] ∧ SqL K H a (ns.map V.int) ∧ ns.length ≤ 1000 ∧ (∀ n ∈ ns, 0 ≤ n ∧ n ≤ 1) ∧ Q (.int ns.sum) H
theorem sum01 : ∀ {ns : List Int}, (∀ n ∈ ns, 0 ≤ n ∧ n ≤ 1) → 0 ≤ ns.sum ∧ ns.sum ≤ ns.length
  | [], _ => by simp
  | n :: ns, h => by
    obtain ⟨h1, h2⟩ := sum01 (ns := ns) fun m hm => h m (List.mem_cons_of_mem _ hm)
    obtain ⟨h3, h4⟩ := h n List.mem_cons_self
    rw [List.sum_cons, List.length_cons]
    constructor <;> omega
theorem call_sumH (hc : HotC X) : CallR X (.builtin "sum") (rSumH X.K) := by
  intro pins s σ H vs us Q I r h
  obtain ⟨a, ns, rfl, hs, hz, h01, q⟩ := h
  obtain ⟨its, rv, hl, _⟩ := I.list hs
  rw [Vals.ref1 r]
  have hi := rv.ints
  obtain ⟨xs, e⟩ := hi.allInts.items
  have hn : numsOf (intItems xs).toList = ns := by rw [← e]; exact hi.numsOf
  rw [nums_intItems] at hn
  have hl := hl.isList
  rw [e] at hl
  obtain ⟨x1, hot⟩ := hc.at I
  obtain ⟨hh, o1, vs1, h1, d1, c1⟩ := id hot
  refine call_sum_walk (iter_intList hl fun s2 e2 st hfp hlI => ?_)
  subst e2
  have lt1 := Heap.lt_size h1
  have hsz : xs.size = ns.length := by rw [← hn]; simp
  have key : ∀ j : Nat, preSum (numAt xs) j = (ns.take j).sum := fun j => by rw [preSum_eq, hn]
  refine ⟨_, _, _, _, _, _, numAt xs, rfl, walks_listH (A := X.A.in1) hh _ a hlI (Nat.ne_of_lt lt1) (intItems xs), ⟨st, hh, o1, vs1, Heap.get?_push_of_some _ h1, d1, c1⟩, fun b hb => ?_, (fun _ _ => intItems_at), fun j hj => ?_, fun h' tk t' hk => ?_⟩
  · simp only [List.mem_cons, List.not_mem_nil, or_false] at hb
    rcases hb with hb | hb | hb
    · exact hfp b (by simp [hb])
    · exact hfp b (by simp [hb])
    · rw [hb]
      show x1 < (s.heap.push _).objs.size
      rw [Heap.size_push]
      exact Nat.lt_succ_of_lt lt1
  · have hj' : j < ns.length := by rw [← hsz]; simpa [intItems] using hj
    have m1 : numAt xs j ∈ ns := by
      rw [numAt_eq, hn]
      exact PySem.getD_mem hj'
    obtain ⟨k1, k2⟩ := h01 _ m1
    obtain ⟨k3, k4⟩ := sum01 (ns := ns.take (j + 1)) fun m hm => h01 m (List.mem_of_mem_take hm)
    rw [key (j + 1)]
    have k5 : (ns.take (j + 1)).length ≤ 1000 := Nat.le_trans (by rw [List.length_take]; omega) hz
    unfold InLong
    omega
  · have kp : ∀ b o, s.heap.get? b = some o → h'.get? b = some o := fun b o e => hk b o (fun hm => by
      have e1 : b = s.heap.objs.size := by simpa using hm
      exact absurd (e1 ▸ Heap.lt_size e) (Nat.lt_irrefl _)) (Heap.get?_push_of_some _ e)
    have z : preSum (numAt xs) (intItems xs).size = ns.sum := by
      rw [key, List.take_of_length_le (by simp [intItems, hsz])]
    rw [z]
    exact ⟨.int _, H, I.kept kp, ⟨_, rfl⟩, q⟩
end
end FL
set_option maxHeartbeats 4000000
/-! FL9: a list comprehension over a list where an exception is handled. -/
namespace FL
open PySem PySem.Spec PyProof.Rows L2 HotX
open L2H (HotC RoomH Hot1 PinOk cxH inv_startH)
section
variable {X : Cx}
/-- what a turn over a list gives there -/
theorem turn_hot {P : Program} {w : World} {K : PySem.W.Frag} {tg : Expr} {a it x1 i : Nat} {Y : Cx} {pz : List (Addr × Obj)} {s : Shared} {τ : L2.St} {H : Hp} {E : Value → Shared → Prop}
    (hP : Y.prog = P) (hw : Y.w = w) (hK : Y.K = K) (I : Inv Y pz τ H s) (hf : FpOk Y pz H it) (st : s.heap.IsListIter it a i) (hg : (Itl K a).go i H) :
    wpAny (model P w) Y.A (pyNext (.ref it)) (fun r s1 => ∃ u, r = some u ∧ wpAny (model P w) Y.A (letOwnedTupleGo tg (.ref it) u) (fun _ s2 => ∃ x H', Inv Y pz τ H' s2 ∧ RelV x u ∧ (Itl K a).yld i H x H' ∧ s2.heap.IsListIter it a (i + 1) ∧ H' it = none) E s1) E s := by
  subst hP hw hK
  obtain ⟨xs, x, hq, hx⟩ := hg
  obtain ⟨its, rv, p, hz⟩ := I.list hq
  obtain ⟨u, hu, ru⟩ := rv.get hx
  obtain ⟨f0, f1, f2, f3, f4, f5⟩ := id hf
  refine wpAny_pyNext_list_item st p.isList (x := u) (by simpa using hu) fun h' st' sb => ?_
  have I1 : Inv Y pz τ H { s with heap := h' } := I.turned (t' := s.toks) (fun b o hb e => (sb.2 b hb).trans e) f0 f1 f3 f4 f5
  obtain ⟨o, e, c, d⟩ := id st'
  exact ⟨u, rfl, go_of (s := { s with heap := h' }) e c d (by decide) ⟨x, H, I1, ru, ⟨rfl, fun ys hy => by rw [I.list_inj hy hq]; exact hx⟩, st', f0⟩⟩
theorem done_hot {P : Program} {w : World} {K : PySem.W.Frag} {a it x1 i : Nat} {Y : Cx} {pz : List (Addr × Obj)} {s : Shared} {τ : L2.St} {H : Hp} {E : Value → Shared → Prop}
    (hP : Y.prog = P) (hw : Y.w = w) (hK : Y.K = K) (I : Inv Y pz τ H s) (hf : FpOk Y pz H it) (st : s.heap.IsListIter it a i) (hg : (Itl K a).stop i H) (hot : HotAt Y.A x1 s.heap) (ne : x1 ≠ it) :
    wpAny (model P w) Y.A (pyNext (.ref it)) (fun r s1 => r = none ∧ Inv Y pz τ H s1) E s := by
  subst hP hw hK
  obtain ⟨xs, hq, hx⟩ := hg
  obtain ⟨its, rv, p, hz⟩ := I.list hq
  obtain ⟨f0, f1, f2, f3, f4, f5⟩ := id hf
  have hl := rv.length
  exact list_end_hot hot ne st p.isList (by simp; omega) fun h' eb => ⟨rfl, I.turned (t' := s.toks) (fun b o hb e => eb b o hb e) f0 f1 f3 f4 f5⟩
/-- [elt for tg in iter if ..] there, iter a list -/
theorem pe_lcH {elt tg iter : Expr} {ifs : List Expr} {sco : Scope} {ow : List (Str × Nat)} {pos : Pos} {tl : TE} {g : TG} {tt : TT} {te : TE} (hc : HotC X) (hN : X.N.Nodup) (hl : PE X iter tl) (bok : BlkOk X.N X.env.scope sco ow)
    (hg : ∀ (s : Shared) (H : Hp) (C : Addr) (cl : List (Str × Addr)) (fp : List Addr), PG (X.blk s H sco (compEnvC sco cl C X.env) fp) tg g)
    (ht : ∀ (s : Shared) (H : Hp) (C : Addr) (cl : List (Str × Addr)) (fp : List Addr), PTs (X.blk s H sco (compEnvC sco cl C X.env) fp) ifs tt)
    (he : ∀ (s : Shared) (H : Hp) (C : Addr) (cl : List (Str × Addr)) (fp : List Addr), PE (X.blk s H sco (compEnvC sco cl C X.env) fp) elt te) (hs : ∀ x, foldedSetIterable iter X.env x = pure x := by intro _; rfl) :
    PE X (.ListComp elt [⟨tg, iter, ifs, 0⟩] sco pos) (tLc (iList X.K tl) g tt te (ow.map (·.2))) := by
  refine ⟨fun pz s τ H Q I h => ?_⟩
  rw [eval_ListComp]
  have hfree : ∀ y ∈ sco.names, y.2 = .free → ∃ c, X.env.cells.lookup y.1 = some c := fun y hy e => by
    rcases bok.free y hy e with k | k
    · exact I.ok.has _ (.inl k)
    · exact I.ok.has _ (.inr k)
  refine wpAny_comprehension_free (use := none) rfl hs (closure_ok hfree) bok.kind (fun y hy e => by rw [bok.uniq y hy, e]) (thn (hl.run pz s τ H _ I h) fun xv s1 ⟨xl, H2, I1, r1, q1⟩ => ?_)
  obtain ⟨a, e1, ⟨xs0, hq0⟩, q⟩ := q1
  subst e1
  cases r1
  obtain ⟨its0, rv0, p0, hz0⟩ := I1.list hq0
  refine wpAny_pyIter_list p0.isList ?_
  generalize hit : s1.heap.objs.size = it
  generalize hs2 : ({ s1 with heap := s1.heap.push { cls := .type "list_iterator", data := .fields #[.ref a, .int 0 0] } } : Shared) = s2
  have h2 : s2.heap = s1.heap.push { cls := .type "list_iterator", data := .fields #[.ref a, .int 0 0] } := by rw [← hs2]
  have I2 : Inv X pz τ H2 s2 := by
    rw [← hs2]
    exact I1.kept (t' := s1.toks) fun b o e => Heap.get?_push_of_some _ e
  have st2 : s2.heap.IsListIter it a 0 := ⟨_, by rw [h2, ← hit]; exact Heap.get?_push_size _ rfl, rfl, rfl⟩
  have f2 : FpOk X pz H2 it := I1.fpOk (Nat.le_of_eq hit) (I1.hok.fresh (Nat.le_of_eq hit))
  refine wpAny_newObj_type (newEnv_comp ?_) (by show 0 ≤ sizeLine; decide)
  generalize hD : s2.heap.objs.size = D
  have hDn : H2 D = none := I2.hok.fresh (Nat.le_of_eq hD)
  obtain ⟨W, ⟨m0, w0⟩, turn⟩ := q D hDn
  generalize hs3 : ({ s2 with heap := s2.heap.push { cls := .type "list", data := .seq ([] : List Value).toArray } } : Shared) = s3
  have I3 : Inv X pz τ (upd H2 D (.lst [])) s3 := by
    rw [← hs3]
    refine I2.laid (t' := s2.toks) (fun b o e => Heap.get?_push_of_some _ e) (Nat.le_of_eq hD) ⟨Nat.zero_le _, [], 0, .nil, ?_⟩
    rw [← hD]
    exact Heap.get?_push_size _ rfl
  have h3 : s3.heap = s2.heap.push { cls := .type "list", data := .seq ([] : List Value).toArray } := by rw [← hs3]
  have lt2 : it < s2.heap.objs.size := by
    obtain ⟨o, e, _⟩ := st2
    exact Heap.lt_size e
  have f3 : ∀ b ∈ [it], FpOk X pz (upd H2 D (.lst [])) b ∧ b < s3.heap.objs.size := fun b hb => by
    have eb : b = it := by simpa using hb
    subst eb
    refine ⟨⟨?_, f2.2⟩, by rw [h3, Heap.size_push]; exact Nat.lt_succ_of_lt lt2⟩
    rw [upd_ne (by rw [← hD]; exact Nat.ne_of_lt lt2)]
    exact f2.1
  have st3 : s3.heap.IsListIter it a 0 := st2.at fun o e => by rw [h3]; exact Heap.get?_push_of_some _ e
  -- the exception that is handled
  obtain ⟨pp, ⟨hh, v1, e1, c1⟩, hp⟩ := hc
  have P3 := I3.pin pp (List.mem_append_left _ hp)
  have P1 := I1.pin pp (List.mem_append_left _ hp)
  have neI : pp.1 ≠ it := by rw [← hit]; exact Nat.ne_of_lt (Heap.lt_size P1.1)
  have nst : pp.1 ∉ frs X.stack := fun hm => (List.mem_cons.mp (I3.stkSub pp.1 hm)).elim P3.2.2.1 P3.2.2.2.1
  have I4 := block_start I3 bok hN f3
  have pg := hg s3 (upd H2 D (.lst [])) s3.heap.objs.size (cellsFrom (s3.heap.objs.size + 1) sco.names (cloFrom X.env.cells sco.names [])) [it]
  have pt := ht s3 (upd H2 D (.lst [])) s3.heap.objs.size (cellsFrom (s3.heap.objs.size + 1) sco.names (cloFrom X.env.cells sco.names [])) [it]
  have pe := he s3 (upd H2 D (.lst [])) s3.heap.objs.size (cellsFrom (s3.heap.objs.size + 1) sco.names (cloFrom X.env.cells sco.names [])) [it]
  show codeAny _ _ (.compStart (.ListComp elt [⟨tg, iter, ifs, 0⟩] sco pos) 0 (.ref it) (.ref D) (compEnvC sco (cellsFrom (s3.heap.objs.size + 1) sco.names (cloFrom X.env.cells sco.names [])) s3.heap.objs.size X.env)) (compPost (model X.prog X.w) X.A X.xe none (EP X pz τ Q) (.ref D) s3.heap.objs.size) { s3 with heap := pushCells (s3.heap.push { cls := .type "dict", data := .dict #[] }) sco.names }
  have nfp : (upd H2 D (.lst [])) it = none := (f3 it (by simp)).1.1
  generalize hce : compEnvC sco (cellsFrom (s3.heap.objs.size + 1) sco.names (cloFrom X.env.cells sco.names [])) s3.heap.objs.size X.env = ce at I4 pg pt pe ⊢
  have cL : ce.locals = s3.heap.objs.size := by subst hce; rfl
  generalize hH3 : upd H2 D (.lst []) = H3 at I3 I4 pg pt pe w0 nfp f3 P3
  generalize hs4 : ({ s3 with heap := pushCells (s3.heap.push { cls := .type "dict", data := .dict #[] }) sco.names } : Shared) = s4 at I4 ⊢
  have st4 : s4.heap.IsListIter it a 0 := st3.at fun o e => by rw [← hs4]; exact pushCells_keeps _ _ _ _ (Heap.get?_push_of_some _ e)
  have stat : ∀ {τ' : L2.St} {H' : Hp} {s' : Shared}, Inv (X.blk s3 H3 sco ce [it]) [] τ' H' s' → H' it = none → FpOk (X.blk s3 H3 sco ce [it]) [] H' it := fun {τ' H' s'} I' hn =>
    ⟨hn, (I'.ok.exf it (List.mem_cons_self)).1, I'.ok.exfs it (List.mem_cons_self), .inl (List.mem_cons_self), fun x c e => (I'.ok.exf it (List.mem_cons_self)).2 x c e, fun p hp => absurd (show p ∈ ([] : List (Addr × Obj)) ++ [] from hp) (by simp)⟩
  have hotB : ∀ {τ' : L2.St} {H' : Hp} {s' : Shared}, Inv (X.blk s3 H3 sco ce [it]) [] τ' H' s' → HotAt X.A pp.1 s'.heap := fun {τ' H' s'} I' =>
    ⟨hh, pp.2, v1, I'.base.keep pp.1 pp.2 P3.1 P3.2.1 nst (fun hm => neI (by simpa using hm)), e1, c1⟩
  have loop : codeAny (model X.prog X.w) X.A (.compLoop (.ListComp elt [⟨tg, iter, ifs, 0⟩] sco pos) 0 (.ref it) (.ref D) ce) (compPost (model X.prog X.w) X.A X.xe none (EP X pz τ Q) (.ref D) s3.heap.objs.size) s4 := by
    refine compLoop_any (fun n s' => ∃ i H', Inv (X.blk s3 H3 sco ce [it]) [] (wipe τ (ow.map (·.2))) H' s' ∧ s'.heap.IsListIter it a i ∧ H' it = none ∧ W i n H') ?_ m0 ⟨0, H3, I4, st4, nfp, w0⟩
    rintro n s5 ⟨i, H5, I5, st5, n5, w5⟩
    rcases turn i n H5 w5 with ⟨stop, qq⟩ | ⟨go, Nx, hNx, step⟩
    · refine thnF (done_hot (Y := X.blk s3 H3 sco ce [it]) (E := fun _ _ => False) rfl rfl rfl I5 (stat I5 n5) st5 stop (hotB I5) neI) fun r s6 ⟨hr, I6⟩ => ?_
      subst hr
      have I7 : Inv X pz τ H5 s6 := I3.call' (ch := [it]) I6.os I6.base I6.hok I6.bare fun b hb => ⟨(f3 b hb).1.2.2.2.1, (f3 b hb).1.2.1, (f3 b hb).1.2.2.2.2.1, (f3 b hb).1.2.2.2.2.2⟩
      have nC : H5 s3.heap.objs.size = none := by
        have z : H5 ce.locals = none := I6.free
        rw [cL] at z
        exact z
      obtain ⟨m, hn, _⟩ := I6.loc
      have hn : s6.heap.Ns ce.locals m := hn
      rw [cL] at hn
      refine ⟨m, hn, fun h'' sb => ?_⟩
      obtain ⟨f0, f1, f2, f3, f4, f5⟩ := I3.fpOk (Nat.le_refl _) nC
      exact ⟨.ref D, H5, I7.turned (t' := s6.toks) (fun b o hb e => (sb.2 b hb).trans e) f0 f1 f3 f4 f5, rfl, qq⟩
    · refine thnF (turn_hot (x1 := 0) (Y := X.blk s3 H3 sco ce [it]) (E := fun _ _ => False) (tg := tg) rfl rfl rfl I5 (stat I5 n5) st5 go) fun r s6 ⟨u, hr, h6⟩ => ?_
      subst hr
      refine thnF h6 fun _ s7 ⟨x, H7, I7, r7, y7, st7, n7⟩ => ?_
      have ob7 : ∀ b ∈ [it], ∃ o, s7.heap.get? b = some o ∧ ∀ v, o.data ≠ .cell v := fun b hb => by
        have eb : b = it := by simpa using hb
        subst eb
        obtain ⟨o, e, c, d⟩ := st7
        exact ⟨o, e, fun v z => by rw [d] at z; cases z⟩
      have I7' := I7.pinned (fp := [it]) (fun b hb => by have eb : b = it := by simpa using hb
                                                         subst eb; exact stat I7 n7) ob7
      refine thnF (pg.run _ s7 _ H7 x u _ I7' r7 (step x H7 y7)) fun _ s8 ⟨τ8, H8, I8, hw8, q8⟩ => ?_
      refine thnF (pt.run _ s8 τ8 H8 _ I8 q8) fun b s9 ⟨H9, I9, q9⟩ => ?_
      have fin : ∀ {s' : Shared} {H' : Hp}, Inv (X.blk s3 H3 sco ce [it]) ([] ++ pinsAt [it] s7.heap) τ8 H' s' → Nx H' → ∃ m, m < n ∧ ∃ i H', Inv (X.blk s3 H3 sco ce [it]) [] (wipe τ (ow.map (·.2))) H' s' ∧ s'.heap.IsListIter it a i ∧ H' it = none ∧ W i m H' := fun {s' H'} I' nx => by
        obtain ⟨m', hm, w'⟩ := hNx H' nx
        have pin' : ∀ o, s7.heap.get? it = some o → s'.heap.get? it = some o ∧ H' it = none := fun o e =>
          let z := I'.pin (it, o) (List.mem_append_right _ (List.mem_append_right _ (mem_pinsAt (by simp) e)))
          ⟨z.1, z.2.1⟩
        have hlen : (wipe τ (ow.map (·.2))).length = τ8.length := by rw [← hw8, wipe_length]
        refine ⟨m', hm, i + 1, H', (I'.unpinned (pins := [])).weak hlen (fun j v e => ?_), st7.at fun o e => (pin' o e).1, ?_, w'⟩
        · rw [← hw8] at e
          exact (wipe_some e).1
        · obtain ⟨o, e, _⟩ := ob7 it (by simp)
          exact (pin' o e).2
      cases b with
      | false =>
        simp only [if_false, Bool.false_eq_true] at q9 ⊢
        exact fin I9 q9
      | true =>
        simp only [if_true] at q9 ⊢
        refine thnF (pe.run _ s9 τ8 H9 _ I9 q9) fun z s10 ⟨yv, H10, I10, r10, acc, hD10, hz10, nx⟩ => ?_
        exact app_ok (X := X.blk s3 H3 sco ce [it]) I10 hD10 hz10 r10 fun s11 I11 => fin I11 nx
  exact codeAny_compStart_list loop (wpAny_pyIter_listiter st4 loop)
end
end FL
set_option maxHeartbeats 4000000
/-! FL10: the def that tells an exception's class, called where the exception is handled. -/
namespace FL
open PySem PySem.Spec PyProof.Rows L2 HotX
open L2H (HotC RoomH Hot1 PinOk cxH inv_startH)
section
variable {X : Cx} {T : List (Addr × Str)} {W : Str → Hp → Prop} {e a b : Expr} {es : List Expr} {m ma mb : Env → R D} {pos p : Pos}
def sumHD : D → R D := intsOf fun ns => if ns.length ≤ 1000 ∧ ns.all (fun n => decide (0 ≤ n) && decide (n ≤ 1)) = true then .ok (.int ns.sum) else .no
theorem bt_ValueError : bootBuiltins "ValueError" = some (.type "ValueError") := by decide +kernel
theorem c_sumH (hc : HotC X) : Cal1 X T (.builtin "sum") sumHD := by
  refine ⟨_, call_sumH hc, fun W d x Hs H Q to is hp => ?_⟩
  obtain ⟨a, ns, rfl, h1, _, h2⟩ := ints_of to is hp
  by_cases hk : ns.length ≤ 1000 ∧ ns.all (fun n => decide (0 ≤ n) && decide (n ≤ 1)) = true
  · rw [if_pos hk] at h2
    refine ⟨a, ns, rfl, h1, hk.1, fun n hn => ?_, PostG.ret (rel := rIs X.K X.mg) h2 to rfl⟩
    have := List.all_eq_true.mp hk.2 n hn
    simpa using this
  · rw [if_neg hk] at h2
    exact h2.elim
def itemsL : D → R (List D)
  | .lst ds => .ok ds
  | _ => .no
@[simp] theorem itemsL_lst (ds : List D) : itemsL (.lst ds) = .ok ds := rfl
theorem pd_lcH {elt tg iter : Expr} {ifs : List Expr} {scope : Scope} {own : List (Str × Nat)} {pos : Pos} {t : Tg} {mt : Env → R Bool} {me : Env → R D} (hc : HotC X) (hN : X.N.Nodup) (hi : PDt X T W iter ma) (ok : BlkOk X.N X.env.scope scope own) (hsub : ∀ j ∈ t.slots, j ∈ own.map (·.2))
    (hg : ∀ (s : Shared) (H : Hp) (C : Addr) (cl : List (Str × Addr)) (fp : List Addr), PGD (X.blk s H scope (compEnvC scope cl C X.env) fp) T tg t) (ht : ∀ (s : Shared) (H : Hp) (C : Addr) (cl : List (Str × Addr)) (fp : List Addr), PTsD (X.blk s H scope (compEnvC scope cl C X.env) fp) T (fun _ _ => False) ifs mt)
    (he : ∀ (s : Shared) (H : Hp) (C : Addr) (cl : List (Str × Addr)) (fp : List Addr), PD (X.blk s H scope (compEnvC scope cl C X.env) fp) T (fun _ _ => False) elt me) (hs : ∀ x, foldedSetIterable iter X.env x = pure x := by intro _; rfl) :
    PD X T W (.ListComp elt [⟨tg, iter, ifs, 0⟩] scope pos) (mLc (fun ρ => (ma ρ).bind itemsL) t mt me (own.map (·.2))) := by
  obtain ⟨ta, pa, ea⟩ := hi
  refine ⟨_, pe_lcH hc hN pa ok (fun s H C cl fp => (hg s H C cl fp).canon) (fun s H C cl fp => (ht s H C cl fp).canon) (fun s H C cl fp => (he s H C cl fp).canon) hs, ev_lc (fun ρ Hs σ H Q rp hp => ea ρ Hs σ H _ rp (PostG.mono (PostG.bind hp) fun v H1 ⟨Hs1, d, st, is, hp1⟩ => ?_)) hsub⟩
  cases d with
  | lst ds =>
    obtain ⟨a, vs, rfl, q1, q2, hz⟩ := is.lst st.to
    exact ⟨a, rfl, ⟨vs, .of q1⟩, PostG.ret (rel := fun Hs H ds J => ItT X.K X.mg T J ds Hs H) hp1 st.to (itT_list q1 q2 hz)⟩
  | _ => exact hp1.elim

/-! ### isinstance(e, C), e the exception -/
theorem call_isP {pp : Addr × Obj} {D : Addr} (hp : pp ∈ X.pn) (C : ExcC X.K D) (h1 : pp.2.cls = .ref D) (h2 : pp.2.dict = none) (hf : ∃ vs, pp.2.data = .fields vs) : CallR X (.builtin "isinstance") (rIsE X.K D pp.1) := by
  intro pz s σ H xs us Q I r h
  obtain ⟨c, cv, b, rfl, hcv, e, q⟩ := h
  cases r with
  | cons rx rr =>
    cases rr with
    | cons rt rr =>
      cases rr
      cases rx
      have ec := hcv _ rt
      subst ec
      obtain ⟨hget, _⟩ := I.pin pp (List.mem_append_left _ hp)
      obtain ⟨vs, hv⟩ := hf
      have J : PySem.W.InstAt s.heap pp.1 pp.2 D none := by
        obtain ⟨pa, oc, od, oda, osl⟩ := pp
        dsimp only at h1 h2 hv
        subst h1 h2 hv
        exact ⟨hget, rfl, rfl, trivial⟩
      exact PySem.W.kia_one (PySem.W.handS_kitx_exc C.hg C.hk C.hs C.hd C.ha C.hn C.ht C.hm) I.kIn J e (fun z => nomatch z) fun tk => ⟨.bl b, H, I.kept (t' := tk) fun _ _ z => z, rfl, q⟩
/-- slot i is the exception at a -/
def mIsP (a : Addr) (i : Nat) (b : Bool) : Env → R D := fun ρ => match ρ[i]? with
  | some (.sh (.adr c)) => if c = a then .ok (.bl b) else .no
  | _ => .no
theorem ev_isP {i : Nat} {b : Bool} {c : V} {cv : Value} {pp : Addr × Obj} {D : Addr} (hcv : ∀ u, RelV c u → u = cv) (hk : PySem.W.kitOne X.K (.ref D) cv = some b) :
    ∀ ρ Hs σ H Q, Rp X.K X.mg T Hs H σ ρ → PostG T (rIs X.K X.mg) W (mIsP pp.1 i b ρ) Hs H Q → tCB (rIsE X.K D pp.1) (tCons (tVar i) (tCons (tC c) tNil)) σ H Q := by
  intro ρ Hs σ H Q rp hp
  unfold mIsP at hp
  split at hp
  · rename_i c' e
    by_cases hc : c' = pp.1
    · rw [if_pos hc] at hp
      subst hc
      obtain ⟨v, e1, e2⟩ := rp.ok i _ e
      cases e2
      exact ⟨_, e1, c, cv, b, rfl, hcv, hk, PostG.ret (rel := rIs X.K X.mg) hp rp.to rfl⟩
    · rw [if_neg hc] at hp
      exact hp.elim
  · exact hp.elim
theorem pd_isP {i : Nat} {x t : Str} {px pt : Pos} {pp : Addr × Obj} {D DC : Addr} {b : Bool} (hg : Gl X "isinstance") (hm : X.mg "isinstance" = none) (hp : pp ∈ X.pn) (C : ExcC X.K D) (h1 : pp.2.cls = .ref D) (h2 : pp.2.dict = none) (hf : ∃ vs, pp.2.data = .fields vs)
    (hgt : Gl X t) (hmt : X.mg t = some (.ref DC)) (hk : PySem.W.kitOne X.K (.ref D) (.ref DC) = some b) (hN : X.N[i]? = some x := by rfl) (hv : Vis X.env.scope x := by first | exact Or.inl rfl | exact Or.inr (Or.inl rfl) | exact Or.inr (Or.inr rfl)) (hdt : (t == ("__debug__" : Str)) = false := by decide)
    (hdx : (x == ("__debug__" : Str)) = false := by decide) (hcx : (x == ("__classdict__" : Str)) = false := by decide)
    (hs : starEach [.Name x px, .Name t pt] X.env = (false, eval (.Name x px) X.env) :: starEach [.Name t pt] X.env := by rfl) (hs2 : starEach [.Name t pt] X.env = (false, eval (.Name t pt) X.env) :: starEach [] X.env := by rfl) (hpl : (backTo pos (starEach [.Name t pt] X.env)).any (·.1) = false := by rfl) :
    PD X T W (.Call (.Name "isinstance" p) [.Name x px, .Name t pt] [] pos) (mIsP pp.1 i b) :=
  ⟨_, pe_callB (call_isP hp C h1 h2 hf) hg hm PyProof.Rows.boot_isinstance (pa_cons (pe_var (i := i) hN hv hdx hcx) (pa_cons (pe_glob (v := .ref DC) hgt hmt rfl hdt) pa_nil hs2) hs) (by decide) (by decide) hs hpl,
    ev_isP (c := .ref DC) (cv := .ref DC) (fun u r => by cases r; rfl) hk⟩
theorem pd_isPB {i : Nat} {x t : Str} {Ty : String} {px pt : Pos} {pp : Addr × Obj} {D : Addr} {b : Bool} (hg : Gl X "isinstance") (hm : X.mg "isinstance" = none) (hp : pp ∈ X.pn) (C : ExcC X.K D) (h1 : pp.2.cls = .ref D) (h2 : pp.2.dict = none) (hf : ∃ vs, pp.2.data = .fields vs)
    (hgt : Gl X t) (hmt : X.mg t = none) (hvt : bootBuiltins t = some (.type Ty)) (hk : PySem.W.kitOne X.K (.ref D) (.type Ty) = some b) (hN : X.N[i]? = some x := by rfl) (hv : Vis X.env.scope x := by first | exact Or.inl rfl | exact Or.inr (Or.inl rfl) | exact Or.inr (Or.inr rfl)) (hdt : (t == ("__debug__" : Str)) = false := by decide) (hnt : t ≠ "__name__" := by decide)
    (hdx : (x == ("__debug__" : Str)) = false := by decide) (hcx : (x == ("__classdict__" : Str)) = false := by decide)
    (hs : starEach [.Name x px, .Name t pt] X.env = (false, eval (.Name x px) X.env) :: starEach [.Name t pt] X.env := by rfl) (hs2 : starEach [.Name t pt] X.env = (false, eval (.Name t pt) X.env) :: starEach [] X.env := by rfl) (hpl : (backTo pos (starEach [.Name t pt] X.env)).any (·.1) = false := by rfl) :
    PD X T W (.Call (.Name "isinstance" p) [.Name x px, .Name t pt] [] pos) (mIsP pp.1 i b) :=
  ⟨_, pe_callB (call_isP hp C h1 h2 hf) hg hm PyProof.Rows.boot_isinstance (pa_cons (pe_var (i := i) hN hv hdx hcx) (pa_cons (pe_bltn (v := .ty Ty) hgt hmt hvt rfl hnt hdt) pa_nil hs2) hs) (by decide) (by decide) hs hpl,
    ev_isP (c := .ty Ty) (cv := .type Ty) (fun u r => by cases r; rfl) hk⟩
end

/-! ### the classes -/
/-- the own exception classes of the names cs, of which LookError is above -/
structure ExcW (K : PySem.W.Frag) (mg : Str → Option Value) (cs : List Str) : Prop where
  at_ : ∀ c ∈ cs, ∃ D, mg c = some (.ref D) ∧ ExcC K D ∧ PySem.W.kitOne K (.ref D) (.type "ValueError") = some true ∧ (∀ CS, mg "LookError" = some (.ref CS) → PySem.W.exmOne K (.ref D) (.ref CS) = some true)
    ∧ ∀ c' ∈ cs, ∀ D', mg c' = some (.ref D') → PySem.W.kitOne K (.ref D) (.ref D') = some (decide (c = c'))
  look : ∃ CS, mg "LookError" = some (.ref CS)

/-! ### the def -/
/-- what is known where the def's body runs: pp the exception of the class c, at D -/
structure CgH (X : Cx) (cs : List Str) (c : Str) (D : Addr) (pp : Addr × Obj) : Prop where
  nd : X.N.Nodup
  hot : HotC X
  hu : X.A.units + 64 < cLine
  hu5 : X.A.units + 65 < cLine
  hu0 : X.A.units < cLine
  pin : pp ∈ X.pn
  mem : c ∈ cs
  ec : ExcC X.K D
  gc : X.mg c = some (.ref D)
  cls : pp.2.cls = .ref D
  dct : pp.2.dict = none
  fld : ∃ vs, pp.2.data = .fields vs
/-- x(e), e the exception of the class c that is handled, gives g c -/
structure HotDef (P : Program) (w : World) (K : PySem.W.Frag) (mg : Str → Option Value) (base : Heap) (T : List (Addr × Str)) (x : Str) (k : Nat) (cs : List Str) (g : Str → R D) : Prop where
  ex : ∃ f, mg x = some (.ref f) ∧ PySem.W.keepIn K (.ref f) = true ∧ ∀ (A : Around) (outer : List PySem.Env) (s : Shared) (Hs H : Hp) (pp : Addr × Obj) (c : Str) (D : Addr) (Q : VK), c ∈ cs → RoomH k A → Hot1 A pp → PinOk outer H s pp → Env0 P w K mg base A outer s H →
    mg c = some (.ref D) → pp.2.cls = .ref D → pp.2.dict = none → At T Hs H → PostG T (rIs K mg) W0 (g c) Hs H Q → codeAny (model P w) A (.call (.ref f) ⟨[.ref pp.1], []⟩) (CR (L2N.CX P w) outer P w H s Q (fun _ _ _ => False)) s
theorem hot_of {P : Program} {w : World} {K : PySem.W.Frag} {mg : Str → Option Value} {base : Heap} {T : List (Addr × Str)} {x a : Str} {st : Stmt} {N : List Str} {k na : Nat} {cs : List Str} {g : Str → R D} {m : Addr → Str → Env → Oc}
    (F : FunG K mg x st) (S : FnScope N [a] (defScope st)) (hN : N.length = na) (hcs : ExcW K mg cs)
    (hb : ∀ (kV doc pm : Value) (an : Option Addr) (cdv ct : Value) (us : List Value), us.length = ([a] : List Str).length → bindArgs (PySem.W.fnOf x x (defArgs st) (defBody st) (defScope st) .none kV doc pm an cdv ct) ⟨us, []⟩ = pure (([a] : List Str).zip us))
    (hg : ∀ c ∈ cs, ∀ ad : Addr, ∃ d, g c = .ok d ∧ m ad c (.sh (.adr ad) :: List.replicate (na - 1) Sl.no) = .rt d)
    (hbody : ∀ (f : Addr) (cdv : Value) (A : Around) (outer : List PySem.Env) (s : Shared) (H : Hp) (pp : Addr × Obj) (c : Str) (D : Addr), CgH (cxH (L2N.CX P w) P w K mg base N x (defScope st) f cdv A outer s H (fun _ _ _ => False) pp) cs c D pp →
      PDSs (cxH (L2N.CX P w) P w K mg base N x (defScope st) f cdv A outer s H (fun _ _ _ => False) pp) T W0 (defBody st) (m pp.1 c)) :
    HotDef P w K mg base T x (k + 1) cs g := by
  subst hN
  obtain ⟨f, fd, F, hm⟩ := F.ex
  have kp := F.kp
  obtain ⟨oc, od, dV, kV, doc, pm, an, cdv, ct, osl, rfl, lk, hcd, hdv, hkv⟩ := F.ex
  refine ⟨f, hm, kp, fun A outer s Hs H pp c D Q hc hr hot hpin e0 gc h1 h2 to hp => ?_⟩
  have KX : K.In s.heap := e0.mod.kin.keeps fun b o e => (e0.bs b o e).1
  have lim : s.heap.NoLimit := e0.mod.nolimit.keeps fun b o e => (e0.bs b o e).1
  have bnd := F.bindsN (ps := [a]) hb s [.ref pp.1] KX rfl
  refine codeAny_call_function hr.depth (KX _ _ lk) rfl S.co S.gen rfl (PySem.W.codeRec_of KX hcd) (bnd _ _ _ _ ?_)
  have hkind : ∀ y ∈ ([a] : List Str).zip [Value.ref pp.1], (defScope st).names.lookup y.1 = some .local ∨ ((defScope st).names.lookup y.1 = some .cell ∧ ((cellsFrom (s.heap.objs.size + 1) (defScope st).names []).lookup y.1).isSome = true) := fun ⟨n, v⟩ hy => by
    rcases S.par n (List.of_mem_zip hy).1 with q | q
    · exact .inl q
    · exact .inr ⟨q, PySem.W.cellsFrom_some _ _ _ (.inl q)⟩
  refine wpAny_newFunctionEnv_cells S.kind hkind fun env he s1 y => ?_
  subst he
  refine ⟨lim.keeps y.toInCall.keep, codeAny_func ?_⟩
  have hrv : Vals [V.ref pp.1] [Value.ref pp.1] := .cons rfl .nil
  have I : Inv (cxH (L2N.CX P w) P w K mg base N x (defScope st) f cdv A outer s H (fun _ _ _ => False) pp) [] (L2.start N [.ref pp.1]) H s1 := inv_startH S hpin e0 rfl hrv y
  have hr' := hr.deeper (envOfC x (defScope st) s.heap.objs.size f cdv)
  have un := hr'.un
  obtain ⟨D', gD, eC, _⟩ := hcs.at_ c hc
  rw [gc] at gD
  cases gD
  obtain ⟨v1, e1, _⟩ := hot.2
  have cg : CgH (cxH (L2N.CX P w) P w K mg base N x (defScope st) f cdv A outer s H (fun _ _ _ => False) pp) cs c D pp := by
    refine ⟨S.nd, ⟨pp, hot, List.mem_cons_self⟩, ?_, ?_, ?_, List.mem_cons_self, hc, eC, gc, h1, h2, ⟨v1, e1⟩⟩
    · show (A.deeper (envOfC x (defScope st) s.heap.objs.size f cdv)).units + 64 < cLine; omega
    · show (A.deeper (envOfC x (defScope st) s.heap.objs.size f cdv)).units + 65 < cLine; omega
    · show (A.deeper (envOfC x (defScope st) s.heap.objs.size f cdv)).units < cLine; omega
  obtain ⟨t, ht, ev⟩ := hbody f cdv A outer s H pp c D cg
  obtain ⟨d, gd, hd⟩ := hg c hc pp.1
  rw [gd] at hp
  have hn : 1 ≤ N.length := by have := congrArg List.length S.pre; rw [List.length_take] at this; simp at this; omega
  have rp : Rp K mg T Hs H (L2.start N [.ref pp.1]) (.sh (.adr pp.1) :: List.replicate (N.length - 1) Sl.no) := start_rp (ds := [.adr pp.1]) (n := 1) to (IsL.one rfl) rfl hn
  refine wpAny_mono (ht.run [] s1 (L2.start N [.ref pp.1]) H { nx := fun _ _ => False, rt := Q, bk := fun _ _ => False, ct := fun _ _ => False } I (ev _ Hs H Hs H _ _ ⟨rp, .refl to, fun i es q e => ?_⟩ ?_)) (fun fl s' hs => ?_) fun _ _ z => z
  · cases i with
    | zero => cases e
    | succ i =>
      rw [List.getElem?_cons_succ, List.getElem?_replicate] at e
      split at e <;> cases e
  · rw [hd]
    exact fun v Hs' H' st is => hp v Hs' H' st is
  · cases fl with
    | ret u =>
      obtain ⟨v, σ', H', J, rv, q⟩ := hs
      exact ⟨v, H', J.os, J.bare, J.base, J.hok, rv, q⟩
    | next =>
      obtain ⟨_, _, _, q⟩ := hs
      exact q.elim
    | brk =>
      obtain ⟨_, _, _, q⟩ := hs
      exact q.elim
    | cont =>
      obtain ⟨_, _, _, q⟩ := hs
      exact q.elim
end FL
set_option maxHeartbeats 4000000
/-! FL11: what a deed tells, or the class of its refusal. -/
namespace FL
open PySem PySem.Spec PyProof.Rows L2 HotX LamX
open L2H (HotC RoomH Hot1 PinOk cxH inv_startH)
section
variable {X : Cx} {pins : List (Addr × Obj)} {σ : L2.St} {H : Hp} {s : Shared}
theorem lam_makeW {T : List (Addr × Str)} {c P : Addr} {prm : Arguments} {bdy : Expr} {sco : Scope} {ps0 : Pos} {E : Value → Shared → Prop} {Q : Value → Shared → Prop} (I : Inv X pins σ H s) (TB : TabB X.base X.mg c P) (gcode : X.env.code = .ref c)
    (gm : (P, X.env.qual ++ "<lambda>") ∈ T) (gu : ∀ p ∈ T, p.1 = P → p.2 = X.env.qual ++ "<lambda>") (gT : Tabs T H) (gdef : defaultsOf prm X.env = ([], [])) (gfree : ∀ y ∈ sco.names, y.2 = .free → ∃ c, X.env.cells.lookup y.1 = some c)
    (h : ∀ (f c' : Addr) (pw cw : Value) (H1 : Hp) (s' : Shared), Inv X pins σ H1 s' → ExtW H H1 → Tabs T H1 →
      s'.heap.get? f = some (PySem.W.kla_obj "<lambda>" (X.env.qual ++ "<lambda>") prm bdy sco (cloFrom X.env.cells sco.names []) pw c' cw) → H1 f = none → f ∉ frs X.stack → H1 c' = some (CodeO c' (X.env.qual ++ "<lambda>")) → Q (.ref f) s') :
    wpAny (model X.prog X.w) X.A (eval (.Lambda prm bdy sco ps0) X.env) Q E s := by
  obtain ⟨tz, gP, gt, ga⟩ := gT _ gm
  refine PySem.W.kla_eval gdef ?_
  have kP : s.heap.BuiltinsAt X.mg P := TB.bm.keeps I.bk
  have gP' : s.heap.get? P = some { cls := .none, data := .fields tz } := I.hok P _ gP
  have nfr : ∀ f, s.heap.objs.size ≤ f → f ∉ frs X.stack := fun f hf z => by
    rcases List.mem_cons.mp (I.stkSub _ z) with e | e
    · have h1 := I.lt
      rw [← e] at h1
      exact Nat.lt_irrefl _ (Nat.lt_of_lt_of_le h1 hf)
    · exact I.nofs hf e
  cases gc : codeAmong ps0 tz.toList with
  | none =>
    refine PySem.W.kla_makeFunction (mg := X.mg) (c := c) (P := P) (ps := tz) (closure_ok gfree) I.ok.glob (I.mod.glob.keeps I.bk) gcode (TB.code.keeps I.bk) gP' gt gc TB.gP kP fun c' cw hn tn gx gge glt grec gtb => ?_
    obtain ⟨cc2, oo, vs, t, k2, goc, gd, gv⟩ := grec
    cases k2
    have gsz : s.heap.objs.size ≤ hn.objs.size := Nat.le_trans gge (Nat.le_of_lt glt)
    have nc : H c' = none := I.hok.fresh gge
    have J1 := inv_table (t' := tn) (more := #[rawInt ps0.line, rawInt ps0.col, .ref c']) (h' := hn.push (PySem.W.kla_obj "<lambda>" (X.env.qual ++ "<lambda>") prm bdy sco (cloFrom X.env.cells sco.names []) ((X.mg "__name__").getD .none) c' cw)) I gP
      (fun b o hb e => Heap.get?_push_of_some _ (gx b o hb e)) (Heap.get?_push_of_some _ gtb) gge ⟨oo, vs, t, Heap.get?_push_of_some _ goc, gd, gv⟩
    have gE : ExtN H (upd (upd H P (.tbl (tz ++ #[rawInt ps0.line, rawInt ps0.col, .ref c']))) c' (CodeO c' (X.env.qual ++ "<lambda>"))) := fun b o e n => by
      rw [upd_ne (ne_of_none e nc), upd_ne (fun z => n tz (Option.some.inj (e.symm.trans (by rw [z]; exact gP))))]
      exact e
    have gW : ExtW H (upd (upd H P (.tbl (tz ++ #[rawInt ps0.line, rawInt ps0.col, .ref c']))) c' (CodeO c' (X.env.qual ++ "<lambda>"))) := fun b o e => by
      by_cases hb : b = P
      · subst hb
        rw [gP] at e
        cases e
        exact .inr ⟨tz, _, rfl, by rw [upd_ne (ne_of_none gP nc), upd_same]⟩
      · exact .inl (by rw [upd_ne (ne_of_none e nc), upd_ne hb]; exact e)
    have eK : (tz ++ #[rawInt ps0.line, rawInt ps0.col, .ref c']).toList = tz.toList ++ [rawInt ps0.line, rawInt ps0.col, .ref c'] := by simp
    refine h hn.objs.size c' ((X.mg "__name__").getD .none) cw _ _ J1 gW (fun p hp => ?_) (Heap.get?_push_size _ rfl) ?_ (nfr _ gsz) upd_same
    · by_cases hb : p.1 = P
      · rw [gu p hp hb, hb]
        refine ⟨_, by rw [upd_ne (ne_of_none gP nc), upd_same], by rw [eK]; exact PySem.TriplesOk_snoc _ _ _ _ gt, fun p' cu gcv => ?_⟩
        rw [eK] at gcv
        rcases among_app _ gt gcv with z | z
        · obtain ⟨c0, k1, k2⟩ := ga p' cu z
          exact ⟨c0, k1, gE _ _ k2 codeO_ne⟩
        · exact ⟨c', z, upd_same⟩
      · obtain ⟨ps', b1, b2, b3⟩ := gT p hp
        refine ⟨ps', by rw [upd_ne (ne_of_none b1 nc), upd_ne hb]; exact b1, b2, fun p' cu gcv => ?_⟩
        obtain ⟨c0, k1, k2⟩ := b3 p' cu gcv
        exact ⟨c0, k1, gE _ _ k2 codeO_ne⟩
    · have m1 : hn.objs.size ≠ c' := Nat.ne_of_gt glt
      have m2 : hn.objs.size ≠ P := Nat.ne_of_gt (Nat.lt_of_lt_of_le (Heap.lt_size gP') gsz)
      rw [upd_ne m1, upd_ne m2]
      exact I.hok.fresh gsz
  | some cu =>
    obtain ⟨c', e, gco⟩ := ga ps0 cu gc
    subst e
    refine PySem.W.kla_makeFunctionHit (mg := X.mg) (c := c) (P := P) (ps := tz) (closure_ok gfree) I.ok.glob (I.mod.glob.keeps I.bk) gcode (TB.code.keeps I.bk) gP' gt gc kP fun cw hn tn gx gsz => ?_
    have J1 : Inv X pins σ H { s with heap := hn.push (PySem.W.kla_obj "<lambda>" (X.env.qual ++ "<lambda>") prm bdy sco (cloFrom X.env.cells sco.names []) ((X.mg "__name__").getD .none) c' cw), toks := tn } := I.kept fun b o e => Heap.get?_push_of_some _ (gx b o e)
    exact h hn.objs.size c' ((X.mg "__name__").getD .none) cw H _ J1 (ExtW.refl H) gT (Heap.get?_push_size _ rfl) (I.hok.fresh gsz) (nfr _ gsz) gco
end
/-- the context of a lambda's body; its exceptions have no context -/
def lamN (X : Cx) (A : Around) (outer : List PySem.Env) (s : Shared) (H : Hp) (E : XK) (scope : Scope) (f c' : Addr) : Cx :=
  (lamCx X A outer s H E scope f c').tr [] fun e s' => wpAny (model X.prog X.w) (A.deeper (lamEnv X scope s.heap.objs.size f c')) (leaving (lamEnv X scope s.heap.objs.size f c') e) (fun _ s2 => L2N.CX X.prog X.w outer H s E e s2) (fun e' s2 => L2N.CX X.prog X.w outer H s E e' s2) s'
theorem lamN_cg {X : Cx} {A : Around} {outer : List PySem.Env} {s : Shared} {H : Hp} {E : XK} {scope : Scope} {f c' : Addr} {k : Nat} (nd : X.N.Nodup) (r : Room k (A.deeper (lamEnv X scope s.heap.objs.size f c'))) : Cg (lamN X A outer s H E scope f c') (Wof X.mg E) k := by
  have tk : L2N.Takes (lamN X A outer s H E scope f c') (fun cls d _ H => EW X.mg (Wof X.mg E) cls d H) := (L2N.takes_of rfl rfl rfl rfl).imp fun cls d σ H ⟨c, h1, h2, h3⟩ => by subst h2; exact h3 cls h1
  exact ⟨nd, rfl, r, L2N.passes_call (E := EW X.mg (Wof X.mg E)) tk fun cls d σ H h => h⟩
section
variable {X : Cx} {pins : List (Addr × Obj)} {σ : L2.St} {H HZ : Hp} {s s1 : Shared}
/-- the lambda in slot i called, in the def that got it -/
theorem pe_deed {Eg : XK} {Ng : List Str} {qg : Str} {sg : Scope} {g f c' : Addr} {cdg pm ctv : Value} {params : Arguments} {body : Expr} {scope : Scope} {k i : Nat} {a : Str} {pn : List (Addr × Obj)} {xe : Value → Shared → Prop} {Wx : WX} {E : XK} {tb : TE} {p1 p2 : Pos}
    (I : Inv X pins σ H s) (L : LamS X.env.scope scope) (hf : s.heap.get? f = some (PySem.W.kla_obj "<lambda>" (X.env.qual ++ "<lambda>") params body scope (cloFrom X.env.cells scope.names []) pm c' ctv)) (hfn : H f = none) (hfr : f ∉ frs X.stack)
    (hbind : bindArgs (PySem.W.kla_fn "<lambda>" (X.env.qual ++ "<lambda>") params body scope (cloFrom X.env.cells scope.names []) pm (.ref c') ctv) ⟨[], []⟩ = pure [])
    (tk : L2N.Takes ((cxOf (L2N.CX X.prog X.w) X.prog X.w X.K X.mg X.base Ng qg sg g cdg X.A X.stack s H Eg).tr pn xe) Wx) (hr : Room (k + 1) (X.A.deeper (envOfC qg sg s.heap.objs.size g cdg)))
    (hbody : ∀ (A : Around) (outer : List PySem.Env) (s : Shared) (H : Hp), Room k (A.deeper (lamEnv X scope s.heap.objs.size f c')) → PE (lamN X A outer s H E scope f c') body tb)
    (hN : Ng[i]? = some a) (hv : Vis sg a) (hd : (a == ("__debug__" : Str)) = false) (hcd : (a == ("__classdict__" : Str)) = false) :
    PE ((cxOf (L2N.CX X.prog X.w) X.prog X.w X.K X.mg X.base Ng qg sg g cdg X.A X.stack s H Eg).tr pn xe) (.Call (.Name a p1) [] [] p2)
      (fun τ HZ Q => (∀ cls d H', E cls d H' → Wx cls d τ H') ∧ τ[i]? = some (some (.ref f)) ∧ HZ c' = some (CodeO c' (X.env.qual ++ "<lambda>")) ∧ tb σ HZ Q) := by
  refine ⟨fun pz sZ τ HZ Q IZ ⟨hW, hs, hc, ht⟩ => ?_⟩
  refine wpAny_Call_Name_kw (thn ((pe_var (i := i) (pos := p1) hN hv hd hcd).run pz sZ τ HZ (fun v H1 => H1 = HZ ∧ v = .ref f) IZ ⟨.ref f, hs, rfl, rfl⟩) fun u s1 ⟨v, H1, I1, r1, eH, ev⟩ => ?_)
  subst ev eH
  obtain rfl : u = Value.ref f := r1
  have of1 := I1.base.keep f _ hf hfn hfr (fun z => nomatch (show f ∈ ([] : List Addr) from z))
  refine PySem.W.callWith_F0 ⟨_, _, _, _, of1⟩ ?_
  have un := I1.base
  obtain ⟨⟨oc, vs, t, hoc, hdc, hvc⟩, _, _⟩ := I1.hok c' _ hc
  have rc : codeAny (model X.prog X.w) (X.A.deeper (envOfC qg sg s.heap.objs.size g cdg)) (.call (.ref f) ⟨[], []⟩) (CR (L2N.CX X.prog X.w) (envOfC qg sg s.heap.objs.size g cdg :: X.stack) X.prog X.w H1 s1 Q E) s1 := by
    refine PySem.W.kla_callFunE hr.depth of1 rfl L.co L.gen rfl ⟨c', oc, vs, t, rfl, hoc, hdc, hvc⟩ ?_
    rw [hbind]
    refine wpAny_pure (wpAny_newFunctionEnv (fun y hy => (L.own y hy).2) (fun y hy => absurd hy (by simp)) (fun h2 hns sb => ⟨I1.nolimit.fresh _ sb, ?_⟩) L.kind)
    show codeAny _ _ (.expr body (lamEnv X scope s1.heap.objs.size f c')) _ _
    have kp : ∀ b o, s1.heap.get? b = some o → h2.get? b = some o := fun b o e => sb.extBut b o (Nat.ne_of_lt (Heap.lt_size e)) (Heap.get?_push_of_some _ e)
    have J0 : Inv (lamCx X (X.A.deeper (envOfC qg sg s.heap.objs.size g cdg)) (envOfC qg sg s.heap.objs.size g cdg :: X.stack) s1 H1 E scope f c') [] σ H1 { s1 with heap := h2, toks := s1.toks + ([] : List (Str × Value)).length } :=
      lam_start2 I L I1.env0 hr.hd un hns kp
    have J : Inv (lamN X (X.A.deeper (envOfC qg sg s.heap.objs.size g cdg)) (envOfC qg sg s.heap.objs.size g cdg :: X.stack) s1 H1 E scope f c') [] σ H1 { s1 with heap := h2, toks := s1.toks + ([] : List (Str × Value)).length } := J0.toTry _
    refine PySem.W.kla_codeExpr (wpAny_mono ((hbody _ _ s1 H1 (hr.deeper _)).run [] _ _ H1 Q J ht) (fun v s' hq => ?_) fun e s' hq => hq)
    obtain ⟨w', H', J', rv, q⟩ := hq
    exact ⟨w', H', J'.os, J'.bare, J'.base, J'.hok, rv, q⟩
  refine wpAny_call (codeAny_mono rc fun r s' hq => ?_)
  cases r with
  | error e => exact tk e s' (L2N.XE.of_call I1 hW hq)
  | ok fl =>
    cases fl with
    | ret u => exact I1.after hq
    | next => exact hq.elim
    | brk => exact hq.elim
    | cont => exact hq.elim
end
end FL
set_option maxHeartbeats 4000000
/-! FL12: _law_told(lambda: ..). -/
namespace FL
open PySem PySem.Spec PyProof.Rows L2 HotX LamX
open L2H (HotC RoomH Hot1 PinOk cxH inv_startH)
def mTold (cs : List Str) (g : Str → R D) (mb : Env → R D) : Env → R D := fun ρ => match mb ρ with
  | .ok d => .ok d
  | .er c => if c ∈ cs then (g c).strict else .no
  | .no => .no
theorem PostG.later {α β : Type} {T : List (Addr × Str)} {rel : Hp → Hp → α → β → Prop} {W : Str → Hp → Prop} {r : R α} {Hs H Hs' H' : Hp} {Q : β → Hp → Prop} (h : PostG T rel W r Hs H Q) (st : Step T Hs H Hs' H') : PostG T rel W r Hs' H' Q := by
  cases r with
  | ok a => exact fun b Hs2 H2 st2 k => h b Hs2 H2 (st.trans st2) k
  | er c => exact fun Hs2 H2 st2 => h Hs2 H2 (st.trans st2)
  | no => exact h
theorem room_hot {k : Nat} {A : Around} (r : Room k A) (v : Option Value) : RoomH k (A.mark v) := ⟨r.dp, r.un⟩
/-- w(e) in the suite -/
theorem pe_word {Z : Cx} {T : List (Addr × Str)} {w e : Str} {kw i : Nat} {cs : List Str} {g : Str → R D} {ad : Addr} {oe : Obj} {cls : Value} {d : Option Addr} {pn : List (Addr × Obj)} {p5 p6 p7 : Pos}
    (Hw : HotDef Z.prog Z.w Z.K Z.mg Z.base T w kw cs g) (hz : L2N.Zn cls d oe) (hf : ∃ vs, oe.data = .fields vs) (hr : Room kw Z.A) (hgw : Z.env.scope.names.lookup w = some .globalImplicit) (hN : Z.N[i]? = some e) (hle : Z.env.scope.names.lookup e = some .local)
    (hdw : (w == ("__debug__" : Str)) = false) (hde : (e == ("__debug__" : Str)) = false) (hce : (e == ("__classdict__" : Str)) = false) :
    PE (Z.suite ad ((ad, oe) :: pn)) (.Call (.Name w p5) [.Name e p6] [] p7) (fun τ HZ Q => ∃ c DA Hs, c ∈ cs ∧ Z.mg c = some (.ref DA) ∧ cls = .ref DA ∧ d = none ∧ τ[i]? = some (some (.ref ad)) ∧ At T Hs HZ ∧ PostG T (rIs Z.K Z.mg) W0 (g c) Hs HZ Q) := by
  obtain ⟨f, hm, kp, run⟩ := Hw.ex
  refine ⟨fun pz s τ H Q I ⟨c, DA, Hs, hc, gc, e1, e2, hs, to, hp⟩ => ?_⟩
  subst e1 e2
  have hg : Gl (Z.suite ad ((ad, oe) :: pn)) w := hgw
  refine wpAny_Call_Name_kw (ld_glob I hg hm ?_ hdw)
  have ha : PA (Z.suite ad ((ad, oe) :: pn)) [.Name e p6] (tCons (tVar i) tNil) := pa_cons (pe_var (X := Z.suite ad ((ad, oe) :: pn)) (i := i) hN (.inl hle) hde hce) pa_nil
  refine PySem.W.callWith_K (h₀ := Z.base) I.ok.mod.kin kp (thn (ha.run p7 pz s τ H (fun vs H1 => vs = [V.ref ad] ∧ H1 = H) I ⟨_, hs, rfl, rfl⟩) fun us s1 ⟨vs, H1, I1, r1, ev, eH⟩ => ?_)
  subst ev eH
  refine ⟨I1.kIn, ?_⟩
  cases r1 with
  | cons ru rn =>
    cases rn
    cases ru
    obtain ⟨vs, hv⟩ := hf
    have P1 := I1.pin (ad, oe) (List.mem_append_left _ List.mem_cons_self)
    have hpin : PinOk (Z.suite ad ((ad, oe) :: pn)).stack H1 s1 (ad, oe) := ⟨P1.1, P1.2.1, fun hm => (List.mem_cons.mp (I1.stkSub ad hm)).elim P1.2.2.1 P1.2.2.2.1, P1.2.2.2.2⟩
    refine wpAny_call (codeAny_mono (run _ _ s1 Hs H1 (ad, oe) c DA Q hc (room_hot hr _) ⟨rfl, vs, hv, hz.2.2 vs hv⟩ hpin I1.env0 gc hz.1 hz.2.1 to hp) fun r s' hq => ?_)
    cases r with
    | error e =>
      obtain ⟨_, _, _, _, _, _, _, _, _, _, _, _, z⟩ := hq
      exact z.elim
    | ok fl =>
      cases fl with
      | ret u => exact I1.after hq
      | next => exact hq.elim
      | brk => exact hq.elim
      | cont => exact hq.elim
theorem takesF {X : Cx} : L2N.Takes X (fun _ _ _ _ => False) := fun _ _ x => by
  obtain ⟨_, _, _, _, _, _, _, _, _, _, _, _, _, _, _, _, z⟩ := x
  exact z.elim
section
variable {X : Cx} {T : List (Addr × Str)} {W : Str → Hp → Prop}
theorem pd_told {x a e w : Str} {st : Stmt} {cs : List Str} {g : Str → R D} {kw kb j : Nat} {c0 P0 : Addr} {params : Arguments} {body : Expr} {scope : Scope} {lpos p pos : Pos} {mb : Env → R D} {p1 p2 p3 p4 p5 p6 p7 p8 p9 p10 : Pos}
    (F : FunG X.K X.mg x st) (S : FnScope [a, e] [a] (defScope st)) (hst : defBody st = [.Try [.Return (some (.Call (.Name a p1) [] [] p2)) p3] [.ExceptHandler (some (.Name "LookError" p4)) (some e) [.Return (some (.Call (.Name w p5) [.Name e p6] [] p7)) p8] p9] [] [] p10])
    (bb : ∀ (kV doc pm : Value) (an : Option Addr) (cdv ct : Value) (us : List Value), us.length = ([a] : List Str).length → bindArgs (PySem.W.fnOf x x (defArgs st) (defBody st) (defScope st) .none kV doc pm an cdv ct) ⟨us, []⟩ = pure (([a] : List Str).zip us))
    (hva : Vis (defScope st) a) (hle : (defScope st).names.lookup e = some .local) (hgl : (defScope st).names.lookup ("LookError" : Str) = some .globalImplicit) (hgw : (defScope st).names.lookup w = some .globalImplicit)
    (Hw : HotDef X.prog X.w X.K X.mg X.base T w kw cs g) (hcs : ExcW X.K X.mg cs) (cg : Cg X W j) (hk : kb + 2 ≤ j) (hkw : kw + 1 ≤ j)
    (hg : Gl X x) (TB : TabB X.base X.mg c0 P0) (hcode : X.env.code = .ref c0) (hmT : (P0, X.env.qual ++ "<lambda>") ∈ T) (hu : ∀ p ∈ T, p.1 = P0 → p.2 = X.env.qual ++ "<lambda>") (L : LamS X.env.scope scope)
    (hb : ∀ (A : Around) (outer : List PySem.Env) (s : Shared) (H : Hp) (E : XK) (f c' : Addr), Cg (lamN X A outer s H E scope f c') (Wof X.mg E) kb → PD (lamN X A outer s H E scope f c') T (Wof X.mg E) body mb)
    (hdef : defaultsOf params X.env = ([], []) := by rfl) (hbind : ∀ (q : Str) (cl : List (Str × Addr)) (pm cv ctv : Value), bindArgs (PySem.W.kla_fn "<lambda>" q params body scope cl pm cv ctv) ⟨[], []⟩ = pure [] := by intros; rfl)
    (hdx : (x == ("__debug__" : Str)) = false := by decide) (hda : (a == ("__debug__" : Str)) = false := by decide) (hca : (a == ("__classdict__" : Str)) = false := by decide)
    (hdw : (w == ("__debug__" : Str)) = false := by decide) (hde : (e == ("__debug__" : Str)) = false := by decide) (hce : (e == ("__classdict__" : Str)) = false := by decide) :
    PD X T W (.Call (.Name x p) [.Lambda params body scope lpos] [] pos) (mTold cs g mb) := by
  refine ⟨tD X.K X.mg T W (mTold cs g mb), ⟨fun pins s σ H Q I h => ?_⟩, fun ρ Hs σ H Q rp hp => ⟨ρ, Hs, rp, hp⟩⟩
  obtain ⟨ρ, Hs, rp, hp⟩ := h
  obtain ⟨f, fd, F, hm⟩ := F.ex
  have kp := F.kp
  have bnd := F.bindsN (ps := [a]) (fun kV doc pm an cdv ct us hl => bb kV doc pm an cdv ct us hl)
  obtain ⟨oc, od, dV, kV, doc, pm, an, cdv, ct, osl, rfl, lk, hcd, _, _⟩ := F.ex
  refine wpAny_Call_Name_kw (ld_glob I hg hm ?_ hdx)
  refine PySem.W.callWith_K (h₀ := X.base) I.ok.mod.kin kp ?_ (by rfl) (by rfl)
  show wpAny _ _ (spliced ((false, eval (.Lambda params body scope lpos) X.env) :: backTo pos (starEach [] X.env))) _ _ s
  refine Calls.spliced_cons (lam_makeW I TB hcode hmT hu rp.to.tab hdef (L.has I.ok) fun fl c' pm' ctv H1 s' I1 eW T1 hf hfn hfr hco => ?_)
  refine Calls.spliced_nil ⟨I1.kIn, ?_⟩
  have st1 : Step T Hs H Hs H1 := ⟨.refl _, eW, ⟨rp.to.sub.trans eW, T1, rp.to.sz⟩, fun _ _ z => z⟩
  have rp1 := rp.step st1
  have hp1 := hp.later st1
  obtain ⟨CS, gCS⟩ := hcs.look
  have rc : codeAny (model X.prog X.w) X.A (.call (.ref f) ⟨[.ref fl], []⟩) (CR (L2N.CX X.prog X.w) X.stack X.prog X.w H1 s' Q fun _ _ _ => False) s' := by
    have hroom : Room (j - 1 + 1) X.A := by have e : j - 1 + 1 = j := by omega
                                            rw [e]; exact cg.room
    refine LamX.run_ofS (N := [a, e]) (ps := [a]) (us := [.ref fl]) (vs := [.ref fl]) lk hcd S hroom I1.env0 (bnd s' [.ref fl] I1.kIn rfl) (.cons rfl .nil) rfl fun hr' => ?_
    rw [hst]
    have hgL : Gl (cxOf (L2N.CX X.prog X.w) X.prog X.w X.K X.mg X.base [a, e] x (defScope st) f cdv X.A X.stack s' H1 fun _ _ _ => False) "LookError" := hgl
    refine ⟨_, pss_one (L2N.ps_try_as (X := cxOf (L2N.CX X.prog X.w) X.prog X.w X.K X.mg X.base [a, e] x (defScope st) f cdv X.A X.stack s' H1 fun _ _ _ => False) (c := .ref CS) (i := 1)
      (tb := fun Wx DD τ HZ => ∃ Ech : XK, (∀ cls d H', Ech cls d H' → Wx cls d τ H') ∧ τ[0]? = some (some (.ref fl)) ∧ HZ c' = some (CodeO c' (X.env.qual ++ "<lambda>")) ∧ tD X.K X.mg T (Wof X.mg Ech) mb σ HZ DD.rt)
      (ts := fun ad cls d DD τ HZ => ∃ c DA Hs, c ∈ cs ∧ X.mg c = some (.ref DA) ∧ cls = .ref DA ∧ d = none ∧ τ[1]? = some (some (.ref ad)) ∧ At T Hs HZ ∧ PostG T (rIs X.K X.mg) W0 (g c) Hs HZ DD.rt)
      rfl rfl S.nd rfl hle ⟨hgL, by decide, .inl gCS⟩ takesF (fun Wx pn xe tk _ => ?_) (fun ad oe cls d pn hz hfl => ?_)), ?_⟩
    · refine ⟨fun pz sZ τ HZ DD IZ ⟨Ech, hW, h1, h2, h3⟩ => ?_⟩
      have hr2 : Room (kb + 1) (X.A.deeper (envOfC x (defScope st) s'.heap.objs.size f cdv)) := hr'.mono (by omega)
      have pa := pe_deed (E := Ech) (tb := tD X.K X.mg T (Wof X.mg Ech) mb) (i := 0) (Ng := [a, e]) (p1 := p1) (p2 := p2) I1 L hf hfn hfr (hbind _ _ _ _ _) tk hr2 (fun A outer s H hr3 => (hb A outer s H Ech fl c' (lamN_cg cg.nd hr3)).canon) rfl hva hda hca
      exact (pss_one (ps_ret (pos := p3) pa)).run pz sZ τ HZ DD IZ ⟨hW, h1, h2, h3⟩
    · have hr3 : Room kw (X.A.deeper (envOfC x (defScope st) s'.heap.objs.size f cdv)) := hr'.mono (by omega)
      exact pss_one (ps_ret (pe_word (Z := cxOf (L2N.CX X.prog X.w) X.prog X.w X.K X.mg X.base [a, e] x (defScope st) f cdv X.A X.stack s' H1 fun _ _ _ => False) (i := 1) Hw hz hfl hr3 hgw rfl hle hdw hde hce))
    · refine ⟨fun cls d H' => ∃ c ∈ cs, X.mg c = some cls ∧ d = none ∧ ∃ Hs', At T Hs' H' ∧ PostG T (rIs X.K X.mg) W0 (g c) Hs' H' Q, fun cls d H' ⟨c, hc, gc, hd, Hs', to', hp'⟩ => ?_, rfl, hco, ρ, Hs, rp1, ?_⟩
      · obtain ⟨DA, gD, _, _, hex, _⟩ := hcs.at_ c hc
        rw [gc] at gD
        cases gD
        exact ⟨true, hex CS gCS, fun _ ad na => ⟨c, DA, Hs', hc, gc, rfl, hd, rfl, to', hp'⟩, fun z => nomatch z⟩
      · unfold mTold at hp1
        cases q : mb ρ with
        | ok d => rw [q] at hp1; exact hp1
        | no => rw [q] at hp1; exact hp1
        | er c =>
          rw [q] at hp1
          simp only at hp1
          by_cases hc : c ∈ cs
          · rw [if_pos hc] at hp1
            refine fun Hs' H' st' cls gc => ⟨c, hc, gc, rfl, Hs', st'.to, ?_⟩
            have hp2 := hp1.later st'
            cases q2 : g c with
            | ok d => rw [q2] at hp2; exact hp2
            | er c2 => rw [q2] at hp2; exact hp2.elim
            | no => rw [q2] at hp2; exact hp2
          · rw [if_neg hc] at hp1
            exact hp1.elim
  refine wpAny_call (codeAny_mono rc fun r s2 hq => ?_)
  cases r with
  | error e =>
    obtain ⟨_, _, _, _, _, _, _, _, _, _, _, _, z⟩ := hq
    exact z.elim
  | ok fl =>
    cases fl with
    | ret u => exact I1.after hq
    | next => exact hq.elim
    | brk => exact hq.elim
    | cont => exact hq.elim
end
end FL
set_option maxHeartbeats 4000000
/-! FL13: tuple * int, text * int; a def held by a variable called. -/
namespace FL
open PySem PySem.Spec PyProof.Rows L2
theorem tuple_mul1 (l : Addr) (items : Array Value) (n : Nat) (dd : Option Addr) (sl : Array (Option Value)) (u : Tok) :
    Meets (Builtin.«tuple.__mul__» ⟨[.ref l, .int 1 u], []⟩) (fun _ R s => s.heap.get? l = some { cls := .type "tuple", dict := dd, data := .seq items n, slots := sl } ∧ R (.ok (.ret (Value.ref l))) s) :=
  .of_wp fun prog w A R s h => by
    obtain ⟨hp, g, d, tk, os⟩ := s
    obtain ⟨hl, h⟩ := h
    have f1 := AutoSeq1.idx_int
    have c1 : (items.isEmpty || (1 : Int) == 1) = true := by simp
    wp_walk using wpAny_loadPart' hl
    repeat (first
      | (refine wpAny_ite_true (decide_eq_true (by rw [c1])) ?_; wp_walk using wpAny_loadPart' hl)
      | (refine wpAny_ite_false (decide_eq_false (by decide)) ?_; wp_walk using wpAny_loadPart' hl))
    exact ⟨_, rfl, h⟩
section
variable {X : Cx} {T : List (Addr × Str)}
theorem op_rep1 : OpR X (binaryOp .Mult) (fun x y H Q => ∃ l xs, x = .ref l ∧ y = .int 1 ∧ SqT X.K H l xs ∧ Q (.ref l) H) := by
  intro pins s σ H x y v u Q I rx ry h
  obtain ⟨l, xs, rfl, rfl, hT, q⟩ := h
  cases rx
  obtain ⟨t, rfl⟩ := ry
  obtain ⟨its, r, ⟨⟨cls, dd, data, sl⟩, ho, hc, n, hd⟩, hs⟩ := I.tuple hT
  simp only at hc hd
  subst hc hd
  exact wpAny_binaryOp_repeat_ref (T := "tuple") (U := "int") (by decide) ⟨_, ho, rfl⟩ (fun s' => typeIs_int s' 1 t) noFill_tuple_mul F.fills_int_mul F.slot_int_rmul repeat_tuple F.slot_int_index.lookup
    (call_meets F.slot_int_rmul (typeIs_int s 1 t) F.entry_int_rmul (F.args_int_rmul_2 _ _) (int_rmul_tuple 1 t l its.toArray n dd sl)
      ⟨ho, rfl, ⟨_, ho, rfl⟩, call_meets F.slot_tuple_mul ⟨_, ho, rfl⟩ F.entry_tuple_mul (F.args_tuple_mul_2 _ _) (tuple_mul1 l its.toArray n dd sl t) ⟨ho, .ref l, H, I, rfl, q⟩⟩)
theorem rep_size {α : Type} (a : Array α) : ∀ (n : Nat) (b : Array α), (List.foldl (· ++ ·) b (List.replicate n a)).size = b.size + a.size * n
  | 0, b => by simp
  | n + 1, b => by
    rw [List.replicate_succ, List.foldl_cons, rep_size a n, Array.size_append, Nat.mul_succ]
    omega
def repS (x : Str) (k : Int) : Str := if (k == 1 || x.length == 0) = true then x else ⟨(List.replicate k.toNat x.cps).foldl (· ++ ·) #[]⟩
theorem op_repS : OpR X (binaryOp .Mult) (fun x y H Q => ∃ z k, x = .str z ∧ y = .int k ∧ 1 ≤ k ∧ k ≤ 1000 ∧ z.length ≤ 1000 ∧ Q (.str (repS z k)) H) := by
  intro pins s σ H x y v u Q I rx ry h
  obtain ⟨z, k, rfl, rfl, h1, h2, hz, q⟩ := h
  obtain ⟨t, rfl⟩ := rx
  obtain ⟨t', rfl⟩ := ry
  have hm : z.length * k.toNat ≤ 1000 * 1000 := Nat.mul_le_mul hz (by omega)
  have n1 : ¬ k < 1 := by omega
  refine P.mul_str (by rw [decide_eq_false (by omega), decide_eq_false (by omega)] <;> rfl) (fun _ _ => ?_) (fun _ _ => ?_) ?_
  · have : (2 ^ 63 - 1) / k ≥ (2 ^ 63 - 1) / 1000 := by
      rw [ge_iff_le, Int.le_ediv_iff_mul_le (by omega)]
      have e : ((2 ^ 63 - 1) / 1000 : Int) = 9223372036854775 := by decide
      rw [e]
      have : (9223372036854775 : Int) * k ≤ 9223372036854775 * 1000 := Int.mul_le_mul_of_nonneg_left h2 (by omega)
      omega
    have e : ((2 ^ 63 - 1) / 1000 : Int) = 9223372036854775 := by decide
    omega
  · unfold Builtin.Str.tooLong
    exact decide_eq_false (by rw [sizeLine_eq]; omega)
  · rw [if_neg n1]
    unfold repS at q
    by_cases hk : (k == 1 || z.length == 0) = true
    · rw [if_pos hk] at q ⊢
      exact ⟨.str z, H, I, ⟨_, rfl⟩, q⟩
    · rw [if_neg hk] at q ⊢
      exact ⟨by show (List.foldl (· ++ ·) #[] (List.replicate k.toNat z.cps)).size ≤ sizeLine; rw [rep_size, sizeLine_eq]; have e0 : (#[] : Array Nat).size = 0 := rfl; have e1 : z.cps.size * k.toNat ≤ 1000 * 1000 := hm; omega, .str _, H, I.tok _, ⟨_, rfl⟩, q⟩
/-! ### times -/
def mulT : D → D → R D
  | .int i, .int j => if cMul i j then .ok (.int (i * j)) else .no
  | .lst xs, .int k => if xs.length * k.toNat ≤ sizeLine ∧ k.natAbs < 1000000 then .ok (.lst (List.replicate k.toNat xs).flatten) else .no
  | .tup xs, .int k => if xs ≠ [] ∧ 1 ≤ k ∧ k ≤ 1000 ∧ xs.length ≤ 1000 then .ok (.tup (List.replicate k.toNat xs).flatten) else .no
  | .str z, .int k => if 1 ≤ k ∧ k ≤ 1000 ∧ z.length ≤ 1000 then .ok (.str (repS z k)) else .no
  | _, _ => .no
theorem o_mulT : Op2 X T (binaryOp .Mult) mulT := by
  obtain ⟨r, hr, er⟩ := o_mul (X := X) (T := T)
  refine ⟨_, hr.or (op_rep1.or op_repS), fun W d e x y Hs H Q a hd he hp => ?_⟩
  have old : mulT d e = mulD d e → (r x y H Q ∨ (∃ l xs, x = .ref l ∧ y = .int 1 ∧ SqT X.K H l xs ∧ Q (.ref l) H) ∨ ∃ z k, x = .str z ∧ y = .int k ∧ 1 ≤ k ∧ k ≤ 1000 ∧ z.length ≤ 1000 ∧ Q (.str (repS z k)) H) := fun q => by
    rw [q] at hp
    exact .inl (er W d e x y Hs H Q a hd he hp)
  cases d with
  | tup xs =>
    cases e with
    | int k =>
      have hp : PostG T (rIs X.K X.mg) W (if xs ≠ [] ∧ 1 ≤ k ∧ k ≤ 1000 ∧ xs.length ≤ 1000 then .ok (.tup (List.replicate k.toNat xs).flatten) else .no) Hs H Q := hp
      by_cases hk : xs ≠ [] ∧ 1 ≤ k ∧ k ≤ 1000 ∧ xs.length ≤ 1000
      · by_cases h1 : k = 1
        · subst h1
          rw [if_pos hk] at hp
          obtain ⟨p, vs, rfl, p1, p2, p3, p4⟩ := hd.tup a
          cases he.flat (fun _ z => nomatch z)
          refine .inr (.inl ⟨p, vs, rfl, rfl, p1, PostG.ret (rel := rIs X.K X.mg) hp a ⟨p, vs, rfl, p2, ?_⟩⟩)
          have e1 : (List.replicate (1 : Int).toNat xs).flatten = xs := by
            show (List.replicate 1 xs).flatten = xs
            simp
          rw [e1]
          exact p3
        · refine old ?_
          show (if _ then _ else _) = (if _ then _ else _)
          rw [if_pos hk, if_pos ⟨hk.1, by omega, hk.2.2.1, hk.2.2.2⟩]
      · rw [if_neg hk] at hp
        exact hp.elim
    | _ => exact old rfl
  | str z =>
    cases e with
    | int k =>
      have hp : PostG T (rIs X.K X.mg) W (if 1 ≤ k ∧ k ≤ 1000 ∧ z.length ≤ 1000 then .ok (.str (repS z k)) else .no) Hs H Q := hp
      by_cases hk : 1 ≤ k ∧ k ≤ 1000 ∧ z.length ≤ 1000
      · rw [if_pos hk] at hp
        cases hd.flat (fun _ z => nomatch z)
        cases he.flat (fun _ z => nomatch z)
        exact .inr (.inr ⟨z, k, rfl, rfl, hk.1, hk.2.1, hk.2.2, PostG.ret (rel := rIs X.K X.mg) hp a rfl⟩)
      · rw [if_neg hk] at hp
        exact hp.elim
    | _ => exact old rfl
  | int i => cases e <;> exact old rfl
  | lst i => cases e <;> exact old rfl
  | _ => exact old rfl

/-! ### a def held by a variable -/
def mCallV (n i : Nat) (cands : List (Str × (List D → R D))) (r : Env → R (List D)) : Env → R D := fun ρ => match ρ[i]? with
  | some (.sh (.fn x)) => match cands.lookup x with
    | some F => (r ρ).bind fun ds => if ds.length = n then F ds else .no
    | none => .no
  | _ => .no
variable {W : Str → Hp → Prop} {e : Expr} {es : List Expr} {pos p : Pos}
theorem pd_callV {j n : Nat} {x : Str} {cands : List (Str × (List D → R D))} {r : Env → R (List D)} (i : Nat) (hS : ∀ z F, cands.lookup z = some F → ∃ k ps, k ≤ j ∧ ps.length = n ∧ Def X.prog X.w X.K X.mg X.base T z k ps F) (c : Cg X W j) (ha : PAD X T W (e :: es) r)
    (hN : X.N[i]? = some x := by rfl) (hv : Vis X.env.scope x := by first | exact Or.inl rfl | exact Or.inr (Or.inl rfl) | exact Or.inr (Or.inr rfl)) (hdb : (x == ("__debug__" : Str)) = false := by decide) (hcd : (x == ("__classdict__" : Str)) = false := by decide)
    (he : starEach (e :: es) X.env = (false, eval e X.env) :: starEach es X.env := by rfl) (hpl : (backTo pos (starEach es X.env)).any (·.1) = false := by rfl) :
    PD X T W (.Call (.Name x p) (e :: es) [] pos) (mCallV n i cands r) := by
  obtain ⟨ta, pa, ea⟩ := ha
  refine ⟨tD X.K X.mg T W (mCallV n i cands r), ⟨fun pins s σ H Q I h => ?_⟩, fun ρ Hs σ H Q rp hp => ⟨ρ, Hs, rp, hp⟩⟩
  obtain ⟨ρ, Hs, rp, hp⟩ := h
  unfold mCallV at hp
  split at hp
  · rename_i z ez
    split at hp
    · rename_i F eF
      obtain ⟨k, ps, hk, hn, G⟩ := hS z F eF
      subst hn
      obtain ⟨f, fd, G, hm, kp, hb⟩ := G.ex
      obtain ⟨v, e1, a, e2, e3⟩ := rp.ok i _ ez
      rw [hm] at e2
      cases e2
      subst e3
      refine (pe_callL (i := i) (p := p) (pos := pos) G (c.room.mono hk) hN hv kp hb .nil c.pass pa hdb hcd he hpl).run pins s σ H Q I ⟨e1, ea ρ Hs σ H _ rp (PostG.mono (PostG.bind hp) fun vs H1 ⟨Hs1, ds, st, is, hp1⟩ => ?_)⟩
      by_cases hl : ds.length = ps.length
      · rw [if_pos hl] at hp1
        rw [List.append_nil]
        refine ⟨Hs1, ds, st.to, is, hl, ?_⟩
        cases q : F ds with
        | ok d => rw [q] at hp1; exact hp1
        | er c => rw [q] at hp1; exact fun Hs' H' st' cls hc => ⟨c, hc, rfl, hp1 Hs' H' st'⟩
        | no => rw [q] at hp1; exact hp1
      · rw [if_neg hl] at hp1
        exact hp1.elim
    · exact hp.elim
  · exact hp.elim
end
end FL
set_option maxHeartbeats 4000000
/-! FL14: defs with lambdas. -/
namespace FL
open PySem PySem.Spec PyProof.Rows L2 LamX
/-- a def by its body, its code object known -/
theorem fn_okC {P : Program} {w : World} {K : PySem.W.Frag} {mg : Str → Option Value} {base : Heap} {T : List (Addr × Str)} {x qual : Str} {params : Arguments} {body : List Stmt} {scope : Scope} {kws : List (Str × V)} {f : Addr} {fd : FuncData} {N ps : List Str} {k : Nat} {m : Env → Oc}
    {c0 : Addr} (F : FunD K x qual params body scope [] kws f fd) (hc0 : fd.code = .ref c0) (S : FnScope N ps scope)
    (hbody : ∀ (A : Around) (outer : List PySem.Env) (s : Shared) (H : Hp) (E : XK), Cg (cxOf (L2N.CX P w) P w K mg base N qual scope f (.ref c0) A outer s H E) (Wof mg E) k → L2N.Takes (cxOf (L2N.CX P w) P w K mg base N qual scope f (.ref c0) A outer s H E) (fun cls d _ H => EW mg (Wof mg E) cls d H) →
      PassesOwn (model P w) (A.deeper (envOfC qual scope s.heap.objs.size f (.ref c0))) (envOfC qual scope s.heap.objs.size f (.ref c0)) (cxOf (L2N.CX P w) P w K mg base N qual scope f (.ref c0) A outer s H E).xe →
      PDSs (cxOf (L2N.CX P w) P w K mg base N qual scope f (.ref c0) A outer s H E) T (Wof mg E) body m) :
    FnOk P w K mg base (L2N.CX P w) (k + 1) f fd ps (spD K mg T ps.length (runF N.length ps.length m)) := by
  have hpl : ps.length ≤ N.length := by have := congrArg List.length S.pre; rw [List.length_take] at this; omega
  obtain ⟨oc, od, dV, kV, doc, pm, an, cdv, ct, osl, rfl, lk, hcd, _, _⟩ := F.ex
  obtain rfl : cdv = .ref c0 := hc0
  refine fn_of lk hcd S spD_len fun A outer s H vs Q E hr h => ?_
  have tk : L2N.Takes (cxOf (L2N.CX P w) P w K mg base N qual scope f (.ref c0) A outer s H E) (fun cls d _ H => EW mg (Wof mg E) cls d H) := (L2N.takes_of rfl rfl rfl rfl).imp fun cls d σ H ⟨c, h1, h2, h3⟩ => by subst h2; exact h3 cls h1
  have cg : Cg (cxOf (L2N.CX P w) P w K mg base N qual scope f (.ref c0) A outer s H E) (Wof mg E) k := ⟨S.nd, rfl, hr, L2N.passes_call (E := EW mg (Wof mg E)) tk fun cls d σ H h => h⟩
  obtain ⟨t, ps', ev⟩ := hbody A outer s H E cg tk (passes_of rfl)
  refine ⟨t, ps', ?_⟩
  obtain ⟨Hs, ds, to, is, hl, hp⟩ := h
  have rp := start_rp (N := N) (K := K) (mg := mg) to is hl hpl
  refine ev _ Hs H Hs H _ _ ⟨rp, .refl to, fun i es p e => ?_⟩ ?_
  · exfalso
    by_cases hi : i < ds.length
    · rw [List.getElem?_append_left (by rw [List.length_map]; exact hi), List.getElem?_map, List.getElem?_eq_getElem hi] at e
      cases e
    · rw [List.getElem?_append_right (by rw [List.length_map]; omega), List.getElem?_replicate] at e
      split at e <;> cases e
  · unfold runF at hp
    rw [if_pos hl] at hp
    cases q : m (ds.map Sl.sh ++ List.replicate (N.length - ps.length) Sl.no) with
    | rt d => rw [q] at hp; exact fun v Hs' H' st is => hp v Hs' H' st is
    | nx ρ => rw [q] at hp; exact fun Hs' H' σ' fr => hp .non Hs' H' fr.st rfl
    | er c => rw [q] at hp; exact fun Hs' H' st => hp Hs' H' st
    | bk ρ => rw [q] at hp; exact hp.elim
    | ct ρ => rw [q] at hp; exact hp.elim
    | no => rw [q] at hp; exact hp.elim
theorem law_okC {P : Program} {w : World} {K : PySem.W.Frag} {mg : Str → Option Value} {base : Heap} {T : List (Addr × Str)} {x qual : Str} {params : Arguments} {body : List Stmt} {scope : Scope} {kws : List (Str × V)} {f : Addr} {fd : FuncData} {N ps : List Str} {k : Nat} {m : Env → Oc}
    {c0 : Addr} (F : FunD K x qual params body scope [] kws f fd) (hc0 : fd.code = .ref c0) (S : FnScope N ps scope) {na nb : Nat} (hN : N.length = na) (hP : ps.length = nb)
    (hbody : ∀ (A : Around) (outer : List PySem.Env) (s : Shared) (H : Hp) (E : XK), Cg (cxOf (L2N.CX P w) P w K mg base N qual scope f (.ref c0) A outer s H E) (Wof mg E) k → L2N.Takes (cxOf (L2N.CX P w) P w K mg base N qual scope f (.ref c0) A outer s H E) (fun cls d _ H => EW mg (Wof mg E) cls d H) →
      PassesOwn (model P w) (A.deeper (envOfC qual scope s.heap.objs.size f (.ref c0))) (envOfC qual scope s.heap.objs.size f (.ref c0)) (cxOf (L2N.CX P w) P w K mg base N qual scope f (.ref c0) A outer s H E).xe →
      PDSs (cxOf (L2N.CX P w) P w K mg base N qual scope f (.ref c0) A outer s H E) T (Wof mg E) body m) :
    FnOk P w K mg base (L2N.CX P w) (k + 1) f fd ps (spD K mg T nb (runF na nb m)) := by
  subst hN hP
  exact fn_okC F hc0 S hbody
theorem law_okD {P : Program} {w : World} {K : PySem.W.Frag} {mg : Str → Option Value} {base : Heap} {T : List (Addr × Str)} {x qual : Str} {params : Arguments} {body : List Stmt} {scope : Scope} {kws : List (Str × V)} {f : Addr} {fd : FuncData} {N ps : List Str} {k : Nat} {m : Env → Oc}
    (F : FunD K x qual params body scope [] kws f fd) (S : FnScope N ps scope) {na nb : Nat} (hN : N.length = na) (hP : ps.length = nb)
    (hbody : ∀ (cdv : Value) (A : Around) (outer : List PySem.Env) (s : Shared) (H : Hp) (E : XK), Cg (cxOf (L2N.CX P w) P w K mg base N qual scope f cdv A outer s H E) (Wof mg E) k → L2N.Takes (cxOf (L2N.CX P w) P w K mg base N qual scope f cdv A outer s H E) (fun cls d _ H => EW mg (Wof mg E) cls d H) →
      PassesOwn (model P w) (A.deeper (envOfC qual scope s.heap.objs.size f cdv)) (envOfC qual scope s.heap.objs.size f cdv) (cxOf (L2N.CX P w) P w K mg base N qual scope f cdv A outer s H E).xe →
      PDSs (cxOf (L2N.CX P w) P w K mg base N qual scope f cdv A outer s H E) T (Wof mg E) body m) :
    FnOk P w K mg base (L2N.CX P w) (k + 1) f fd ps (spD K mg T nb (runF na nb m)) := by
  subst hN hP
  exact fn_okD F S hbody
/-- where a def stands, and its code object -/
structure FunC (K : PySem.W.Frag) (mg : Str → Option Value) (x : Str) (st : Stmt) (c0 : Addr) : Prop where
  ex : ∃ f fd, FunD K x x (defArgs st) (defBody st) (defScope st) [] [] f fd ∧ mg x = some (.ref f) ∧ fd.code = .ref c0
/-- the code object's table -/
structure LamOk (base : Heap) (mg : Str → Option Value) (T : List (Addr × Str)) (qual : Str) (c0 P0 : Addr) : Prop where
  tb : TabB base mg c0 P0
  mem : (P0, (qual ++ ".<locals>.") ++ "<lambda>") ∈ T
  u : ∀ p ∈ T, p.1 = P0 → p.2 = (qual ++ ".<locals>.") ++ "<lambda>"
theorem def_ofC {P : Program} {w : World} {K : PySem.W.Frag} {mg : Str → Option Value} {base : Heap} {T : List (Addr × Str)} {x : Str} {st : Stmt} {N ps : List Str} {k na nb : Nat} {m : Env → Oc}
    {c0 : Addr} (F : FunC K mg x st c0) (S : FnScope N ps (defScope st)) (hN : N.length = na) (hP : ps.length = nb)
    (hb : ∀ (kV doc pm : Value) (an : Option Addr) (cdv ct : Value) (us : List Value), us.length = ps.length → bindArgs (PySem.W.fnOf x x (defArgs st) (defBody st) (defScope st) .none kV doc pm an cdv ct) ⟨us, []⟩ = pure (ps.zip us))
    (hbody : ∀ (f : Addr) (A : Around) (outer : List PySem.Env) (s : Shared) (H : Hp) (E : XK), Cg (cxOf (L2N.CX P w) P w K mg base N x (defScope st) f (.ref c0) A outer s H E) (Wof mg E) k → L2N.Takes (cxOf (L2N.CX P w) P w K mg base N x (defScope st) f (.ref c0) A outer s H E) (fun cls d _ H => EW mg (Wof mg E) cls d H) →
      PassesOwn (model P w) (A.deeper (envOfC x (defScope st) s.heap.objs.size f (.ref c0))) (envOfC x (defScope st) s.heap.objs.size f (.ref c0)) (cxOf (L2N.CX P w) P w K mg base N x (defScope st) f (.ref c0) A outer s H E).xe →
      PDSs (cxOf (L2N.CX P w) P w K mg base N x (defScope st) f (.ref c0) A outer s H E) T (Wof mg E) (defBody st) m) :
    Def P w K mg base T x (k + 1) ps (runF na nb m) := by
  subst hN hP
  obtain ⟨f, fd, F, hg, hc0⟩ := F.ex
  exact ⟨f, fd, fn_okC F hc0 S (hbody f), hg, F.kp, F.bindsN hb⟩
section
variable {X : Cx} {T : List (Addr × Str)} {W : Str → Hp → Prop} {a : Expr} {ma : Env → R D} {pos : Pos}
theorem ptd_isN {j pos'} (ha : PDt X T W a ma) : PTD X T W (.Compare a [.Is] [.Constant .none j pos'] pos) (mB (mIsN false ma)) := by
  obtain ⟨ta, pa, ea⟩ := ha
  refine ⟨_, pt_cmp (pc_isN pa) rfl, ev_B fun ρ Hs σ H Q rp hp => ea ρ Hs σ H _ rp (PostG.mono (PostG.bind hp) fun x H1 ⟨Hs1, d, st, is, hp1⟩ => ?_)⟩
  rw [isN_is is]
  rw [Bool.false_xor] at hp1
  exact PostG.ret (rel := rIs X.K X.mg) hp1 st.to rfl
theorem ptd_notN {j pos'} (ha : PDt X T W a ma) : PTD X T W (.Compare a [.IsNot] [.Constant .none j pos'] pos) (mB (mIsN true ma)) := by
  obtain ⟨ta, pa, ea⟩ := ha
  refine ⟨_, pt_cmp (pc_notN pa) rfl, ev_B fun ρ Hs σ H Q rp hp => ea ρ Hs σ H _ rp (PostG.mono (PostG.bind hp) fun x H1 ⟨Hs1, d, st, is, hp1⟩ => ?_)⟩
  rw [isN_is is]
  rw [Bool.true_xor] at hp1
  exact PostG.ret (rel := rIs X.K X.mg) hp1 st.to rfl
end
/-- the defs that a variable may hold -/
def Cands (P : Program) (w : World) (K : PySem.W.Frag) (mg : Str → Option Value) (base : Heap) (T : List (Addr × Str)) (j n : Nat) (cs : List (Str × (List D → R D))) : Prop :=
  ∀ z F, cs.lookup z = some F → ∃ k ps, k ≤ j ∧ ps.length = n ∧ Def P w K mg base T z k ps F
section
variable {P : Program} {w : World} {K : PySem.W.Frag} {mg : Str → Option Value} {base : Heap} {T : List (Addr × Str)} {j n : Nat}
theorem cands_nil : Cands P w K mg base T j n [] := fun z F h => by cases h
theorem cands_cons {x : Str} {F0 : List D → R D} {cs : List (Str × (List D → R D))} {k : Nat} {ps : List Str} (G : Def P w K mg base T x k ps F0) (hk : k ≤ j) (hp : ps.length = n) (h : Cands P w K mg base T j n cs) : Cands P w K mg base T j n ((x, F0) :: cs) := fun z F q => by
  rw [List.lookup_cons] at q
  split at q
  · rename_i e
    cases q
    have e : z = x := by simpa using e
    subst e
    exact ⟨k, ps, hk, hp, G⟩
  · exact h z F q
theorem cands_le {j' : Nat} {cs : List (Str × (List D → R D))} (h : Cands P w K mg base T j n cs) (hj : j ≤ j') : Cands P w K mg base T j' n cs := fun z F q => by
  obtain ⟨k, ps, h1, h2⟩ := h z F q
  exact ⟨k, ps, Nat.le_trans h1 hj, h2⟩
end
end FL
set_option maxHeartbeats 4000000
/-! FL15: from the head to the law. -/
namespace FL
open PySem PySem.Spec PyProof.Rows L2 LamX
/-- the exception classes, checked -/
def excCB (K : PySem.W.Frag) (D : Addr) : Bool :=
  He.eqO (PySem.W.findIn K (.ref D) "__getattribute__") (some (some (.builtin "BaseException.__getattribute__"))) && (He.eqO (PySem.W.findIn K (.ref D) "__getattr__") (some none) && (decide (PySem.W.subIn K (.ref D) (.type "BaseException") = some true) && (PySem.W.hasDictIn K D &&
  (He.eqO (PySem.W.findIn K (.ref D) "__class__") (some (some (.builtin "object.__class__"))) && (He.eqO (PySem.W.specialIn K (.builtin "object.__class__") "__get__") (some (some (.builtin "getset_descriptor.__get__"))) &&
  (decide (PySem.W.takesIn K (.builtin "object.__class__") = some true) && decide (PySem.W.mroIn K D (.type "object") = some true)))))))
theorem excC_of {K : PySem.W.Frag} {D : Addr} (h : excCB K D = true) : ExcC K D := by
  obtain ⟨h1, h⟩ := He.ba h
  obtain ⟨h2, h⟩ := He.ba h
  obtain ⟨h3, h⟩ := He.ba h
  obtain ⟨h4, h⟩ := He.ba h
  obtain ⟨h5, h⟩ := He.ba h
  obtain ⟨h6, h⟩ := He.ba h
  obtain ⟨h7, h8⟩ := He.ba h
  exact ⟨He.eqO_ok h1, He.eqO_ok h2, of_decide_eq_true h3, h4, He.eqO_ok h5, He.eqO_ok h6, of_decide_eq_true h7, of_decide_eq_true h8⟩
def excWB (cs : List Str) (K : PySem.W.Frag) : Bool := cs.all fun c => excCB K (He.ga K c) && (decide (PySem.W.kitOne K (.ref (He.ga K c)) (.type "ValueError") = some true) && (decide (PySem.W.exmOne K (.ref (He.ga K c)) (.ref (He.ga K "LookError")) = some true) &&
  cs.all fun c' => decide (PySem.W.kitOne K (.ref (He.ga K c)) (.ref (He.ga K c')) = some (decide (c = c')))))
theorem excW_of {K : PySem.W.Frag} {mg : Str → Option Value} {cs : List Str} (h : excWB cs K = true) (hg : ∀ c ∈ cs, mg c = some (.ref (He.ga K c))) (hl : mg "LookError" = some (.ref (He.ga K "LookError"))) : ExcW K mg cs := by
  refine ⟨fun c hc => ?_, _, hl⟩
  obtain ⟨h1, h2⟩ := He.ba (List.all_eq_true.mp h c hc)
  obtain ⟨h2, h3⟩ := He.ba h2
  obtain ⟨h3, h4⟩ := He.ba h3
  refine ⟨_, hg c hc, excC_of h1, of_decide_eq_true h2, fun CS e => ?_, fun c' hc' D' e => ?_⟩
  · rw [hl] at e
    cases e
    exact of_decide_eq_true h3
  · rw [hg c' hc'] at e
    cases e
    exact of_decide_eq_true (List.all_eq_true.mp h4 c' hc')
section
variable {K : PySem.W.Frag} {h : Heap} {mg : Str → Option Value} {fa : List He.Fa} {fn : List He.DefD}
/-- a def by its name -/
theorem funG_of (X : K.In h) (G : h.Ns mainGlobals mg) (c : He.SaysD fa fn K) {x : Str} {st : Stmt} (hd : (⟨(x, none), x, x, defArgs st, defBody st, defScope st, [], []⟩ : He.DefD) ∈ fn) (hf : He.Fa.glo x ∈ fa) : FunG K mg x st := by
  obtain ⟨fd, F⟩ := c.defs hd
  exact ⟨_, fd, F, He.glo_ok X G (c.facts hf)⟩
theorem excF_of (X : K.In h) (G : h.Ns mainGlobals mg) (c : He.SaysD fa fn K) {x : Str} (hf : He.Fa.glo x ∈ fa) (he : He.Fa.exc x ∈ fa) : ExcF K mg x := by
  obtain ⟨h1, h2, h3, h4⟩ := He.exc_ok (c.facts he)
  exact ⟨_, He.glo_ok X G (c.facts hf), h1, h2, h3, h4⟩
/-- the law's def: its code object -/
theorem funC_of (X : K.In h) (G : h.Ns mainGlobals mg) (c : He.SaysD fa fn K) {x : Str} {st : Stmt} (hd : (⟨(x, none), x, x, defArgs st, defBody st, defScope st, [], []⟩ : He.DefD) ∈ fn) (hf : He.Fa.glo x ∈ fa) : FunC K mg x st (He.cT K (x, none)).1 := by
  obtain ⟨fd, F⟩ := c.defs hd
  obtain ⟨oc, od, dV, kV, doc, pm, an, cdv, ct, osl, rfl, lk, hcd, hD, hK⟩ := id F.ex
  refine ⟨_, _, F, He.glo_ok X G (c.facts hf), ?_⟩
  cases cdv with
  | ref z =>
    have e := He.codeOf_eq (c := z) lk rfl
    show Value.ref z = .ref (He.codeOf K (x, none))
    rw [← e] <;> rfl
  | _ => cases hcd
end
/-- the script's bounds -/
def ScrOk (ns : List Int) : Prop := ns.length ≤ 63 ∧ ∀ z ∈ ns, Builtin.Int.intBits z ≤ 1048576
/-- the law's promise, from its walk and the plain law -/
theorem law_at {l : PySem.W.OpenLaw} {w : World} {K : PySem.W.Frag} {mg : Str → Option Value} {h : Heap} {st : Stmt} {x : Str} {k : Nat} {F : List D → R D} {ps : List (Str × Option Str)} {f : Addr} {fd : FuncData}
    (X : K.In h) (hd : ∀ p ∈ ps, PySem.W.codeHdIn K (He.cT K p).1 (He.cT K p).2 = true) (ho : ∀ p ∈ ps, K.lookup (He.cT K p).2 = none) (he : ∀ p ∈ ps, h.get? (He.cT K p).2 = some { cls := .none, data := .fields #[] })
    (FD : FunD K "law" "law" (defArgs st) (defBody st) (defScope st) [] [] f fd)
    (bb : ∀ (kV doc pm : Value) (an : Option Addr) (cdv ct : Value) (us : List Value), us.length = ([x] : List Str).length → bindArgs (PySem.W.fnOf "law" "law" (defArgs st) (defBody st) (defScope st) .none kV doc pm an cdv ct) ⟨us, []⟩ = pure (([x] : List Str).zip us))
    (hF : ∀ ns, ScrOk ns → F [.scr ns] = .ok (.bl true))
    (hok : ∀ base : Heap, K.In base → base.Ns mainGlobals mg → (∀ p ∈ ps, TabB base mg (He.cT K p).1 (He.cT K p).2) → FnOk l.prog w K mg base (L2N.CX l.prog w) k f fd [x] (spD K mg (ps.map fun p => ((He.cT K p).2, p.1 ++ ".<locals>." ++ "<lambda>")) 1 F)) :
    LawAtS l w K (L2N.CX l.prog w) k 63 x mg f h := by
  refine ⟨fd, ps.map (He.cT K), spD K mg (ps.map fun p => ((He.cT K p).2, p.1 ++ ".<locals>." ++ "<lambda>")) 1 F, fun p hp => ?_, fun p hp => ?_, fun p hp => ?_, fun s u => FD.bindsA (ps := [x]) bb s [u] rfl, fun H a ns hn hb hT hS => ?_, fun base KB NB TB => hok base KB NB fun p hp => TB _ (List.mem_map_of_mem hp)⟩
  · obtain ⟨q, hq, rfl⟩ := List.mem_map.mp hp
    exact he q hq
  · obtain ⟨q, hq, rfl⟩ := List.mem_map.mp hp
    exact ho q hq
  · obtain ⟨q, hq, rfl⟩ := List.mem_map.mp hp
    exact PySem.W.codeHd_of_K X (hd q hq)
  · have tabs : Tabs (ps.map fun p => ((He.cT K p).2, p.1 ++ ".<locals>." ++ "<lambda>")) H := fun p hp => by
      obtain ⟨q, hq, rfl⟩ := List.mem_map.mp hp
      exact TabS.nil (hT _ (List.mem_map_of_mem hq))
    have fin : ∀ Hs, ExtW Hs H → Sz Hs → SqL K Hs a (ns.map V.int) → spD K mg (ps.map fun p => ((He.cT K p).2, p.1 ++ ".<locals>." ++ "<lambda>")) 1 F [.ref a] H (fun v _ => v = .bl true) fun _ _ _ => False := fun Hs sub sz hS => by
      refine ⟨Hs, [.scr ns], ⟨sub, tabs, sz⟩, ⟨.ref a, [], rfl, ⟨a, rfl, hS⟩, rfl⟩, rfl, ?_⟩
      rw [hF ns ⟨hn, hb⟩]
      intro v Hs' H' st' is
      exact is
    have hl : (ns.map V.int).length ≤ sizeLine := by rw [List.length_map, sizeLine_eq]; omega
    have one : ∀ o, H a = some o → ExtW (upd (fun _ => none) a o) H := fun o e => .of fun b u q => by
      by_cases hb : b = a
      · subst hb
        rw [upd_same] at q
        cases q
        exact e
      · rw [upd_ne hb] at q
        cases q
    have nosz : Sz (fun _ => none) := fun b vs r => by
      rcases r with (r | ⟨o, r⟩) | (r | ⟨o, r⟩) <;> cases r
    rcases hS with (r | ⟨o, r⟩) | r
    · refine fin _ (one _ r) (fun b vs q => ?_) (.inl (.inl upd_same))
      by_cases hb : b = a
      · subst hb
        rcases q with (q | ⟨o, q⟩) | (q | ⟨o, q⟩) <;> rw [upd_same] at q <;> cases q
        exact hl
      · rcases q with (q | ⟨o, q⟩) | (q | ⟨o, q⟩) <;> rw [upd_ne hb] at q <;> cases q
    · refine fin _ (one _ r) (fun b vs q => ?_) (.inl (.inr ⟨o, upd_same⟩))
      by_cases hb : b = a
      · subst hb
        rcases q with (q | ⟨o, q⟩) | (q | ⟨o, q⟩) <;> rw [upd_same] at q <;> cases q
        exact hl
      · rcases q with (q | ⟨o, q⟩) | (q | ⟨o, q⟩) <;> rw [upd_ne hb] at q <;> cases q
    · exact fin _ (.of fun b u q => by cases q) nosz (.inr r)
end FL
set_option maxHeartbeats 4000000
/-! FL16: sum, sorted of a tuple of ints. -/
namespace PyProof.Rows
open PySem PySem.Spec
section
variable {prog : Program} {w : World} {A : Around} {E : Value → Shared → Prop} {s : Shared}
theorem collectT {l : Addr} {zs : List Value} {o : Obj} {n : Nat} {Q : List Value → Shared → Prop} (ho : s.heap.get? l = some o) (hc : o.cls = .type "tuple") (hd : o.data = .seq zs.toArray n)
    (h : Q zs { s with heap := (s.heap.push (seqObj "list" #[] 0)).update s.heap.objs.size (Obj.mapSeq (· ++ zs.toArray)) }) (hz : zs.length ≤ sizeLine) : wpAny (model prog w) A (collect (.ref l)) Q E s := by
  unfold collect
  refine wpAny_bind (wpAny_runValue (codeAny_builtin entry_proto_collect' ?_))
  show wpAny _ _ (do again (.builtin "list.__iadd__" ⟨[← newList [], Value.ref l], []⟩)) _ _ s
  refine wpAny_bind (wpAny_newList (wpAny_pure ⟨Code.quiet_builtin _ (by decide +kernel), codeAny_builtin entry_list_iadd' ?_⟩))
  show wpAny _ _ (Builtin.List.listExtendWith (Value.ref s.heap.objs.size) (.ref l) (.ref s.heap.objs.size)) _ _ { s with heap := s.heap.push (seqObj "list" #[] 0) }
  unfold Builtin.List.listExtendWith
  have ho2 : (s.heap.push (seqObj "list" #[] 0)).get? l = some o := Heap.get?_push_of_some _ ho
  refine wpAny_bind (wpAny_typeOf (T := "tuple") ⟨o, ho2, hc⟩ ?_)
  have ht : (Value.type "tuple" == Value.type "tuple") = true := by rfl
  rw [if_pos (by rw [ht]; simp)]
  refine wpAny_bind (listItems_at ho2 hd ?_)
  refine wpAny_bind (listItems_at (n := 0) (xs := #[]) (Heap.get?_push_size _ rfl) rfl ?_)
  rw [if_neg (by simp)]
  refine wpAny_bind (listUpdate_at (n := 0) (xs := #[]) (Heap.get?_push_size _ rfl) rfl ?_ (Nat.zero_le _) (by show (#[] ++ zs.toArray).size ≤ sizeLine + 1; simp only [Array.size_append, List.size_toArray, List.length_nil]; omega))
  refine wpAny_pure ?_
  show wpAny (model prog w) A (do
      let o ← load s.heap.objs.size
      match o.data with
      | .seq ys _ => pure ys.toList
      | _ => unsupported "internal:collect") Q E { s with heap := (s.heap.push (seqObj "list" #[] 0)).update s.heap.objs.size (Obj.mapSeq (· ++ zs.toArray)) }
  refine wpAny_bind (wpAny_load (get?_update_seq (Heap.get?_push_size _ rfl) _) ?_)
  show wpAny _ _ (pure ((#[] : Array Value) ++ zs.toArray).toList) Q E _
  rw [show ((#[] : Array Value) ++ zs.toArray).toList = zs by simp]
  exact wpAny_pure h
end
end PyProof.Rows
namespace SrtO
open PySem PySem.Spec PyProof.Rows
section
variable {prog : Program} {w : World} {A : Around} {E : Value → Shared → Prop} {s : Shared}
theorem sorted_tupO {l : Addr} {zs : List Value} {o : Obj} {n : Nat} {ltv : Value → Value → Bool} {Q : Value → Shared → Prop} (O : Swo ltv) (ho : s.heap.get? l = some o) (hc : o.cls = .type "tuple") (hd : o.data = .seq zs.toArray n) (hz : zs.length ≤ sizeLine)
    (hS : 2 ≤ zs.length → ∀ (h₁ : Heap) (a : Addr), h₁.get? a = some (seqObj "list" zs.toArray 0) → (∀ b o, s.heap.get? b = some o → b ≠ a ∧ h₁.get? b = some o) → SortableO prog w A.in1.in1 { s with heap := h₁ } a zs ltv)
    (h : ∀ out : List Value, Srtd ltv out → Stb ltv out zs → Q (.ref (s.heap.objs.size + 1)) { s with heap := sortedAll s.heap zs out.toArray }) : wpAny (model prog w) A (call (.builtin "sorted") [.ref l]) Q E s := by
  refine Calls.call_function_entry kind_sorted plain_sorted entry_sorted (args_sorted1 (.ref l)) ?_
  unfold Builtin.«sorted»
  refine wpAny_bind (m := checkCount "sorted" 1 1 _) (wpAny_pure ?_)
  refine wpAny_bind (collectT ho hc hd ?_ hz)
  refine wpAny_bind (wpAny_newList ?_ hz)
  have gsz : ((s.heap.push (seqObj "list" #[] 0)).update s.heap.objs.size (Obj.mapSeq (· ++ zs.toArray))).objs.size = s.heap.objs.size + 1 := by rw [Heap.size_update, size_push']
  have gL : (((s.heap.push (seqObj "list" #[] 0)).update s.heap.objs.size (Obj.mapSeq (· ++ zs.toArray))).push (seqObj "list" zs.toArray 0)).get? (s.heap.objs.size + 1) = some (seqObj "list" zs.toArray 0) := by rw [← gsz]; exact Heap.get?_push_size _ rfl
  have keep : ∀ b u, s.heap.get? b = some u → b ≠ s.heap.objs.size + 1 ∧ (((s.heap.push (seqObj "list" #[] 0)).update s.heap.objs.size (Obj.mapSeq (· ++ zs.toArray))).push (seqObj "list" zs.toArray 0)).get? b = some u := fun b u q => by
    have lt : b < s.heap.objs.size := Heap.lt_size q
    refine ⟨Nat.ne_of_lt (Nat.lt_succ_of_lt lt), Heap.get?_push_of_some _ ?_⟩
    rw [Heap.get?_update_ne _ _ _ _ (Nat.ne_of_lt lt)]
    exact Heap.get?_push_of_some _ q
  show wpAny _ _ _ _ _ { s with heap := ((s.heap.push (seqObj "list" #[] 0)).update s.heap.objs.size (Obj.mapSeq (· ++ zs.toArray))).push (seqObj "list" zs.toArray 0) }
  rw [gsz]
  refine wpAny_bind (wpAny_holding (wpAny_call_entry slot_list_sort ⟨_, gL, rfl⟩ entry_list_sort (list_sort_ord O gL hz (fun h2 => hS h2 _ _ gL keep) fun out h3 h4 => ⟨_, rfl, ?_⟩) (args_list_sort _)))
  exact wpAny_pure ⟨_, rfl, h out h3 h4⟩
end
end SrtO
namespace FL
open PySem PySem.Spec PyProof.Rows L2
section
variable {X : Cx} {T : List (Addr × Str)}
theorem call_sortT : CallR X (.builtin "sorted") (fun vs H Q => ∃ (a : Addr) (ns : List Int), vs = [V.ref a] ∧ SqT X.K H a (ns.map V.int) ∧ ∀ (ns' : List Int) (p : Addr), ns'.Perm ns → ns'.Pairwise (· ≤ ·) → H p = none → Q (.ref p) (upd H p (.lst (ns'.map V.int)))) := by
  intro pz s σ H vs us Q I r h
  obtain ⟨a, ns, rfl, hs, q⟩ := h
  obtain ⟨its, rv, ⟨o, ho, hc, n, hd⟩, hz⟩ := I.tuple hs
  rw [Vals.ref1 r]
  have hi := rv.ints
  have hz' : its.length ≤ sizeLine := by rw [← rv.length]; first | exact hz | (simp only [List.size_toArray] at hz; rw [rv.length]; exact hz)
  refine SrtO.sorted_tupO SrtO.swo_int ho hc hd hz' (fun h2 h₁ a' _ _ => SrtO.ints_sortable hi h2) fun out h1 h2 => ?_
  obtain ⟨k1, k2, k3⟩ := SrtO.ints_out hi h1 h2
  obtain ⟨ep, he'⟩ := PyProof.Rows.sortedAll_at s.heap its out.toArray
  have hlen : ((out.map SrtO.iv).map V.int).length ≤ sizeLine := by
    have := rv.length
    rw [List.length_map] at this
    rw [List.length_map, k2.length_eq]
    omega
  exact ⟨.ref _, upd H (s.heap.objs.size + 1) (.lst ((out.map SrtO.iv).map V.int)), I.laid (t' := s.toks) (fun _ _ => PyProof.Rows.sortedAll_old) (Nat.le_succ _) ⟨hlen, out, ep, vals_of_ints k1, he'⟩, rfl, q _ _ k2 k3 (I.hok.fresh (Nat.le_succ _))⟩
theorem call_sumT (hc : X.calm = true) : CallR X (.builtin "sum") (fun vs H Q => ∃ (a : Addr) (ns : List Int), vs = [V.ref a] ∧ SqT X.K H a (ns.map V.int) ∧ Q (.int ns.sum) H) := by
  intro pz s σ H vs us Q I r h
  obtain ⟨a, ns, rfl, hs, q⟩ := h
  obtain ⟨its, rv, pt, hz⟩ := I.tuple hs
  rw [Vals.ref1 r]
  have hi := rv.ints
  obtain ⟨xs, e⟩ := hi.allInts.items
  have hn : numsOf (intItems xs).toList = ns := by rw [← e]; exact hi.numsOf
  rw [nums_intItems] at hn
  have pt : s.heap.IsTuple a its.toArray := pt
  rw [e] at pt
  refine PySem.W.ktm_sumG (I.ok.hd hc) pt fun h' tk t' hk => ?_
  have z : preSum (numAt xs) xs.size = ns.sum := by rw [preSum_eq, List.take_of_length_le (by simp), hn]
  rw [z]
  exact ⟨.int _, H, I.kept hk, ⟨_, rfl⟩, q⟩
theorem CallR.or2 {f : Value} {r r' : List V → Hp → VK → Prop} (h : CallR X f r) (h' : CallR X f r') : CallR X f (fun xs H Q => r xs H Q ∨ r' xs H Q) := fun pz s σ H xs us Q I rv q => q.elim (h pz s σ H xs us Q I rv) (h' pz s σ H xs us Q I rv)
/-- of lists and of tuples -/
def intsLT (g : List Int → R D) : D → R D
  | .lst ds => match asInts ds with
    | some ns => g ns
    | none => .no
  | .tup ds => match asInts ds with
    | some ns => g ns
    | none => .no
  | _ => .no
@[simp] theorem intsLT_lst (g : List Int → R D) (ns : List Int) : intsLT g (.lst (ns.map D.int)) = g ns := by
  unfold intsLT
  simp only [asInts_map]
@[simp] theorem intsLT_tup (g : List Int → R D) (ns : List Int) : intsLT g (.tup (ns.map D.int)) = g ns := by
  unfold intsLT
  simp only [asInts_map]
theorem ints_tup {g : List Int → R D} {ds : List D} {x : V} {Hs H : Hp} {Q : VK} {W : Str → Hp → Prop} (to : At T Hs H) (is : IsT X.K X.mg Hs H (.tup ds) x) (hp : PostG T (rIs X.K X.mg) W (intsLT g (.tup ds)) Hs H Q) :
    ∃ a ns, x = .ref a ∧ SqT X.K H a (ns.map V.int) ∧ ns.length ≤ sizeLine ∧ PostG T (rIs X.K X.mg) W (g ns) Hs H Q := by
  unfold intsLT at hp
  cases e : asInts ds with
  | none => simp only [e] at hp; exact hp.elim
  | some ns =>
    simp only [e] at hp
    have e := asInts_eq e
    subst e
    obtain ⟨p, vs, rfl, p1, p2, p3, p4⟩ := is.tup to
    have e3 := p3.ints
    subst e3
    exact ⟨p, ns, rfl, p1, by rw [List.length_map] at p4; exact p4, hp⟩
def sumTD : D → R D := intsLT fun ns => .ok (.int ns.sum)
def sortTD : D → R D := intsLT fun ns => .ok (.lst ((sortI ns).map D.int))
theorem c_sumT (hc : X.calm = true) : Cal1 X T (.builtin "sum") sumTD := by
  refine ⟨_, CallR.or2 (cr_sum hc) (call_sumT hc), fun W d x Hs H Q to is hp => ?_⟩
  cases d with
  | tup ds =>
    obtain ⟨a, ns, rfl, h1, _, h2⟩ := ints_tup to is hp
    exact .inr ⟨a, ns, rfl, h1, PostG.ret (rel := rIs X.K X.mg) h2 to rfl⟩
  | lst ds =>
    obtain ⟨a, ns, rfl, h1, _, h2⟩ := ints_of (g := fun ns => .ok (.int ns.sum)) to is hp
    exact .inl ⟨a, ns, rfl, h1, PostG.ret (rel := rIs X.K X.mg) h2 to rfl⟩
  | _ => exact hp.elim
theorem c_sortT : Cal1 X T (.builtin "sorted") sortTD := by
  refine ⟨_, CallR.or2 cr_sortedI call_sortT, fun W d x Hs H Q to is hp => ?_⟩
  have fin : ∀ {ns ns' : List Int} {p : Addr}, PostG T (rIs X.K X.mg) W (.ok (.lst ((sortI ns).map D.int))) Hs H Q → ns.length ≤ sizeLine → ns'.Perm ns → ns'.Pairwise (· ≤ ·) → H p = none → Q (.ref p) (upd H p (.lst (ns'.map V.int))) := fun {ns ns' p} h2 hz k1 k2 hpn => by
    have e : ns' = sortI ns := sorted_uniq (k1.trans (sortI_perm ns).symm) k2 (sortI_sorted ns)
    subst e
    have st := Step.lst (vs := (sortI ns).map V.int) to hpn (by rw [List.length_map, (sortI_perm ns).length_eq]; exact hz)
    exact h2 _ _ _ st ⟨p, _, rfl, upd_same, IsL.of_ints⟩
  cases d with
  | tup ds =>
    obtain ⟨a, ns, rfl, h1, hz, h2⟩ := ints_tup to is hp
    exact .inr ⟨a, ns, rfl, h1, fun ns' p k1 k2 hpn => fin h2 hz k1 k2 hpn⟩
  | lst ds =>
    obtain ⟨a, ns, rfl, h1, hz, h2⟩ := ints_of (g := fun ns => .ok (.lst ((sortI ns).map D.int))) to is hp
    exact .inl ⟨a, ns, rfl, h1, fun ns' p k1 k2 hpn => fin h2 hz k1 k2 hpn⟩
  | _ => exact hp.elim
end
end FL
set_option maxHeartbeats 4000000
/-! FL17: list.count of data. -/
namespace FL
open PySem PySem.Spec PyProof.Rows L2
section
variable {X : Cx} {T : List (Addr × Str)} {W : Str → Hp → Prop} {e a b : Expr} {ma mb : Env → R D} {pos p : Pos}
def rCountD (K : PySem.W.Frag) : V → List V → Hp → VK → Prop := fun x xs H Q => ∃ (q : Addr) (y : V) (d : PyData) (ds : List PyData), x = V.ref q ∧ xs = [y] ∧ Dp K H (V.ref q) (.list ds) ∧ Dp K H y d ∧ SeqAt.shaped (.list ds) = true ∧ SeqAt.shaped d = true ∧ Q (.int ((ds.countP fun z => PyData.eqv z d : Nat) : Int)) H
theorem mt_countD (hu : X.A.units + 65 < cLine) : MtR X "list.count" (rCountD X.K) := by
  intro pz s σ H x xs v us Q I rx rxs h
  obtain ⟨q, y, d, ds, rfl, rfl, hl, hy, sl, sd, k⟩ := h
  cases rx
  cases rxs with
  | cons ry rt =>
    rename_i uy ut
    cases rt
    obtain ⟨bs, r1⟩ := Dp.reads I d y uy hy ry
    have hxs : PyData.canLayAll0 ds = true := SeqAt.canLay_of_shaped sl
    have room : X.A.units + 1 + min (PyData.depthAll ds) d.depth < cLine := room_in_shaped sd hu
    cases hl with
    | lst hs ha =>
      obtain ⟨its, rv, ⟨⟨cls, dd, data, sls⟩, n, ho, hc, hdn, hdt⟩, hlen⟩ := I.list hs
      simp only at hc hdt
      subst hc hdt
      obtain ⟨as, h4⟩ := Dp.readsAll I ds _ its ha rv
      have hmap : its.map (SeqAt.readOf s.heap) = ds := SeqAt.readsAll_map ds its as hxs h4
      refine call_meets PySem.F.slot_list_count ⟨_, ho, rfl⟩ PySem.F.entry_list_count (PySem.F.args_list_count_2 _ _)
        (SeqAt.list_countAt q its.toArray n dd sls uy (fun u => PyData.eqv (SeqAt.readOf s.heap u) d)) ⟨ho, SeqAt.items_eqAt (vs := its.toArray) (show ReadsAll s.heap its.toArray.toList ds as from h4) r1 hxs (SeqAt.canLay_of_shaped sd) room, ?_⟩
      have ec : its.toArray.toList.countP (fun u => PyData.eqv (SeqAt.readOf s.heap u) d) = ds.countP fun z => PyData.eqv z d := by
        rw [← hmap, List.countP_map]
        rfl
      refine ⟨.int ((ds.countP fun z => PyData.eqv z d : Nat) : Int), H, I.tok _, ⟨s.toks, ?_⟩, k⟩
      rw [ec]
def lctD (ds : List D) (x : D) : R D := if shD 60 x && shL 59 ds then .ok (.int ((ds.countP fun z => eqvD z x : Nat) : Int)) else .no
def mLct (ma mb : Env → R D) : Env → R D := fun ρ => (ma ρ).bind fun d => (asL d).bind fun ds => (mb ρ).bind fun y => lctD ds y
theorem count_toP {x : D} {n : Nat} : ∀ {ds : List D}, shL n ds = true → shD n x = true → (toPs ds).countP (fun z => PyData.eqv z (toP x)) = ds.countP fun z => eqvD z x
  | [], _, _ => rfl
  | d :: ds, h, hx => by
    obtain ⟨h1, h2⟩ := Bool.and_eq_true_iff.mp (show (shD n d && shL n ds) = true from h)
    show List.countP _ (toP d :: toPs ds) = _
    rw [List.countP_cons, List.countP_cons, count_toP h2 hx, eqv_toP d x n h1 hx]
theorem pd_lct {p2 p3 : Pos} (hu : X.A.units + 65 < cLine) (ha : PDt X T W a ma) (hb : PDt X T W b mb)
    (hbase : attributeBase a "count" X.env (eval a X.env) = eval a X.env := by rfl)
    (hfew : ((backTo p3 (starEach [b] X.env)).all (fun x => !x.1) && (backToKw p3 (keywordEach [] X.env)).all (fun x => x.1.isSome) && decide ([b].length + ([] : List Keyword).length + (if ([] : List Keyword).isEmpty then 0 else 1) < 30)) = true := by rfl)
    (hline : (p2.endLine == p3.line) = true := by rfl) (hst : starEach [b] X.env = (false, eval b X.env) :: starEach [] X.env := by rfl) (hplain : (backTo p3 (starEach [] X.env)).any (·.1) = false := by rfl) :
    PD X T W (.Call (.Attribute a "count" p2) [b] [] p3) (mLct ma mb) := by
  obtain ⟨ta, pa, ea⟩ := ha
  obtain ⟨tb, pb, eb⟩ := hb
  refine ⟨_, pe_bm PySem.F.plainAttrs_list PySem.F.slot_list_count PySem.F.type_list_count (mt_countD hu) pa (pa_cons pb pa_nil hst) hbase hfew hline hst hplain, fun ρ Hs σ H Q rp hp => ea ρ Hs σ H _ rp (PostG.mono (PostG.bind hp) fun v H1 ⟨Hs1, d, st, is, hp1⟩ => ?_)⟩
  cases d with
  | lst ds =>
    obtain ⟨q, vs, rfl, q1, q2, q3⟩ := is.lst st.to
    refine ⟨.inl ⟨rfl, _, .of q1⟩, eb ρ Hs1 σ H1 _ (rp.step st) (PostG.mono (PostG.bind hp1) fun u H2 ⟨Hs2, d2, st2, is2, hp2⟩ => ?_)⟩
    have hp2 : PostG T (rIs X.K X.mg) W (lctD ds d2) Hs2 H2 Q := hp2
    unfold lctD at hp2
    cases c : (shD 60 d2 && shL 59 ds) with
    | false => simp only [c] at hp2; exact hp2.elim
    | true =>
      simp only [c, if_true] at hp2
      obtain ⟨c1, c2⟩ := Bool.and_eq_true_iff.mp c
      have sh : shD 60 (.lst ds) = true := by unfold shD; exact Bool.and_eq_true_iff.mpr ⟨rfl, c2⟩
      have c2' := shL_up ds 59 60 (by omega) c2
      refine ⟨q, u, toP d2, toPs ds, rfl, rfl, dp_of (.lst ds) 60 _ sh ((is.step st2).full st2.to), dp_of d2 60 u c1 (is2.full st2.to), shaped_of sh, shaped_of c1, ?_⟩
      rw [count_toP c2' c1]
      exact PostG.ret (rel := rIs X.K X.mg) hp2 st2.to rfl
  | _ => exact hp1.elim
end
/-! ### several defs with lambdas -/
theorem nodup_inj {α β : Type} {f : α → β} : ∀ {xs : List α}, (xs.map f).Nodup → ∀ {a b : α}, a ∈ xs → b ∈ xs → f a = f b → a = b
  | [], _, _, _, h, _, _ => by cases h
  | x :: xs, nd, a, b, ha, hb, e => by
    rw [List.map_cons, List.nodup_cons] at nd
    rcases List.mem_cons.mp ha with h1 | h1 <;> rcases List.mem_cons.mp hb with h2 | h2
    · rw [h1, h2]
    · subst h1
      exact absurd (by rw [e]; exact List.mem_map_of_mem h2) nd.1
    · subst h2
      exact absurd (by rw [← e]; exact List.mem_map_of_mem h1) nd.1
    · exact nodup_inj nd.2 h1 h2 e
theorem lamOk_of {base : Heap} {mg : Str → Option Value} {K : PySem.W.Frag} {ps : List (Str × Option Str)} {x : Str} (nd : (ps.map fun p => (He.cT K p).2).Nodup) (hp : (x, none) ∈ ps) (TB : LamX.TabB base mg (He.cT K (x, none)).1 (He.cT K (x, none)).2) :
    LamOk base mg (ps.map fun p => ((He.cT K p).2, p.1 ++ ".<locals>." ++ "<lambda>")) x (He.cT K (x, none)).1 (He.cT K (x, none)).2 := by
  refine ⟨TB, List.mem_map.mpr ⟨(x, none), hp, rfl⟩, fun q hq e => ?_⟩
  obtain ⟨p, hp2, rfl⟩ := List.mem_map.mp hq
  have := nodup_inj nd hp2 hp e
  subst this
  rfl
end FL
set_option maxHeartbeats 4000000
/-! FL18: xs[i::-1], is True, max and min of a list of ints with a default. -/
namespace FL
open PySem PySem.Spec PyProof.Rows L2
section
variable {X : Cx} {T : List (Addr × Str)} {W : Str → Hp → Prop} {e a b : Expr} {es : List Expr} {m ma mb : Env → R D} {pos p : Pos}
/-! ### is True, is not True -/
def isBD (neg : Bool) : D → D → R D
  | .bl x, .bl y => .ok (.bl (xor neg (x == y)))
  | _, _ => .no
theorem o_isB : Op2 X T (compareOp .Is) (isBD false) := by
  refine ⟨_, op_isBl, fun W d e x y Hs H Q to hd he hp => ?_⟩
  cases d with
  | bl i =>
    cases e with
    | bl j =>
      cases hd.flat (fun _ z => nomatch z)
      cases he.flat (fun _ z => nomatch z)
      refine ⟨i, j, rfl, rfl, ?_⟩
      have e2 : decide (i = j) = xor false (i == j) := by cases i <;> cases j <;> rfl
      rw [e2]
      exact PostG.ret (rel := rIs X.K X.mg) hp to rfl
    | _ => exact hp.elim
  | _ => exact hp.elim
theorem o_notB : Op2 X T (compareOp .IsNot) (isBD true) := by
  refine ⟨_, op_notBl, fun W d e x y Hs H Q to hd he hp => ?_⟩
  cases d with
  | bl i =>
    cases e with
    | bl j =>
      cases hd.flat (fun _ z => nomatch z)
      cases he.flat (fun _ z => nomatch z)
      refine ⟨i, j, rfl, rfl, ?_⟩
      have e2 : (!decide (i = j)) = xor true (i == j) := by cases i <;> cases j <;> rfl
      rw [e2]
      exact PostG.ret (rel := rIs X.K X.mg) hp to rfl
    | _ => exact hp.elim
  | _ => exact hp.elim
/-! ### xs[i::-1] -/
/-- how many items xs[lo::-1] has, of n -/
def bkN (n : Nat) (lo : Option Int) : Nat := ((sliceBounds lo none (some (-1)) n).1 + 1).toNat
theorem bk_bounds (n : Nat) (lo : Option Int) : sliceBounds lo none (some (-1)) n = (((bkN n lo : Nat) : Int) - 1, -1, -1) ∧ bkN n lo ≤ n := by
  have h1 : ¬ ((-1 : Int) > 0) := by decide
  cases lo with
  | none =>
    have e : (sliceBounds none none (some (-1)) n).1 = (n : Int) - 1 := by rw [PySem.W.krv_bounds]
    refine ⟨?_, by unfold bkN; rw [e]; omega⟩
    rw [PySem.W.krv_bounds]
    unfold bkN
    rw [e]
    congr 1
    omega
  | some i =>
    have e : sliceBounds (some i) none (some (-1)) n = (max (-1) (min (if i < 0 then i + n else i) ((n : Int) - 1)), -1, -1) := by
      unfold sliceBounds
      simp [h1]
    refine ⟨?_, ?_⟩
    · rw [e]
      unfold bkN
      rw [e]
      congr 1
      show max (-1) (min (if i < 0 then i + n else i) ((n : Int) - 1)) = (((max (-1) (min (if i < 0 then i + n else i) ((n : Int) - 1)) + 1).toNat : Nat) : Int) - 1
      omega
    · unfold bkN
      rw [e]
      show (max (-1) (min (if i < 0 then i + n else i) ((n : Int) - 1)) + 1).toNat ≤ n
      omega
theorem bk_pick (items : Array Value) (lo : Option Int) : slicePick items lo none (some (-1)) = (items.toList.take (bkN items.size lo)).reverse.toArray := by
  obtain ⟨e, _⟩ := bk_bounds items.size lo
  unfold slicePick
  rw [e]
  show ((sliceRange (((bkN items.size lo : Nat) : Int) - 1) (-1) (-1)).filterMap (items[·]?)).toArray = _
  rw [PySem.W.krv_sliceRange, PySem.W.krv_range, List.filterMap_reverse]
  have h := pick_run items 0 (bkN items.size lo)
  have e2 : (List.range (bkN items.size lo)).map (0 + ·) = List.range (bkN items.size lo) := by
    rw [show ((0 + ·) : Nat → Nat) = id from funext fun k => Nat.zero_add k, List.map_id]
  rw [e2, List.drop_zero] at h
  rw [h]
def backD (d : D) (lo : Option Int) : R D := match d with
  | .lst ds => .ok (.lst (ds.take (bkN ds.length lo)).reverse)
  | _ => .no
def mBack (m : Env → R D) (ml : Env → R (Option Int)) : Env → R D := fun ρ => (m ρ).bind fun d => (ml ρ).bind fun lo => backD d lo
theorem pd_back {lo : Option Expr} {ml : Env → R (Option Int)} {k : Nat} {p1 p2 p3 : Pos} (ha : PDt X T W a ma) (hl : POD X T W lo ml) :
    PD X T W (.Subscript a (.Slice lo none (some (.UnaryOp .USub (.Constant (.int 1) k p1) p2)) p3) pos) (mBack ma ml) := by
  obtain ⟨ta, pa, ea⟩ := ha
  obtain ⟨tl, pl, el⟩ := hl
  refine ⟨tD X.K X.mg T W (mBack ma ml), ⟨fun pins s σ H Q I h => ?_⟩, fun ρ Hs σ H Q rp hp => ⟨ρ, Hs, rp, hp⟩⟩
  obtain ⟨ρ, Hs, rp, hp⟩ := h
  refine Subscript_ (thn (pa.run pins s σ H _ I (ea ρ Hs σ H _ rp (PostG.mono (PostG.bind hp) fun v H1 q => q))) fun v s1 ⟨x, H1, I1, r1, Hs1, d, st, is, hp1⟩ => ?_)
  have hst : PO X (some (.UnaryOp .USub (.Constant (.int 1) k p1) p2)) (tPart (tUn (rU fun i => .int (-i)) (tC (.int 1)))) := po_some (pe_un un_neg pe_int)
  refine wpAny_Slice (thn (pl.run pins s1 σ H1 _ I1 (el ρ Hs1 σ H1 _ (rp.step st) (PostG.mono (PostG.bind hp1) fun o H2 q => q))) fun vl s2 ⟨l, H2, I2, pl2, Hs2, o, st2, eo, hp2⟩ => ?_)
  have eo : o = l := eo
  subst eo
  refine thn (po_none.run pins s2 σ H2 (fun o H3 => o = none ∧ H3 = H2) I2 ⟨rfl, rfl⟩) fun vu s3 ⟨u, H3, I3, pu, eu, e3⟩ => ?_
  subst eu e3
  refine thn (hst.run pins s3 σ H3 (fun o H4 => o = some (-1) ∧ H4 = H3) I3 ⟨1, rfl, -1, rfl, rfl, rfl⟩) fun vs s4 ⟨o2, H4, I4, ps, eo2, e4⟩ => ?_
  subst eo2 e4
  cases d with
  | lst ds =>
    obtain ⟨a, xs, rfl, x1, x2, x3⟩ := (is.step st2).lst st2.to
    cases r1
    have I5 : Inv X pins σ H4 { s4 with heap := s4.heap.push { cls := .type "slice", data := .fields #[vl, vu, vs] } } := I4.kept (t' := s4.toks) fun b ob q => Heap.get?_push_of_some _ q
    obtain ⟨its, r, ht, hz⟩ := I5.list (.of x1)
    have hlen := r.length
    show wpAny (model X.prog X.w) X.A (subscriptTail _ (.Slice lo none (some (.UnaryOp .USub (.Constant (.int 1) k p1) p2)) p3) (.ref a) (.ref s4.heap.objs.size)) (EP X pins σ Q) X.xe { s4 with heap := s4.heap.push { cls := .type "slice", data := .fields #[vl, vu, vs] } }
    refine tail_any (ops := [.ref a, .ref s4.heap.objs.size]) ht.isList.typeIs (PySem.slot_list_getitem.lookup) ?_ (by with_unfolding_all rfl)
    refine wpAny_getItem_list_slice ht.isList (Heap.IsSliceOf.new _ vl vu vs) pl2 pu ps (by decide) ?_ (by rw [List.size_toArray]; omega)
    rw [bk_pick]
    have el : (xs.take (bkN ds.length o)).reverse.length ≤ sizeLine := by
      rw [List.length_reverse, List.length_take]; omega
    have en : its.toArray.size = ds.length := by rw [List.size_toArray, ← hlen, x2.length]
    have hp3 : PostG T (rIs X.K X.mg) W (.ok (.lst (ds.take (bkN ds.length o)).reverse)) Hs2 H4 Q := hp2
    have fr : H4 (s4.heap.push { cls := .type "slice", data := .fields #[vl, vu, vs] }).objs.size = none := I5.hok.fresh (Nat.le_refl _)
    have st3 := Step.lst (vs := (xs.take (bkN ds.length o)).reverse) st2.to fr el
    refine ⟨.ref _, _, I5.laid (t' := s4.toks) (o := .lst (xs.take (bkN ds.length o)).reverse) (fun b ob q => Heap.get?_push_of_some _ q) (Nat.le_refl _) ?_, rfl, hp3 _ _ _ st3 ⟨_, _, rfl, upd_same, IsL.mono st3.s _ _ (x2.take _).reverse⟩⟩
    refine ⟨el, (its.take (bkN ds.length o)).reverse, 0, (r.take _).reverse, ?_⟩
    rw [en]
    exact Heap.get?_push_size _ rfl
  | _ => exact hp2.elim
/-! ### max(xs, default=d) -/
def maxDef (ns : List Int) (d : Int) : Int := match ns with
  | [] => d
  | n :: r => maxI n r
def minDef (ns : List Int) (d : Int) : Int := match ns with
  | [] => d
  | n :: r => minI n r
theorem maxI_fold : ∀ (r : List Int) (n : Int), r.foldl max n = maxI n r
  | [], _ => rfl
  | m :: r, n => by
    rw [List.foldl_cons, maxI_fold r]
    show maxI (max n m) r = maxI (if n < m then m else n) r
    congr 1
    split <;> omega
theorem minI_fold : ∀ (r : List Int) (n : Int), r.foldl min n = minI n r
  | [], _ => rfl
  | m :: r, n => by
    rw [List.foldl_cons, minI_fold r]
    show minI (min n m) r = minI (if m < n then m else n) r
    congr 1
    split <;> omega
theorem alike_ints (ns : List Int) : PySem.W.AlikeAll (ns.map PyData.int) := by
  refine ⟨fun x hx y hy => ?_, fun x hx => ?_⟩
  · obtain ⟨i, _, rfl⟩ := List.mem_map.mp hx
    obtain ⟨j, _, rfl⟩ := List.mem_map.mp hy
    rfl
  · obtain ⟨i, _, rfl⟩ := List.mem_map.mp hx
    exact fun z => nomatch z
def rMxD (K : PySem.W.Frag) (f : List Int → Int → Int) : List V → List V → Hp → VK → Prop := fun vs zs H Q => ∃ (a : Addr) (ns : List Int) (k : Int), vs = [V.ref a] ∧ zs = [.int k] ∧ SqL K H a (ns.map V.int) ∧ Q (.int (f ns k)) H
theorem cr_maxD (hc : X.calm = true) (hu : X.A.units + 64 < cLine) : CallRK X (.builtin "max") [Str.ofString "default"] (rMxD X.K maxDef) := by
  intro pins s σ H vs zs us ws Q I r rz h
  obtain ⟨a, ns, k, rfl, rfl, hs, q⟩ := h
  obtain rfl := Vals.ref1 r
  obtain ⟨w1, rfl, e1⟩ := vals1 rz
  obtain ⟨tk, rfl⟩ : ∃ tk, w1 = Value.int k tk := e1
  obtain ⟨its, rv, hl, hz⟩ := I.list hs
  have hi := rv.ints
  have hd := depthInts ns
  refine PySem.W.max_list_default (I.ok.hd hc) hl.isList (hi.reads s.heap) (alike_ints ns) (by omega) (fun h0 h' tk' hk => ?_) (fun y ys i v h' tk' bs e hv rd hk => ?_)
  · cases ns with
    | nil => exact ⟨.int k, H, I.kept hk, ⟨_, rfl⟩, q⟩
    | cons n r => cases h0
  · cases ns with
    | nil => cases e
    | cons n r =>
      cases e
      rw [PySem.W.maxD_ints] at rd
      cases rd
      refine ⟨.int _, H, I.kept hk, ⟨_, rfl⟩, ?_⟩
      rw [maxI_fold]
      exact q
theorem cr_minD (hc : X.calm = true) (hu : X.A.units + 64 < cLine) : CallRK X (.builtin "min") [Str.ofString "default"] (rMxD X.K minDef) := by
  intro pins s σ H vs zs us ws Q I r rz h
  obtain ⟨a, ns, k, rfl, rfl, hs, q⟩ := h
  obtain rfl := Vals.ref1 r
  obtain ⟨w1, rfl, e1⟩ := vals1 rz
  obtain ⟨tk, rfl⟩ : ∃ tk, w1 = Value.int k tk := e1
  obtain ⟨its, rv, hl, hz⟩ := I.list hs
  have hi := rv.ints
  have hd := depthInts ns
  refine PySem.W.min_list_default (I.ok.hd hc) hl.isList (hi.reads s.heap) (alike_ints ns) (by omega) (fun h0 h' tk' hk => ?_) (fun y ys i v h' tk' bs e hv rd hk => ?_)
  · cases ns with
    | nil => exact ⟨.int k, H, I.kept hk, ⟨_, rfl⟩, q⟩
    | cons n r => cases h0
  · cases ns with
    | nil => cases e
    | cons n r =>
      cases e
      rw [PySem.W.minD_ints] at rd
      cases rd
      refine ⟨.int _, H, I.kept hk, ⟨_, rfl⟩, ?_⟩
      rw [minI_fold]
      exact q
def mxDD (f : List Int → Int → Int) (d e : D) : R D := match e with
  | .int k => intsOf (fun ns => .ok (.int (f ns k))) d
  | _ => .no
theorem pd_mxd {x : Str} {id : String} {f : List Int → Int → Int} {kp : Pos} (c : CallRK X (.builtin id) [Str.ofString "default"] (rMxD X.K f)) (hg : Gl X x) (hm : X.mg x = none) (hv : bootBuiltins x = some (.builtin id)) (ha : PDt X T W a ma) (hb : PDt X T W b mb) (hn : x ≠ "__name__" := by decide) (hdb : (x == ("__debug__" : Str)) = false := by decide)
    (he : backTo pos (starEach [a] X.env) = (false, eval a X.env) :: backTo pos (starEach [] X.env) := by rfl) (hpl : (backTo pos (starEach [a] X.env)).any (·.1) = false := by rfl)
    (hs : starEach [a] X.env = (false, eval a X.env) :: starEach [] X.env := by rfl)
    (hall : (backToKw pos (keywordEach [⟨some (Str.ofString "default"), b, kp⟩] X.env)).all (·.1.isSome) = true := by rfl) (hnone : (backToKw pos (keywordEach [⟨some (Str.ofString "default"), b, kp⟩] X.env)).any (·.1.isNone) = false := by rfl) (hks : (backToKw pos (keywordEach [⟨some (Str.ofString "default"), b, kp⟩] X.env)).filterMap (·.1) = [Str.ofString "default"] := by rfl) :
    PD X T W (.Call (.Name x p) [a] [⟨some (Str.ofString "default"), b, kp⟩] pos) (mBin (mxDD f) ma mb) := by
  obtain ⟨ta, pa, ea⟩ := ha
  obtain ⟨tb, pb, eb⟩ := hb
  refine ⟨_, pe_callBK c hg hm hv (pa_cons pa pa_nil hs) (pk_cons pb pk_nil) hn hdb he hpl hall hnone hks, fun ρ Hs σ H Q rp hp => ?_⟩
  refine ea ρ Hs σ H _ rp (PostG.mono (PostG.bind hp) fun x H1 ⟨Hs1, d, st, is, hp1⟩ => eb ρ Hs1 σ H1 _ (rp.step st) ?_)
  refine PostG.mono (PostG.bind hp1) fun y H2 ⟨Hs2, d2, st2, is2, hp2⟩ => ?_
  cases d2 with
  | int k =>
    cases is2.flat (fun _ z => nomatch z)
    obtain ⟨q, ns, rfl, h1, _, h2⟩ := ints_of st2.to (is.step st2) hp2
    exact ⟨q, ns, k, rfl, rfl, h1, PostG.ret (rel := rIs X.K X.mg) h2 st2.to rfl⟩
  | _ => exact hp2.elim
theorem pdss_no {sts : List Stmt} : PDSs X T W sts (fun _ => Oc.no) := ⟨fun _ _ _ => False, ⟨fun _ _ _ _ _ _ h => h.elim⟩, fun _ _ _ _ _ _ _ _ hp => hp.elim⟩
end
/-! ### tuples of ints that the module binds -/
def valsB : List Value → List Int → Bool
  | [], [] => true
  | .int i _ :: r, n :: ns => decide (i = n) && valsB r ns
  | _, _ => false
theorem valsB_ok : ∀ {vs : List Value} {ns : List Int}, valsB vs ns = true → Vals (ns.map V.int) vs
  | [], [], _ => .nil
  | .int i t :: r, n :: ns, h => by
    unfold valsB at h
    rw [Bool.and_eq_true, decide_eq_true_eq] at h
    obtain ⟨rfl, h2⟩ := h
    exact .cons ⟨t, rfl⟩ (valsB_ok h2)
  | [], _ :: _, h => by cases h
  | .int _ _ :: _, [], h => by cases h
  | .none :: _, [], h => by cases h
  | .none :: _, _ :: _, h => by cases h
def tupCB (K : PySem.W.Frag) (D : Addr) (ns : List Int) : Bool := match K.lookup D with
  | some o => decide (o.cls = .type "tuple") && (match o.data with
    | .seq its _ => decide (its.size ≤ sizeLine) && valsB its.toList ns
    | _ => false)
  | none => false
theorem tupC_of {K : PySem.W.Frag} {D : Addr} {ns : List Int} (h : tupCB K D ns = true) (H : Hp) : SqT K H D (ns.map V.int) := by
  unfold tupCB at h
  split at h
  · rename_i o e
    rw [Bool.and_eq_true, decide_eq_true_eq] at h
    obtain ⟨h1, h2⟩ := h
    split at h2
    · rename_i its n e2
      rw [Bool.and_eq_true, decide_eq_true_eq] at h2
      exact .inr ⟨o, its, n, e, h1, e2, h2.1, valsB_ok h2.2⟩
    · cases h2
  · cases h
end FL
set_option maxHeartbeats 4000000
/-! FL19: dicts of the def's own, x.pop(), sorted lists of tuples of ints. -/
namespace FL
open PySem PySem.Spec PyProof.Rows L2
/-! ### dicts by lists -/
def asKey : D → R Key
  | .int i => .ok (.inl i)
  | .str x => .ok (.inr x)
  | _ => .no
def dctAt (ρ : Env) (i : Nat) : R (List (Key × D)) := match ρ[i]? with
  | some (.ob (.dct es)) => .ok es
  | _ => .no
def hasK (es : List (Key × D)) (k : Key) : Bool := es.any fun e => decide (e.1 = k)
def getK (es : List (Key × D)) (k : Key) : R D := match es.find? fun e => decide (e.1 = k) with
  | some e => .ok e.2
  | none => .no
def setK (es : List (Key × D)) (k : Key) (v : D) : List (Key × D) :=
  if hasK es k = true then es.map fun e => if e.1 = k then (e.1, v) else e else es ++ [(k, v)]
theorem asKey_is {K : PySem.W.Frag} {mg : Str → Option Value} {H : Hp} {d : D} {v : V} {k : Key} (h : Is K mg H d v) (e : asKey d = .ok k) : v = kV k := by
  cases d <;> cases e <;> exact h
theorem asKey_ner (d : D) (c : Str) : asKey d ≠ .er c := by cases d <;> intro h <;> cases h
theorem getK_ner (es : List (Key × D)) (k : Key) (c : Str) : getK es k ≠ .er c := by
  unfold getK
  split <;> intro h <;> cases h
section
variable {K : PySem.W.Frag} {mg : Str → Option Value} {H : Hp}
theorem hasK_zip (k : Key) : ∀ (es : List (Key × D)) (vs : List V), vs.length = es.length → (valV ((es.map (·.1)).zip vs) k).isSome = hasK es k
  | [], [], _ => rfl
  | [], _ :: _, h => by simp at h
  | _ :: _, [], h => by simp at h
  | e :: es, v :: vs, h => by
    have ih := hasK_zip k es vs (by simpa using h)
    rw [List.map_cons, List.zip_cons_cons]
    show _ = (decide (e.1 = k) || hasK es k)
    by_cases q : e.1 = k
    · rw [valV_pos (p := (e.1, v)) q, decide_eq_true q]
      rfl
    · rw [valV_neg (p := (e.1, v)) q, decide_eq_false q, ih]
      rfl
theorem getK_zip (k : Key) {d : D} : ∀ {es : List (Key × D)} {vs : List V}, IsL K mg H (es.map (·.2)) vs → getK es k = .ok d → ∃ v, valV ((es.map (·.1)).zip vs) k = some v ∧ Is K mg H d v
  | [], vs, h, g => by cases g
  | e :: es, vs, h, g => by
    obtain ⟨v, r, rfl, h1, h2⟩ := h
    rw [List.map_cons, List.zip_cons_cons]
    unfold getK at g
    rw [List.find?_cons] at g
    by_cases q : e.1 = k
    · rw [decide_eq_true q] at g
      cases g
      exact ⟨v, valV_pos (p := (e.1, v)) q, h1⟩
    · rw [decide_eq_false q] at g
      obtain ⟨u, e1, e2⟩ := getK_zip k (es := es) h2 (by unfold getK; exact g)
      exact ⟨u, by rw [valV_neg (p := (e.1, v)) q]; exact e1, e2⟩
theorem any_zip (k : Key) : ∀ (es : List (Key × D)) (vs : List V), vs.length = es.length → (((es.map (·.1)).zip vs).any fun kv => decide (kv.1 = k)) = hasK es k
  | [], [], _ => rfl
  | [], _ :: _, h => by simp at h
  | _ :: _, [], h => by simp at h
  | e :: es, v :: vs, h => by
    have ih := any_zip k es vs (by simpa using h)
    rw [List.map_cons, List.zip_cons_cons, List.any_cons, ih]
    rfl
theorem map_zip (k : Key) {d : D} {u : V} (hu : Is K mg H d u) : ∀ {es : List (Key × D)} {vs : List V}, IsL K mg H (es.map (·.2)) vs → ∃ us, (((es.map (·.1)).zip vs).map fun kv => if kv.1 = k then (kv.1, u) else kv) = ((es.map fun e => if e.1 = k then (e.1, d) else e).map (·.1)).zip us ∧ IsL K mg H ((es.map fun e => if e.1 = k then (e.1, d) else e).map (·.2)) us
  | [], vs, h => by
    cases h
    exact ⟨[], rfl, rfl⟩
  | e :: es, vs, h => by
    obtain ⟨v, r, rfl, h1, h2⟩ := h
    obtain ⟨us, e1, e2⟩ := map_zip k hu (es := es) h2
    by_cases q : e.1 = k
    · refine ⟨u :: us, ?_, u, us, rfl, ?_, e2⟩
      · simp only [List.map_cons, List.zip_cons_cons, if_pos q, e1]
      · show Is K mg H (if e.1 = k then (e.1, d) else e).2 u
        rw [if_pos q]
        exact hu
    · refine ⟨v :: us, ?_, v, us, rfl, ?_, e2⟩
      · simp only [List.map_cons, List.zip_cons_cons, if_neg q, e1]
      · show Is K mg H (if e.1 = k then (e.1, d) else e).2 v
        rw [if_neg q]
        exact h1
theorem put_zip (k : Key) {d : D} {u : V} (hu : Is K mg H d u) {es : List (Key × D)} {vs : List V} (h : IsL K mg H (es.map (·.2)) vs) : ∃ us, putK ((es.map (·.1)).zip vs) k u = ((setK es k d).map (·.1)).zip us ∧ IsL K mg H ((setK es k d).map (·.2)) us := by
  have hl : vs.length = es.length := by rw [h.length, List.length_map]
  have ha := any_zip k es vs hl
  unfold putK setK
  rw [ha]
  cases hasK es k with
  | true =>
    rw [if_pos rfl, if_pos rfl]
    exact map_zip k hu h
  | false =>
    rw [if_neg Bool.false_ne_true, if_neg Bool.false_ne_true]
    refine ⟨vs ++ [u], ?_, by rw [List.map_append]; exact h.snoc hu⟩
    rw [List.map_append, List.zip_append (by rw [List.length_map, hl])]
    rfl
theorem setK_len (es : List (Key × D)) (k : Key) (d : D) : (setK es k d).length ≤ es.length + 1 := by
  unfold setK
  split
  · rw [List.length_map]; omega
  · rw [List.length_append]; exact Nat.le_refl _
end
section
variable {X : Cx} {T : List (Addr × Str)} {W : Str → Hp → Prop} {e a b : Expr} {m ma mb : Env → R D} {pos p : Pos}
theorem Rp.dctAt {K : PySem.W.Frag} {mg : Str → Option Value} {Hs H : Hp} {σ : L2.St} {ρ : Env} {i : Nat} (h : Rp K mg T Hs H σ ρ) {es : List (Key × D)} (e : FL.dctAt ρ i = .ok es) :
    ρ[i]? = some (.ob (.dct es)) ∧ ∃ p vs, σ[i]? = some (some (.ref p)) ∧ Hs p = none ∧ H p = some (.dK ((es.map (·.1)).zip vs)) ∧ IsL K mg Hs (es.map (·.2)) vs ∧ vs.length ≤ sizeLine := by
  unfold FL.dctAt at e
  split at e
  · rename_i es' q
    cases e
    obtain ⟨p, _, e1, e2, e3, vs, rfl, e4, e5⟩ := h.ok i _ q
    exact ⟨q, p, vs, e1, e2, e3, e4, e5⟩
  · cases e
theorem dctAt_ner (ρ : Env) (i : Nat) (c : Str) : dctAt ρ i ≠ .er c := by
  unfold dctAt
  split <;> intro h <;> cases h
def sDnew (i : Nat) : Env → Oc := fun ρ => Oc.nx (ρ.set i (.od []))
/-- x = {} -/
theorem pds_dnew (i : Nat) {x : Str} {pos' dpos : Pos} (hN : X.N.Nodup) (hi : X.N[i]? = some x := by rfl) (hx : Loc X.env.scope x := by first | exact Or.inl rfl | exact Or.inr rfl) (hs : swapsWith (.Dict [] [] dpos) (some (.Name x pos')) pos.line X.env = pure false := by rfl)
    (hf : X.fn x = true ∨ X.env.scope.names.lookup x = some .local := by first | exact .inl rfl | exact .inr rfl) : PDS X T W (.Assign [.Name x pos'] (.Dict [] [] dpos) pos) (sDnew i) := by
  refine ⟨_, ps_set hN hi hx pe_dnewK hs hf, fun ρ Hs0 H0 Hs H σ N fr hp => fun c hc => ?_⟩
  exact hp Hs _ _ (fr.own hc (ds := .dct []) ⟨[], rfl, rfl, Nat.zero_le _⟩)
def mDin (neg : Bool) (i : Nat) (m : Env → R D) : Env → R D := fun ρ => (m ρ).bind fun d => (dctAt ρ i).bind fun es => (asKey d).bind fun k => .ok (.bl (xor neg (hasK es k)))
theorem ev_din {i : Nat} {neg : Bool} {te : TE} (ev : ∀ ρ Hs σ H Q, Rp X.K X.mg T Hs H σ ρ → PostG T (rIsT X.K X.mg) W (ma ρ) Hs H Q → te σ H Q) :
    ∀ ρ Hs σ H (Q : VK), Rp X.K X.mg T Hs H σ ρ → PostG T (rIs X.K X.mg) W (mDin neg i ma ρ) Hs H Q →
      te σ H fun y H1 => tVar i σ H1 fun x H2 => ∃ a o, x = .ref a ∧ DGet H2 a y o ∧ Q (.bl (xor neg o.isSome)) H2 := by
  intro ρ Hs σ H Q rp hp
  refine ev ρ Hs σ H _ rp (PostG.mono (PostG.bind hp) fun v H1 ⟨Hs1, d, st, is, hp1⟩ => ?_)
  have rp1 := rp.step st
  cases q : dctAt ρ i with
  | er c => exact absurd q (dctAt_ner ρ i c)
  | no => rw [q] at hp1; exact hp1.elim
  | ok es =>
    rw [q, R.bind_ok] at hp1
    cases q2 : asKey d with
    | er c => exact absurd q2 (asKey_ner d c)
    | no => rw [q2] at hp1; exact hp1.elim
    | ok k =>
      rw [q2, R.bind_ok] at hp1
      obtain ⟨_, p, vs, e1, e2, e3, e4, e5⟩ := rp1.dctAt q
      have hv : v = kV k := asKey_is (is.flat fun ds z => by subst z; cases q2) q2
      subst hv
      refine ⟨.ref p, e1, p, _, rfl, .k e3, ?_⟩
      rw [hasK_zip k es vs (by rw [e4.length, List.length_map])]
      exact PostG.ret (rel := rIs X.K X.mg) hp1 st.to rfl
theorem pd_din (i : Nat) {x : Str} (hu : X.A.units + 64 < cLine) (ha : PDt X T W a ma) (hN : X.N[i]? = some x := by rfl) (hv : Vis X.env.scope x := by first | exact Or.inl rfl | exact Or.inr (Or.inl rfl) | exact Or.inr (Or.inr rfl)) (hd : (x == ("__debug__" : Str)) = false := by decide)
    (hcd : (x == ("__classdict__" : Str)) = false := by decide) (h1 : behindInMarks .In (.Name x p) = false := by first | exact nomark _ | rfl) : PD X T W (.Compare a [.In] [.Name x p] pos) (mDin false i ma) := by
  obtain ⟨ta, pa, ea⟩ := ha
  refine ⟨_, pe_cmp (pc_din (by omega) pa (pe_var (i := i) hN hv hd hcd)) h1, fun ρ Hs σ H Q rp hp => ?_⟩
  have h := ev_din ea ρ Hs σ H Q rp hp
  simp only [Bool.false_xor] at h
  exact h
theorem pd_dnin (i : Nat) {x : Str} (hu : X.A.units + 64 < cLine) (ha : PDt X T W a ma) (hN : X.N[i]? = some x := by rfl) (hv : Vis X.env.scope x := by first | exact Or.inl rfl | exact Or.inr (Or.inl rfl) | exact Or.inr (Or.inr rfl)) (hd : (x == ("__debug__" : Str)) = false := by decide)
    (hcd : (x == ("__classdict__" : Str)) = false := by decide) (h1 : behindInMarks .NotIn (.Name x p) = false := by first | exact nomark _ | rfl) : PD X T W (.Compare a [.NotIn] [.Name x p] pos) (mDin true i ma) := by
  obtain ⟨ta, pa, ea⟩ := ha
  refine ⟨_, pe_cmp (pc_dnotin (by omega) pa (pe_var (i := i) hN hv hd hcd)) h1, fun ρ Hs σ H Q rp hp => ?_⟩
  have h := ev_din ea ρ Hs σ H Q rp hp
  simp only [Bool.true_xor] at h
  exact h
theorem ptd_din (i : Nat) {x : Str} (hu : X.A.units + 64 < cLine) (ha : PDt X T W a ma) (hN : X.N[i]? = some x := by rfl) (hv : Vis X.env.scope x := by first | exact Or.inl rfl | exact Or.inr (Or.inl rfl) | exact Or.inr (Or.inr rfl)) (hd : (x == ("__debug__" : Str)) = false := by decide)
    (hcd : (x == ("__classdict__" : Str)) = false := by decide) (h1 : behindInMarks .In (.Name x p) = false := by first | exact nomark _ | rfl) : PTD X T W (.Compare a [.In] [.Name x p] pos) (mB (mDin false i ma)) := by
  obtain ⟨ta, pa, ea⟩ := ha
  refine ⟨_, pt_cmp (pc_din (by omega) pa (pe_var (i := i) hN hv hd hcd)) h1, ev_B (te := tDIn ta (tVar i)) fun ρ Hs σ H Q rp hp => ?_⟩
  have h := ev_din ea ρ Hs σ H Q rp hp
  simp only [Bool.false_xor] at h
  exact h
theorem ptd_dnin (i : Nat) {x : Str} (hu : X.A.units + 64 < cLine) (ha : PDt X T W a ma) (hN : X.N[i]? = some x := by rfl) (hv : Vis X.env.scope x := by first | exact Or.inl rfl | exact Or.inr (Or.inl rfl) | exact Or.inr (Or.inr rfl)) (hd : (x == ("__debug__" : Str)) = false := by decide)
    (hcd : (x == ("__classdict__" : Str)) = false := by decide) (h1 : behindInMarks .NotIn (.Name x p) = false := by first | exact nomark _ | rfl) : PTD X T W (.Compare a [.NotIn] [.Name x p] pos) (mB (mDin true i ma)) := by
  obtain ⟨ta, pa, ea⟩ := ha
  refine ⟨_, pt_cmp (pc_dnotin (by omega) pa (pe_var (i := i) hN hv hd hcd)) h1, ev_B (te := tDNotIn ta (tVar i)) fun ρ Hs σ H Q rp hp => ?_⟩
  have h := ev_din ea ρ Hs σ H Q rp hp
  simp only [Bool.true_xor] at h
  exact h
def mDget (i : Nat) (m : Env → R D) : Env → R D := fun ρ => (dctAt ρ i).bind fun es => (m ρ).bind fun d => (asKey d).bind fun k => getK es k
/-- x[k] -/
theorem pd_dget (i : Nat) {x : Str} (hu : X.A.units + 64 < cLine) (ha : PDt X T W a ma) (hN : X.N[i]? = some x := by rfl) (hv : Vis X.env.scope x := by first | exact Or.inl rfl | exact Or.inr (Or.inl rfl) | exact Or.inr (Or.inr rfl)) (hd : (x == ("__debug__" : Str)) = false := by decide)
    (hcd : (x == ("__classdict__" : Str)) = false := by decide) (hs : NoSl a := by exact fun _ _ => rfl) : PD X T W (.Subscript (.Name x p) a pos) (mDget i ma) := by
  obtain ⟨ta, pa, ea⟩ := ha
  refine ⟨_, pe_dget (by omega) (pe_var (i := i) hN hv hd hcd) pa hs, fun ρ Hs σ H Q rp hp => ?_⟩
  unfold mDget at hp
  cases q : dctAt ρ i with
  | er c => exact absurd q (dctAt_ner ρ i c)
  | no => rw [q] at hp; exact hp.elim
  | ok es =>
    rw [q, R.bind_ok] at hp
    obtain ⟨_, p0, vs0, e0, _⟩ := rp.dctAt q
    refine ⟨.ref p0, e0, ea ρ Hs σ H _ rp (PostG.mono (PostG.bind hp) fun v H1 ⟨Hs1, d, st, is, hp1⟩ => ?_)⟩
    obtain ⟨_, p, vs, e1, e2, e3, e4, e5⟩ := (rp.step st).dctAt q
    rw [e0] at e1
    cases e1
    cases q2 : asKey d with
    | er c => exact absurd q2 (asKey_ner d c)
    | no => rw [q2] at hp1; exact hp1.elim
    | ok k =>
      rw [q2, R.bind_ok] at hp1
      have hv : v = kV k := asKey_is (is.flat fun ds z => by subst z; cases q2) q2
      subst hv
      cases q3 : getK es k with
      | er c => exact absurd q3 (getK_ner es k c)
      | no => rw [q3] at hp1; exact hp1.elim
      | ok r =>
        rw [q3] at hp1
        obtain ⟨u, u1, u2⟩ := getK_zip k e4 q3
        exact ⟨p0, u, rfl, by rw [← u1]; exact .k e3, PostG.ret (rel := rIs X.K X.mg) hp1 st.to u2⟩
def sDput (i : Nat) (mk mv : Env → R D) : Env → Oc := fun ρ => (mv ρ).out fun v => (dctAt ρ i).out fun es => (mk ρ).out fun d => (asKey d).out fun k => if es.length < sizeLine then Oc.nx (ρ.set i (.od (setK es k v))) else .no
/-- x[k] = v -/
theorem pds_dput (i : Nat) {x : Str} {pos' : Pos} (hu : X.A.units + 64 < cLine) (ha : PDt X T W a ma) (hb : PD X T W b mb) (hs : swapsWith b (some (.Subscript (.Name x p) a pos')) pos.line X.env = pure false := by rfl) (hN : X.N[i]? = some x := by rfl) (hv : Vis X.env.scope x := by first | exact Or.inl rfl | exact Or.inr (Or.inl rfl) | exact Or.inr (Or.inr rfl)) (hd : (x == ("__debug__" : Str)) = false := by decide)
    (hcd : (x == ("__classdict__" : Str)) = false := by decide) : PDS X T W (.Assign [.Subscript (.Name x p) a pos'] b pos) (sDput i ma mb) := by
  obtain ⟨ta, pa, ea⟩ := ha
  obtain ⟨tb, pb, eb⟩ := hb
  refine ⟨_, ps_dput (by omega) (pe_var (i := i) hN hv hd hcd) pa pb hs, fun ρ Hs0 H0 Hs H σ N fr hp => eb ρ Hs σ H _ fr.rp (PostG.mono (PostS.out fr hp) fun v H1 ⟨Hs1, d, st, is, hp1⟩ => ?_)⟩
  have fr1 := fr.step st
  cases q : dctAt ρ i with
  | er c => exact absurd q (dctAt_ner ρ i c)
  | no => rw [q] at hp1; exact hp1.elim
  | ok es =>
    rw [q] at hp1
    obtain ⟨_, p0, vs0, e0, _⟩ := fr1.rp.dctAt q
    refine ⟨.ref p0, e0, ea ρ Hs1 σ H1 _ fr1.rp (PostG.mono (PostS.out fr1 hp1) fun y H2 ⟨Hs2, d2, st2, is2, hp2⟩ => ?_)⟩
    have fr2 := fr1.step st2
    obtain ⟨eo, p, vs, e1, e2, e3, e4, e5⟩ := fr2.rp.dctAt q
    rw [e0] at e1
    cases e1
    cases q2 : asKey d2 with
    | er c => exact absurd q2 (asKey_ner d2 c)
    | no => rw [q2] at hp2; exact hp2.elim
    | ok k =>
      rw [q2] at hp2
      have hy : y = kV k := asKey_is (is2.flat fun ds z => by subst z; cases q2) q2
      subst hy
      have hp2 : PostS X.K X.mg T W (if es.length < sizeLine then Oc.nx (ρ.set i (.od (setK es k d))) else .no) Hs0 H0 N := hp2
      by_cases hl : es.length < sizeLine
      · rw [if_pos hl] at hp2
        have hvl : vs.length = es.length := by rw [e4.length, List.length_map]
        have hzl : ((es.map (·.1)).zip vs).length < sizeLine := by rw [List.length_zip, List.length_map, hvl, Nat.min_self]; exact hl
        obtain ⟨us, u1, u2⟩ := put_zip (K := X.K) (mg := X.mg) (H := Hs2) k (Is.mono st2.s d v is) e4
        have hul : us.length ≤ sizeLine := by
          rw [u2.length, List.length_map]
          have := setK_len es k d
          omega
        refine ⟨p0, _, rfl, .k e3 hzl, ?_⟩
        rw [u1]
        exact hp2 Hs2 _ σ (fr2.grow eo e0 e3 e2 ⟨vs, rfl, e4, e5⟩ ⟨us, rfl, u2, hul⟩)
      · rw [if_neg hl] at hp2
        exact hp2.elim
/-! ### y = x.pop() -/
def sPop (j i : Nat) : Env → Oc := fun ρ => (ownAt ρ i).out fun ds => match ds.getLast? with
  | some d => Oc.nx ((ρ.set i (.ow ds.dropLast)).set j (.sh d))
  | none => .no
theorem IsL.dropLast {K : PySem.W.Frag} {mg : Str → Option Value} {H : Hp} {ds : List D} {vs : List V} (h : IsL K mg H ds vs) : IsL K mg H ds.dropLast vs.dropLast := by
  rw [List.dropLast_eq_take, List.dropLast_eq_take, h.length]
  exact h.take _
theorem pds_pop (j i : Nat) {x y : Str} {pos' p1 p2 p3 : Pos} (hN : X.N.Nodup) (hi : X.N[i]? = some x := by rfl) (hj : X.N[j]? = some y := by rfl) (hv : Vis X.env.scope x := by first | exact Or.inl rfl | exact Or.inr (Or.inl rfl)) (hx : Loc X.env.scope y := by first | exact Or.inl rfl | exact Or.inr rfl)
    (hd : (x == ("__debug__" : Str)) = false := by decide) (hcd : (x == ("__classdict__" : Str)) = false := by decide) (hs : swapsWith (.Call (.Attribute (.Name x p1) "pop" p2) [] [] p3) (some (.Name y pos')) pos.line X.env = pure false := by rfl)
    (hf : X.fn y = true ∨ X.env.scope.names.lookup y = some .local := by first | exact .inl rfl | exact .inr rfl) (hbase : attributeBase (.Name x p1) "pop" X.env (eval (.Name x p1) X.env) = eval (.Name x p1) X.env := by rfl) (hline : (p2.endLine == p3.line) = true := by rfl) :
    PDS X T W (.Assign [.Name y pos'] (.Call (.Attribute (.Name x p1) "pop" p2) [] [] p3) pos) (sPop j i) := by
  refine ⟨_, ps_set (i := j) hN hj hx (pe_bm0 PySem.F.plainAttrs_list PySem.F.slot_list_pop PySem.F.type_list_pop mt_pop (pe_var (i := i) hi hv hd hcd) hbase hline) hs hf, fun ρ Hs0 H0 Hs H σ N fr hp => ?_⟩
  unfold sPop at hp
  cases q : ownAt ρ i with
  | ok ds =>
    rw [q] at hp
    obtain ⟨e0, p, vs, e1, e2, e3, e4, e5⟩ := fr.rp.ownAt q
    have hp : PostS X.K X.mg T W (match ds.getLast? with
      | some d => Oc.nx ((ρ.set i (.ow ds.dropLast)).set j (.sh d))
      | none => .no) Hs0 H0 N := hp
    split at hp
    · rename_i d ed
      have hlast : ds[ds.length - 1]? = some d := by rw [← List.getLast?_eq_getElem?]; exact ed
      obtain ⟨v, v1, v2⟩ := e4.get hlast
      have hvl := e4.length
      refine ⟨_, e1, .inl ⟨rfl, _, .of e3⟩, p, vs, v, rfl, rfl, e3, by rw [hvl]; exact v1, ?_⟩
      exact hp Hs _ _ ((fr.grow e0 e1 e3 e2 ⟨vs, rfl, e4, e5⟩ (es := .lst ds.dropLast) ⟨vs.dropLast, rfl, e4.dropLast, by rw [List.length_dropLast]; omega⟩).put v2)
    · exact hp.elim
  | er c => unfold ownAt at q; split at q <;> cases q
  | no => rw [q] at hp; exact hp.elim
end
/-! ### sorted lists of tuples of ints -/
def insW (w : List Int) : List (List Int) → List (List Int)
  | [] => [w]
  | v :: r => if HT.lexLt v w = true then v :: insW w r else w :: v :: r
def sortW : List (List Int) → List (List Int)
  | [] => []
  | w :: r => insW w (sortW r)
theorem insW_perm (w : List Int) : ∀ r : List (List Int), (insW w r).Perm (w :: r)
  | [] => .refl _
  | v :: r => by
    unfold insW
    split
    · exact ((insW_perm w r).cons v).trans (.swap _ _ _)
    · exact .refl _
theorem sortW_perm : ∀ r : List (List Int), (sortW r).Perm r
  | [] => .refl _
  | w :: r => (insW_perm w (sortW r)).trans ((sortW_perm r).cons w)
theorem lexT : ∀ {a b c : List Int}, HT.lexLt b a = false → HT.lexLt c b = false → HT.lexLt c a = false
  | [], [], [], _, _ => rfl
  | [], [], _ :: _, _, _ => rfl
  | [], _ :: _, [], _, _ => rfl
  | [], _ :: _, _ :: _, _, _ => rfl
  | _ :: _, [], _, h, _ => by cases h
  | _ :: _, _ :: _, [], _, q => by cases q
  | x :: a, y :: b, z :: c, h, q => by
    rw [HT.lexLt_cons] at h q ⊢
    by_cases e1 : y = x
    · subst e1
      rw [if_pos rfl] at h
      by_cases e2 : z = y
      · subst e2
        rw [if_pos rfl] at q ⊢
        exact lexT h q
      · rw [if_neg e2] at q ⊢
        exact q
    · rw [if_neg e1, decide_eq_false_iff_not] at h
      by_cases e2 : z = y
      · subst e2
        rw [if_neg e1]
        exact decide_eq_false h
      · rw [if_neg e2, decide_eq_false_iff_not] at q
        rw [if_neg (by omega)]
        exact decide_eq_false (by omega)
theorem lexA : ∀ {a b : List Int}, HT.lexLt a b = true → HT.lexLt b a = false
  | [], [], h => by cases h
  | [], _ :: _, _ => rfl
  | _ :: _, [], h => by cases h
  | x :: a, y :: b, h => by
    rw [HT.lexLt_cons] at h ⊢
    by_cases e : x = y
    · subst e
      rw [if_pos rfl] at h ⊢
      exact lexA h
    · rw [if_neg e, decide_eq_true_eq] at h
      rw [if_neg (Ne.symm e)]
      exact decide_eq_false (by omega)
theorem lexE : ∀ {a b : List Int}, HT.lexLt a b = false → HT.lexLt b a = false → a = b
  | [], [], _, _ => rfl
  | [], _ :: _, h, _ => by cases h
  | _ :: _, [], _, q => by cases q
  | x :: a, y :: b, h, q => by
    rw [HT.lexLt_cons] at h q
    by_cases e : x = y
    · subst e
      rw [if_pos rfl] at h q
      rw [lexE h q]
    · rw [if_neg e, decide_eq_false_iff_not] at h
      rw [if_neg (Ne.symm e), decide_eq_false_iff_not] at q
      omega
theorem insW_sorted (w : List Int) : ∀ r : List (List Int), r.Pairwise (fun a b => HT.lexLt b a = false) → (insW w r).Pairwise (fun a b => HT.lexLt b a = false)
  | [], _ => by simp [insW]
  | v :: r, h => by
    obtain ⟨h1, h2⟩ := List.pairwise_cons.mp h
    unfold insW
    by_cases e : HT.lexLt v w = true
    · rw [if_pos e]
      refine List.pairwise_cons.mpr ⟨fun y hy => ?_, insW_sorted w r h2⟩
      rcases List.mem_cons.mp ((insW_perm w r).mem_iff.mp hy) with z | z
      · rw [z]; exact lexA e
      · exact h1 y z
    · rw [if_neg e]
      have e : HT.lexLt v w = false := by simpa using e
      refine List.pairwise_cons.mpr ⟨fun y hy => ?_, h⟩
      rcases List.mem_cons.mp hy with z | z
      · rw [z]; exact e
      · exact lexT e (h1 y z)
theorem sortW_sorted : ∀ r : List (List Int), (sortW r).Pairwise (fun a b => HT.lexLt b a = false)
  | [] => List.Pairwise.nil
  | w :: r => insW_sorted w _ (sortW_sorted r)
theorem sortW_uniq : ∀ {xs ys : List (List Int)}, xs.Perm ys → xs.Pairwise (fun a b => HT.lexLt b a = false) → ys.Pairwise (fun a b => HT.lexLt b a = false) → xs = ys
  | [], ys, p, _, _ => by rw [List.nil_perm.mp p]
  | x :: xs, [], p, _, _ => absurd p.length_eq (by simp)
  | x :: xs, y :: ys, p, h, q => by
    obtain ⟨h1, h2⟩ := List.pairwise_cons.mp h
    obtain ⟨q1, q2⟩ := List.pairwise_cons.mp q
    have e : x = y := by
      rcases List.mem_cons.mp (p.mem_iff.mp List.mem_cons_self) with z | z
      · exact z
      · rcases List.mem_cons.mp (p.symm.mem_iff.mp (List.mem_cons_self (a := y))) with z2 | z2
        · exact z2.symm
        · exact (lexE (h1 y z2) (q1 x z)).symm
    subst e
    rw [sortW_uniq (p.cons_inv) h2 q2]
def asWs : List D → Option (List (List Int))
  | [] => some []
  | .tup ds :: r => match asInts ds, asWs r with
    | some w, some ws => some (w :: ws)
    | _, _ => none
  | _ :: _ => none
theorem asWs_eq : ∀ {ds : List D} {ws : List (List Int)}, asWs ds = some ws → ds = ws.map fun w => D.tup (w.map D.int)
  | [], _, h => by cases h; rfl
  | d :: ds, ws, h => by
    cases d <;> try (cases h; done)
    rename_i es
    unfold asWs at h
    split at h
    · rename_i w ws' e1 e2
      cases h
      rw [asInts_eq e1, asWs_eq e2]
      rfl
    · cases h
theorem asWs_map : ∀ ws : List (List Int), asWs (ws.map fun w => D.tup (w.map D.int)) = some ws
  | [] => rfl
  | w :: ws => by
    rw [List.map_cons]
    unfold asWs
    rw [asInts_map, asWs_map ws]
/-- short tuples of one length, of small numbers; or at most one -/
def wsB (ws : List (List Int)) : Bool := decide (ws.length ≤ 1) || (decide (ws.length < 64) && ws.all fun w => decide (1 ≤ w.length) && decide (w.length = (ws.headD []).length) && w.all fun a => decide (0 ≤ a) && decide (a < 64))
def sortWD : D → R D
  | .lst ds => match asWs ds with
    | some ws => if wsB ws = true then .ok (.lst ((sortW ws).map fun w => D.tup (w.map D.int))) else .no
    | none => .no
  | _ => .no
section
variable {K : PySem.W.Frag} {mg : Str → Option Value} {H : Hp}
theorem isl_perm {α : Type} {f : α → D} : ∀ {vs ys : List V}, ys.Perm vs → ∀ {ws : List α}, IsL K mg H (ws.map f) vs → ∃ us : List α, us.Perm ws ∧ IsL K mg H (us.map f) ys := fun p => by
  induction p with
  | nil => intro ws h; exact ⟨ws, .refl _, h⟩
  | cons x p ih =>
    intro ws h
    cases ws with
    | nil => cases h
    | cons w ws =>
      obtain ⟨v, r, e, h1, h2⟩ := h
      cases e
      obtain ⟨us, p1, p2⟩ := ih h2
      exact ⟨w :: us, p1.cons w, x, _, rfl, h1, p2⟩
  | swap x y l =>
    intro ws h
    cases ws with
    | nil => cases h
    | cons w ws =>
      obtain ⟨v, r, e, h1, h2⟩ := h
      cases e
      cases ws with
      | nil => cases h2
      | cons w2 ws =>
        obtain ⟨v, r, e, h3, h4⟩ := h2
        cases e
        exact ⟨w2 :: w :: ws, .swap _ _ _, _, _, rfl, h3, _, _, rfl, h1, h4⟩
  | trans p1 p2 ih1 ih2 =>
    intro ws h
    obtain ⟨us, q1, q2⟩ := ih2 h
    obtain ⟨us', q3, q4⟩ := ih1 q2
    exact ⟨us', q3.trans q1, q4⟩
theorem code_lex {B : Int} : ∀ {n m : List Int}, n.length = m.length → TS.Bd B n → TS.Bd B m → HT.lexLt m n = true → TS.code B m < TS.code B n
  | [], [], _, _, _, h => by cases h
  | [], _ :: _, e, _, _, _ => by simp at e
  | _ :: _, [], e, _, _, _ => by simp at e
  | x :: n, y :: m, e, hn, hm, h => by
    have el : n.length = m.length := by simpa using e
    clear e
    rw [HT.lexLt_cons] at h
    by_cases q : y = x
    · subst q
      rw [if_pos rfl] at h
      have := code_lex (B := B) (n := n) (m := m) el hn.tail hm.tail h
      exact (TS.code_same el.symm).mpr this
    · rw [if_neg q, decide_eq_true_eq] at h
      exact TS.code_lt el.symm hm.tail hn.tail h
theorem sorted_ws : ∀ {us : List (List Int)} {ys : List V} {B : Int} {d : Nat}, IsL K mg H (us.map fun w => D.tup (w.map D.int)) ys → ys.Pairwise (fun x y => ∀ n m, TupI K H x n → TupI K H y m → TS.code B n ≤ TS.code B m) → (∀ w ∈ us, w.length = d ∧ TS.Bd B w) → us.Pairwise (fun a b => HT.lexLt b a = false)
  | [], _, _, _, _, _, _ => List.Pairwise.nil
  | w :: us, ys, B, d, h, hp, hb => by
    obtain ⟨v, r, rfl, h1, h2⟩ := h
    obtain ⟨p1, p2⟩ := List.pairwise_cons.mp hp
    have ti : ∀ {w : List Int} {v : V}, Is K mg H (D.tup (w.map D.int)) v → TupI K H v w := fun {w v} h => by
      obtain ⟨t, vs, rfl, s, l⟩ := h
      exact ⟨t, rfl, by rw [← IsL.ints l]; exact s⟩
    refine List.pairwise_cons.mpr ⟨fun u hu => ?_, sorted_ws h2 p2 fun w hw => hb w (List.mem_cons_of_mem _ hw)⟩
    obtain ⟨j, hj⟩ := List.mem_iff_getElem?.mp hu
    obtain ⟨y, y1, y2⟩ := h2.get (i := j) (d := D.tup (u.map D.int)) (by rw [List.getElem?_map, hj]; rfl)
    have hc := p1 y (List.mem_of_getElem? y1) w u (ti h1) (ti y2)
    obtain ⟨l1, b1⟩ := hb w List.mem_cons_self
    obtain ⟨l2, b2⟩ := hb u (List.mem_cons_of_mem _ hu)
    cases hx : HT.lexLt u w with
    | false => rfl
    | true =>
      have := code_lex (l1.trans l2.symm) b1 b2 hx
      omega
end
section
variable {X : Cx} {T : List (Addr × Str)}
/-- sorted of at most one thing -/
theorem cr_sort1 : CallR X (.builtin "sorted") (fun vs H Q => ∃ (a : Addr) (xs : List V), vs = [V.ref a] ∧ SqL X.K H a xs ∧ xs.length ≤ 1 ∧ ∀ p : Addr, H p = none → Q (.ref p) (upd H p (.lst xs))) := by
  intro pins s σ H vs us Q I r h
  obtain ⟨a, xs, rfl, hs, hl1, q⟩ := h
  obtain ⟨its, rv, hl, hz⟩ := I.list hs
  rw [Vals.ref1 r]
  have hlen := rv.length
  refine SrtO.sorted_ord (ltv := fun _ _ => false) ⟨(fun _ _ h => by cases h), fun _ _ _ _ _ => rfl⟩ hl.isList (by rw [← hlen]; exact hz) (fun h2 => by omega) fun out h1 h2 => ?_
  have eo : out = its := by
    have p := h2.perm
    cases its with
    | nil => exact List.perm_nil.mp p
    | cons u its =>
      cases its with
      | nil => exact List.perm_singleton.mp p
      | cons u2 its => simp at hlen; omega
  subst eo
  obtain ⟨ep, he'⟩ := PyProof.Rows.sortedAll_at s.heap out out.toArray
  exact ⟨.ref _, upd H (s.heap.objs.size + 1) (.lst xs), I.laid (t' := s.toks) (fun _ _ => PyProof.Rows.sortedAll_old) (Nat.le_succ _) ⟨hz, out, ep, rv, he'⟩, rfl, q _ (I.hok.fresh (Nat.le_succ _))⟩
theorem cr_sortTs : CallR X (.builtin "sorted") (fun vs H Q => ∃ d, 1 ≤ d ∧ rSortU X.K d 64 vs H Q) := fun pins s σ H vs us Q I r ⟨d, hd, h⟩ => cr_sortT hd pins s σ H vs us Q I r h
def sortXD (d : D) : R D := match d with
  | .lst ds => match asInts ds with
    | some _ => sortTD (.lst ds)
    | none => sortWD (.lst ds)
  | _ => sortTD d
theorem c_sortX : Cal1 X T (.builtin "sorted") sortXD := by
  obtain ⟨r, cr, ev⟩ := c_sortT (X := X) (T := T)
  refine ⟨_, CallR.or2 cr (CallR.or2 cr_sort1 cr_sortTs), fun W e x Hs H Q to is hp => ?_⟩
  unfold sortXD at hp
  cases e with
  | lst ds =>
    have hp : PostG T (rIs X.K X.mg) W (match asInts ds with
      | some _ => sortTD (.lst ds)
      | none => sortWD (.lst ds)) Hs H Q := hp
    cases ei : asInts ds with
    | some ns =>
      rw [ei] at hp
      exact .inl (ev W _ x Hs H Q to is hp)
    | none =>
    rw [ei] at hp
    right
    obtain ⟨p, vs, rfl, h1, h2, h3⟩ := is.lst to
    have hp2 : PostG T (rIs X.K X.mg) W (match asWs ds with
      | some ws => if wsB ws = true then .ok (.lst ((sortW ws).map fun w => D.tup (w.map D.int))) else .no
      | none => .no) Hs H Q := hp
    cases ew : asWs ds with
    | none => rw [ew] at hp2; exact hp2.elim
    | some ws =>
      rw [ew] at hp2
      have hp3 : PostG T (rIs X.K X.mg) W (if wsB ws = true then .ok (.lst ((sortW ws).map fun w => D.tup (w.map D.int))) else .no) Hs H Q := hp2
      clear hp2
      by_cases hb : wsB ws = true
      · rw [if_pos hb] at hp3
        have eds := asWs_eq ew
        subst eds
        have hvl := h2.length
        rw [List.length_map] at hvl
        unfold wsB at hb
        rw [Bool.or_eq_true, decide_eq_true_eq] at hb
        by_cases h01 : ws.length ≤ 1
        · left
          refine ⟨p, vs, rfl, .inl (.of h1), by omega, fun c hc => ?_⟩
          have esw : sortW ws = ws := by
            cases ws with
            | nil => rfl
            | cons w ws =>
              cases ws with
              | nil => rfl
              | cons _ _ => simp at h01
          rw [esw] at hp3
          have st := Step.lst (T := T) (vs := vs) to hc h3
          exact hp3 (.ref c) _ _ st ⟨c, vs, rfl, upd_same, IsL.mono st.s _ _ h2⟩
        · right
          have hb : (decide (ws.length < 64) && ws.all fun w => decide (1 ≤ w.length) && decide (w.length = (ws.headD []).length) && w.all fun a => decide (0 ≤ a) && decide (a < 64)) = true := by
            rcases hb with z | z
            · exact absurd z h01
            · exact z
          rw [Bool.and_eq_true, decide_eq_true_eq] at hb
          have hw : ∀ w ∈ ws, 1 ≤ w.length ∧ w.length = (ws.headD []).length ∧ TS.Bd 64 w := fun w hw => by
            have := List.all_eq_true.mp hb.2 w hw
            rw [Bool.and_eq_true, Bool.and_eq_true, decide_eq_true_eq, decide_eq_true_eq] at this
            refine ⟨this.1.1, this.1.2, fun a ha => ?_⟩
            have := List.all_eq_true.mp this.2 a ha
            rw [Bool.and_eq_true, decide_eq_true_eq, decide_eq_true_eq] at this
            exact this
          have full : IsL X.K X.mg H (ws.map fun w => D.tup (w.map D.int)) vs := IsL.mono to.sub _ _ h2
          refine ⟨(ws.headD []).length, ?_, p, vs, rfl, .inl (.of h1), by omega, fun v hv => ?_, fun ys c pm pw hc => ?_⟩
          · cases ws with
            | nil => simp at h01
            | cons w ws => exact (hw w List.mem_cons_self).1
          · obtain ⟨j, hj⟩ := List.mem_iff_getElem?.mp hv
            obtain ⟨d', d1, d2⟩ := full.getV hj
            rw [List.getElem?_map] at d1
            cases ej : ws[j]? with
            | none => rw [ej] at d1; cases d1
            | some w =>
              rw [ej] at d1
              cases d1
              obtain ⟨t, us, rfl, s, l⟩ := d2
              obtain ⟨_, k1, k2⟩ := hw w (List.mem_of_getElem? ej)
              exact ⟨w, ⟨t, rfl, by rw [← IsL.ints l]; exact s⟩, k1, k2⟩
          · obtain ⟨us, p1, p2⟩ := isl_perm (f := fun w : List Int => D.tup (w.map D.int)) pm h2
            have hs : us.Pairwise (fun a b => HT.lexLt b a = false) := sorted_ws (d := (ws.headD []).length) (IsL.mono to.sub _ _ p2) pw fun w hm => (hw w (p1.mem_iff.mp hm)).2
            have eu : us = sortW ws := sortW_uniq (p1.trans (sortW_perm ws).symm) hs (sortW_sorted ws)
            subst eu
            have hyl : ys.length ≤ sizeLine := by rw [pm.length_eq]; exact h3
            have st := Step.lst (T := T) (vs := ys) to hc hyl
            exact hp3 (.ref c) _ _ st ⟨c, ys, rfl, upd_same, IsL.mono st.s _ _ p2⟩
      · rw [if_neg hb] at hp3
        exact hp3.elim
  | _ => exact .inl (ev W _ x Hs H Q to is hp)
end
end FL
set_option maxHeartbeats 4000000
/-! FM1: plain laws of the semantics. -/
namespace FL
open PySem PySem.Spec PyProof.Rows L2
theorem szl {n : Nat} (h : n ≤ 16000000) : n ≤ sizeLine := by rw [sizeLine_eq]; omega
theorem ok_ite {α : Type} (c : Prop) [Decidable c] (x y : α) : (if c then R.ok x else R.ok y) = R.ok (if c then x else y) := by split <;> rfl
theorem bl_ite (c : Prop) [Decidable c] (x y : Bool) : (if c then D.bl x else D.bl y) = D.bl (if c then x else y) := by split <;> rfl
theorem int_ite (c : Prop) [Decidable c] (x y : Int) : (if c then D.int x else D.int y) = D.int (if c then x else y) := by split <;> rfl
theorem and_ite (b x : Bool) : (if b = true then x else false) = (b && x) := by cases b <;> rfl
theorem or_ite (b x : Bool) : (if b = true then true else x) = (b || x) := by cases b <;> rfl
theorem mVar_0 {d : D} {r : List Sl} : mVar 0 (.sh d :: r) = .ok d := rfl
theorem mVarT_0 {d : D} {r : List Sl} : mVarT 0 (.sh d :: r) = .ok d := rfl
theorem mVarO_0 {d : List D} {r : List Sl} : mVarT 0 (.ow d :: r) = .ok (.lst d) := rfl
theorem mVar_1 {a0 : Sl} {d : D} {r : List Sl} : mVar 1 (a0 :: .sh d :: r) = .ok d := rfl
theorem mVarT_1 {a0 : Sl} {d : D} {r : List Sl} : mVarT 1 (a0 :: .sh d :: r) = .ok d := rfl
theorem mVarO_1 {a0 : Sl} {d : List D} {r : List Sl} : mVarT 1 (a0 :: .ow d :: r) = .ok (.lst d) := rfl
theorem mVar_2 {a0 a1 : Sl} {d : D} {r : List Sl} : mVar 2 (a0 :: a1 :: .sh d :: r) = .ok d := rfl
theorem mVarT_2 {a0 a1 : Sl} {d : D} {r : List Sl} : mVarT 2 (a0 :: a1 :: .sh d :: r) = .ok d := rfl
theorem mVarO_2 {a0 a1 : Sl} {d : List D} {r : List Sl} : mVarT 2 (a0 :: a1 :: .ow d :: r) = .ok (.lst d) := rfl
theorem mVar_3 {a0 a1 a2 : Sl} {d : D} {r : List Sl} : mVar 3 (a0 :: a1 :: a2 :: .sh d :: r) = .ok d := rfl
theorem mVarT_3 {a0 a1 a2 : Sl} {d : D} {r : List Sl} : mVarT 3 (a0 :: a1 :: a2 :: .sh d :: r) = .ok d := rfl
theorem mVarO_3 {a0 a1 a2 : Sl} {d : List D} {r : List Sl} : mVarT 3 (a0 :: a1 :: a2 :: .ow d :: r) = .ok (.lst d) := rfl
theorem mVar_4 {a0 a1 a2 a3 : Sl} {d : D} {r : List Sl} : mVar 4 (a0 :: a1 :: a2 :: a3 :: .sh d :: r) = .ok d := rfl
theorem mVarT_4 {a0 a1 a2 a3 : Sl} {d : D} {r : List Sl} : mVarT 4 (a0 :: a1 :: a2 :: a3 :: .sh d :: r) = .ok d := rfl
theorem mVarO_4 {a0 a1 a2 a3 : Sl} {d : List D} {r : List Sl} : mVarT 4 (a0 :: a1 :: a2 :: a3 :: .ow d :: r) = .ok (.lst d) := rfl
theorem mVar_5 {a0 a1 a2 a3 a4 : Sl} {d : D} {r : List Sl} : mVar 5 (a0 :: a1 :: a2 :: a3 :: a4 :: .sh d :: r) = .ok d := rfl
theorem mVarT_5 {a0 a1 a2 a3 a4 : Sl} {d : D} {r : List Sl} : mVarT 5 (a0 :: a1 :: a2 :: a3 :: a4 :: .sh d :: r) = .ok d := rfl
theorem mVarO_5 {a0 a1 a2 a3 a4 : Sl} {d : List D} {r : List Sl} : mVarT 5 (a0 :: a1 :: a2 :: a3 :: a4 :: .ow d :: r) = .ok (.lst d) := rfl
theorem mVar_6 {a0 a1 a2 a3 a4 a5 : Sl} {d : D} {r : List Sl} : mVar 6 (a0 :: a1 :: a2 :: a3 :: a4 :: a5 :: .sh d :: r) = .ok d := rfl
theorem mVarT_6 {a0 a1 a2 a3 a4 a5 : Sl} {d : D} {r : List Sl} : mVarT 6 (a0 :: a1 :: a2 :: a3 :: a4 :: a5 :: .sh d :: r) = .ok d := rfl
theorem mVarO_6 {a0 a1 a2 a3 a4 a5 : Sl} {d : List D} {r : List Sl} : mVarT 6 (a0 :: a1 :: a2 :: a3 :: a4 :: a5 :: .ow d :: r) = .ok (.lst d) := rfl
theorem mVar_7 {a0 a1 a2 a3 a4 a5 a6 : Sl} {d : D} {r : List Sl} : mVar 7 (a0 :: a1 :: a2 :: a3 :: a4 :: a5 :: a6 :: .sh d :: r) = .ok d := rfl
theorem mVarT_7 {a0 a1 a2 a3 a4 a5 a6 : Sl} {d : D} {r : List Sl} : mVarT 7 (a0 :: a1 :: a2 :: a3 :: a4 :: a5 :: a6 :: .sh d :: r) = .ok d := rfl
theorem mVarO_7 {a0 a1 a2 a3 a4 a5 a6 : Sl} {d : List D} {r : List Sl} : mVarT 7 (a0 :: a1 :: a2 :: a3 :: a4 :: a5 :: a6 :: .ow d :: r) = .ok (.lst d) := rfl
theorem mVar_8 {a0 a1 a2 a3 a4 a5 a6 a7 : Sl} {d : D} {r : List Sl} : mVar 8 (a0 :: a1 :: a2 :: a3 :: a4 :: a5 :: a6 :: a7 :: .sh d :: r) = .ok d := rfl
theorem mVarT_8 {a0 a1 a2 a3 a4 a5 a6 a7 : Sl} {d : D} {r : List Sl} : mVarT 8 (a0 :: a1 :: a2 :: a3 :: a4 :: a5 :: a6 :: a7 :: .sh d :: r) = .ok d := rfl
theorem mVarO_8 {a0 a1 a2 a3 a4 a5 a6 a7 : Sl} {d : List D} {r : List Sl} : mVarT 8 (a0 :: a1 :: a2 :: a3 :: a4 :: a5 :: a6 :: a7 :: .ow d :: r) = .ok (.lst d) := rfl
theorem mVar_9 {a0 a1 a2 a3 a4 a5 a6 a7 a8 : Sl} {d : D} {r : List Sl} : mVar 9 (a0 :: a1 :: a2 :: a3 :: a4 :: a5 :: a6 :: a7 :: a8 :: .sh d :: r) = .ok d := rfl
theorem mVarT_9 {a0 a1 a2 a3 a4 a5 a6 a7 a8 : Sl} {d : D} {r : List Sl} : mVarT 9 (a0 :: a1 :: a2 :: a3 :: a4 :: a5 :: a6 :: a7 :: a8 :: .sh d :: r) = .ok d := rfl
theorem mVarO_9 {a0 a1 a2 a3 a4 a5 a6 a7 a8 : Sl} {d : List D} {r : List Sl} : mVarT 9 (a0 :: a1 :: a2 :: a3 :: a4 :: a5 :: a6 :: a7 :: a8 :: .ow d :: r) = .ok (.lst d) := rfl
theorem mVar_10 {a0 a1 a2 a3 a4 a5 a6 a7 a8 a9 : Sl} {d : D} {r : List Sl} : mVar 10 (a0 :: a1 :: a2 :: a3 :: a4 :: a5 :: a6 :: a7 :: a8 :: a9 :: .sh d :: r) = .ok d := rfl
theorem mVarT_10 {a0 a1 a2 a3 a4 a5 a6 a7 a8 a9 : Sl} {d : D} {r : List Sl} : mVarT 10 (a0 :: a1 :: a2 :: a3 :: a4 :: a5 :: a6 :: a7 :: a8 :: a9 :: .sh d :: r) = .ok d := rfl
theorem mVarO_10 {a0 a1 a2 a3 a4 a5 a6 a7 a8 a9 : Sl} {d : List D} {r : List Sl} : mVarT 10 (a0 :: a1 :: a2 :: a3 :: a4 :: a5 :: a6 :: a7 :: a8 :: a9 :: .ow d :: r) = .ok (.lst d) := rfl
theorem mVar_11 {a0 a1 a2 a3 a4 a5 a6 a7 a8 a9 a10 : Sl} {d : D} {r : List Sl} : mVar 11 (a0 :: a1 :: a2 :: a3 :: a4 :: a5 :: a6 :: a7 :: a8 :: a9 :: a10 :: .sh d :: r) = .ok d := rfl
theorem mVarT_11 {a0 a1 a2 a3 a4 a5 a6 a7 a8 a9 a10 : Sl} {d : D} {r : List Sl} : mVarT 11 (a0 :: a1 :: a2 :: a3 :: a4 :: a5 :: a6 :: a7 :: a8 :: a9 :: a10 :: .sh d :: r) = .ok d := rfl
theorem mVarO_11 {a0 a1 a2 a3 a4 a5 a6 a7 a8 a9 a10 : Sl} {d : List D} {r : List Sl} : mVarT 11 (a0 :: a1 :: a2 :: a3 :: a4 :: a5 :: a6 :: a7 :: a8 :: a9 :: a10 :: .ow d :: r) = .ok (.lst d) := rfl
theorem mVar_12 {a0 a1 a2 a3 a4 a5 a6 a7 a8 a9 a10 a11 : Sl} {d : D} {r : List Sl} : mVar 12 (a0 :: a1 :: a2 :: a3 :: a4 :: a5 :: a6 :: a7 :: a8 :: a9 :: a10 :: a11 :: .sh d :: r) = .ok d := rfl
theorem mVarT_12 {a0 a1 a2 a3 a4 a5 a6 a7 a8 a9 a10 a11 : Sl} {d : D} {r : List Sl} : mVarT 12 (a0 :: a1 :: a2 :: a3 :: a4 :: a5 :: a6 :: a7 :: a8 :: a9 :: a10 :: a11 :: .sh d :: r) = .ok d := rfl
theorem mVarO_12 {a0 a1 a2 a3 a4 a5 a6 a7 a8 a9 a10 a11 : Sl} {d : List D} {r : List Sl} : mVarT 12 (a0 :: a1 :: a2 :: a3 :: a4 :: a5 :: a6 :: a7 :: a8 :: a9 :: a10 :: a11 :: .ow d :: r) = .ok (.lst d) := rfl
theorem mVar_13 {a0 a1 a2 a3 a4 a5 a6 a7 a8 a9 a10 a11 a12 : Sl} {d : D} {r : List Sl} : mVar 13 (a0 :: a1 :: a2 :: a3 :: a4 :: a5 :: a6 :: a7 :: a8 :: a9 :: a10 :: a11 :: a12 :: .sh d :: r) = .ok d := rfl
theorem mVarT_13 {a0 a1 a2 a3 a4 a5 a6 a7 a8 a9 a10 a11 a12 : Sl} {d : D} {r : List Sl} : mVarT 13 (a0 :: a1 :: a2 :: a3 :: a4 :: a5 :: a6 :: a7 :: a8 :: a9 :: a10 :: a11 :: a12 :: .sh d :: r) = .ok d := rfl
theorem mVarO_13 {a0 a1 a2 a3 a4 a5 a6 a7 a8 a9 a10 a11 a12 : Sl} {d : List D} {r : List Sl} : mVarT 13 (a0 :: a1 :: a2 :: a3 :: a4 :: a5 :: a6 :: a7 :: a8 :: a9 :: a10 :: a11 :: a12 :: .ow d :: r) = .ok (.lst d) := rfl
theorem mVar_14 {a0 a1 a2 a3 a4 a5 a6 a7 a8 a9 a10 a11 a12 a13 : Sl} {d : D} {r : List Sl} : mVar 14 (a0 :: a1 :: a2 :: a3 :: a4 :: a5 :: a6 :: a7 :: a8 :: a9 :: a10 :: a11 :: a12 :: a13 :: .sh d :: r) = .ok d := rfl
theorem mVarT_14 {a0 a1 a2 a3 a4 a5 a6 a7 a8 a9 a10 a11 a12 a13 : Sl} {d : D} {r : List Sl} : mVarT 14 (a0 :: a1 :: a2 :: a3 :: a4 :: a5 :: a6 :: a7 :: a8 :: a9 :: a10 :: a11 :: a12 :: a13 :: .sh d :: r) = .ok d := rfl
theorem mVarO_14 {a0 a1 a2 a3 a4 a5 a6 a7 a8 a9 a10 a11 a12 a13 : Sl} {d : List D} {r : List Sl} : mVarT 14 (a0 :: a1 :: a2 :: a3 :: a4 :: a5 :: a6 :: a7 :: a8 :: a9 :: a10 :: a11 :: a12 :: a13 :: .ow d :: r) = .ok (.lst d) := rfl
theorem mVar_15 {a0 a1 a2 a3 a4 a5 a6 a7 a8 a9 a10 a11 a12 a13 a14 : Sl} {d : D} {r : List Sl} : mVar 15 (a0 :: a1 :: a2 :: a3 :: a4 :: a5 :: a6 :: a7 :: a8 :: a9 :: a10 :: a11 :: a12 :: a13 :: a14 :: .sh d :: r) = .ok d := rfl
theorem mVarT_15 {a0 a1 a2 a3 a4 a5 a6 a7 a8 a9 a10 a11 a12 a13 a14 : Sl} {d : D} {r : List Sl} : mVarT 15 (a0 :: a1 :: a2 :: a3 :: a4 :: a5 :: a6 :: a7 :: a8 :: a9 :: a10 :: a11 :: a12 :: a13 :: a14 :: .sh d :: r) = .ok d := rfl
theorem mVarO_15 {a0 a1 a2 a3 a4 a5 a6 a7 a8 a9 a10 a11 a12 a13 a14 : Sl} {d : List D} {r : List Sl} : mVarT 15 (a0 :: a1 :: a2 :: a3 :: a4 :: a5 :: a6 :: a7 :: a8 :: a9 :: a10 :: a11 :: a12 :: a13 :: a14 :: .ow d :: r) = .ok (.lst d) := rfl
theorem mVar_16 {a0 a1 a2 a3 a4 a5 a6 a7 a8 a9 a10 a11 a12 a13 a14 a15 : Sl} {d : D} {r : List Sl} : mVar 16 (a0 :: a1 :: a2 :: a3 :: a4 :: a5 :: a6 :: a7 :: a8 :: a9 :: a10 :: a11 :: a12 :: a13 :: a14 :: a15 :: .sh d :: r) = .ok d := rfl
theorem mVarT_16 {a0 a1 a2 a3 a4 a5 a6 a7 a8 a9 a10 a11 a12 a13 a14 a15 : Sl} {d : D} {r : List Sl} : mVarT 16 (a0 :: a1 :: a2 :: a3 :: a4 :: a5 :: a6 :: a7 :: a8 :: a9 :: a10 :: a11 :: a12 :: a13 :: a14 :: a15 :: .sh d :: r) = .ok d := rfl
theorem mVarO_16 {a0 a1 a2 a3 a4 a5 a6 a7 a8 a9 a10 a11 a12 a13 a14 a15 : Sl} {d : List D} {r : List Sl} : mVarT 16 (a0 :: a1 :: a2 :: a3 :: a4 :: a5 :: a6 :: a7 :: a8 :: a9 :: a10 :: a11 :: a12 :: a13 :: a14 :: a15 :: .ow d :: r) = .ok (.lst d) := rfl
theorem mVar_17 {a0 a1 a2 a3 a4 a5 a6 a7 a8 a9 a10 a11 a12 a13 a14 a15 a16 : Sl} {d : D} {r : List Sl} : mVar 17 (a0 :: a1 :: a2 :: a3 :: a4 :: a5 :: a6 :: a7 :: a8 :: a9 :: a10 :: a11 :: a12 :: a13 :: a14 :: a15 :: a16 :: .sh d :: r) = .ok d := rfl
theorem mVarT_17 {a0 a1 a2 a3 a4 a5 a6 a7 a8 a9 a10 a11 a12 a13 a14 a15 a16 : Sl} {d : D} {r : List Sl} : mVarT 17 (a0 :: a1 :: a2 :: a3 :: a4 :: a5 :: a6 :: a7 :: a8 :: a9 :: a10 :: a11 :: a12 :: a13 :: a14 :: a15 :: a16 :: .sh d :: r) = .ok d := rfl
theorem mVarO_17 {a0 a1 a2 a3 a4 a5 a6 a7 a8 a9 a10 a11 a12 a13 a14 a15 a16 : Sl} {d : List D} {r : List Sl} : mVarT 17 (a0 :: a1 :: a2 :: a3 :: a4 :: a5 :: a6 :: a7 :: a8 :: a9 :: a10 :: a11 :: a12 :: a13 :: a14 :: a15 :: a16 :: .ow d :: r) = .ok (.lst d) := rfl
theorem mVar_18 {a0 a1 a2 a3 a4 a5 a6 a7 a8 a9 a10 a11 a12 a13 a14 a15 a16 a17 : Sl} {d : D} {r : List Sl} : mVar 18 (a0 :: a1 :: a2 :: a3 :: a4 :: a5 :: a6 :: a7 :: a8 :: a9 :: a10 :: a11 :: a12 :: a13 :: a14 :: a15 :: a16 :: a17 :: .sh d :: r) = .ok d := rfl
theorem mVarT_18 {a0 a1 a2 a3 a4 a5 a6 a7 a8 a9 a10 a11 a12 a13 a14 a15 a16 a17 : Sl} {d : D} {r : List Sl} : mVarT 18 (a0 :: a1 :: a2 :: a3 :: a4 :: a5 :: a6 :: a7 :: a8 :: a9 :: a10 :: a11 :: a12 :: a13 :: a14 :: a15 :: a16 :: a17 :: .sh d :: r) = .ok d := rfl
theorem mVarO_18 {a0 a1 a2 a3 a4 a5 a6 a7 a8 a9 a10 a11 a12 a13 a14 a15 a16 a17 : Sl} {d : List D} {r : List Sl} : mVarT 18 (a0 :: a1 :: a2 :: a3 :: a4 :: a5 :: a6 :: a7 :: a8 :: a9 :: a10 :: a11 :: a12 :: a13 :: a14 :: a15 :: a16 :: a17 :: .ow d :: r) = .ok (.lst d) := rfl
theorem mVar_19 {a0 a1 a2 a3 a4 a5 a6 a7 a8 a9 a10 a11 a12 a13 a14 a15 a16 a17 a18 : Sl} {d : D} {r : List Sl} : mVar 19 (a0 :: a1 :: a2 :: a3 :: a4 :: a5 :: a6 :: a7 :: a8 :: a9 :: a10 :: a11 :: a12 :: a13 :: a14 :: a15 :: a16 :: a17 :: a18 :: .sh d :: r) = .ok d := rfl
theorem mVarT_19 {a0 a1 a2 a3 a4 a5 a6 a7 a8 a9 a10 a11 a12 a13 a14 a15 a16 a17 a18 : Sl} {d : D} {r : List Sl} : mVarT 19 (a0 :: a1 :: a2 :: a3 :: a4 :: a5 :: a6 :: a7 :: a8 :: a9 :: a10 :: a11 :: a12 :: a13 :: a14 :: a15 :: a16 :: a17 :: a18 :: .sh d :: r) = .ok d := rfl
theorem mVarO_19 {a0 a1 a2 a3 a4 a5 a6 a7 a8 a9 a10 a11 a12 a13 a14 a15 a16 a17 a18 : Sl} {d : List D} {r : List Sl} : mVarT 19 (a0 :: a1 :: a2 :: a3 :: a4 :: a5 :: a6 :: a7 :: a8 :: a9 :: a10 :: a11 :: a12 :: a13 :: a14 :: a15 :: a16 :: a17 :: a18 :: .ow d :: r) = .ok (.lst d) := rfl
theorem mVar_20 {a0 a1 a2 a3 a4 a5 a6 a7 a8 a9 a10 a11 a12 a13 a14 a15 a16 a17 a18 a19 : Sl} {d : D} {r : List Sl} : mVar 20 (a0 :: a1 :: a2 :: a3 :: a4 :: a5 :: a6 :: a7 :: a8 :: a9 :: a10 :: a11 :: a12 :: a13 :: a14 :: a15 :: a16 :: a17 :: a18 :: a19 :: .sh d :: r) = .ok d := rfl
theorem mVarT_20 {a0 a1 a2 a3 a4 a5 a6 a7 a8 a9 a10 a11 a12 a13 a14 a15 a16 a17 a18 a19 : Sl} {d : D} {r : List Sl} : mVarT 20 (a0 :: a1 :: a2 :: a3 :: a4 :: a5 :: a6 :: a7 :: a8 :: a9 :: a10 :: a11 :: a12 :: a13 :: a14 :: a15 :: a16 :: a17 :: a18 :: a19 :: .sh d :: r) = .ok d := rfl
theorem mVarO_20 {a0 a1 a2 a3 a4 a5 a6 a7 a8 a9 a10 a11 a12 a13 a14 a15 a16 a17 a18 a19 : Sl} {d : List D} {r : List Sl} : mVarT 20 (a0 :: a1 :: a2 :: a3 :: a4 :: a5 :: a6 :: a7 :: a8 :: a9 :: a10 :: a11 :: a12 :: a13 :: a14 :: a15 :: a16 :: a17 :: a18 :: a19 :: .ow d :: r) = .ok (.lst d) := rfl
theorem mVar_21 {a0 a1 a2 a3 a4 a5 a6 a7 a8 a9 a10 a11 a12 a13 a14 a15 a16 a17 a18 a19 a20 : Sl} {d : D} {r : List Sl} : mVar 21 (a0 :: a1 :: a2 :: a3 :: a4 :: a5 :: a6 :: a7 :: a8 :: a9 :: a10 :: a11 :: a12 :: a13 :: a14 :: a15 :: a16 :: a17 :: a18 :: a19 :: a20 :: .sh d :: r) = .ok d := rfl
theorem mVarT_21 {a0 a1 a2 a3 a4 a5 a6 a7 a8 a9 a10 a11 a12 a13 a14 a15 a16 a17 a18 a19 a20 : Sl} {d : D} {r : List Sl} : mVarT 21 (a0 :: a1 :: a2 :: a3 :: a4 :: a5 :: a6 :: a7 :: a8 :: a9 :: a10 :: a11 :: a12 :: a13 :: a14 :: a15 :: a16 :: a17 :: a18 :: a19 :: a20 :: .sh d :: r) = .ok d := rfl
theorem mVarO_21 {a0 a1 a2 a3 a4 a5 a6 a7 a8 a9 a10 a11 a12 a13 a14 a15 a16 a17 a18 a19 a20 : Sl} {d : List D} {r : List Sl} : mVarT 21 (a0 :: a1 :: a2 :: a3 :: a4 :: a5 :: a6 :: a7 :: a8 :: a9 :: a10 :: a11 :: a12 :: a13 :: a14 :: a15 :: a16 :: a17 :: a18 :: a19 :: a20 :: .ow d :: r) = .ok (.lst d) := rfl
theorem mVar_22 {a0 a1 a2 a3 a4 a5 a6 a7 a8 a9 a10 a11 a12 a13 a14 a15 a16 a17 a18 a19 a20 a21 : Sl} {d : D} {r : List Sl} : mVar 22 (a0 :: a1 :: a2 :: a3 :: a4 :: a5 :: a6 :: a7 :: a8 :: a9 :: a10 :: a11 :: a12 :: a13 :: a14 :: a15 :: a16 :: a17 :: a18 :: a19 :: a20 :: a21 :: .sh d :: r) = .ok d := rfl
theorem mVarT_22 {a0 a1 a2 a3 a4 a5 a6 a7 a8 a9 a10 a11 a12 a13 a14 a15 a16 a17 a18 a19 a20 a21 : Sl} {d : D} {r : List Sl} : mVarT 22 (a0 :: a1 :: a2 :: a3 :: a4 :: a5 :: a6 :: a7 :: a8 :: a9 :: a10 :: a11 :: a12 :: a13 :: a14 :: a15 :: a16 :: a17 :: a18 :: a19 :: a20 :: a21 :: .sh d :: r) = .ok d := rfl
theorem mVarO_22 {a0 a1 a2 a3 a4 a5 a6 a7 a8 a9 a10 a11 a12 a13 a14 a15 a16 a17 a18 a19 a20 a21 : Sl} {d : List D} {r : List Sl} : mVarT 22 (a0 :: a1 :: a2 :: a3 :: a4 :: a5 :: a6 :: a7 :: a8 :: a9 :: a10 :: a11 :: a12 :: a13 :: a14 :: a15 :: a16 :: a17 :: a18 :: a19 :: a20 :: a21 :: .ow d :: r) = .ok (.lst d) := rfl
theorem mVar_23 {a0 a1 a2 a3 a4 a5 a6 a7 a8 a9 a10 a11 a12 a13 a14 a15 a16 a17 a18 a19 a20 a21 a22 : Sl} {d : D} {r : List Sl} : mVar 23 (a0 :: a1 :: a2 :: a3 :: a4 :: a5 :: a6 :: a7 :: a8 :: a9 :: a10 :: a11 :: a12 :: a13 :: a14 :: a15 :: a16 :: a17 :: a18 :: a19 :: a20 :: a21 :: a22 :: .sh d :: r) = .ok d := rfl
theorem mVarT_23 {a0 a1 a2 a3 a4 a5 a6 a7 a8 a9 a10 a11 a12 a13 a14 a15 a16 a17 a18 a19 a20 a21 a22 : Sl} {d : D} {r : List Sl} : mVarT 23 (a0 :: a1 :: a2 :: a3 :: a4 :: a5 :: a6 :: a7 :: a8 :: a9 :: a10 :: a11 :: a12 :: a13 :: a14 :: a15 :: a16 :: a17 :: a18 :: a19 :: a20 :: a21 :: a22 :: .sh d :: r) = .ok d := rfl
theorem mVarO_23 {a0 a1 a2 a3 a4 a5 a6 a7 a8 a9 a10 a11 a12 a13 a14 a15 a16 a17 a18 a19 a20 a21 a22 : Sl} {d : List D} {r : List Sl} : mVarT 23 (a0 :: a1 :: a2 :: a3 :: a4 :: a5 :: a6 :: a7 :: a8 :: a9 :: a10 :: a11 :: a12 :: a13 :: a14 :: a15 :: a16 :: a17 :: a18 :: a19 :: a20 :: a21 :: a22 :: .ow d :: r) = .ok (.lst d) := rfl
theorem mVar_24 {a0 a1 a2 a3 a4 a5 a6 a7 a8 a9 a10 a11 a12 a13 a14 a15 a16 a17 a18 a19 a20 a21 a22 a23 : Sl} {d : D} {r : List Sl} : mVar 24 (a0 :: a1 :: a2 :: a3 :: a4 :: a5 :: a6 :: a7 :: a8 :: a9 :: a10 :: a11 :: a12 :: a13 :: a14 :: a15 :: a16 :: a17 :: a18 :: a19 :: a20 :: a21 :: a22 :: a23 :: .sh d :: r) = .ok d := rfl
theorem mVarT_24 {a0 a1 a2 a3 a4 a5 a6 a7 a8 a9 a10 a11 a12 a13 a14 a15 a16 a17 a18 a19 a20 a21 a22 a23 : Sl} {d : D} {r : List Sl} : mVarT 24 (a0 :: a1 :: a2 :: a3 :: a4 :: a5 :: a6 :: a7 :: a8 :: a9 :: a10 :: a11 :: a12 :: a13 :: a14 :: a15 :: a16 :: a17 :: a18 :: a19 :: a20 :: a21 :: a22 :: a23 :: .sh d :: r) = .ok d := rfl
theorem mVarO_24 {a0 a1 a2 a3 a4 a5 a6 a7 a8 a9 a10 a11 a12 a13 a14 a15 a16 a17 a18 a19 a20 a21 a22 a23 : Sl} {d : List D} {r : List Sl} : mVarT 24 (a0 :: a1 :: a2 :: a3 :: a4 :: a5 :: a6 :: a7 :: a8 :: a9 :: a10 :: a11 :: a12 :: a13 :: a14 :: a15 :: a16 :: a17 :: a18 :: a19 :: a20 :: a21 :: a22 :: a23 :: .ow d :: r) = .ok (.lst d) := rfl
theorem sz_0 : (0 ≤ sizeLine) = True := eq_true (szl (by omega))
theorem sz_1 : (1 ≤ sizeLine) = True := eq_true (szl (by omega))
theorem sz_2 : (2 ≤ sizeLine) = True := eq_true (szl (by omega))
theorem sz_3 : (3 ≤ sizeLine) = True := eq_true (szl (by omega))
theorem sz_4 : (4 ≤ sizeLine) = True := eq_true (szl (by omega))
theorem sz_5 : (5 ≤ sizeLine) = True := eq_true (szl (by omega))
theorem sz_6 : (6 ≤ sizeLine) = True := eq_true (szl (by omega))
theorem sz_7 : (7 ≤ sizeLine) = True := eq_true (szl (by omega))
theorem sz_8 : (8 ≤ sizeLine) = True := eq_true (szl (by omega))
theorem sz_9 : (9 ≤ sizeLine) = True := eq_true (szl (by omega))
theorem sz_10 : (10 ≤ sizeLine) = True := eq_true (szl (by omega))
theorem sz_11 : (11 ≤ sizeLine) = True := eq_true (szl (by omega))
theorem sz_12 : (12 ≤ sizeLine) = True := eq_true (szl (by omega))
theorem sz_13 : (13 ≤ sizeLine) = True := eq_true (szl (by omega))
theorem sz_14 : (14 ≤ sizeLine) = True := eq_true (szl (by omega))
theorem sz_15 : (15 ≤ sizeLine) = True := eq_true (szl (by omega))
theorem sz_16 : (16 ≤ sizeLine) = True := eq_true (szl (by omega))
theorem sz_17 : (17 ≤ sizeLine) = True := eq_true (szl (by omega))
theorem sz_18 : (18 ≤ sizeLine) = True := eq_true (szl (by omega))
theorem sz_19 : (19 ≤ sizeLine) = True := eq_true (szl (by omega))
theorem sz_20 : (20 ≤ sizeLine) = True := eq_true (szl (by omega))
theorem sz_21 : (21 ≤ sizeLine) = True := eq_true (szl (by omega))
theorem sz_22 : (22 ≤ sizeLine) = True := eq_true (szl (by omega))
theorem sz_23 : (23 ≤ sizeLine) = True := eq_true (szl (by omega))
theorem sz_24 : (24 ≤ sizeLine) = True := eq_true (szl (by omega))
theorem sz_25 : (25 ≤ sizeLine) = True := eq_true (szl (by omega))
theorem sz_26 : (26 ≤ sizeLine) = True := eq_true (szl (by omega))
theorem sz_27 : (27 ≤ sizeLine) = True := eq_true (szl (by omega))
theorem sz_28 : (28 ≤ sizeLine) = True := eq_true (szl (by omega))
theorem sz_29 : (29 ≤ sizeLine) = True := eq_true (szl (by omega))
theorem sz_30 : (30 ≤ sizeLine) = True := eq_true (szl (by omega))
theorem sz_31 : (31 ≤ sizeLine) = True := eq_true (szl (by omega))
theorem sz_32 : (32 ≤ sizeLine) = True := eq_true (szl (by omega))
theorem sz_33 : (33 ≤ sizeLine) = True := eq_true (szl (by omega))
theorem sz_34 : (34 ≤ sizeLine) = True := eq_true (szl (by omega))
theorem sz_35 : (35 ≤ sizeLine) = True := eq_true (szl (by omega))
theorem sz_36 : (36 ≤ sizeLine) = True := eq_true (szl (by omega))
theorem sz_37 : (37 ≤ sizeLine) = True := eq_true (szl (by omega))
theorem sz_38 : (38 ≤ sizeLine) = True := eq_true (szl (by omega))
theorem sz_39 : (39 ≤ sizeLine) = True := eq_true (szl (by omega))
theorem sz_40 : (40 ≤ sizeLine) = True := eq_true (szl (by omega))
/-! ### comprehensions -/
theorem lcGo_map {α : Type} {f : α → D} {g : D → R (List D)} {h : α → List D} : ∀ {xs : List α}, (∀ x ∈ xs, g (f x) = .ok (h x)) → lcGo g (xs.map f) = .ok (xs.flatMap h)
  | [], _ => rfl
  | x :: xs, e => by
    rw [List.map_cons]
    show ((g (f x)).bind fun o => (lcGo g (xs.map f)).bind fun r => .ok (o ++ r)) = _
    rw [e x List.mem_cons_self, lcGo_map fun y hy => e y (List.mem_cons_of_mem _ hy)]
    simp
theorem flatMap_one {α β : Type} (f : α → β) : ∀ xs : List α, (xs.flatMap fun x => [f x]) = xs.map f
  | [] => rfl
  | x :: xs => by rw [List.flatMap_cons, flatMap_one f xs]; rfl
theorem flatMap_if {α β : Type} (p : α → Bool) (f : α → β) : ∀ xs : List α, (xs.flatMap fun x => if p x = true then [f x] else []) = (xs.filter p).map f
  | [] => rfl
  | x :: xs => by
    rw [List.flatMap_cons, flatMap_if p f xs, List.filter_cons]
    cases p x <;> simp
theorem mLc_all {α : Type} {mi : Env → R (List D)} {t : Tg} {mt : Env → R Bool} {me : Env → R D} {vs : List Nat} {ρ : Env} (f : α → D) (h : α → D) (xs : List α) (hi : mi ρ = .ok (xs.map f)) (e : ∀ x ∈ xs, lcTurn t mt me (wipeE ρ vs) (f x) = .ok [h x]) :
    mLc mi t mt me vs ρ = .ok (.lst (xs.map h)) := by
  unfold mLc
  rw [hi, R.bind_ok, lcGo_map e, R.bind_ok, flatMap_one]
theorem mLc_if {α : Type} {mi : Env → R (List D)} {t : Tg} {mt : Env → R Bool} {me : Env → R D} {vs : List Nat} {ρ : Env} (f : α → D) (p : α → Bool) (h : α → D) (xs : List α) (hi : mi ρ = .ok (xs.map f)) (e : ∀ x ∈ xs, lcTurn t mt me (wipeE ρ vs) (f x) = .ok (if p x = true then [h x] else [])) :
    mLc mi t mt me vs ρ = .ok (.lst ((xs.filter p).map h)) := by
  unfold mLc
  rw [hi, R.bind_ok, lcGo_map e, R.bind_ok, flatMap_if]
/-! ### loops -/
theorem forGo_inv {α : Type} {t : Tg} {f : Env → Oc} (enc : α → D) (I : List α → Env → Prop) : ∀ (rest done : List α) (ρ : Env), I done ρ → (∀ dn x rs ρ, dn ++ x :: rs = done ++ rest → I dn ρ → ∃ ρ', t.oc (enc x) ρ f = .nx ρ' ∧ I (dn ++ [x]) ρ') →
    ∃ ρ', forGo t f (rest.map enc) ρ = .nx ρ' ∧ I (done ++ rest) ρ'
  | [], done, ρ, h0, _ => ⟨ρ, rfl, by rw [List.append_nil]; exact h0⟩
  | x :: rest, done, ρ, h0, st => by
    obtain ⟨ρ1, e1, h1⟩ := st done x rest ρ rfl h0
    obtain ⟨ρ2, e2, h2⟩ := forGo_inv enc I rest (done ++ [x]) ρ1 h1 fun dn y rs ρ e i => st dn y rs ρ (by rw [e]; simp) i
    refine ⟨ρ2, ?_, by rw [List.append_assoc] at h2; exact h2⟩
    rw [List.map_cons]
    show (t.oc (enc x) ρ fun ρ' => (f ρ').loop (forGo t f (rest.map enc))) = _
    unfold Tg.oc at e1 ⊢
    cases q : t.put (enc x) ρ with
    | none => rw [q] at e1; cases e1
    | some ρ' =>
      rw [q] at e1
      have e1 : f ρ' = .nx ρ1 := e1
      show (f ρ').loop (forGo t f (rest.map enc)) = _
      rw [e1]
      exact e2
/-! ### data -/
/-- a word -/
abbrev wD (w : List Int) : D := .tup (w.map D.int)
@[simp] theorem asInts_ints (ns : List Int) : asInts (ns.map D.int) = some ns := asInts_map ns
theorem cut_tail {α : Type} (xs : List α) : cutD xs (some 1) none = xs.tail := by
  cases xs with
  | nil => rfl
  | cons x xs =>
    unfold cutD
    have e1 : HT.sIx (x :: xs).length 0 (some 1) = 1 := by
      rw [show (some (1 : Int)) = some ((1 : Nat) : Int) from rfl, HT.sIx_nat, List.length_cons]
      omega
    have e2 : HT.sIx (x :: xs).length (x :: xs).length none = (x :: xs).length := rfl
    rw [e1, e2]
    simp
end FL
set_option maxHeartbeats 4000000
/-! FM2: plain tools for all laws. -/
namespace FL
open PySem PySem.Spec PyProof.Rows L2
local macro_rules | `(tactic| simp_arith only [$ls,*]) => `(tactic| simp only [R.bind_ok, R.bind_er, R.bind_no, R.out_ok, R.out_er, R.out_no, R.strict_ok, R.strict_er, R.strict_no, Oc.seq_nx, Oc.seq_rt, Oc.seq_er, Oc.seq_no, Oc.loop_nx, Oc.loop_rt, sIf, sRet, sSet, sAsg, sDrop, mVar_0, mVarT_0, mVarO_0, mVar_1, mVarT_1, mVarO_1, mVar_2, mVarT_2, mVarO_2, mVar_3, mVarT_3, mVarO_3, mVar_4, mVarT_4, mVarO_4, mVar_5, mVarT_5, mVarO_5, mVar_6, mVarT_6, mVarO_6, mVar_7, mVarT_7, mVarO_7, mVar_8, mVarT_8, mVarO_8, mVar_9, mVarT_9, mVarO_9, mVar_10, mVarT_10, mVarO_10, mVar_11, mVarT_11, mVarO_11, mVar_12, mVarT_12, mVarO_12, mVar_13, mVarT_13, mVarO_13, mVar_14, mVarT_14, mVarO_14, mVar_15, mVarT_15, mVarO_15, mVar_16, mVarT_16, mVarO_16, mVar_17, mVarT_17, mVarO_17, mVar_18, mVarT_18, mVarO_18, mVar_19, mVarT_19, mVarO_19, mVar_20, mVarT_20, mVarO_20, mVar_21, mVarT_21, mVarO_21, mVar_22, mVarT_22, mVarO_22, mVar_23, mVarT_23, mVarO_23, mVar_24, mVarT_24, mVarO_24, mC, mNil, mCons, mTup, mLst, mBin, mUn, mCall, mB, asB_bl, mNot, mAnd, mOr, vB, mIf, mIsN, isN, mYes, mChain, Tg.oc, Tg.put, setAll, List.getElem?_cons_zero, List.getElem?_cons_succ, List.set_cons_zero, List.set_cons_succ, List.map_cons, List.map_nil, List.length_cons, List.length_nil, List.replicate_succ, List.replicate_zero, List.cons_append, List.nil_append, List.append_nil, Nat.reduceAdd, Nat.reduceSub, Nat.succ_eq_add_one, if_true, if_false, ite_true, ite_false, Bool.false_eq_true, Bool.not_true, Bool.not_false, Bool.xor_false, Bool.false_xor, Bool.true_xor, sz_0, sz_1, sz_2, sz_3, sz_4, sz_5, sz_6, sz_7, sz_8, sz_9, sz_10, sz_11, sz_12, sz_13, sz_14, sz_15, sz_16, sz_17, sz_18, sz_19, sz_20, sz_21, sz_22, sz_23, sz_24, sz_25, sz_26, sz_27, sz_28, sz_29, sz_30, sz_31, sz_32, sz_33, sz_34, sz_35, sz_36, sz_37, sz_38, sz_39, sz_40, ok_ite, bl_ite, and_ite, or_ite, Bool.or_false, Bool.false_or, Bool.true_or, Bool.or_true, Bool.and_true, Bool.true_and, Bool.and_false, Bool.false_and, lcTurn, wipeE, itemsD_lst, itemsD_tup, ↓reduceIte, reduceCtorEq, sApp, sExt, sOwn, sPar, ownAt, frzE, $ls,*])
theorem all_bl {α : Type} (p : α → Bool) (xs : List α) : allD (.lst (xs.map fun x => D.bl (p x))) = .ok (.bl (xs.all p)) := by
  have e : (xs.map fun x => D.bl (p x)) = (xs.map p).map D.bl := by rw [List.map_map]; rfl
  rw [e]
  show blsOf _ (.lst ((xs.map p).map D.bl)) = _
  rw [blsOf_map]
  simp [List.all_map]
theorem eqD_int (neg : Bool) (i j : Int) : eqD neg (.int i) (.int j) = .ok (.bl (xor neg (i == j))) := by
  show (if shD 60 (.int i) && shD 60 (.int j) then R.ok (D.bl (xor neg (eqvD (.int i) (.int j)))) else .no) = _
  simp [shD, eqvD]
theorem isi_int (i : Int) : isiD "int" (.int i) = .ok (.bl true) := by rfl
theorem isi_intb (i : Bool) : isiD "int" (.bl i) = .ok (.bl true) := by rfl
theorem isi_bool (i : Int) : isiD "bool" (.int i) = .ok (.bl false) := by rfl
theorem isi_boolb (i : Bool) : isiD "bool" (.bl i) = .ok (.bl true) := by rfl
theorem isi_tup (ds : List D) : isiD "tuple" (.tup ds) = .ok (.bl true) := by rfl
theorem isi_tup_l (ds : List D) : isiD "tuple" (.lst ds) = .ok (.bl false) := by rfl
theorem isi_tup_s (ds : Str) : isiD "tuple" (.str ds) = .ok (.bl false) := by rfl
theorem isi_tup_n : isiD "tuple" .non = .ok (.bl false) := by rfl
theorem leD_int (i j : Int) : leD (.int i) (.int j) = .ok (.bl (decide (i ≤ j))) := rfl
theorem ltD_int (i j : Int) : ltD (.int i) (.int j) = .ok (.bl (decide (i < j))) := rfl
theorem gtD_int (i j : Int) : gtD (.int i) (.int j) = .ok (.bl (decide (j < i))) := rfl
theorem atI_nat {α : Type} (xs : List α) (i : Nat) : atI xs ((i : Nat) : Int) = xs[i]? := by
  unfold atI ixN
  rw [if_pos (by omega)]
  by_cases h : i < xs.length
  · rw [if_pos (by omega)]
    simp
  · rw [if_neg (by omega), List.getElem?_eq_none (by omega)]
    rfl
theorem idx_lst (ds : List D) (i : Nat) (d : D) (h : ds[i]? = some d) : idxD (.lst ds) (.int (i : Nat)) = .ok d := by
  show (match atI ds ((i : Nat) : Int) with | some d => R.ok d | none => .no) = _
  rw [atI_nat, h]
theorem idx_tup (ds : List D) (i : Nat) (d : D) (h : ds[i]? = some d) : idxD (.tup ds) (.int (i : Nat)) = .ok d := by
  show (match atI ds ((i : Nat) : Int) with | some d => R.ok d | none => .no) = _
  rw [atI_nat, h]
theorem idx_tup0 (a : D) (ds : List D) : idxD (.tup (a :: ds)) (.int 0) = .ok a := idx_tup _ 0 a rfl
theorem idx_tup1 (a b : D) (ds : List D) : idxD (.tup (a :: b :: ds)) (.int 1) = .ok b := idx_tup _ 1 b rfl
theorem idx_tup2 (a b c : D) (ds : List D) : idxD (.tup (a :: b :: c :: ds)) (.int 2) = .ok c := idx_tup _ 2 c rfl
theorem idx_lst0 (a : D) (ds : List D) : idxD (.lst (a :: ds)) (.int 0) = .ok a := idx_lst _ 0 a rfl
theorem int_bl (b : Bool) : intD (.bl b) = .ok (.int (if b = true then 1 else 0)) := rfl
theorem minLD_map {α : Type} (f : α → Int) (x : α) (xs : List α) : minLD (.lst ((x :: xs).map fun v => D.int (f v))) = .ok (.int (minI (f x) (xs.map f))) := by
  have e : ((x :: xs).map fun v => D.int (f v)) = ((x :: xs).map f).map D.int := by rw [List.map_map]; rfl
  rw [e]
  unfold minLD
  rw [intsOf_map]
  rfl
theorem zip_ints : ∀ (a b : List Int), (a.map D.int).zip (b.map D.int) = (a.zip b).map fun p => (D.int p.1, D.int p.2)
  | [], b => by simp
  | a :: r, [] => by simp
  | a :: r, b :: s => by simp [zip_ints r s]
theorem zip_ww (a b : List Int) : zipD (wD a) (wD b) = .ok ((a.zip b).map fun p => .tup [.int p.1, .int p.2]) := by
  show R.ok (((a.map D.int).zip (b.map D.int)).map fun p => D.tup [p.1, p.2]) = _
  rw [zip_ints, List.map_map]
  rfl
theorem sum_map {α : Type} (f : α → Int) (xs : List α) : sumTD (.lst (xs.map fun x => D.int (f x))) = .ok (.int (xs.map f).sum) := by
  have e : (xs.map fun x => D.int (f x)) = (xs.map f).map D.int := by rw [List.map_map]; rfl
  rw [e]
  unfold sumTD
  rw [intsLT_lst]
/-- of at most so many bits -/
def Sm (b : Nat) (i : Int) : Prop := i.natAbs < 2 ^ b
theorem Sm.log {b : Nat} {i : Int} (h : Sm b i) (hb : 0 < b) : i.natAbs.log2 < b := by
  by_cases h0 : i.natAbs = 0
  · rw [h0]; simpa using hb
  · exact (Nat.log2_lt h0).mpr h
theorem Sm.mul {a b : Nat} {i j : Int} (h : Sm a i) (q : Sm b j) : Sm (a + b) (i * j) := by
  unfold Sm at *
  rw [Int.natAbs_mul, Nat.pow_add]
  exact Nat.mul_lt_mul'' h q
theorem Sm.add {a : Nat} {i j : Int} (h : Sm a i) (q : Sm a j) : Sm (a + 1) (i + j) := by
  unfold Sm at *
  have := Int.natAbs_add_le i j
  rw [Nat.pow_succ]
  omega
theorem Sm.up {a b : Nat} {i : Int} (h : Sm a i) (q : a ≤ b) : Sm b i := Nat.lt_of_lt_of_le h (Nat.pow_le_pow_right (by omega) q)
theorem Sm.of {b : Nat} {i : Int} (h : 0 ≤ i) (q : i < ((2 ^ b : Nat) : Int)) : Sm b i := by
  unfold Sm
  omega
theorem Sm.lit {b : Nat} {i : Int} (h : decide (i.natAbs < 2 ^ b) = true) : Sm b i := of_decide_eq_true (p := i.natAbs < 2 ^ b) h
theorem mulT_int {a b : Nat} {i j : Int} (h : Sm a i) (q : Sm b j) (ha : 0 < a) (hb : 0 < b) (hab : a + b ≤ 100000000) : mulT (.int i) (.int j) = .ok (.int (i * j)) := by
  show (if cMul i j = true then R.ok (D.int (i * j)) else .no) = _
  have h1 := h.log ha
  have h2 := q.log hb
  rw [if_pos (show cMul i j = true from decide_eq_true (by omega))]
theorem addD_int (i j : Int) : addD (.int i) (.int j) = .ok (.int (i + j)) := rfl
theorem modD_int {i j : Int} (h : j ≠ 0) : modD (.int i) (.int j) = .ok (.int (i.fmod j)) := by
  show (if cMod i j = true then R.ok (D.int (i.fmod j)) else .no) = _
  rw [if_pos (show cMod i j = true from decide_eq_true h)]
theorem divD_int {i j : Int} (h : 0 < j ∧ j.natAbs.log2 < 9000) : divD (.int i) (.int j) = .ok (.int (i / j)) := by
  show (if cDiv i j = true then R.ok (D.int (i / j)) else .no) = _
  rw [if_pos (show cDiv i j = true from decide_eq_true h)]
theorem divD_lit {i j : Int} (h : decide (0 < j ∧ j.natAbs.log2 < 9000) = true) : divD (.int i) (.int j) = .ok (.int (i / j)) := divD_int (of_decide_eq_true h)
theorem modD_lit {i j : Int} (h : decide (j ≠ 0) = true) : modD (.int i) (.int j) = .ok (.int (i.fmod j)) := modD_int (of_decide_eq_true h)
theorem fmod_rng {i j : Int} (h : 0 < j) : 0 ≤ i.fmod j ∧ i.fmod j < j := by
  rw [Int.fmod_eq_emod_of_nonneg _ (Int.le_of_lt h)]
  exact ⟨Int.emod_nonneg _ (by omega), Int.emod_lt_of_pos _ h⟩
def dm1 : Int := 340282366920938463463374607431768211507
def dr1 (c k : Int) : Int := (c * 6364136223846793005 + (k + 1) * 1442695040888963407).fmod 340282366920938463463374607431768211507
def dr2 (c k : Int) : Int := (dr1 c k * dr1 c k).fmod 340282366920938463463374607431768211297
def drawnI (c k : Int) : Int := (((dr2 c k).fmod 18446744073709551557 + 1) * (dr2 c k / 18446744073709551557 + 1) * dr2 c k).fmod 340282366920938463463374607431768211507
theorem drawn_rng (c k : Int) : 0 ≤ drawnI c k ∧ drawnI c k < dm1 := fmod_rng (by decide)
theorem eqD_scr (ns : List Int) : eqD false (.scr ns) (.lst []) = .ok (.bl ns.isEmpty) := by
  show R.ok (D.bl (xor false ns.isEmpty)) = _
  simp
theorem bits_sm {z : Int} (h : Builtin.Int.intBits z ≤ 1048576) : Sm 1048576 z := by
  unfold Sm
  by_cases h0 : z.natAbs = 0
  · rw [h0]; exact Nat.pow_pos (by omega)
  · have hz : ¬ ((z == 0) = true) := fun e => h0 (by rw [eq_of_beq e]; rfl)
    unfold Builtin.Int.intBits at h
    rw [if_neg hz] at h
    exact (Nat.log2_lt h0).mp (Nat.lt_of_succ_le h)
def lets (l : Nat) : List Int := (List.range l).map fun (i : Nat) => (i : Int)
theorem addD_lst {xs ys : List D} (h : xs.length + ys.length ≤ 16000000) : addD (.lst xs) (.lst ys) = .ok (.lst (xs ++ ys)) := if_pos (szl h)
theorem addD_tup {xs ys : List D} (h : xs.length + ys.length ≤ 16000000) : addD (.tup xs) (.tup ys) = .ok (.tup (xs ++ ys)) := if_pos (szl h)
theorem rg1_nat (l : Nat) (h : l ≤ 1000000) : rg1D (.int (l : Int)) = .ok ((List.range l).map fun (i : Nat) => D.int (i : Int)) := by
  show (if _ then _ else _) = _
  rw [if_pos (by omega)]
  unfold rgD
  simp
theorem wD_snoc (w : List Int) (a : Int) : D.tup (w.map D.int ++ [D.int a]) = wD (w ++ [a]) := by rw [wD, List.map_append]; rfl
theorem lex_irr : ∀ w : List Int, HT.lexLt w w = false
  | [] => rfl
  | a :: r => by rw [HT.lexLt_cons, if_pos rfl, lex_irr r]
theorem lex_trans : ∀ {a b c : List Int}, HT.lexLt a b = true → HT.lexLt b c = true → HT.lexLt a c = true
  | [], [], _, h, _ => by cases h
  | [], _ :: _, [], _, q => by cases q
  | [], _ :: _, _ :: _, _, _ => rfl
  | _ :: _, [], _, h, _ => by cases h
  | _ :: _, _ :: _, [], _, q => by cases q
  | x :: a, y :: b, z :: c, h, q => by
    rw [HT.lexLt_cons] at h q ⊢
    by_cases e1 : x = y
    · subst e1
      rw [if_pos rfl] at h
      by_cases e2 : x = z
      · subst e2
        rw [if_pos rfl] at q ⊢
        exact lex_trans h q
      · rw [if_neg e2] at q ⊢
        exact q
    · rw [if_neg e1] at h
      have h := of_decide_eq_true h
      by_cases e2 : y = z
      · subst e2
        rw [if_neg e1]
        exact decide_eq_true h
      · rw [if_neg e2] at q
        have q := of_decide_eq_true q
        rw [if_neg (by omega)]
        exact decide_eq_true (by omega)
theorem lex_ext : ∀ {a b : List Int} (x y : Int), a.length = b.length → HT.lexLt a b = true → HT.lexLt (a ++ [x]) (b ++ [y]) = true
  | [], [], _, _, _, h => by cases h
  | [], _ :: _, _, _, e, _ => by simp at e
  | _ :: _, [], _, _, e, _ => by simp at e
  | p :: a, q :: b, x, y, e, h => by
    rw [List.cons_append, List.cons_append, HT.lexLt_cons]
    rw [HT.lexLt_cons] at h
    by_cases e1 : p = q
    · rw [if_pos e1] at h ⊢
      exact lex_ext x y (by simpa using e) h
    · rw [if_neg e1] at h ⊢
      exact h
theorem lex_last : ∀ (w : List Int) {x y : Int}, x < y → HT.lexLt (w ++ [x]) (w ++ [y]) = true
  | [], x, y, h => by
    show (if x = y then _ else decide (x < y)) = true
    rw [if_neg (by omega)]
    exact decide_eq_true h
  | a :: w, x, y, h => by
    rw [List.cons_append, List.cons_append, HT.lexLt_cons, if_pos rfl]
    exact lex_last w h
theorem range_up (l : Nat) : (List.range l).Pairwise (· < ·) := List.pairwise_lt_range
theorem shL_ints (n : Nat) : ∀ ns : List Int, shL n (ns.map D.int) = true
  | [] => rfl
  | a :: r => by
    show (shD n (.int a) && shL n (r.map D.int)) = true
    rw [shL_ints n r]; rfl
theorem shD_w {n : Nat} (h : 0 < n) (w : List Int) : shD n (wD w) = true := by
  show (decide (0 < n) && shL (n - 1) (w.map D.int)) = true
  rw [shL_ints, decide_eq_true h]; rfl
theorem shD_li {n : Nat} (h : 0 < n) (w : List Int) : shD n (.lst (w.map D.int)) = true := by
  show (decide (0 < n) && shL (n - 1) (w.map D.int)) = true
  rw [shL_ints, decide_eq_true h]; rfl
theorem shL_ws {n : Nat} (h : 0 < n) : ∀ ws : List (List Int), shL n (ws.map wD) = true
  | [] => rfl
  | a :: r => by
    show (shD n (wD a) && shL n (r.map wD)) = true
    rw [shL_ws h r, shD_w h]; rfl
theorem shD_ws {n : Nat} (h : 1 < n) (ws : List (List Int)) : shD n (.lst (ws.map wD)) = true := by
  show (decide (0 < n) && shL (n - 1) (ws.map wD)) = true
  rw [shL_ws (by omega), decide_eq_true (by omega)]; rfl
theorem eqD_li (neg : Bool) (a b : List Int) : eqD neg (.lst (a.map D.int)) (.lst (b.map D.int)) = .ok (.bl (xor neg (eqvD (.lst (a.map D.int)) (.lst (b.map D.int))))) := by
  show (if shD 60 (.lst (a.map D.int)) && shD 60 (.lst (b.map D.int)) then R.ok (D.bl _) else .no) = _
  rw [shD_li (by omega), shD_li (by omega)]; rfl
theorem eqD_nil (ws : List (List Int)) : eqD false (.lst (ws.map wD)) (.lst []) = .ok (.bl ws.isEmpty) := by
  show (if shD 60 (.lst (ws.map wD)) && shD 60 (.lst []) then R.ok (D.bl (xor false (eqvD (.lst (ws.map wD)) (.lst [])))) else .no) = _
  rw [shD_ws (by omega), show shD 60 (.lst []) = true from rfl, Bool.false_xor]
  cases ws <;> rfl
theorem zipIdx_sub {α : Type} (ws : List α) (p : α × Nat → Bool) : ((ws.zipIdx.filter p).map (·.1)).Sublist ws := by
  have h : ((ws.zipIdx.filter p).map (·.1)).Sublist (ws.zipIdx.map (·.1)) := List.Sublist.map _ List.filter_sublist
  rw [List.zipIdx_map_fst] at h
  exact h
theorem mul_rng {n : Nat} (h : n ≤ 100000) : Sm 2000000 ((n : Nat) : Int) := by
  have e : ((2 ^ 17 : Nat) : Int) = 131072 := rfl
  exact (Sm.of (b := 17) (by omega) (by omega)).up (by omega)
theorem dm_sm {m : Int} (h : 0 ≤ m ∧ m < dm1) : Sm 2000000 m := (Sm.of (b := 129) h.1 (Int.lt_trans h.2 (by decide +kernel))).up (by omega)
theorem subD_int (i j : Int) : subD (.int i) (.int j) = .ok (.int (i - j)) := rfl
theorem idx_mod {ds : List D} {i : Int} (h : 0 < ds.length) : ∃ j, j < ds.length ∧ i.fmod (ds.length : Int) = (j : Nat) := by
  obtain ⟨m1, m2⟩ := fmod_rng (i := i) (j := (ds.length : Int)) (by omega)
  obtain ⟨j, hj⟩ := Int.eq_ofNat_of_zero_le m1
  exact ⟨j, by omega, hj⟩
theorem tints_w (w : List Int) (h : w.length < 60) : tintsD (wD w) = .ok w := by
  unfold tintsD
  simp only [wD, asInts_ints]
  rw [if_pos h]
theorem sumT_w (w : List Int) : sumTD (wD w) = .ok (.int w.sum) := by
  unfold sumTD
  rw [wD, intsLT_tup]
theorem sortT_w (w : List Int) : sortTD (wD w) = .ok (.lst ((sortI w).map D.int)) := by
  unfold sortTD
  rw [wD, intsLT_tup]
theorem lst_w (w : List Int) : lstD (wD w) = .ok (.lst (w.map D.int)) := rfl
theorem absD_int (i : Int) : absD (.int i) = .ok (.int (if i < 0 then -i else i)) := rfl
theorem whGo_succ (mt : Env → R Bool) (f : Env → Oc) (n : Nat) (ρ : Env) : whGo mt f (n + 1) ρ = (mt ρ).out fun b => if b = true then (f ρ).loop (whGo mt f n) else .nx ρ := rfl
theorem fmod_nat (a b : Nat) : ((a : Nat) : Int).fmod ((b : Nat) : Int) = ((a % b : Nat) : Int) := by
  rw [Int.fmod_eq_emod_of_nonneg _ (by omega)]
  exact (Int.natCast_emod a b).symm
/-- Euclid's turns: the test other > 0, the body one, other = other, one % other -/
theorem euclid {x y : Sl} {mt : Env → R Bool} {f : Env → Oc} (hmt : ∀ a b : Nat, mt [x, y, .sh (.int (a : Int)), .sh (.int (b : Int))] = .ok (decide (0 < b)))
    (hf : ∀ a b : Nat, 0 < b → f [x, y, .sh (.int (a : Int)), .sh (.int (b : Int))] = .nx [x, y, .sh (.int (b : Int)), .sh (.int ((a % b : Nat) : Int))]) :
    ∀ (k a b fu : Nat), b < 2 ^ k → 2 * k + 1 ≤ fu → whGo mt f fu [x, y, .sh (.int (a : Int)), .sh (.int (b : Int))] = .nx [x, y, .sh (.int ((Nat.gcd a b : Nat) : Int)), .sh (.int 0)] := by
  intro k
  induction k with
  | zero =>
    intro a b fu hb hfu
    have hb : b = 0 := by simpa using hb
    subst hb
    obtain ⟨fu, rfl⟩ : ∃ m, fu = m + 1 := ⟨fu - 1, by omega⟩
    rw [whGo_succ, hmt a 0, R.out_ok]
    simp
  | succ k ih =>
    intro a b fu hb hfu
    obtain ⟨fu, rfl⟩ : ∃ m, fu = m + 1 := ⟨fu - 1, by omega⟩
    rw [whGo_succ, hmt a b, R.out_ok]
    by_cases h0 : 0 < b
    · rw [if_pos (decide_eq_true h0), hf a b h0, Oc.loop_nx]
      obtain ⟨fu, rfl⟩ : ∃ m, fu = m + 1 := ⟨fu - 1, by omega⟩
      rw [whGo_succ, hmt b (a % b), R.out_ok]
      have hlt : a % b < b := Nat.mod_lt _ h0
      have g1 : Nat.gcd a b = Nat.gcd b (a % b) := by rw [Nat.gcd_comm a b, Nat.gcd_rec b a, Nat.gcd_comm]
      by_cases h1 : 0 < a % b
      · rw [if_pos (decide_eq_true h1), hf b (a % b) h1, Oc.loop_nx]
        have half : b % (a % b) < 2 ^ k := by
          rw [Nat.pow_succ] at hb
          have h2 : b % (a % b) < a % b := Nat.mod_lt _ h1
          by_cases hc : 2 * (a % b) ≤ b
          · omega
          · have e : b % (a % b) = b - a % b := by
              rw [Nat.mod_eq_sub_mod (Nat.le_of_lt hlt)]
              exact Nat.mod_eq_of_lt (by omega)
            omega
        have g2 : Nat.gcd b (a % b) = Nat.gcd (a % b) (b % (a % b)) := by rw [Nat.gcd_comm b, Nat.gcd_rec (a % b) b, Nat.gcd_comm]
        rw [ih (a % b) (b % (a % b)) fu half (by omega), g1, g2]
      · have e : a % b = 0 := by omega
        rw [if_neg (by simp [e]), g1, e, Nat.gcd_zero_right]
        rfl
    · have e : b = 0 := by omega
      subst e
      simp
/-- the fraction of two whole numbers -/
def frD (a : Int) (b : Nat) : D := .tup [.int (a / (Nat.gcd a.natAbs b : Nat)), .int ((b : Int) / (Nat.gcd a.natAbs b : Nat))]
theorem abs_nat (a : Int) : (if a < 0 then -a else a) = ((a.natAbs : Nat) : Int) := by split <;> omega
theorem fraction_sem {a : Int} {b : Nat} (hb : 0 < b) (hz : b < 2 ^ 8000) {fu : Env → Nat} (hfu : ∀ ρ, fu ρ = bigFu) :
    runF 4 2 (fun ρ => ((sPar 2 3 (mUn absD (mVar 0)) (mVar 1)) ρ).seq (fun ρ => ((sWhile fu (mB (mBin gtD (mVar 3) (mC (.int 0)))) (sPar 2 3 (mVar 3) (mBin modD (mVar 2) (mVar 3)))) ρ).seq (sRet (mTup (mCons (mBin divD (mVar 0) (mVar 2)) (mCons (mBin divD (mVar 1) (mVar 2)) mNil)))))) [.int a, .int (b : Int)] = .ok (frD a b) := by
  have g0 : 0 < Nat.gcd a.natAbs b := Nat.gcd_pos_of_pos_right _ hb
  have gl : Nat.gcd a.natAbs b ≤ b := Nat.gcd_le_right _ hb
  have E := euclid (x := .sh (.int a)) (y := .sh (.int (b : Int))) (mt := mB (mBin gtD (mVar 3) (mC (.int 0)))) (f := sPar 2 3 (mVar 3) (mBin modD (mVar 2) (mVar 3)))
    (fun p q => by simp_arith only [gtD_int]; congr 1; simp) (fun p q hq => by simp_arith only [sPar, modD_int (show ((q : Nat) : Int) ≠ 0 by omega), fmod_nat]) 8000 a.natAbs b bigFu hz (by decide)
  have d1 : ∀ i : Int, divD (.int i) (.int ((Nat.gcd a.natAbs b : Nat) : Int)) = .ok (.int (i / (Nat.gcd a.natAbs b : Nat))) := fun i => divD_int ⟨by omega, by
    have e : ((Nat.gcd a.natAbs b : Nat) : Int).natAbs = Nat.gcd a.natAbs b := by omega
    rw [e]
    have : (Nat.gcd a.natAbs b).log2 < 8000 := (Nat.log2_lt (by omega)).mpr (Nat.lt_of_le_of_lt gl hz)
    omega⟩
  simp_arith only [runF, sPar, absD_int, abs_nat, sWhile, hfu, E, d1]
  rfl
def incr (L : List Int) : Bool := (L.zip L.tail).all fun p => decide (p.1 < p.2)
theorem zip_tailI (L : List Int) : zipD (.tup (L.map D.int)) (.tup (L.map D.int).tail) = .ok ((L.zip L.tail).map fun p => .tup [.int p.1, .int p.2]) := by
  show R.ok (((L.map D.int).zip (L.map D.int).tail).map fun p => D.tup [p.1, p.2]) = _
  rw [← List.map_tail, List.zip_map, List.map_map]
  rfl
theorem eqvL_ints : ∀ a b : List Int, eqvL (a.map D.int) (b.map D.int) = (a == b)
  | [], [] => rfl
  | [], _ :: _ => rfl
  | _ :: _, [] => rfl
  | x :: a, y :: b => by
    show ((x == y) && eqvL (a.map D.int) (b.map D.int)) = _
    rw [eqvL_ints a b]
    rfl
theorem shL_ls {n : Nat} (h : 0 < n) : ∀ xs : List (List Int), shL n (xs.map fun x => D.lst (x.map D.int)) = true
  | [] => rfl
  | a :: r => by
    show (shD n (.lst (a.map D.int)) && shL n (r.map fun x => D.lst (x.map D.int))) = true
    rw [shL_ls h r, shD_li h]; rfl
theorem idx_w {w : List Int} {i : Int} (h : 0 ≤ i ∧ i < (w.length : Int)) : idxD (wD w) (.int i) = .ok (.int (w.getD i.toNat 0)) := by
  obtain ⟨j, rfl⟩ := Int.eq_ofNat_of_zero_le h.1
  have hj : j < w.length := by omega
  refine idx_tup _ j _ ?_
  rw [List.getElem?_map, List.getElem?_eq_getElem hj]
  show some (D.int w[j]) = some (D.int (w.getD ((j : Nat) : Int).toNat 0))
  rw [Int.toNat_natCast, List.getD_eq_getElem?_getD, List.getElem?_eq_getElem hj]
  rfl
theorem isi_list (ds : List D) : isiD "list" (.lst ds) = .ok (.bl true) := by rfl
theorem isi_list_n : isiD "list" .non = .ok (.bl false) := by rfl
theorem isi_list_t (ds : List D) : isiD "list" (.tup ds) = .ok (.bl false) := by rfl
theorem isi_int_s (x : Str) : isiD "int" (.str x) = .ok (.bl false) := by rfl
theorem incr_of : ∀ {L : List Int}, L.Pairwise (· < ·) → incr L = true
  | [], _ => rfl
  | [a], _ => rfl
  | a :: b :: r, h => by
    obtain ⟨h1, h2⟩ := List.pairwise_cons.mp h
    have ih := incr_of h2
    unfold incr at ih ⊢
    simp only [List.tail_cons, List.zip_cons_cons, List.all_cons, Bool.and_eq_true, decide_eq_true_eq] at ih ⊢
    exact ⟨h1 b List.mem_cons_self, ih⟩
theorem of_incr : ∀ {L : List Int}, incr L = true → L.Pairwise (· < ·)
  | [], _ => List.Pairwise.nil
  | [a], _ => by simp
  | a :: b :: r, h => by
    have h' : a < b ∧ incr (b :: r) = true := by
      unfold incr at h ⊢
      simp only [List.tail_cons, List.zip_cons_cons, List.all_cons, Bool.and_eq_true, decide_eq_true_eq] at h ⊢
      exact h
    have ih := of_incr h'.2
    refine List.pairwise_cons.mpr ⟨fun u hu => ?_, ih⟩
    rcases List.mem_cons.mp hu with e | hu
    · rw [e]; exact h'.1
    · exact Int.lt_trans h'.1 ((List.pairwise_cons.mp ih).1 u hu)
theorem lets_up (n : Nat) : (lets n).Pairwise (· < ·) := by
  unfold lets
  exact List.Pairwise.map _ (fun i j (h : i < j) => by show ((i : Nat) : Int) < (j : Nat); omega) (range_up n)
theorem forGo_find {α : Type} {t : Tg} {f : Env → Oc} (enc : α → D) (p : α → Bool) (I : Env → Prop) (r : D) : ∀ (xs : List α) (ρ : Env), I ρ → (∀ x ∈ xs, ∀ ρ, I ρ → ∃ ρ', I ρ' ∧ t.oc (enc x) ρ f = if p x = true then .rt r else .nx ρ') →
    ∃ ρ', I ρ' ∧ forGo t f (xs.map enc) ρ = if xs.any p = true then .rt r else .nx ρ'
  | [], ρ, h0, _ => ⟨ρ, h0, rfl⟩
  | x :: xs, ρ, h0, st => by
    obtain ⟨ρ1, h1, e1⟩ := st x List.mem_cons_self ρ h0
    obtain ⟨ρ2, h2, e2⟩ := forGo_find enc p I r xs ρ1 h1 fun y hy => st y (List.mem_cons_of_mem _ hy)
    refine ⟨ρ2, h2, ?_⟩
    rw [List.map_cons]
    show (t.oc (enc x) ρ fun ρ' => (f ρ').loop (forGo t f (xs.map enc))) = _
    unfold Tg.oc at e1 ⊢
    cases q : t.put (enc x) ρ with
    | none =>
      rw [q] at e1
      exfalso
      by_cases hp : p x = true
      · rw [if_pos hp] at e1; cases e1
      · rw [if_neg hp] at e1; cases e1
    | some ρ' =>
      rw [q] at e1
      have e1 : f ρ' = if p x = true then .rt r else .nx ρ1 := e1
      show (f ρ').loop (forGo t f (xs.map enc)) = _
      rw [e1, List.any_cons]
      by_cases hp : p x = true
      · rw [if_pos hp, hp]; rfl
      · have hp : p x = false := Bool.eq_false_iff.mpr hp
        rw [hp]
        show forGo t f (xs.map enc) ρ1 = _
        rw [e2]; rfl
theorem lt8000 {b : Nat} (h : b ≤ 1000000) : b < 2 ^ 8000 := Nat.lt_of_le_of_lt h (Nat.lt_of_lt_of_le (show 1000000 < 2 ^ 20 by decide) (Nat.pow_le_pow_right (by omega) (by omega)))
theorem isN_lst (ds : List D) : isiD "tuple" (.lst ds) = .ok (.bl false) := by rfl
theorem seq_eq {f g : Env → Oc} {ρ ρ' : Env} (h : f ρ = .nx ρ') : (f ρ).seq g = g ρ' := by rw [h]; rfl
theorem eqD_str {x : Str} (h : shD 60 (.str x) = true) (neg : Bool) : eqD neg (.str x) (.str x) = .ok (.bl (xor neg true)) := by
  show (if shD 60 (.str x) && shD 60 (.str x) then R.ok (D.bl (xor neg (x == x))) else .no) = _
  rw [h, beq_self_eq_true]; rfl
theorem neg1 : negD (.int 1) = .ok (.int (-1)) := rfl
theorem addD_lst_eq (xs ys : List D) : addD (.lst xs) (.lst ys) = if xs.length + ys.length ≤ sizeLine then .ok (.lst (xs ++ ys)) else .no := rfl
theorem cut_one {α : Type} (xs : List α) : cutD xs none (some 1) = xs.take 1 := by
  unfold cutD
  have e1 : HT.sIx xs.length 0 none = 0 := rfl
  have e2 : HT.sIx xs.length xs.length (some 1) = min 1 xs.length := by
    rw [show (some (1 : Int)) = some ((1 : Nat) : Int) from rfl, HT.sIx_nat]
  rw [e1, e2, List.drop_zero, Nat.sub_zero]
  cases xs with
  | nil => rfl
  | cons x xs => simp
theorem forGo_all {t : Tg} {f : Env → Oc} (I : Env → Prop) : ∀ (xs : List D) (ρ : Env), I ρ → (∀ x ∈ xs, ∀ ρ, I ρ → ∃ ρ', I ρ' ∧ t.oc x ρ f = .nx ρ') → ∃ ρ', I ρ' ∧ forGo t f xs ρ = .nx ρ' := fun xs ρ h0 st => by
  obtain ⟨ρ', h1, e⟩ := forGo_find (t := t) (f := f) id (fun _ => false) I .non xs ρ h0 (fun x hx ρ hI => by
    obtain ⟨ρ', h, e⟩ := st x hx ρ hI
    exact ⟨ρ', h, by rw [id, e]; rfl⟩)
  rw [List.map_id] at e
  refine ⟨ρ', h1, e.trans ?_⟩
  have : (xs.any fun _ => false) = false := by simp
  rw [this]; rfl
theorem mem_sort {ns : List Int} {k : Int} : k ∈ sortI ns ↔ k ∈ ns := (sortI_perm ns).mem_iff
theorem nodup_dst : ∀ ns : List Int, (dst ns).Nodup
  | [] => by unfold dst; exact List.nodup_nil
  | n :: r => by
    unfold dst
    by_cases h : n ∈ r
    · rw [if_pos h]; exact nodup_dst r
    · rw [if_neg h]
      exact List.nodup_cons.mpr ⟨fun z => h ((mem_dst n r).mp z), nodup_dst r⟩
theorem sort_set_incr (ns : List Int) : (sortI (dst ns)).Pairwise (· < ·) := by
  have h1 := sortI_sorted (dst ns)
  have h2 : (sortI (dst ns)).Nodup := (sortI_perm (dst ns)).nodup_iff.mpr (nodup_dst ns)
  have h3 : (sortI (dst ns)).Pairwise fun a b => a ≤ b ∧ a ≠ b := List.Pairwise.and h1 h2
  exact h3.imp fun ⟨a, b⟩ => by omega
theorem eqD_w' (neg : Bool) (w : List Int) : eqD neg (wD w) (wD w) = .ok (.bl (xor neg true)) := by
  show (if shD 60 (wD w) && shD 60 (wD w) then R.ok (D.bl (xor neg (eqvD (wD w) (wD w)))) else .no) = _
  rw [shD_w (by omega)]
  show R.ok (D.bl (xor neg (eqvL (w.map D.int) (w.map D.int)))) = _
  rw [eqvL_ints, beq_self_eq_true]
theorem isi_boolD (b : Bool) : isiD "bool" (.bl b) = .ok (.bl true) := by rfl
theorem eqD_bl (neg a b : Bool) : eqD neg (.bl a) (.bl b) = .ok (.bl (xor neg (a == b))) := by rfl
theorem pow20 : powD (.int 2) (.int 20) = .ok (.int 1048576) := by rfl
theorem pow24 : powD (.int 2) (.int 24) = .ok (.int 16777216) := by rfl
theorem pow50 : powD (.int 2) (.int 50) = .ok (.int 1125899906842624) := by rfl
/-! ### slices, lists of ints -/
theorem szlt {n : Nat} (h : n < 16000000) : (n < sizeLine) = True := by rw [sizeLine_eq]; simp; omega
theorem szle {n : Nat} (h : n ≤ 16000000) : (n ≤ sizeLine) = True := eq_true (szl h)
theorem cut_to {α : Type} (xs : List α) (k : Nat) : cutD xs none (some (k : Int)) = xs.take k := by
  unfold cutD
  rw [HT.sIx_nat, HT.sIx_none, List.drop_zero, Nat.sub_zero]
  by_cases h : k ≤ xs.length
  · rw [Nat.min_eq_left h]
  · rw [Nat.min_eq_right (by omega), List.take_of_length_le (Nat.le_refl _), List.take_of_length_le (by omega)]
theorem cut_from {α : Type} (xs : List α) (k : Nat) : cutD xs (some (k : Int)) none = xs.drop k := by
  unfold cutD
  rw [HT.sIx_nat, HT.sIx_none]
  by_cases h : k ≤ xs.length
  · rw [Nat.min_eq_left h, List.take_of_length_le (by rw [List.length_drop]; omega)]
  · rw [Nat.min_eq_right (by omega), List.drop_of_length_le (Nat.le_refl _), List.drop_of_length_le (by omega)]
    simp
theorem sIx_m1 (n d : Nat) : HT.sIx n d (some (-1)) = n - 1 := by
  show (if (-1 : Int) < 0 then ((-1 : Int) + (n : Int)).toNat else min (-1 : Int).toNat n) = _
  rw [if_pos (by decide)]
  omega
theorem cut_last {α : Type} (xs : List α) : cutD xs (some (-1)) none = xs.drop (xs.length - 1) := by
  unfold cutD
  rw [sIx_m1, HT.sIx_none, List.take_of_length_le (by rw [List.length_drop]; omega)]
theorem cut_mid {α : Type} (xs : List α) : cutD xs (some 1) (some (-1)) = (xs.drop 1).take (xs.length - 2) := by
  unfold cutD
  rw [sIx_m1, show (some (1 : Int)) = some ((1 : Nat) : Int) from rfl, HT.sIx_nat]
  cases xs with
  | nil => rfl
  | cons x xs =>
    rw [List.length_cons]
    have e : min 1 (xs.length + 1) = 1 := by omega
    rw [e]
    congr 1
theorem bkN_none (n : Nat) : bkN n none = n := by
  unfold bkN
  rw [PySem.W.krv_bounds]
  show (((n : Int) - 1) + 1).toNat = n
  omega
theorem back_all (ds : List D) : backD (.lst ds) none = .ok (.lst ds.reverse) := by
  show R.ok (D.lst (ds.take (bkN ds.length none)).reverse) = _
  rw [bkN_none, List.take_length]
/-- lists of ints, lists of these -/
abbrev iD (p : List Int) : D := .lst (p.map D.int)
abbrev ggD (g : List (List Int)) : D := .lst (g.map iD)
theorem eqD_i (neg : Bool) (a b : List Int) : eqD neg (iD a) (iD b) = .ok (.bl (xor neg (a == b))) := by
  rw [eqD_li]
  show R.ok (D.bl (xor neg (eqvL (a.map D.int) (b.map D.int)))) = _
  rw [eqvL_ints]
theorem zip_ii (a b : List Int) : zipD (iD a) (iD b) = .ok ((a.zip b).map fun p => .tup [.int p.1, .int p.2]) := zip_ww a b
theorem tail_i (a : List Int) : (a.map D.int).tail = a.tail.map D.int := by rw [List.map_tail]
theorem all_true {α : Type} (xs : List α) : allD (.lst (xs.map fun _ => D.bl true)) = .ok (.bl true) := by
  rw [all_bl (fun _ => true)]
  simp
theorem any_bl {α : Type} (p : α → Bool) (xs : List α) : anyD (.lst (xs.map fun x => D.bl (p x))) = .ok (.bl (xs.any p)) := by
  have e : (xs.map fun x => D.bl (p x)) = (xs.map p).map D.bl := by rw [List.map_map]; rfl
  rw [e]
  show blsOf _ (.lst ((xs.map p).map D.bl)) = _
  rw [blsOf_map]
  simp [List.any_map]
theorem sum_i (w : List Int) : sumTD (iD w) = .ok (.int w.sum) := by
  unfold sumTD
  rw [intsLT_lst]
theorem sort_i (w : List Int) : sortTD (iD w) = .ok (iD (sortI w)) := by
  unfold sortTD
  rw [intsLT_lst]
theorem lrD_nat (n : Nat) (h : n ≤ 1000000) : lrD (.int (n : Int)) = .ok (iD (lets n)) := by
  unfold lrD lets
  rw [rg1_nat n h, R.bind_ok, iD, List.map_map]
  rfl
theorem geD_int (i j : Int) : geD (.int i) (.int j) = .ok (.bl (decide (j ≤ i))) := rfl
theorem idx_i {p : List Int} {i : Nat} (h : i < p.length) : idxD (iD p) (.int (i : Int)) = .ok (.int (p.getD i 0)) := by
  refine idx_lst _ i _ ?_
  rw [List.getElem?_map, List.getD_eq_getElem?_getD, List.getElem?_eq_getElem h]
  rfl
theorem idx_z {p : List Int} {i : Int} (h : 0 ≤ i ∧ i < p.length) : idxD (iD p) (.int i) = .ok (.int (p.getD i.toNat 0)) := by
  have e : i = ((i.toNat : Nat) : Int) := by omega
  rw [e]
  exact idx_i (by omega)
theorem idx_m1 (ds : List D) (d : D) : idxD (.lst (ds ++ [d])) (.int (-1)) = .ok d := by
  show (match atI (ds ++ [d]) (-1) with | some d => R.ok d | none => .no) = _
  have e : atI (ds ++ [d]) (-1) = some d := by
    unfold atI ixN
    rw [if_neg (by decide), if_pos (by rw [List.length_append]; simp; omega)]
    show (ds ++ [d])[(-1 + ((ds ++ [d]).length : Int)).toNat]? = _
    rw [List.length_append]
    have e2 : (-1 + (((ds.length + [d].length : Nat)) : Int)).toNat = ds.length := by simp; omega
    rw [e2]
    simp
  rw [e]
theorem enum_r (r : List Int) : enumD (iD r) = .ok ((List.range r.length).map fun i => .tup [.int (i : Nat), .int (r.getD i 0)]) := by
  show R.ok (enumL (r.map D.int)) = _
  congr 1
  refine List.ext_getElem? fun i => ?_
  unfold enumL
  rw [List.getElem?_zipWith, List.getElem?_map, List.getElem?_map, List.length_map]
  by_cases h : i < r.length
  · rw [List.getElem?_range h, List.getElem?_eq_getElem h]
    simp [List.getElem?_eq_getElem h]
  · have e1 : (List.range r.length)[i]? = none := List.getElem?_eq_none (by rw [List.length_range]; omega)
    rw [e1]
    rfl
theorem range_at {n x : Nat} {dn rs : List Nat} (h : dn ++ x :: rs = List.range n) : x = dn.length ∧ dn.length < n := by
  have hl := congrArg List.length h
  rw [List.length_append, List.length_cons, List.length_range] at hl
  have e : (List.range n)[dn.length]? = some x := by rw [← h]; simp
  rw [List.getElem?_range (by omega)] at e
  exact ⟨(Option.some.inj e).symm, by omega⟩
theorem map_getD {r : List Int} : (List.range r.length).map (fun i => r.getD i 0) = r := by
  refine List.ext_getElem? fun i => ?_
  rw [List.getElem?_map]
  by_cases h : i < r.length
  · rw [List.getElem?_range h, List.getElem?_eq_getElem h]
    simp [List.getElem?_eq_getElem h]
  · rw [List.getElem?_eq_none (l := r) (by omega), List.getElem?_eq_none (by rw [List.length_range]; omega)]
    rfl
theorem fmod_lit {i : Int} {n : Nat} (h : 0 < n) : ∃ j : Nat, j < n ∧ i.fmod (n : Int) = (j : Int) := by
  obtain ⟨h1, h2⟩ := fmod_rng (i := i) (j := (n : Int)) (by omega)
  exact ⟨(i.fmod n).toNat, by omega, by omega⟩
theorem maxI_eq {n : Int} {r : List Int} {m : Int} (h1 : n ≤ m) (h2 : ∀ y ∈ r, y ≤ m) (h3 : m ∈ n :: r) : maxI n r = m := by
  obtain ⟨k1, k2, k3⟩ := maxI_le r n
  refine Int.le_antisymm ?_ ?_
  · rcases List.mem_cons.mp k3 with e | e
    · rw [e]; exact h1
    · exact h2 _ e
  · rcases List.mem_cons.mp h3 with e | e
    · rw [e]; exact k1
    · exact k2 _ e
theorem maxLD_i {r : List Int} {m : Int} (h2 : ∀ y ∈ r, y ≤ m) (h3 : m ∈ r) : maxLD (iD r) = .ok (.int m) := by
  unfold maxLD
  rw [intsOf_map]
  cases r with
  | nil => cases h3
  | cons n r =>
    show R.ok (D.int (maxI n r)) = _
    rw [maxI_eq (h2 n List.mem_cons_self) (fun y hy => h2 y (List.mem_cons_of_mem _ hy)) h3]
theorem minI_eq {n : Int} {r : List Int} {m : Int} (h1 : m ≤ n) (h2 : ∀ y ∈ r, m ≤ y) (h3 : m ∈ n :: r) : minI n r = m := by
  obtain ⟨k1, k2, k3⟩ := minI_le r n
  refine Int.le_antisymm ?_ ?_
  · rcases List.mem_cons.mp h3 with e | e
    · rw [e]; exact k1
    · exact k2 _ e
  · rcases List.mem_cons.mp k3 with e | e
    · rw [e]; exact h1
    · exact h2 _ e
theorem minLD_i {r : List Int} {m : Int} (h2 : ∀ y ∈ r, m ≤ y) (h3 : m ∈ r) : minLD (iD r) = .ok (.int m) := by
  unfold minLD
  rw [intsOf_map]
  cases r with
  | nil => cases h3
  | cons n r =>
    show R.ok (D.int (minI n r)) = _
    rw [minI_eq (h2 n List.mem_cons_self) (fun y hy => h2 y (List.mem_cons_of_mem _ hy)) h3]
theorem max_ex : ∀ {r : List Int}, r ≠ [] → ∃ m ∈ r, ∀ y ∈ r, y ≤ m
  | [], h => absurd rfl h
  | n :: r, _ => by
    obtain ⟨k1, k2, k3⟩ := maxI_le r n
    exact ⟨maxI n r, k3, fun y hy => by
      rcases List.mem_cons.mp hy with e | e
      · rw [e]; exact k1
      · exact k2 _ e⟩
theorem lst_i (w : List Int) : lstD (iD w) = .ok (iD w) := rfl
theorem up_sorted {p : List Int} (h : p.Pairwise (· < ·)) : p.Pairwise (· ≤ ·) := h.imp fun h => Int.le_of_lt h
theorem forGo_findI {α : Type} {t : Tg} {f : Env → Oc} (enc : α → D) (p : α → Bool) (I : List α → Env → Prop) (r : D) : ∀ (rest done : List α) (ρ : Env), I done ρ → (∀ dn x rs ρ, dn ++ x :: rs = done ++ rest → I dn ρ → (p x = true → t.oc (enc x) ρ f = .rt r) ∧ (p x = false → ∃ ρ', t.oc (enc x) ρ f = .nx ρ' ∧ I (dn ++ [x]) ρ')) →
    (rest.any p = true ∧ forGo t f (rest.map enc) ρ = .rt r) ∨ (rest.any p = false ∧ ∃ ρ', forGo t f (rest.map enc) ρ = .nx ρ' ∧ I (done ++ rest) ρ')
  | [], done, ρ, h0, _ => .inr ⟨rfl, ρ, rfl, by rw [List.append_nil]; exact h0⟩
  | x :: rest, done, ρ, h0, st => by
    obtain ⟨h1, h2⟩ := st done x rest ρ rfl h0
    rw [List.map_cons, List.any_cons]
    have un : forGo t f (enc x :: rest.map enc) ρ = t.oc (enc x) ρ fun ρ' => (f ρ').loop (forGo t f (rest.map enc)) := rfl
    rw [un]
    cases hp : p x with
    | true =>
      have e := h1 hp
      refine .inl ⟨rfl, ?_⟩
      unfold Tg.oc at e ⊢
      cases q : t.put (enc x) ρ with
      | none => rw [q] at e; cases e
      | some ρ' =>
        rw [q] at e
        have e : f ρ' = .rt r := e
        show (f ρ').loop (forGo t f (rest.map enc)) = _
        rw [e]
        rfl
    | false =>
      obtain ⟨ρ1, e, i1⟩ := h2 hp
      have e2 : (t.oc (enc x) ρ fun ρ' => (f ρ').loop (forGo t f (rest.map enc))) = forGo t f (rest.map enc) ρ1 := by
        unfold Tg.oc at e ⊢
        cases q : t.put (enc x) ρ with
        | none => rw [q] at e; cases e
        | some ρ' =>
          rw [q] at e
          have e : f ρ' = .nx ρ1 := e
          show (f ρ').loop (forGo t f (rest.map enc)) = _
          rw [e]
          rfl
      rw [e2]
      rcases forGo_findI enc p I r rest (done ++ [x]) ρ1 i1 (fun dn y rs ρ e i => st dn y rs ρ (by rw [e]; simp) i) with ⟨k1, k2⟩ | ⟨k1, ρ', k2, k3⟩
      · exact .inl ⟨k1, k2⟩
      · exact .inr ⟨k1, ρ', k2, by rw [List.append_assoc] at k3; exact k3⟩
theorem rev_at {n x : Nat} {dn rs : List Nat} (h : dn ++ x :: rs = (List.range n).reverse) : x = n - 1 - dn.length ∧ dn.length < n := by
  have hl := congrArg List.length h
  rw [List.length_append, List.length_cons, List.length_reverse, List.length_range] at hl
  have e : (List.range n).reverse[dn.length]? = some x := by rw [← h]; simp
  rw [List.getElem?_reverse (by rw [List.length_range]; omega), List.length_range, List.getElem?_range (by omega)] at e
  exact ⟨(Option.some.inj e).symm, by omega⟩
theorem all_and {α : Type} (p q : α → Bool) : ∀ xs : List α, (xs.all fun x => p x && q x) = (xs.all p && xs.all q)
  | [] => rfl
  | x :: xs => by
    rw [List.all_cons, List.all_cons, List.all_cons, all_and p q xs]
    cases p x <;> cases q x <;> simp
theorem zip_tail_mem {p : List Int} {q : Int × Int} (h : q ∈ p.zip p.tail) : q.1 ∈ p ∧ q.2 ∈ p := by
  obtain ⟨h1, h2⟩ := List.of_mem_zip (a := q.1) (b := q.2) h
  exact ⟨h1, List.mem_of_mem_tail h2⟩
/-- equal text lists -/
theorem eqD_self {d : D} (h : shD 60 d = true) (h2 : eqvD d d = true) (h3 : ∀ ns, d ≠ .scr ns) (neg : Bool) : eqD neg d d = .ok (.bl (xor neg true)) := by
  have e : eqD neg d d = if shD 60 d && shD 60 d then .ok (.bl (xor neg (eqvD d d))) else .no := by
    cases d <;> first | rfl | exact absurd rfl (h3 _)
  rw [e, h, h2]
  rfl
/-- the turns of a law -/
theorem turns_n {ns : List Int} {most : Nat} (hm : most ≤ 60) : ∃ q : Nat, q ≤ max 1 most ∧ (((lenD (.scr ns)).bind fun y => min2D (.int (most : Int)) y).bind fun y => max2D (.int 1) y) = .ok (.int (q : Int)) := by
  refine ⟨(if (if (ns.length : Int) < (most : Int) then (ns.length : Int) else (most : Int)) > 1 then (if (ns.length : Int) < (most : Int) then (ns.length : Int) else (most : Int)) else 1).toNat, ?_, ?_⟩
  · split <;> split <;> omega
  · simp only [R.bind_ok, lenD, max2D, min2D, intsD, if_true]
    congr 2
    split <;> split <;> omega
/-! ### fractions -/
theorem frac_less {a c : Int} {b d : Nat} (hb : 0 < b) (hd : 0 < d) : ((a / ((Nat.gcd a.natAbs b : Nat) : Int)) * ((d : Int) / ((Nat.gcd c.natAbs d : Nat) : Int)) < (c / ((Nat.gcd c.natAbs d : Nat) : Int)) * ((b : Int) / ((Nat.gcd a.natAbs b : Nat) : Int))) ↔ a * (d : Int) < c * (b : Int) := by
  have hg : 0 < Nat.gcd a.natAbs b := Nat.gcd_pos_of_pos_right _ hb
  have hh : 0 < Nat.gcd c.natAbs d := Nat.gcd_pos_of_pos_right _ hd
  have d1 : ((Nat.gcd a.natAbs b : Nat) : Int) ∣ a := Int.ofNat_dvd_left.mpr (Nat.gcd_dvd_left _ _)
  have d2 : ((Nat.gcd a.natAbs b : Nat) : Int) ∣ (b : Int) := Int.natCast_dvd_natCast.mpr (Nat.gcd_dvd_right _ _)
  have d3 : ((Nat.gcd c.natAbs d : Nat) : Int) ∣ c := Int.ofNat_dvd_left.mpr (Nat.gcd_dvd_left _ _)
  have d4 : ((Nat.gcd c.natAbs d : Nat) : Int) ∣ (d : Int) := Int.natCast_dvd_natCast.mpr (Nat.gcd_dvd_right _ _)
  generalize Nat.gcd a.natAbs b = g at *
  generalize Nat.gcd c.natAbs d = h at *
  obtain ⟨a', ea⟩ := d1
  obtain ⟨b', eb⟩ := d2
  obtain ⟨c', ec⟩ := d3
  obtain ⟨d', ed⟩ := d4
  rw [ea, eb, ec, ed]
  rw [Int.mul_ediv_cancel_left _ (by omega), Int.mul_ediv_cancel_left _ (by omega), Int.mul_ediv_cancel_left _ (by omega), Int.mul_ediv_cancel_left _ (by omega)]
  have e1 : (g : Int) * a' * ((h : Int) * d') = ((g : Int) * (h : Int)) * (a' * d') := by
    rw [Int.mul_assoc, Int.mul_assoc, Int.mul_left_comm a']
  have e2 : (h : Int) * c' * ((g : Int) * b') = ((g : Int) * (h : Int)) * (c' * b') := by
    rw [Int.mul_assoc, Int.mul_left_comm c', Int.mul_left_comm (h : Int), Int.mul_assoc]
  rw [e1, e2]
  have hp : (0 : Int) < (g : Int) * (h : Int) := Int.mul_pos (by omega) (by omega)
  exact ⟨fun h => Int.mul_lt_mul_of_pos_left h hp, fun h => Int.lt_of_mul_lt_mul_left h (Int.le_of_lt hp)⟩
theorem frac_zero {a : Int} {b : Nat} (hb : 0 < b) : a / ((Nat.gcd a.natAbs b : Nat) : Int) = 0 ↔ a = 0 := by
  have hg : 0 < Nat.gcd a.natAbs b := Nat.gcd_pos_of_pos_right _ hb
  have d1 : ((Nat.gcd a.natAbs b : Nat) : Int) ∣ a := Int.ofNat_dvd_left.mpr (Nat.gcd_dvd_left _ _)
  generalize Nat.gcd a.natAbs b = g at *
  obtain ⟨a', ea⟩ := d1
  rw [ea, Int.mul_ediv_cancel_left _ (by omega)]
  exact ⟨fun h => by rw [h, Int.mul_zero], fun h => by
    rcases Int.mul_eq_zero.mp h with h | h
    · omega
    · exact h⟩
theorem frD_zero {b : Nat} (hb : 0 < b) : frD 0 b = .tup [.int 0, .int 1] := by
  unfold frD
  have e : Nat.gcd (0 : Int).natAbs b = b := by simp
  rw [e, Int.zero_ediv, Int.ediv_self (by omega)]
theorem eqD_pair (neg : Bool) (a b c d : Int) : eqD neg (.tup [.int a, .int b]) (.tup [.int c, .int d]) = .ok (.bl (xor neg (a == c && b == d))) := by
  show (if shD 60 (.tup [.int a, .int b]) && shD 60 (.tup [.int c, .int d]) then R.ok (D.bl (xor neg (eqvD (.tup [.int a, .int b]) (.tup [.int c, .int d])))) else .no) = _
  rw [if_pos (show (shD 60 (.tup [.int a, .int b]) && shD 60 (.tup [.int c, .int d])) = true from rfl)]
  congr 3
  show (a == c && (b == d && true)) = _
  rw [Bool.and_true]
theorem eqD_frs (neg : Bool) (a : Int) (b : Nat) : eqD neg (frD a b) (frD a b) = .ok (.bl (xor neg true)) := by
  show eqD neg (.tup [.int _, .int _]) (.tup [.int _, .int _]) = _
  rw [eqD_pair, beq_self_eq_true, beq_self_eq_true]
  rfl
theorem eqD_fr01 (neg : Bool) {a : Int} {b : Nat} (hb : 0 < b) : eqD neg (frD a b) (.tup [.int 0, .int 1]) = .ok (.bl (xor neg (a == 0))) := by
  by_cases h : a = 0
  · subst h
    rw [frD_zero hb, eqD_pair]
    rfl
  · show eqD neg (.tup [.int _, .int _]) (.tup [.int _, .int _]) = _
    rw [eqD_pair]
    have e1 : (a / ((Nat.gcd a.natAbs b : Nat) : Int) == 0) = false := by
      rw [beq_eq_false_iff_ne]
      exact fun z => h ((frac_zero hb).mp z)
    have e2 : (a == 0) = false := by simpa using h
    rw [e1, e2, Bool.false_and]
theorem div_sm {a : Int} {b : Nat} {k : Nat} (h : Sm k a) : Sm k (a / (b : Int)) := by
  unfold Sm at *
  exact Nat.lt_of_le_of_lt (Int.natAbs_ediv_le_natAbs _ _) h
theorem sm7 {i : Int} (h : 0 ≤ i ∧ i < 128) : Sm 7 i := .of h.1 (by
  have : ((2 ^ 7 : Nat) : Int) = 128 := rfl
  omega)
theorem sm20 {i : Int} (h : -1048576 < i ∧ i < 1048576) : Sm 20 i := by
  unfold Sm
  have : (2 : Nat) ^ 20 = 1048576 := rfl
  omega
theorem filter_not_len {α : Type} (p : α → Bool) : ∀ l : List α, (l.filter p).length + (l.filter fun x => !p x).length = l.length
  | [] => rfl
  | a :: l => by
    have ih := filter_not_len p l
    rw [List.filter_cons, List.filter_cons, List.length_cons]
    cases p a
    · rw [if_neg Bool.false_ne_true, if_pos (show (!false) = true from rfl), List.length_cons]; omega
    · rw [if_pos rfl, if_neg (by simp), List.length_cons]; omega
theorem lt_pair (a b c d : Int) : ltD (.tup [.int a, .int b]) (.tup [.int c, .int d]) = .ok (.bl (decide (a < c) || (a == c && decide (b < d)))) := by
  show R.ok (D.bl (HT.lexLt [a, b] [c, d])) = _
  rw [HT.lexLt_cons, HT.lexLt_cons]
  congr 2
  by_cases h : a = c
  · subst h
    by_cases h2 : b = d
    · subst h2; simp
      rfl
    · simp [h2]
  · simp [h]
theorem zip_tailG {α : Type} (f : α → D) (xs : List α) : zipD (.lst (xs.map f)) (.lst (xs.map f).tail) = .ok ((xs.zip xs.tail).map fun p => .tup [f p.1, f p.2]) := by
  show R.ok (zipL _ _) = _
  unfold zipL
  rw [← List.map_tail, List.zip_map, List.map_map]
  rfl
theorem zip_adj {α : Type} {r : α → α → Prop} : ∀ {xs : List α}, xs.Pairwise r → ∀ p ∈ xs.zip xs.tail, r p.1 p.2
  | [], _, p, h => by cases h
  | [_], _, p, h => by cases h
  | a :: b :: t, h, p, hp => by
    obtain ⟨h1, h2⟩ := List.pairwise_cons.mp h
    have hp : p ∈ (a, b) :: (b :: t).zip t := hp
    rcases List.mem_cons.mp hp with e | hp
    · rw [e]; exact h1 b List.mem_cons_self
    · exact zip_adj (xs := b :: t) h2 p hp
theorem forGo_or {α : Type} {t : Tg} {f : Env → Oc} (enc : α → D) (I : List α → Env → Prop) (r : D) (P : Prop) : ∀ (rest done : List α) (ρ : Env), I done ρ → (∀ dn x rs ρ, dn ++ x :: rs = done ++ rest → I dn ρ → (t.oc (enc x) ρ f = .rt r ∧ P) ∨ ∃ ρ', t.oc (enc x) ρ f = .nx ρ' ∧ I (dn ++ [x]) ρ') →
    (forGo t f (rest.map enc) ρ = .rt r ∧ P) ∨ ∃ ρ', forGo t f (rest.map enc) ρ = .nx ρ' ∧ I (done ++ rest) ρ'
  | [], done, ρ, h0, _ => .inr ⟨ρ, rfl, by rw [List.append_nil]; exact h0⟩
  | x :: rest, done, ρ, h0, st => by
    have un : forGo t f ((x :: rest).map enc) ρ = t.oc (enc x) ρ fun ρ' => (f ρ').loop (forGo t f (rest.map enc)) := rfl
    rw [un]
    have key1 : t.oc (enc x) ρ f = .rt r → (t.oc (enc x) ρ fun ρ' => (f ρ').loop (forGo t f (rest.map enc))) = .rt r := by
      intro e
      unfold Tg.oc at e ⊢
      cases q : t.put (enc x) ρ with
      | none => rw [q] at e; cases e
      | some ρ' =>
        rw [q] at e
        have e : f ρ' = .rt r := e
        show (f ρ').loop (forGo t f (rest.map enc)) = _
        rw [e]
        rfl
    have key2 : ∀ ρ1, t.oc (enc x) ρ f = .nx ρ1 → (t.oc (enc x) ρ fun ρ' => (f ρ').loop (forGo t f (rest.map enc))) = forGo t f (rest.map enc) ρ1 := by
      intro ρ1 e
      unfold Tg.oc at e ⊢
      cases q : t.put (enc x) ρ with
      | none => rw [q] at e; cases e
      | some ρ' =>
        rw [q] at e
        have e : f ρ' = .nx ρ1 := e
        show (f ρ').loop (forGo t f (rest.map enc)) = _
        rw [e]
        rfl
    rcases st done x rest ρ rfl h0 with ⟨e, p⟩ | ⟨ρ1, e, i1⟩
    · rw [key1 e]
      exact .inl ⟨rfl, p⟩
    · rw [key2 ρ1 e]
      rcases forGo_or enc I r P rest (done ++ [x]) ρ1 i1 (fun dn y rs ρ e i => st dn y rs ρ (by rw [e]; simp) i) with k | ⟨ρ', k2, k3⟩
      · exact .inl k
      · exact .inr ⟨ρ', k2, by rw [List.append_assoc] at k3; exact k3⟩
theorem whGo_or {mt : Env → R Bool} {f : Env → Oc} (I : Nat → Env → Prop) (r : D) (P : Prop) (st : ∀ k ρ, I k ρ → mt ρ = .ok false ∨ (mt ρ = .ok true ∧ ((f ρ = .rt r ∧ P) ∨ ∃ ρ' k', k' < k ∧ f ρ = .nx ρ' ∧ I k' ρ'))) : ∀ (n k : Nat) (ρ : Env), k < n → I k ρ →
    (whGo mt f n ρ = .rt r ∧ P) ∨ ∃ ρ' k', whGo mt f n ρ = .nx ρ' ∧ I k' ρ' ∧ mt ρ' = .ok false
  | 0, _, _, h, _ => absurd h (Nat.not_lt_zero _)
  | n + 1, k, ρ, h, i => by
    rw [whGo_succ]
    rcases st k ρ i with e | ⟨e, ⟨e2, p⟩ | ⟨ρ', k', hk, e2, i2⟩⟩
    · rw [e]
      exact .inr ⟨ρ, k, rfl, i, e⟩
    · rw [e]
      show ((f ρ).loop (whGo mt f n) = .rt r ∧ P) ∨ ∃ ρ' k', (f ρ).loop (whGo mt f n) = .nx ρ' ∧ _
      rw [e2]
      exact .inl ⟨rfl, p⟩
    · rw [e]
      show ((f ρ).loop (whGo mt f n) = .rt r ∧ P) ∨ ∃ ρ' k', (f ρ).loop (whGo mt f n) = .nx ρ' ∧ _
      rw [e2]
      exact whGo_or I r P st n k' ρ' (by omega) i2
theorem fmod2z (z : Int) : z.fmod 2 = z % 2 := Int.fmod_eq_emod_of_nonneg _ (by decide)
theorem isi_list_i (x : Int) : isiD "list" (.int x) = .ok (.bl false) := by rfl
theorem min_ex : ∀ {r : List Int}, r ≠ [] → ∃ m ∈ r, ∀ y ∈ r, m ≤ y
  | [], h => absurd rfl h
  | n :: r, _ => by
    obtain ⟨k1, k2, k3⟩ := minI_le r n
    exact ⟨minI n r, k3, fun y hy => by
      rcases List.mem_cons.mp hy with e | e
      · rw [e]; exact k1
      · exact k2 _ e⟩
theorem idxOf_mem {m : Int} : ∀ {r : List Int}, m ∈ r → ∃ k : Nat, idxOf (.int m) (r.map D.int) = some k
  | [], h => by cases h
  | a :: r, h => by
    show ∃ k : Nat, (if eqvD (.int a) (.int m) = true then some 0 else (idxOf (.int m) (r.map D.int)).map (· + 1)) = some k
    by_cases e : eqvD (.int a) (.int m) = true
    · exact ⟨0, if_pos e⟩
    · rw [if_neg e]
      have hn : a ≠ m := fun z => e (by rw [z]; exact beq_self_eq_true m)
      obtain ⟨k, hk⟩ := idxOf_mem (r := r) (m := m) (by
        rcases List.mem_cons.mp h with z | z
        · exact absurd z.symm hn
        · exact z)
      exact ⟨k + 1, by rw [hk]; rfl⟩
theorem lix_i {m : Int} {r : List Int} (h : m ∈ r) : ∃ k : Nat, lixD (r.map D.int) (.int m) = .ok (.int (k : Int)) := by
  obtain ⟨k, hk⟩ := idxOf_mem h
  refine ⟨k, ?_⟩
  unfold lixD
  rw [shL_ints, hk]
  rfl
theorem idxOf_at {m : Int} : ∀ {r : List Int} {k : Nat}, idxOf (.int m) (r.map D.int) = some k → r[k]? = some m
  | [], k, h => by cases h
  | a :: r, k, h => by
    have h : (if eqvD (.int a) (.int m) = true then some 0 else (idxOf (.int m) (r.map D.int)).map (· + 1)) = some k := h
    by_cases e : eqvD (.int a) (.int m) = true
    · rw [if_pos e] at h
      cases h
      have e : (a == m) = true := e
      rw [beq_iff_eq] at e
      rw [e]
      rfl
    · rw [if_neg e] at h
      cases q : idxOf (.int m) (r.map D.int) with
      | none => rw [q] at h; cases h
      | some k' =>
        rw [q] at h
        cases h
        exact idxOf_at (r := r) q
theorem lix_at {m : Int} {r : List Int} (h : m ∈ r) : ∃ k : Nat, r[k]? = some m ∧ lixD (r.map D.int) (.int m) = .ok (.int (k : Int)) := by
  obtain ⟨k, hk⟩ := idxOf_mem h
  refine ⟨k, idxOf_at hk, ?_⟩
  unfold lixD
  rw [shL_ints, hk]
  rfl
theorem runF_rt {N n : Nat} {m : Env → Oc} {ds : List D} {d : D} (h : ds.length = n) (e : m (ds.map Sl.sh ++ List.replicate (N - n) Sl.no) = .rt d) : runF N n m ds = .ok d := by
  unfold runF
  rw [if_pos h, e]
end FL
set_option maxHeartbeats 4000000
namespace FL
open PySem PySem.Spec PyProof.Rows L2
def topS (i : Nat) : Stmt := PySem.Challenge.pw_fewlooks_k70_whole_halves.main.body.getD i (.Pass ⟨0, 0, 0, 0⟩)

/-- what the top has left -/
structure Tp (K : PySem.W.Frag) (mg : Str → Option Value) : Prop where
  f_fraction : FunG K mg "fraction" (topS 10)
  f_need_test : FunG K mg "need_test" (topS 12)
  f_all_looks : FunG K mg "all_looks" (topS 14)
  f_is_node : FunG K mg "is_node" (topS 17)
  f_is_line : FunG K mg "is_line" (topS 18)
  f_need_web : FunG K mg "need_web" (topS 19)
  f_all_halves : FunG K mg "all_halves" (topS 20)
  f_bad_lines : FunG K mg "bad_lines" (topS 21)
  f_halves_of : FunG K mg "halves_of" (topS 22)
  f_far_halves : FunG K mg "far_halves" (topS 23)
  f_are_so : FunG K mg "are_so" (topS 24)
  f_by_nodes : FunG K mg "by_nodes" (topS 25)
  f__law_cell : FunG K mg "_law_cell" (topS 27)
  f__law_drawn : FunG K mg "_law_drawn" (topS 28)
  f__law_word : FunG K mg "_law_word" (topS 29)
  f__law_told : FunG K mg "_law_told" (topS 30)
  f__law_made : FunG K mg "_law_made" (topS 31)
  f__law_less : FunG K mg "_law_less" (topS 32)
  f__law_web : FunG K mg "_law_web" (topS 33)
  f__law_lists : FunG K mg "_law_lists" (topS 34)
  f__law_bad : FunG K mg "_law_bad" (topS 35)
  f__law_choices : FunG K mg "_law_choices" (topS 36)
  f__law_is_so : FunG K mg "_law_is_so" (topS 37)
  n_ValueError : mg "ValueError" = none
  n_abs : mg "abs" = none
  n_all : mg "all" = none
  n_any : mg "any" = none
  n_bool : mg "bool" = none
  n_enumerate : mg "enumerate" = none
  n_int : mg "int" = none
  n_isinstance : mg "isinstance" = none
  n_len : mg "len" = none
  n_list : mg "list" = none
  n_max : mg "max" = none
  n_min : mg "min" = none
  n_range : mg "range" = none
  n_sorted : mg "sorted" = none
  n_sum : mg "sum" = none
  n_tuple : mg "tuple" = none
  n_zip : mg "zip" = none
  e_BadTest : ExcF K mg "BadTest"
  e_BadWeb : ExcF K mg "BadWeb"
  exw : ExcW K mg ["BadKind", "BadWord", "BadTest", "BadRow", "BadTable", "BadWeb", "NoFar"]
  c_MOST_NODES : ∃ tk, mg "MOST_NODES" = some (.int 10 tk)
section
variable {P : Program} {w : World} {K : PySem.W.Frag} {mg : Str → Option Value} {base : Heap} {T : List (Addr × Str)}
def fu_fraction : FL.Env → Nat := fun _ => bigFu
abbrev s_fraction : Stmt := topS 10
def b1_fraction : FL.Env → Oc := (sPar 2 3 (mVar 3) (mBin modD (mVar 2) (mVar 3)))
def m_fraction : FL.Env → Oc := (fun ρ => ((sPar 2 3 (mUn absD (mVar 0)) (mVar 1)) ρ).seq (fun ρ => ((sWhile fu_fraction (mB (mBin gtD (mVar 3) (mC (.int 0)))) b1_fraction) ρ).seq (sRet (mTup (mCons (mBin divD (mVar 0) (mVar 2)) (mCons (mBin divD (mVar 1) (mVar 2)) mNil))))))
def F_fraction : List D → R D := runF 4 2 m_fraction
theorem sc_fraction : FnScope ["top", "under", "one", "other"] ["top", "under"] (defScope s_fraction) := ⟨rfl, rfl, rfl, by decide +kernel, rfl, by decide +kernel, by decide +kernel⟩
theorem bb_fraction : ∀ (kV doc pm : Value) (an : Option Addr) (cdv ct : Value) (us : List Value), us.length = (["top", "under"] : List Str).length → bindArgs (PySem.W.fnOf "fraction" "fraction" (defArgs s_fraction) (defBody s_fraction) (defScope s_fraction) .none kV doc pm an cdv ct) ⟨us, []⟩ = pure ((["top", "under"] : List Str).zip us) :=
  fun _ _ _ _ _ _ us hl => match us, hl with | [_, _], _ => rfl
theorem ok_fraction (t : Tp K mg) : Def P w K mg base T "fraction" 1 ["top", "under"] F_fraction := by
  show Def P w K mg base T "fraction" 1 ["top", "under"] (runF 4 2 m_fraction)
  refine def_of (k := 0) (m := m_fraction) t.f_fraction sc_fraction rfl rfl bb_fraction ?_
  intro f cdv A outer s H E c tk po
  · refine (pdss_cons ?_ ?_)
    · refine (pds_par 2 3 ?_ (pd_var 1) c.calm c.nd)
      · exact (pd_b1 c_abs rfl t.n_abs bt_abs (PD.t (pd_var 0)))
    · refine (pdss_cons ?_ ?_)
      · refine (pds_while fu_fraction ?_ ?_ po)
        · exact (ptd_cmp o_gt (PD.t (pd_var 3)) (PD.t pd_int))
        · refine (pdss_one ?_)
          · refine (pds_par 2 3 (pd_var 3) ?_ c.calm c.nd)
            · exact (pd_bin o_mod (PD.t (pd_var 2)) (PD.t (pd_var 3)))
      · refine (pdss_one ?_)
        · refine (pds_ret ?_)
          · refine (pd_tup ?_)
            · refine (pad_cons ?_ ?_)
              · exact (pd_bin o_div (PD.t (pd_var 0)) (PD.t (pd_var 2)))
              · refine (pad_cons ?_ pad_nil)
                · exact (pd_bin o_div (PD.t (pd_var 1)) (PD.t (pd_var 2)))
abbrev s_need_test : Stmt := topS 12
def m_need_test : FL.Env → Oc := (sIf (mNot (mB (mVar 0))) (fun _ => Oc.er "BadTest") Oc.nx)
def F_need_test : List D → R D := runF 1 1 m_need_test
theorem sc_need_test : FnScope ["good"] ["good"] (defScope s_need_test) := ⟨rfl, rfl, rfl, by decide +kernel, rfl, by decide +kernel, by decide +kernel⟩
theorem bb_need_test : ∀ (kV doc pm : Value) (an : Option Addr) (cdv ct : Value) (us : List Value), us.length = (["good"] : List Str).length → bindArgs (PySem.W.fnOf "need_test" "need_test" (defArgs s_need_test) (defBody s_need_test) (defScope s_need_test) .none kV doc pm an cdv ct) ⟨us, []⟩ = pure ((["good"] : List Str).zip us) :=
  fun _ _ _ _ _ _ us hl => match us, hl with | [_], _ => rfl
theorem ok_need_test (t : Tp K mg) : Def P w K mg base T "need_test" 1 ["good"] F_need_test := by
  show Def P w K mg base T "need_test" 1 ["good"] (runF 1 1 m_need_test)
  refine def_of (k := 0) (m := m_need_test) t.f_need_test sc_need_test rfl rfl bb_need_test ?_
  intro f cdv A outer s H E c tk po
  · refine (pdss_one ?_)
    · refine (pds_if ?_ ?_ pdss_nil)
      · exact (ptd_not (ptd_val (pd_var 0)))
      · exact (pdss_one (pds_raise t.e_BadTest c.calm tk rfl))
abbrev s_all_looks : Stmt := topS 14
def t1_all_looks : FL.Env → Oc := (sSet 2 (mLst (mCons (mTup mNil) mNil)))
def t2_all_looks : FL.Env → Oc := (sSet 2 (mBin addD (mVar 2) (mLc (fun ρ => ((mVar 2) ρ).bind itemsD) (.one 4) (mB (mBin ltD (mUn lenD (mVar 4)) (mVar 1))) (mBin addD (mVar 4) (mTup (mCons (mVar 3) mNil))) [4])))
def b3_all_looks : FL.Env → Oc := t2_all_looks
def t3_all_looks : FL.Env → Oc := (sFor (fun ρ => ((mVar 0) ρ).bind rg1D) (.one 3) b3_all_looks)
def t4_all_looks : FL.Env → Oc := (sRet (mUn sortXD (mLc (fun ρ => ((mVar 2) ρ).bind itemsD) (.one 4) (mB (mBin (eqD false) (mUn lenD (mVar 4)) (mVar 1))) (mVar 4) [4])))
def m_all_looks : FL.Env → Oc := (fun ρ => (t1_all_looks ρ).seq (fun ρ => (t3_all_looks ρ).seq t4_all_looks))
def F_all_looks : List D → R D := runF 5 2 m_all_looks
theorem sc_all_looks : FnScope ["long", "count", "found", "at", "looks"] ["long", "count"] (defScope s_all_looks) := ⟨rfl, rfl, rfl, by decide +kernel, rfl, by decide +kernel, by decide +kernel⟩
theorem bb_all_looks : ∀ (kV doc pm : Value) (an : Option Addr) (cdv ct : Value) (us : List Value), us.length = (["long", "count"] : List Str).length → bindArgs (PySem.W.fnOf "all_looks" "all_looks" (defArgs s_all_looks) (defBody s_all_looks) (defScope s_all_looks) .none kV doc pm an cdv ct) ⟨us, []⟩ = pure ((["long", "count"] : List Str).zip us) :=
  fun _ _ _ _ _ _ us hl => match us, hl with | [_, _], _ => rfl
theorem ok_all_looks (t : Tp K mg) : Def P w K mg base T "all_looks" 1 ["long", "count"] F_all_looks := by
  show Def P w K mg base T "all_looks" 1 ["long", "count"] (runF 5 2 m_all_looks)
  refine def_of (k := 0) (m := m_all_looks) t.f_all_looks sc_all_looks rfl rfl bb_all_looks ?_
  intro f cdv A outer s H E c tk po
  · refine (pdss_cons ?_ ?_)
    · refine (pds_set 2 ?_ c.nd)
      · exact (pd_lst (pad_cons (pd_tup pad_nil) pad_nil))
    · refine (pdss_cons ?_ ?_)
      · refine (pds_for ?_ (pgf_name 3 c.nd) ?_ po c.calm)
        · exact (pdi_range1 rfl t.n_range (PD.t (pd_var 0)))
        · refine (pdss_one ?_)
          · refine (pds_set 2 ?_ c.nd)
            · refine (pd_bin o_add ?_ ?_)
              · exact (PD.t (pd_var 2))
              · refine (PD.t ?_)
                · refine (pd_lc (own := [("looks", 4)]) (t := (.one 4)) (mt := (mB (mBin ltD (mUn lenD (mVar 4)) (mVar 1)))) (me := (mBin addD (mVar 4) (mTup (mCons (mVar 3) mNil)))) c.calm c.nd ?_ (blkOk_by (by kernel_rfl)) (by decide) ?_ ?_ ?_)
                  · exact (PDI.t (pdi_seq (pd_var 2)))
                  · exact fun _ _ _ _ _ => (pgd_name 4 (Cg.blk c _ _ _ _ _).nd)
                  · intro _ _ _ _ _
                    refine (pts1 ?_)
                    · refine (ptd_cmp (o_lt (Cg.blk c _ _ _ _ _).hu0) ?_ ?_)
                      · refine (PD.t ?_)
                        · exact (pd_b1 c_len rfl t.n_len bt_len (PD.t (pd_var 4)))
                      · exact (PD.t (pd_var 1))
                  · intro _ _ _ _ _
                    refine (pd_bin o_add ?_ ?_)
                    · exact (PD.t (pd_var 4))
                    · refine (PD.t ?_)
                      · exact (pd_tup (pad_cons (pd_var 3) pad_nil))
      · refine (pdss_one ?_)
        · refine (pds_ret ?_)
          · refine (pd_b1 c_sortX rfl t.n_sorted bt_sorted ?_)
            · refine (PD.t ?_)
              · refine (pd_lc (own := [("looks", 4)]) (t := (.one 4)) (mt := (mB (mBin (eqD false) (mUn lenD (mVar 4)) (mVar 1)))) (me := (mVar 4)) c.calm c.nd ?_ (blkOk_by (by kernel_rfl)) (by decide) ?_ ?_ ?_)
                · exact (PDI.t (pdi_seq (pd_var 2)))
                · exact fun _ _ _ _ _ => (pgd_name 4 (Cg.blk c _ _ _ _ _).nd)
                · intro _ _ _ _ _
                  refine (pts1 ?_)
                  · refine (ptd_cmp (o_eq (Cg.blk c _ _ _ _ _).hu) ?_ ?_)
                    · refine (PD.t ?_)
                      · exact (pd_b1 c_len rfl t.n_len bt_len (PD.t (pd_var 4)))
                    · exact (PD.t (pd_var 1))
                · exact fun _ _ _ _ _ => (pd_var 4)
abbrev s_is_node : Stmt := topS 17
def m_is_node : FL.Env → Oc := (sRet (vB (mAnd (mB (mUn (isiD "int") (mVar 0))) (mAnd (mB (vB (mNot (mB (mUn (isiD "bool") (mVar 0)))))) (mB (mChain leD ltD (mC (.int 0)) (mVar 0) (mVar 1)))))))
def F_is_node : List D → R D := runF 2 2 m_is_node
theorem sc_is_node : FnScope ["thing", "many"] ["thing", "many"] (defScope s_is_node) := ⟨rfl, rfl, rfl, by decide +kernel, rfl, by decide +kernel, by decide +kernel⟩
theorem bb_is_node : ∀ (kV doc pm : Value) (an : Option Addr) (cdv ct : Value) (us : List Value), us.length = (["thing", "many"] : List Str).length → bindArgs (PySem.W.fnOf "is_node" "is_node" (defArgs s_is_node) (defBody s_is_node) (defScope s_is_node) .none kV doc pm an cdv ct) ⟨us, []⟩ = pure ((["thing", "many"] : List Str).zip us) :=
  fun _ _ _ _ _ _ us hl => match us, hl with | [_, _], _ => rfl
theorem ok_is_node (t : Tp K mg) : Def P w K mg base T "is_node" 1 ["thing", "many"] F_is_node := by
  show Def P w K mg base T "is_node" 1 ["thing", "many"] (runF 2 2 m_is_node)
  refine def_of (k := 0) (m := m_is_node) t.f_is_node sc_is_node rfl rfl bb_is_node ?_
  intro f cdv A outer s H E c tk po
  · refine (pdss_one ?_)
    · refine (pds_ret ?_)
      · refine (FL.pd_and ?_ ?_)
        · exact (pd_isi (Ty := "int") rfl t.n_isinstance (PD.t (pd_var 0)) rfl t.n_int bt_int)
        · refine (FL.pd_and ?_ ?_)
          · refine (FL.pd_not ?_)
            · exact (pd_isi (Ty := "bool") rfl t.n_isinstance (PD.t (pd_var 0)) rfl t.n_bool bt_bool)
          · refine (pd_one ?_)
            · exact (pd_chain o_le (o_lt c.hu0) (PD.t pd_int) (PD.t (pd_var 0)) (PD.t (pd_var 1)))
abbrev s_is_line : Stmt := topS 18
def m_is_line : FL.Env → Oc := (fun ρ => ((sIf (mOr (mNot (mB (mUn (isiD "tuple") (mVar 0)))) (mOr (mB (mBin (eqD true) (mUn lenD (mVar 0)) (mC (.int 2)))) (mNot (mB (mUn allD (mLc (fun ρ => ((mVar 0) ρ).bind itemsD) (.one 2) mYes (mCall 2 F_is_node (mCons (mVar 2) (mCons (mVar 1) mNil))) [2])))))) (sRet (mC (.bl false))) Oc.nx) ρ).seq (sRet (mBin ltD (mBin idxD (mVar 0) (mC (.int 0))) (mBin idxD (mVar 0) (mC (.int 1))))))
def F_is_line : List D → R D := runF 3 2 m_is_line
theorem sc_is_line : FnScope ["thing", "many", "one"] ["thing", "many"] (defScope s_is_line) := ⟨rfl, rfl, rfl, by decide +kernel, rfl, by decide +kernel, by decide +kernel⟩
theorem bb_is_line : ∀ (kV doc pm : Value) (an : Option Addr) (cdv ct : Value) (us : List Value), us.length = (["thing", "many"] : List Str).length → bindArgs (PySem.W.fnOf "is_line" "is_line" (defArgs s_is_line) (defBody s_is_line) (defScope s_is_line) .none kV doc pm an cdv ct) ⟨us, []⟩ = pure ((["thing", "many"] : List Str).zip us) :=
  fun _ _ _ _ _ _ us hl => match us, hl with | [_, _], _ => rfl
theorem ok_is_line (t : Tp K mg) : Def P w K mg base T "is_line" 2 ["thing", "many"] F_is_line := by
  have G_is_node := ok_is_node (P := P) (w := w) (base := base) (T := T) t
  show Def P w K mg base T "is_line" 2 ["thing", "many"] (runF 3 2 m_is_line)
  refine def_of (k := 1) (m := m_is_line) t.f_is_line sc_is_line rfl rfl bb_is_line ?_
  intro f cdv A outer s H E c tk po
  · refine (pdss_cons ?_ ?_)
    · refine (pds_if ?_ ?_ pdss_nil)
      · refine (PWD.p ?_)
        · refine (pwd_or ?_ ?_)
          · refine (ptd_not ?_)
            · refine (ptd_val ?_)
              · exact (pd_isi (Ty := "tuple") rfl t.n_isinstance (PD.t (pd_var 0)) rfl t.n_tuple bt_tuple)
          · refine (pwd_or ?_ ?_)
            · refine (ptd_cmp (o_ne c.hu) ?_ (PD.t pd_int))
              · refine (PD.t ?_)
                · exact (pd_b1 c_len rfl t.n_len bt_len (PD.t (pd_var 0)))
            · refine (pwd_or1 ?_)
              · refine (ptd_not ?_)
                · refine (ptd_val ?_)
                  · refine (pd_b1 (c_all c.calm) rfl t.n_all bt_all ?_)
                    · refine (PD.t ?_)
                      · refine (pd_lc (own := [("one", 2)]) (t := (.one 2)) (mt := mYes) (me := (mCall 2 F_is_node (mCons (mVar 2) (mCons (mVar 1) mNil)))) c.calm c.nd ?_ (blkOk_by (by kernel_rfl)) (by decide) ?_ ?_ ?_)
                        · exact (PDI.t (pdi_seq (pd_var 0)))
                        · exact fun _ _ _ _ _ => (pgd_name 2 (Cg.blk c _ _ _ _ _).nd)
                        · exact fun _ _ _ _ _ => pts0
                        · intro _ _ _ _ _
                          refine (pd_callD G_is_node (Cg.blk c _ _ _ _ _) (by decide) (by exact rfl) rfl ?_)
                          · exact (pad_cons (pd_var 2) (pad_cons (pd_var 1) pad_nil))
      · exact (pdss_one (pds_ret pd_bl))
    · refine (pdss_one ?_)
      · refine (pds_ret ?_)
        · refine (pd_cmp (o_lt c.hu0) ?_ ?_)
          · refine (PD.t ?_)
            · exact (pd_idx (PD.t (pd_var 0)) (PD.t pd_int))
          · refine (PD.t ?_)
            · exact (pd_idx (PD.t (pd_var 0)) (PD.t pd_int))
abbrev s_need_web : Stmt := topS 19
def m_need_web : FL.Env → Oc := (fun ρ => ((sAsg (.many [1, 2]) (mVar 0)) ρ).seq (fun ρ => ((sIf (mOr (mNot (mB (mUn (isiD "list") (mVar 2)))) (mOr (mNot (mB (mChain leD leD (mC (.int 1)) (mVar 1) (mC (.int 10))))) (mNot (mB (mUn allD (mLc (fun ρ => ((mVar 2) ρ).bind itemsD) (.one 3) mYes (mCall 2 F_is_line (mCons (mVar 3) (mCons (mVar 1) mNil))) [3])))))) (fun _ => Oc.er "BadWeb") Oc.nx) ρ).seq (sIf (mNot (mB (mUn allD (mLc (fun ρ => ((mVar 2) ρ).bind fun x => ((mSl (mVar 2) (fun ρ => ((mC (.int 1)) ρ).bind asI) (fun _ => .ok none)) ρ).bind fun y => zipD x y) (.many [3, 4]) mYes (mBin ltD (mVar 3) (mVar 4)) [3, 4])))) (fun _ => Oc.er "BadWeb") Oc.nx)))
def F_need_web : List D → R D := runF 5 1 m_need_web
theorem sc_need_web : FnScope ["web", "many", "lines", "one", "other"] ["web"] (defScope s_need_web) := ⟨rfl, rfl, rfl, by decide +kernel, rfl, by decide +kernel, by decide +kernel⟩
theorem bb_need_web : ∀ (kV doc pm : Value) (an : Option Addr) (cdv ct : Value) (us : List Value), us.length = (["web"] : List Str).length → bindArgs (PySem.W.fnOf "need_web" "need_web" (defArgs s_need_web) (defBody s_need_web) (defScope s_need_web) .none kV doc pm an cdv ct) ⟨us, []⟩ = pure ((["web"] : List Str).zip us) :=
  fun _ _ _ _ _ _ us hl => match us, hl with | [_], _ => rfl
theorem ok_need_web (t : Tp K mg) : Def P w K mg base T "need_web" 3 ["web"] F_need_web := by
  have G_is_line := ok_is_line (P := P) (w := w) (base := base) (T := T) t
  show Def P w K mg base T "need_web" 3 ["web"] (runF 5 1 m_need_web)
  refine def_of (k := 2) (m := m_need_web) t.f_need_web sc_need_web rfl rfl bb_need_web ?_
  intro f cdv A outer s H E c tk po
  · refine (pdss_cons ?_ ?_)
    · refine (pds_asg (pd_var 0) ?_)
      · exact (pgf_tup (pgsf_cons 1 (pgsf_cons 2 pgsf_nil c.nd) c.nd) c.calm)
    · refine (pdss_cons ?_ ?_)
      · refine (pds_if ?_ ?_ pdss_nil)
        · refine (PWD.p ?_)
          · refine (pwd_or ?_ ?_)
            · refine (ptd_not ?_)
              · refine (ptd_val ?_)
                · exact (pd_isi (Ty := "list") rfl t.n_isinstance (PD.t (pd_var 2)) rfl t.n_list bt_list)
            · refine (pwd_or ?_ ?_)
              · refine (ptd_not ?_)
                · exact (ptd_chain o_le o_le (PD.t pd_int) (PD.t (pd_var 1)) (PD.t (pd_gint rfl t.c_MOST_NODES.choose_spec)))
              · refine (pwd_or1 ?_)
                · refine (ptd_not ?_)
                  · refine (ptd_val ?_)
                    · refine (pd_b1 (c_all c.calm) rfl t.n_all bt_all ?_)
                      · refine (PD.t ?_)
                        · refine (pd_lc (own := [("one", 3)]) (t := (.one 3)) (mt := mYes) (me := (mCall 2 F_is_line (mCons (mVar 3) (mCons (mVar 1) mNil)))) c.calm c.nd ?_ (blkOk_by (by kernel_rfl)) (by decide) ?_ ?_ ?_)
                          · exact (PDI.t (pdi_seq (pd_var 2)))
                          · exact fun _ _ _ _ _ => (pgd_name 3 (Cg.blk c _ _ _ _ _).nd)
                          · exact fun _ _ _ _ _ => pts0
                          · intro _ _ _ _ _
                            refine (pd_callD G_is_line (Cg.blk c _ _ _ _ _) (by decide) (by exact rfl) rfl ?_)
                            · exact (pad_cons (pd_var 3) (pad_cons (pd_var 1) pad_nil))
        · exact (pdss_one (pds_raise t.e_BadWeb c.calm tk rfl))
      · refine (pdss_one ?_)
        · refine (pds_if ?_ ?_ pdss_nil)
          · refine (ptd_not ?_)
            · refine (ptd_val ?_)
              · refine (pd_b1 (c_all c.calm) rfl t.n_all bt_all ?_)
                · refine (PD.t ?_)
                  · refine (pd_lc (own := [("one", 3), ("other", 4)]) (t := (.many [3, 4])) (mt := mYes) (me := (mBin ltD (mVar 3) (mVar 4))) c.calm c.nd ?_ (blkOk_by (by kernel_rfl)) (by decide) ?_ ?_ ?_)
                    · refine (PDI.t ?_)
                      · refine (pdi_zip rfl t.n_zip (pd_var 2) ?_)
                        · exact (pd_sl (PD.t (pd_var 2)) (pod_some (PD.t pd_int)) pod_none)
                    · exact fun _ _ _ _ _ => (pgd_tup (pgsd_cons 3 (pgsd_cons 4 pgsd_nil (Cg.blk c _ _ _ _ _).nd) (Cg.blk c _ _ _ _ _).nd) (Cg.blk c _ _ _ _ _).calm)
                    · exact fun _ _ _ _ _ => pts0
                    · exact fun _ _ _ _ _ => (pd_cmp (o_lt (Cg.blk c _ _ _ _ _).hu0) (PD.t (pd_var 3)) (PD.t (pd_var 4)))
          · exact (pdss_one (pds_raise t.e_BadWeb c.calm tk rfl))
abbrev s_all_halves : Stmt := topS 20
def t1_all_halves : FL.Env → Oc := (sSet 1 (mLst (mCons (mLst (mCons (mC (.int 0)) mNil)) mNil)))
def t2_all_halves : FL.Env → Oc := (sOwn 3 mNil)
def t3_all_halves : FL.Env → Oc := (sExt 3 (mLst (mCons (mBin addD (mVar 4) (mLst (mCons (mC (.int 0)) mNil))) (mCons (mBin addD (mVar 4) (mLst (mCons (mC (.int 1)) mNil))) mNil))))
def b4_all_halves : FL.Env → Oc := t3_all_halves
def t4_all_halves : FL.Env → Oc := (sFor (fun ρ => ((mVar 1) ρ).bind itemsD) (.one 4) b4_all_halves)
def t5_all_halves : FL.Env → Oc := (sSet 1 (mVar 3))
def b7_all_halves : FL.Env → Oc := (fun ρ => (t2_all_halves ρ).seq (fun ρ => (t4_all_halves ρ).seq (fun ρ => t5_all_halves (frzE 3 ρ))))
def t6_all_halves : FL.Env → Oc := (sFor (fun ρ => ((mC (.int 1)) ρ).bind fun x => ((mVar 0) ρ).bind fun y => rg2D x y) (.one 2) b7_all_halves)
def t7_all_halves : FL.Env → Oc := (sRet (mVar 1))
def m_all_halves : FL.Env → Oc := (fun ρ => (t1_all_halves ρ).seq (fun ρ => (t6_all_halves ρ).seq t7_all_halves))
def F_all_halves : List D → R D := runF 5 1 m_all_halves
theorem sc_all_halves : FnScope ["many", "found", "node", "longer", "one"] ["many"] (defScope s_all_halves) := ⟨rfl, rfl, rfl, by decide +kernel, rfl, by decide +kernel, by decide +kernel⟩
theorem bb_all_halves : ∀ (kV doc pm : Value) (an : Option Addr) (cdv ct : Value) (us : List Value), us.length = (["many"] : List Str).length → bindArgs (PySem.W.fnOf "all_halves" "all_halves" (defArgs s_all_halves) (defBody s_all_halves) (defScope s_all_halves) .none kV doc pm an cdv ct) ⟨us, []⟩ = pure ((["many"] : List Str).zip us) :=
  fun _ _ _ _ _ _ us hl => match us, hl with | [_], _ => rfl
theorem ok_all_halves (t : Tp K mg) : Def P w K mg base T "all_halves" 1 ["many"] F_all_halves := by
  show Def P w K mg base T "all_halves" 1 ["many"] (runF 5 1 m_all_halves)
  refine def_of (k := 0) (m := m_all_halves) t.f_all_halves sc_all_halves rfl rfl bb_all_halves ?_
  intro f cdv A outer s H E c tk po
  · refine (pdss_cons ?_ ?_)
    · refine (pds_set 1 ?_ c.nd)
      · refine (pd_lst ?_)
        · exact (pad_cons (pd_lst (pad_cons pd_int pad_nil)) pad_nil)
    · refine (pdss_cons ?_ ?_)
      · refine (pds_for ?_ (pgf_name 2 c.nd) ?_ po c.calm)
        · exact (pdi_range2 rfl t.n_range (PD.t pd_int) (PD.t (pd_var 0)))
        · refine (pdss_cons (pds_own 3 pad_nil c.nd) ?_)
          · refine (pdss_cons ?_ ?_)
            · refine (pds_for ?_ (pgf_name 4 c.nd) ?_ po c.calm)
              · exact (pdi_seq (pd_var 1))
              · refine (pdss_one ?_)
                · refine (pds_ext 3 ?_)
                  · refine (pd_lst ?_)
                    · refine (pad_cons ?_ ?_)
                      · refine (pd_bin o_add ?_ ?_)
                        · exact (PD.t (pd_var 4))
                        · exact (PD.t (pd_lst (pad_cons pd_int pad_nil)))
                      · refine (pad_cons ?_ pad_nil)
                        · refine (pd_bin o_add ?_ ?_)
                          · exact (PD.t (pd_var 4))
                          · exact (PD.t (pd_lst (pad_cons pd_int pad_nil)))
            · refine (pdss_frz 3 ?_)
              · exact (pdss_one (pds_set 1 (pd_var 3) c.nd))
      · exact (pdss_one (pds_ret (pd_var 1)))
abbrev s_bad_lines : Stmt := topS 21
def m_bad_lines : FL.Env → Oc := (sRet (mUn lenD (mLc (fun ρ => ((mVar 0) ρ).bind itemsD) (.many [2, 3]) (mB (mBin (eqD false) (mBin idxD (mVar 1) (mVar 2)) (mBin idxD (mVar 1) (mVar 3)))) (mVar 2) [2, 3])))
def F_bad_lines : List D → R D := runF 4 2 m_bad_lines
theorem sc_bad_lines : FnScope ["lines", "halves", "one", "other"] ["lines", "halves"] (defScope s_bad_lines) := ⟨rfl, rfl, rfl, by decide +kernel, rfl, by decide +kernel, by decide +kernel⟩
theorem bb_bad_lines : ∀ (kV doc pm : Value) (an : Option Addr) (cdv ct : Value) (us : List Value), us.length = (["lines", "halves"] : List Str).length → bindArgs (PySem.W.fnOf "bad_lines" "bad_lines" (defArgs s_bad_lines) (defBody s_bad_lines) (defScope s_bad_lines) .none kV doc pm an cdv ct) ⟨us, []⟩ = pure ((["lines", "halves"] : List Str).zip us) :=
  fun _ _ _ _ _ _ us hl => match us, hl with | [_, _], _ => rfl
theorem ok_bad_lines (t : Tp K mg) : Def P w K mg base T "bad_lines" 1 ["lines", "halves"] F_bad_lines := by
  show Def P w K mg base T "bad_lines" 1 ["lines", "halves"] (runF 4 2 m_bad_lines)
  refine def_of (k := 0) (m := m_bad_lines) t.f_bad_lines sc_bad_lines rfl rfl bb_bad_lines ?_
  intro f cdv A outer s H E c tk po
  · refine (pdss_one ?_)
    · refine (pds_ret ?_)
      · refine (pd_b1 c_len rfl t.n_len bt_len ?_)
        · refine (PD.t ?_)
          · refine (pd_lc (own := [("one", 2), ("other", 3)]) (t := (.many [2, 3])) (mt := (mB (mBin (eqD false) (mBin idxD (mVar 1) (mVar 2)) (mBin idxD (mVar 1) (mVar 3))))) (me := (mVar 2)) c.calm c.nd ?_ (blkOk_by (by kernel_rfl)) (by decide) ?_ ?_ ?_)
            · exact (PDI.t (pdi_seq (pd_var 0)))
            · exact fun _ _ _ _ _ => (pgd_tup (pgsd_cons 2 (pgsd_cons 3 pgsd_nil (Cg.blk c _ _ _ _ _).nd) (Cg.blk c _ _ _ _ _).nd) (Cg.blk c _ _ _ _ _).calm)
            · intro _ _ _ _ _
              refine (pts1 ?_)
              · refine (ptd_cmp (o_eq (Cg.blk c _ _ _ _ _).hu) ?_ ?_)
                · refine (PD.t ?_)
                  · exact (pd_idx (PD.t (pd_var 1)) (PD.t (pd_var 2)))
                · refine (PD.t ?_)
                  · exact (pd_idx (PD.t (pd_var 1)) (PD.t (pd_var 3)))
            · exact fun _ _ _ _ _ => (pd_var 2)
abbrev s_halves_of : Stmt := topS 22
def m_halves_of : FL.Env → Oc := (fun ρ => ((sDrop (mCall 1 F_need_web (mCons (mVar 0) mNil))) ρ).seq (fun ρ => ((sSet 1 (mCall 1 F_all_halves (mCons (mBin idxD (mVar 0) (mC (.int 0))) mNil))) ρ).seq (fun ρ => ((sSet 2 (mLc (fun ρ => ((mVar 1) ρ).bind itemsD) (.one 3) mYes (mCall 2 F_bad_lines (mCons (mBin idxD (mVar 0) (mC (.int 1))) (mCons (mVar 3) mNil))) [3])) ρ).seq (sRet (mBin idxD (mVar 1) (mLix (mVar 2) (mUn minLD (mVar 2))))))))
def F_halves_of : List D → R D := runF 4 1 m_halves_of
theorem sc_halves_of : FnScope ["web", "row", "counts", "halves"] ["web"] (defScope s_halves_of) := ⟨rfl, rfl, rfl, by decide +kernel, rfl, by decide +kernel, by decide +kernel⟩
theorem bb_halves_of : ∀ (kV doc pm : Value) (an : Option Addr) (cdv ct : Value) (us : List Value), us.length = (["web"] : List Str).length → bindArgs (PySem.W.fnOf "halves_of" "halves_of" (defArgs s_halves_of) (defBody s_halves_of) (defScope s_halves_of) .none kV doc pm an cdv ct) ⟨us, []⟩ = pure ((["web"] : List Str).zip us) :=
  fun _ _ _ _ _ _ us hl => match us, hl with | [_], _ => rfl
theorem ok_halves_of (t : Tp K mg) : Def P w K mg base T "halves_of" 4 ["web"] F_halves_of := by
  have G_all_halves := ok_all_halves (P := P) (w := w) (base := base) (T := T) t
  have G_bad_lines := ok_bad_lines (P := P) (w := w) (base := base) (T := T) t
  have G_need_web := ok_need_web (P := P) (w := w) (base := base) (T := T) t
  show Def P w K mg base T "halves_of" 4 ["web"] (runF 4 1 m_halves_of)
  refine def_of (k := 3) (m := m_halves_of) t.f_halves_of sc_halves_of rfl rfl bb_halves_of ?_
  intro f cdv A outer s H E c tk po
  · refine (pdss_cons ?_ ?_)
    · refine (pds_expr ?_)
      · exact (pd_callD G_need_web c (by decide) (by exact rfl) rfl (pad_cons (pd_var 0) pad_nil))
    · refine (pdss_cons ?_ ?_)
      · refine (pds_set 1 ?_ c.nd)
        · refine (pd_callD G_all_halves c (by decide) (by exact rfl) rfl ?_)
          · refine (pad_cons ?_ pad_nil)
            · exact (pd_idx (PD.t (pd_var 0)) (PD.t pd_int))
      · refine (pdss_cons ?_ ?_)
        · refine (pds_setLc 2 (own := [("halves", 3)]) (t := (.one 3)) (mt := mYes) (me := (mCall 2 F_bad_lines (mCons (mBin idxD (mVar 0) (mC (.int 1))) (mCons (mVar 3) mNil)))) c.calm c.nd ?_ (blkOk_by (by kernel_rfl)) (by decide) ?_ ?_ ?_)
          · exact (PDI.t (pdi_seq (pd_var 1)))
          · exact fun _ _ _ _ _ => (pgd_name 3 (Cg.blk c _ _ _ _ _).nd)
          · exact fun _ _ _ _ _ => pts0
          · intro _ _ _ _ _
            refine (pd_callD G_bad_lines (Cg.blk c _ _ _ _ _) (by decide) (by exact rfl) rfl ?_)
            · refine (pad_cons ?_ ?_)
              · exact (pd_idx (PD.t (pd_var 0)) (PD.t pd_int))
              · exact (pad_cons (pd_var 3) pad_nil)
        · refine (pdss_one ?_)
          · refine (pds_ret ?_)
            · refine (pd_idx ?_ ?_)
              · exact (PD.t (pd_var 1))
              · refine (PD.t ?_)
                · refine (pd_lix c.hu5 ?_ ?_)
                  · exact (PD.t (pd_var 2))
                  · refine (PD.t ?_)
                    · exact (pd_b1 (c_min c.calm) rfl t.n_min bt_min (PD.t (pd_var 2)))
abbrev s_far_halves : Stmt := topS 23
def m_far_halves : FL.Env → Oc := (sRet (mCall 2 F_bad_lines (mCons (mBin idxD (mVar 0) (mC (.int 1))) (mCons (mCall 1 F_halves_of (mCons (mVar 0) mNil)) mNil))))
def F_far_halves : List D → R D := runF 1 1 m_far_halves
theorem sc_far_halves : FnScope ["web"] ["web"] (defScope s_far_halves) := ⟨rfl, rfl, rfl, by decide +kernel, rfl, by decide +kernel, by decide +kernel⟩
theorem bb_far_halves : ∀ (kV doc pm : Value) (an : Option Addr) (cdv ct : Value) (us : List Value), us.length = (["web"] : List Str).length → bindArgs (PySem.W.fnOf "far_halves" "far_halves" (defArgs s_far_halves) (defBody s_far_halves) (defScope s_far_halves) .none kV doc pm an cdv ct) ⟨us, []⟩ = pure ((["web"] : List Str).zip us) :=
  fun _ _ _ _ _ _ us hl => match us, hl with | [_], _ => rfl
theorem ok_far_halves (t : Tp K mg) : Def P w K mg base T "far_halves" 5 ["web"] F_far_halves := by
  have G_bad_lines := ok_bad_lines (P := P) (w := w) (base := base) (T := T) t
  have G_halves_of := ok_halves_of (P := P) (w := w) (base := base) (T := T) t
  show Def P w K mg base T "far_halves" 5 ["web"] (runF 1 1 m_far_halves)
  refine def_of (k := 4) (m := m_far_halves) t.f_far_halves sc_far_halves rfl rfl bb_far_halves ?_
  intro f cdv A outer s H E c tk po
  · refine (pdss_one ?_)
    · refine (pds_ret ?_)
      · refine (pd_callD G_bad_lines c (by decide) (by exact rfl) rfl ?_)
        · refine (pad_cons ?_ ?_)
          · exact (pd_idx (PD.t (pd_var 0)) (PD.t pd_int))
          · refine (pad_cons ?_ pad_nil)
            · exact (pd_callD G_halves_of c (by decide) (by exact rfl) rfl (pad_cons (pd_var 0) pad_nil))
def fu_are_so : FL.Env → Nat := fun _ => bigFu
abbrev s_are_so : Stmt := topS 24
def t1_are_so : FL.Env → Oc := (sDnew 2)
def t2_are_so : FL.Env → Oc := (sOwn 4 mNil)
def t3_are_so : FL.Env → Oc := (sDput 2 (mVar 3) (mC (.int 0)))
def t4_are_so : FL.Env → Oc := (sApp 4 (mVar 3))
def t5_are_so : FL.Env → Oc := (sIf (mB (mDin true 2 (mVar 3))) (fun ρ => (t3_are_so ρ).seq t4_are_so) Oc.nx)
def t6_are_so : FL.Env → Oc := (sPop 5 4)
def t7_are_so : FL.Env → Oc := (sSet 7 (mBin subD (mBin addD (mBin idxD (mVar 6) (mC (.int 0))) (mBin idxD (mVar 6) (mC (.int 1)))) (mVar 5)))
def t8_are_so : FL.Env → Oc := (sDput 2 (mVar 7) (mBin subD (mC (.int 1)) (mDget 2 (mVar 5))))
def t9_are_so : FL.Env → Oc := (sApp 4 (mVar 7))
def t10_are_so : FL.Env → Oc := (sRet (mC (.bl false)))
def t11_are_so : FL.Env → Oc := (sIf (mB (mBin (eqD false) (mDget 2 (mVar 7)) (mDget 2 (mVar 5)))) t10_are_so Oc.nx)
def t12_are_so : FL.Env → Oc := (sIf (mB (mDin true 2 (mVar 7))) (fun ρ => (t8_are_so ρ).seq t9_are_so) t11_are_so)
def t13_are_so : FL.Env → Oc := (sIf (mAnd (mB (mBin (inD false) (mVar 5) (mVar 6))) (mAnd (mB (mBin (inD false) (mBin idxD (mVar 6) (mC (.int 0))) (mVar 1))) (mB (mBin (inD false) (mBin idxD (mVar 6) (mC (.int 1))) (mVar 1))))) (fun ρ => (t7_are_so ρ).seq t12_are_so) Oc.nx)
def b14_are_so : FL.Env → Oc := t13_are_so
def t14_are_so : FL.Env → Oc := (sFor (fun ρ => ((mVar 0) ρ).bind itemsD) (.one 6) b14_are_so)
def b16_are_so : FL.Env → Oc := (fun ρ => (t6_are_so ρ).seq t14_are_so)
def t15_are_so : FL.Env → Oc := (sWhile fu_are_so (mB (mBin (eqD true) (mVarT 4) (mLst mNil))) b16_are_so)
def b18_are_so : FL.Env → Oc := (fun ρ => (t2_are_so ρ).seq (fun ρ => (t5_are_so ρ).seq t15_are_so))
def t16_are_so : FL.Env → Oc := (sFor (fun ρ => ((mVar 1) ρ).bind itemsD) (.one 3) b18_are_so)
def t17_are_so : FL.Env → Oc := (sRet (mC (.bl true)))
def m_are_so : FL.Env → Oc := (fun ρ => (t1_are_so ρ).seq (fun ρ => (t16_are_so ρ).seq t17_are_so))
def F_are_so : List D → R D := runF 8 2 m_are_so
theorem sc_are_so : FnScope ["lines", "nodes", "halves", "begin", "waiting", "node", "line", "other"] ["lines", "nodes"] (defScope s_are_so) := ⟨rfl, rfl, rfl, by decide +kernel, rfl, by decide +kernel, by decide +kernel⟩
theorem bb_are_so : ∀ (kV doc pm : Value) (an : Option Addr) (cdv ct : Value) (us : List Value), us.length = (["lines", "nodes"] : List Str).length → bindArgs (PySem.W.fnOf "are_so" "are_so" (defArgs s_are_so) (defBody s_are_so) (defScope s_are_so) .none kV doc pm an cdv ct) ⟨us, []⟩ = pure ((["lines", "nodes"] : List Str).zip us) :=
  fun _ _ _ _ _ _ us hl => match us, hl with | [_, _], _ => rfl
theorem ok_are_so (t : Tp K mg) : Def P w K mg base T "are_so" 1 ["lines", "nodes"] F_are_so := by
  show Def P w K mg base T "are_so" 1 ["lines", "nodes"] (runF 8 2 m_are_so)
  refine def_of (k := 0) (m := m_are_so) t.f_are_so sc_are_so rfl rfl bb_are_so ?_
  intro f cdv A outer s H E c tk po
  · refine (pdss_cons (pds_dnew 2 c.nd) ?_)
    · refine (pdss_cons ?_ ?_)
      · refine (pds_for ?_ (pgf_name 3 c.nd) ?_ po c.calm)
        · exact (pdi_seq (pd_var 1))
        · refine (pdss_cons (pds_own 4 pad_nil c.nd) ?_)
          · refine (pdss_cons ?_ ?_)
            · refine (pds_if ?_ ?_ pdss_nil)
              · exact (ptd_dnin 2 c.hu (PD.t (pd_var 3)))
              · refine (pdss_cons ?_ ?_)
                · exact (pds_dput 2 c.hu (PD.t (pd_var 3)) pd_int)
                · exact (pdss_one (pds_app 4 (pd_var 3)))
            · refine (pdss_one ?_)
              · refine (pds_while fu_are_so ?_ ?_ po)
                · exact (ptd_cmp (o_ne c.hu) (pdt_var 4) (PD.t (pd_lst pad_nil)))
                · refine (pdss_cons (pds_pop 5 4 c.nd) ?_)
                  · refine (pdss_one ?_)
                    · refine (pds_for ?_ (pgf_name 6 c.nd) ?_ po c.calm)
                      · exact (pdi_seq (pd_var 0))
                      · refine (pdss_one ?_)
                        · refine (pds_if ?_ ?_ pdss_nil)
                          · refine (PWD.p ?_)
                            · refine (pwd_and ?_ ?_)
                              · exact (ptd_cmp (o_in c.hu5) (PD.t (pd_var 5)) (PD.t (pd_var 6)))
                              · refine (pwd_and ?_ ?_)
                                · refine (ptd_cmp (o_in c.hu5) ?_ ?_)
                                  · refine (PD.t ?_)
                                    · exact (pd_idx (PD.t (pd_var 6)) (PD.t pd_int))
                                  · exact (PD.t (pd_var 1))
                                · refine (pwd_and1 ?_)
                                  · refine (ptd_cmp (o_in c.hu5) ?_ ?_)
                                    · refine (PD.t ?_)
                                      · exact (pd_idx (PD.t (pd_var 6)) (PD.t pd_int))
                                    · exact (PD.t (pd_var 1))
                          · refine (pdss_cons ?_ ?_)
                            · refine (pds_set 7 ?_ c.nd)
                              · refine (pd_bin o_sub ?_ ?_)
                                · refine (PD.t ?_)
                                  · refine (pd_bin o_add ?_ ?_)
                                    · refine (PD.t ?_)
                                      · exact (pd_idx (PD.t (pd_var 6)) (PD.t pd_int))
                                    · refine (PD.t ?_)
                                      · exact (pd_idx (PD.t (pd_var 6)) (PD.t pd_int))
                                · exact (PD.t (pd_var 5))
                            · refine (pdss_one ?_)
                              · refine (pds_if ?_ ?_ ?_)
                                · exact (ptd_dnin 2 c.hu (PD.t (pd_var 7)))
                                · refine (pdss_cons ?_ ?_)
                                  · refine (pds_dput 2 c.hu ?_ ?_)
                                    · exact (PD.t (pd_var 7))
                                    · refine (pd_bin o_sub (PD.t pd_int) ?_)
                                      · refine (PD.t ?_)
                                        · exact (pd_dget 2 c.hu (PD.t (pd_var 5)))
                                  · exact (pdss_one (pds_app 4 (pd_var 7)))
                                · refine (pdss_one ?_)
                                  · refine (pds_if ?_ ?_ pdss_nil)
                                    · refine (ptd_cmp (o_eq c.hu) ?_ ?_)
                                      · refine (PD.t ?_)
                                        · exact (pd_dget 2 c.hu (PD.t (pd_var 7)))
                                      · refine (PD.t ?_)
                                        · exact (pd_dget 2 c.hu (PD.t (pd_var 5)))
                                    · exact (pdss_one (pds_ret pd_bl))
      · exact (pdss_one (pds_ret pd_bl))
abbrev s_by_nodes : Stmt := topS 25
def t1_by_nodes : FL.Env → Oc := (sDrop (mCall 1 F_need_web (mCons (mVar 0) mNil)))
def t2_by_nodes : FL.Env → Oc := (sDrop (mCall 1 F_need_test (mCons (mChain leD leD (mC (.int 0)) (mVar 1) (mBin idxD (mVar 0) (mC (.int 0)))) mNil)))
def t3_by_nodes : FL.Env → Oc := (sSet 2 (mCall 2 F_all_looks (mCons (mBin idxD (mVar 0) (mC (.int 0))) (mCons (mVar 1) mNil))))
def t4_by_nodes : FL.Env → Oc := (sRet (mCall 2 F_fraction (mCons (mUn lenD (mLc (fun ρ => ((mVar 2) ρ).bind itemsD) (.one 3) (mNot (mB (mCall 2 F_are_so (mCons (mBin idxD (mVar 0) (mC (.int 1))) (mCons (mVar 3) mNil))))) (mVar 3) [3])) (mCons (mUn lenD (mVar 2)) mNil))))
def m_by_nodes : FL.Env → Oc := (fun ρ => (t1_by_nodes ρ).seq (fun ρ => (t2_by_nodes ρ).seq (fun ρ => (t3_by_nodes ρ).seq t4_by_nodes)))
def F_by_nodes : List D → R D := runF 4 2 m_by_nodes
theorem sc_by_nodes : FnScope ["web", "many", "row", "nodes"] ["web", "many"] (defScope s_by_nodes) := ⟨rfl, rfl, rfl, by decide +kernel, rfl, by decide +kernel, by decide +kernel⟩
theorem bb_by_nodes : ∀ (kV doc pm : Value) (an : Option Addr) (cdv ct : Value) (us : List Value), us.length = (["web", "many"] : List Str).length → bindArgs (PySem.W.fnOf "by_nodes" "by_nodes" (defArgs s_by_nodes) (defBody s_by_nodes) (defScope s_by_nodes) .none kV doc pm an cdv ct) ⟨us, []⟩ = pure ((["web", "many"] : List Str).zip us) :=
  fun _ _ _ _ _ _ us hl => match us, hl with | [_, _], _ => rfl
theorem ok_by_nodes (t : Tp K mg) : Def P w K mg base T "by_nodes" 4 ["web", "many"] F_by_nodes := by
  have G_all_looks := ok_all_looks (P := P) (w := w) (base := base) (T := T) t
  have G_are_so := ok_are_so (P := P) (w := w) (base := base) (T := T) t
  have G_fraction := ok_fraction (P := P) (w := w) (base := base) (T := T) t
  have G_need_test := ok_need_test (P := P) (w := w) (base := base) (T := T) t
  have G_need_web := ok_need_web (P := P) (w := w) (base := base) (T := T) t
  show Def P w K mg base T "by_nodes" 4 ["web", "many"] (runF 4 2 m_by_nodes)
  refine def_of (k := 3) (m := m_by_nodes) t.f_by_nodes sc_by_nodes rfl rfl bb_by_nodes ?_
  intro f cdv A outer s H E c tk po
  · refine (pdss_cons ?_ ?_)
    · refine (pds_expr ?_)
      · exact (pd_callD G_need_web c (by decide) (by exact rfl) rfl (pad_cons (pd_var 0) pad_nil))
    · refine (pdss_cons ?_ ?_)
      · refine (pds_expr ?_)
        · refine (pd_callD G_need_test c (by decide) (by exact rfl) rfl ?_)
          · refine (pad_cons ?_ pad_nil)
            · refine (pd_chain o_le o_le (PD.t pd_int) ?_ ?_)
              · exact (PD.t (pd_var 1))
              · refine (PD.t ?_)
                · exact (pd_idx (PD.t (pd_var 0)) (PD.t pd_int))
      · refine (pdss_cons ?_ ?_)
        · refine (pds_set 2 ?_ c.nd)
          · refine (pd_callD G_all_looks c (by decide) (by exact rfl) rfl ?_)
            · refine (pad_cons ?_ ?_)
              · exact (pd_idx (PD.t (pd_var 0)) (PD.t pd_int))
              · exact (pad_cons (pd_var 1) pad_nil)
        · refine (pdss_one ?_)
          · refine (pds_ret ?_)
            · refine (pd_callD G_fraction c (by decide) (by exact rfl) rfl ?_)
              · refine (pad_cons ?_ ?_)
                · refine (pd_b1 c_len rfl t.n_len bt_len ?_)
                  · refine (PD.t ?_)
                    · refine (pd_lc (own := [("nodes", 3)]) (t := (.one 3)) (mt := (mNot (mB (mCall 2 F_are_so (mCons (mBin idxD (mVar 0) (mC (.int 1))) (mCons (mVar 3) mNil)))))) (me := (mVar 3)) c.calm c.nd ?_ (blkOk_by (by kernel_rfl)) (by decide) ?_ ?_ ?_)
                      · exact (PDI.t (pdi_seq (pd_var 2)))
                      · exact fun _ _ _ _ _ => (pgd_name 3 (Cg.blk c _ _ _ _ _).nd)
                      · intro _ _ _ _ _
                        refine (pts1 ?_)
                        · refine (ptd_not ?_)
                          · refine (ptd_val ?_)
                            · refine (pd_callD G_are_so (Cg.blk c _ _ _ _ _) (by decide) (by exact rfl) rfl ?_)
                              · refine (pad_cons ?_ ?_)
                                · exact (pd_idx (PD.t (pd_var 0)) (PD.t pd_int))
                                · exact (pad_cons (pd_var 3) pad_nil)
                      · exact fun _ _ _ _ _ => (pd_var 3)
                · refine (pad_cons ?_ pad_nil)
                  · exact (pd_b1 c_len rfl t.n_len bt_len (PD.t (pd_var 2)))
abbrev s__law_cell : Stmt := topS 27
def m__law_cell : FL.Env → Oc := (fun ρ => ((sIf (mB (mBin (eqD false) (mVar 0) (mLst mNil))) (sRet (mBin mulT (mVar 1) (mC (.int 7919)))) Oc.nx) ρ).seq (sRet (mBin addD (mBin idxD (mVar 0) (mBin modD (mVar 1) (mUn lenD (mVar 0)))) (mBin mulT (mBin divD (mVar 1) (mUn lenD (mVar 0))) (mC (.int 104729))))))
def F__law_cell : List D → R D := runF 2 2 m__law_cell
theorem sc__law_cell : FnScope ["_law_script", "_law_k"] ["_law_script", "_law_k"] (defScope s__law_cell) := ⟨rfl, rfl, rfl, by decide +kernel, rfl, by decide +kernel, by decide +kernel⟩
theorem bb__law_cell : ∀ (kV doc pm : Value) (an : Option Addr) (cdv ct : Value) (us : List Value), us.length = (["_law_script", "_law_k"] : List Str).length → bindArgs (PySem.W.fnOf "_law_cell" "_law_cell" (defArgs s__law_cell) (defBody s__law_cell) (defScope s__law_cell) .none kV doc pm an cdv ct) ⟨us, []⟩ = pure ((["_law_script", "_law_k"] : List Str).zip us) :=
  fun _ _ _ _ _ _ us hl => match us, hl with | [_, _], _ => rfl
theorem ok__law_cell (t : Tp K mg) : Def P w K mg base T "_law_cell" 1 ["_law_script", "_law_k"] F__law_cell := by
  show Def P w K mg base T "_law_cell" 1 ["_law_script", "_law_k"] (runF 2 2 m__law_cell)
  refine def_of (k := 0) (m := m__law_cell) t.f__law_cell sc__law_cell rfl rfl bb__law_cell ?_
  intro f cdv A outer s H E c tk po
  · refine (pdss_cons ?_ ?_)
    · refine (pds_if ?_ ?_ pdss_nil)
      · exact (ptd_cmp (o_eq c.hu) (PD.t (pd_var 0)) (PD.t (pd_lst pad_nil)))
      · refine (pdss_one ?_)
        · refine (pds_ret ?_)
          · exact (pd_bin o_mulT (PD.t (pd_var 1)) (PD.t pd_int))
    · refine (pdss_one ?_)
      · refine (pds_ret ?_)
        · refine (pd_bin o_add ?_ ?_)
          · refine (PD.t ?_)
            · refine (pd_idx ?_ ?_)
              · exact (PD.t (pd_var 0))
              · refine (PD.t ?_)
                · refine (pd_bin o_mod ?_ ?_)
                  · exact (PD.t (pd_var 1))
                  · refine (PD.t ?_)
                    · exact (pd_b1 c_len rfl t.n_len bt_len (PD.t (pd_var 0)))
          · refine (PD.t ?_)
            · refine (pd_bin o_mulT ?_ (PD.t pd_int))
              · refine (PD.t ?_)
                · refine (pd_bin o_div ?_ ?_)
                  · exact (PD.t (pd_var 1))
                  · refine (PD.t ?_)
                    · exact (pd_b1 c_len rfl t.n_len bt_len (PD.t (pd_var 0)))
abbrev s__law_drawn : Stmt := topS 28
def m__law_drawn : FL.Env → Oc := (fun ρ => ((sSet 2 (mBin modD (mBin addD (mBin mulT (mVar 0) (mC (.int 6364136223846793005))) (mBin mulT (mBin addD (mVar 1) (mC (.int 1))) (mC (.int 1442695040888963407)))) (mC (.int 340282366920938463463374607431768211507)))) ρ).seq (fun ρ => ((sSet 2 (mBin modD (mBin mulT (mVar 2) (mVar 2)) (mC (.int 340282366920938463463374607431768211297)))) ρ).seq (fun ρ => ((sSet 2 (mBin mulT (mBin mulT (mBin addD (mBin modD (mVar 2) (mC (.int 18446744073709551557))) (mC (.int 1))) (mBin addD (mBin divD (mVar 2) (mC (.int 18446744073709551557))) (mC (.int 1)))) (mVar 2))) ρ).seq (sRet (mBin modD (mVar 2) (mC (.int 340282366920938463463374607431768211507)))))))
def F__law_drawn : List D → R D := runF 3 2 m__law_drawn
theorem sc__law_drawn : FnScope ["_law_cell_here", "_law_k", "_law_more"] ["_law_cell_here", "_law_k"] (defScope s__law_drawn) := ⟨rfl, rfl, rfl, by decide +kernel, rfl, by decide +kernel, by decide +kernel⟩
theorem bb__law_drawn : ∀ (kV doc pm : Value) (an : Option Addr) (cdv ct : Value) (us : List Value), us.length = (["_law_cell_here", "_law_k"] : List Str).length → bindArgs (PySem.W.fnOf "_law_drawn" "_law_drawn" (defArgs s__law_drawn) (defBody s__law_drawn) (defScope s__law_drawn) .none kV doc pm an cdv ct) ⟨us, []⟩ = pure ((["_law_cell_here", "_law_k"] : List Str).zip us) :=
  fun _ _ _ _ _ _ us hl => match us, hl with | [_, _], _ => rfl
theorem ok__law_drawn (t : Tp K mg) : Def P w K mg base T "_law_drawn" 1 ["_law_cell_here", "_law_k"] F__law_drawn := by
  show Def P w K mg base T "_law_drawn" 1 ["_law_cell_here", "_law_k"] (runF 3 2 m__law_drawn)
  refine def_of (k := 0) (m := m__law_drawn) t.f__law_drawn sc__law_drawn rfl rfl bb__law_drawn ?_
  intro f cdv A outer s H E c tk po
  · refine (pdss_cons ?_ ?_)
    · refine (pds_set 2 ?_ c.nd)
      · refine (pd_bin o_mod ?_ (PD.t pd_int))
        · refine (PD.t ?_)
          · refine (pd_bin o_add ?_ ?_)
            · refine (PD.t ?_)
              · exact (pd_bin o_mulT (PD.t (pd_var 0)) (PD.t pd_int))
            · refine (PD.t ?_)
              · refine (pd_bin o_mulT ?_ (PD.t pd_int))
                · refine (PD.t ?_)
                  · exact (pd_bin o_add (PD.t (pd_var 1)) (PD.t pd_int))
    · refine (pdss_cons ?_ ?_)
      · refine (pds_set 2 ?_ c.nd)
        · refine (pd_bin o_mod ?_ (PD.t pd_int))
          · refine (PD.t ?_)
            · exact (pd_bin o_mulT (PD.t (pd_var 2)) (PD.t (pd_var 2)))
      · refine (pdss_cons ?_ ?_)
        · refine (pds_set 2 ?_ c.nd)
          · refine (pd_bin o_mulT ?_ ?_)
            · refine (PD.t ?_)
              · refine (pd_bin o_mulT ?_ ?_)
                · refine (PD.t ?_)
                  · refine (pd_bin o_add ?_ (PD.t pd_int))
                    · refine (PD.t ?_)
                      · exact (pd_bin o_mod (PD.t (pd_var 2)) (PD.t pd_int))
                · refine (PD.t ?_)
                  · refine (pd_bin o_add ?_ (PD.t pd_int))
                    · refine (PD.t ?_)
                      · exact (pd_bin o_div (PD.t (pd_var 2)) (PD.t pd_int))
            · exact (PD.t (pd_var 2))
        · refine (pdss_one ?_)
          · refine (pds_ret ?_)
            · exact (pd_bin o_mod (PD.t (pd_var 2)) (PD.t pd_int))
abbrev s__law_word : Stmt := topS 29
def m__law_word (ad : Addr) (c0 : Str) : FL.Env → Oc := (fun ρ => ((sSet 1 (mLst (mCons (mIsP ad 0 (decide (c0 = "BadKind"))) (mCons (mIsP ad 0 (decide (c0 = "BadWord"))) (mCons (mIsP ad 0 (decide (c0 = "BadTest"))) mNil))))) ρ).seq (fun ρ => ((sSet 1 (mBin addD (mVar 1) (mLst (mCons (mIsP ad 0 (decide (c0 = "BadRow"))) mNil)))) ρ).seq (fun ρ => ((sSet 1 (mBin addD (mVar 1) (mLst (mCons (mIsP ad 0 (decide (c0 = "BadTable"))) (mCons (mIsP ad 0 (decide (c0 = "BadWeb"))) (mCons (mIsP ad 0 (decide (c0 = "NoFar"))) mNil)))))) ρ).seq (fun ρ => ((sIf (mOr (mB (mBin (eqD true) (mUn sumHD (mLc (fun ρ => ((mVar 1) ρ).bind itemsL) (.one 2) mYes (mUn intD (mVar 2)) [2])) (mC (.int 1)))) (mNot (mB (mIsP ad 0 true)))) (sRet (mC (.str "other"))) Oc.nx) ρ).seq (sRet (mBin idxD (mLst (mCons (mC (.str "BadKind")) (mCons (mC (.str "BadWord")) (mCons (mC (.str "BadTest")) (mCons (mC (.str "BadRow")) (mCons (mC (.str "BadTable")) (mCons (mC (.str "BadWeb")) (mCons (mC (.str "NoFar")) mNil)))))))) (mLix (mVar 1) (mC (.bl true)))))))))
theorem sc__law_word : FnScope ["_law_e", "_law_flags", "_law_flag"] ["_law_e"] (defScope s__law_word) := ⟨rfl, rfl, rfl, by decide +kernel, rfl, by decide +kernel, by decide +kernel⟩
theorem bb__law_word : ∀ (kV doc pm : Value) (an : Option Addr) (cdv ct : Value) (us : List Value), us.length = (["_law_e"] : List Str).length → bindArgs (PySem.W.fnOf "_law_word" "_law_word" (defArgs s__law_word) (defBody s__law_word) (defScope s__law_word) .none kV doc pm an cdv ct) ⟨us, []⟩ = pure ((["_law_e"] : List Str).zip us) :=
  fun _ _ _ _ _ _ us hl => match us, hl with | [_], _ => rfl
def csW : List Str := ["BadKind", "BadWord", "BadTest", "BadRow", "BadTable", "BadWeb", "NoFar"]
def gW : Str → R D := fun c => .ok (.str c)
theorem ev__law_word : ∀ c ∈ csW, ∀ ad : Addr, ∃ d, gW c = .ok d ∧ m__law_word ad c (.sh (.adr ad) :: List.replicate (3 - 1) Sl.no) = .rt d := by
  intro c hc ad
  refine ⟨_, rfl, ?_⟩
  have key : ∀ b ρ, mIsP ad 0 b (.sh (.adr ad) :: ρ) = .ok (.bl b) := fun b ρ => if_pos rfl
  unfold m__law_word
  simp only [csW, List.mem_cons, List.not_mem_nil, or_false] at hc
  have hl : ∀ n : Nat, n ≤ 64 → (n ≤ sizeLine) = True := fun n h => by rw [sizeLine_eq]; simp; omega
  have h1 := hl 1 (by omega)
  have h2 := hl 2 (by omega)
  have h3 := hl 3 (by omega)
  have h4 := hl 4 (by omega)
  have e2 : List.replicate 2 Sl.no = [Sl.no, Sl.no] := rfl
  have hA : ∀ xs ys : List D, (xs.length + ys.length ≤ sizeLine) = True → addD (.lst xs) (.lst ys) = .ok (.lst (xs ++ ys)) := fun xs ys h => if_pos (of_eq_true h)
  have h5 := hl 5 (by omega)
  have h6 := hl 6 (by omega)
  have h7 := hl 7 (by omega)
  have h9 := hl 9 (by omega)
  have e3 : List.replicate 3 Sl.no = [Sl.no, Sl.no, Sl.no] := rfl
  simp only [sSet, sRet, sIf, mBin, mLst, mCons, mNil, key, R.bind_ok, R.out_ok, Oc.seq_nx, List.set, e2, e3, mVar, List.getElem?_cons_zero, List.getElem?_cons_succ, List.length_cons, List.length_nil, Nat.reduceAdd, Nat.reduceSub, h1, h2, h3, h4, h5, h6, h7, h9, hA, List.cons_append, List.nil_append, if_true, mOr, mNot, mB]
  rcases hc with rfl | rfl | rfl | rfl | rfl | rfl | rfl
  all_goals rfl
theorem ok__law_word (t : Tp K mg) : HotDef P w K mg base T "_law_word" 1 csW gW := by
  refine hot_of (na := 3) (m := m__law_word) t.f__law_word sc__law_word rfl t.exw bb__law_word ev__law_word ?_
  intro f cdv A outer s H pp c0 DD c
  obtain ⟨D', gD, eC, kV, hex, kO⟩ := t.exw.at_ c0 c.mem
  have gD' := c.gc
  have gD2 := gD.symm.trans gD'
  cases gD2
  obtain ⟨D_BadKind, g_BadKind, _⟩ := t.exw.at_ "BadKind" (by decide +kernel)
  have k_BadKind := kO "BadKind" (by decide +kernel) D_BadKind g_BadKind
  obtain ⟨D_BadWord, g_BadWord, _⟩ := t.exw.at_ "BadWord" (by decide +kernel)
  have k_BadWord := kO "BadWord" (by decide +kernel) D_BadWord g_BadWord
  obtain ⟨D_BadTest, g_BadTest, _⟩ := t.exw.at_ "BadTest" (by decide +kernel)
  have k_BadTest := kO "BadTest" (by decide +kernel) D_BadTest g_BadTest
  obtain ⟨D_BadRow, g_BadRow, _⟩ := t.exw.at_ "BadRow" (by decide +kernel)
  have k_BadRow := kO "BadRow" (by decide +kernel) D_BadRow g_BadRow
  obtain ⟨D_BadTable, g_BadTable, _⟩ := t.exw.at_ "BadTable" (by decide +kernel)
  have k_BadTable := kO "BadTable" (by decide +kernel) D_BadTable g_BadTable
  obtain ⟨D_BadWeb, g_BadWeb, _⟩ := t.exw.at_ "BadWeb" (by decide +kernel)
  have k_BadWeb := kO "BadWeb" (by decide +kernel) D_BadWeb g_BadWeb
  obtain ⟨D_NoFar, g_NoFar, _⟩ := t.exw.at_ "NoFar" (by decide +kernel)
  have k_NoFar := kO "NoFar" (by decide +kernel) D_NoFar g_NoFar
  · refine (pdss_cons ?_ ?_)
    · refine (pds_set 1 ?_ c.nd)
      · refine (pd_lst ?_)
        · refine (pad_cons (pd_isP (i := 0) (b := decide (c0 = "BadKind")) rfl t.n_isinstance c.pin c.ec c.cls c.dct c.fld rfl g_BadKind k_BadKind) ?_)
          · exact (pad_cons (pd_isP (i := 0) (b := decide (c0 = "BadWord")) rfl t.n_isinstance c.pin c.ec c.cls c.dct c.fld rfl g_BadWord k_BadWord) (pad_cons (pd_isP (i := 0) (b := decide (c0 = "BadTest")) rfl t.n_isinstance c.pin c.ec c.cls c.dct c.fld rfl g_BadTest k_BadTest) pad_nil))
    · refine (pdss_cons ?_ ?_)
      · refine (pds_set 1 ?_ c.nd)
        · refine (pd_bin o_add ?_ ?_)
          · exact (PD.t (pd_var 1))
          · refine (PD.t ?_)
            · exact (pd_lst (pad_cons (pd_isP (i := 0) (b := decide (c0 = "BadRow")) rfl t.n_isinstance c.pin c.ec c.cls c.dct c.fld rfl g_BadRow k_BadRow) pad_nil))
      · refine (pdss_cons ?_ ?_)
        · refine (pds_set 1 ?_ c.nd)
          · refine (pd_bin o_add ?_ ?_)
            · exact (PD.t (pd_var 1))
            · refine (PD.t ?_)
              · refine (pd_lst ?_)
                · refine (pad_cons (pd_isP (i := 0) (b := decide (c0 = "BadTable")) rfl t.n_isinstance c.pin c.ec c.cls c.dct c.fld rfl g_BadTable k_BadTable) ?_)
                  · exact (pad_cons (pd_isP (i := 0) (b := decide (c0 = "BadWeb")) rfl t.n_isinstance c.pin c.ec c.cls c.dct c.fld rfl g_BadWeb k_BadWeb) (pad_cons (pd_isP (i := 0) (b := decide (c0 = "NoFar")) rfl t.n_isinstance c.pin c.ec c.cls c.dct c.fld rfl g_NoFar k_NoFar) pad_nil))
        · refine (pdss_cons ?_ ?_)
          · refine (pds_if ?_ ?_ pdss_nil)
            · refine (PWD.p ?_)
              · refine (pwd_or ?_ ?_)
                · refine (ptd_cmp (o_ne c.hu) ?_ (PD.t pd_int))
                  · refine (PD.t ?_)
                    · refine (pd_b1 (c_sumH c.hot) rfl t.n_sum bt_sum ?_)
                      · refine (PD.t ?_)
                        · refine (pd_lcH (own := [("_law_flag", 2)]) (t := (.one 2)) (mt := mYes) (me := (mUn intD (mVar 2))) c.hot c.nd ?_ (blkOk_by (by kernel_rfl)) (by decide) ?_ ?_ ?_)
                          · exact (PD.t (pd_var 1))
                          · exact fun _ _ _ _ _ => (pgd_name 2 c.nd)
                          · exact fun _ _ _ _ _ => pts0
                          · exact fun _ _ _ _ _ => (pd_t1 c_int rfl t.n_int bt_int (PD.t (pd_var 2)))
                · refine (pwd_or1 ?_)
                  · exact (ptd_not (ptd_val (pd_isPB (i := 0) (b := true) (Ty := "ValueError") rfl t.n_isinstance c.pin c.ec c.cls c.dct c.fld rfl t.n_ValueError bt_ValueError kV)))
            · exact (pdss_one (pds_ret pd_str))
          · refine (pdss_one ?_)
            · refine (pds_ret ?_)
              · refine (pd_idx ?_ ?_)
                · refine (PD.t ?_)
                  · refine (pd_lst ?_)
                    · refine (pad_cons pd_str ?_)
                      · refine (pad_cons pd_str ?_)
                        · refine (pad_cons pd_str ?_)
                          · refine (pad_cons pd_str ?_)
                            · exact (pad_cons pd_str (pad_cons pd_str (pad_cons pd_str pad_nil)))
                · refine (PD.t ?_)
                  · exact (pd_lix c.hu5 (PD.t (pd_var 1)) (PD.t pd_bl))
abbrev s__law_told : Stmt := topS 30
theorem sc__law_told : FnScope ["_law_deed", "_law_e"] ["_law_deed"] (defScope s__law_told) := ⟨rfl, rfl, rfl, by decide +kernel, rfl, by decide +kernel, by decide +kernel⟩
theorem bb__law_told : ∀ (kV doc pm : Value) (an : Option Addr) (cdv ct : Value) (us : List Value), us.length = (["_law_deed"] : List Str).length → bindArgs (PySem.W.fnOf "_law_told" "_law_told" (defArgs s__law_told) (defBody s__law_told) (defScope s__law_told) .none kV doc pm an cdv ct) ⟨us, []⟩ = pure ((["_law_deed"] : List Str).zip us) :=
  fun _ _ _ _ _ _ us hl => match us, hl with | [_], _ => rfl
def fu__law_made : FL.Env → Nat := fun _ => bigFu
abbrev s__law_made : Stmt := topS 31
def b1__law_made : FL.Env → Oc := (sPar 2 3 (mVar 3) (mBin modD (mVar 2) (mVar 3)))
def m__law_made : FL.Env → Oc := (fun ρ => ((sPar 2 3 (mUn absD (mVar 0)) (mVar 1)) ρ).seq (fun ρ => ((sWhile fu__law_made (mB (mBin gtD (mVar 3) (mC (.int 0)))) b1__law_made) ρ).seq (sRet (mTup (mCons (mBin divD (mVar 0) (mVar 2)) (mCons (mBin divD (mVar 1) (mVar 2)) mNil))))))
def F__law_made : List D → R D := runF 4 2 m__law_made
theorem sc__law_made : FnScope ["_law_top", "_law_under", "_law_one", "_law_other"] ["_law_top", "_law_under"] (defScope s__law_made) := ⟨rfl, rfl, rfl, by decide +kernel, rfl, by decide +kernel, by decide +kernel⟩
theorem bb__law_made : ∀ (kV doc pm : Value) (an : Option Addr) (cdv ct : Value) (us : List Value), us.length = (["_law_top", "_law_under"] : List Str).length → bindArgs (PySem.W.fnOf "_law_made" "_law_made" (defArgs s__law_made) (defBody s__law_made) (defScope s__law_made) .none kV doc pm an cdv ct) ⟨us, []⟩ = pure ((["_law_top", "_law_under"] : List Str).zip us) :=
  fun _ _ _ _ _ _ us hl => match us, hl with | [_, _], _ => rfl
theorem ok__law_made (t : Tp K mg) : Def P w K mg base T "_law_made" 1 ["_law_top", "_law_under"] F__law_made := by
  show Def P w K mg base T "_law_made" 1 ["_law_top", "_law_under"] (runF 4 2 m__law_made)
  refine def_of (k := 0) (m := m__law_made) t.f__law_made sc__law_made rfl rfl bb__law_made ?_
  intro f cdv A outer s H E c tk po
  · refine (pdss_cons ?_ ?_)
    · refine (pds_par 2 3 ?_ (pd_var 1) c.calm c.nd)
      · exact (pd_b1 c_abs rfl t.n_abs bt_abs (PD.t (pd_var 0)))
    · refine (pdss_cons ?_ ?_)
      · refine (pds_while fu__law_made ?_ ?_ po)
        · exact (ptd_cmp o_gt (PD.t (pd_var 3)) (PD.t pd_int))
        · refine (pdss_one ?_)
          · refine (pds_par 2 3 (pd_var 3) ?_ c.calm c.nd)
            · exact (pd_bin o_mod (PD.t (pd_var 2)) (PD.t (pd_var 3)))
      · refine (pdss_one ?_)
        · refine (pds_ret ?_)
          · refine (pd_tup ?_)
            · refine (pad_cons ?_ ?_)
              · exact (pd_bin o_div (PD.t (pd_var 0)) (PD.t (pd_var 2)))
              · refine (pad_cons ?_ pad_nil)
                · exact (pd_bin o_div (PD.t (pd_var 1)) (PD.t (pd_var 2)))
abbrev s__law_less : Stmt := topS 32
def m__law_less : FL.Env → Oc := (sRet (mBin ltD (mBin mulT (mBin idxD (mVar 0) (mC (.int 0))) (mBin idxD (mVar 1) (mC (.int 1)))) (mBin mulT (mBin idxD (mVar 1) (mC (.int 0))) (mBin idxD (mVar 0) (mC (.int 1))))))
def F__law_less : List D → R D := runF 2 2 m__law_less
theorem sc__law_less : FnScope ["_law_one", "_law_other"] ["_law_one", "_law_other"] (defScope s__law_less) := ⟨rfl, rfl, rfl, by decide +kernel, rfl, by decide +kernel, by decide +kernel⟩
theorem bb__law_less : ∀ (kV doc pm : Value) (an : Option Addr) (cdv ct : Value) (us : List Value), us.length = (["_law_one", "_law_other"] : List Str).length → bindArgs (PySem.W.fnOf "_law_less" "_law_less" (defArgs s__law_less) (defBody s__law_less) (defScope s__law_less) .none kV doc pm an cdv ct) ⟨us, []⟩ = pure ((["_law_one", "_law_other"] : List Str).zip us) :=
  fun _ _ _ _ _ _ us hl => match us, hl with | [_, _], _ => rfl
theorem ok__law_less (t : Tp K mg) : Def P w K mg base T "_law_less" 1 ["_law_one", "_law_other"] F__law_less := by
  show Def P w K mg base T "_law_less" 1 ["_law_one", "_law_other"] (runF 2 2 m__law_less)
  refine def_of (k := 0) (m := m__law_less) t.f__law_less sc__law_less rfl rfl bb__law_less ?_
  intro f cdv A outer s H E c tk po
  · refine (pdss_one ?_)
    · refine (pds_ret ?_)
      · refine (pd_cmp (o_lt c.hu0) ?_ ?_)
        · refine (PD.t ?_)
          · refine (pd_bin o_mulT ?_ ?_)
            · refine (PD.t ?_)
              · exact (pd_idx (PD.t (pd_var 0)) (PD.t pd_int))
            · refine (PD.t ?_)
              · exact (pd_idx (PD.t (pd_var 1)) (PD.t pd_int))
        · refine (PD.t ?_)
          · refine (pd_bin o_mulT ?_ ?_)
            · refine (PD.t ?_)
              · exact (pd_idx (PD.t (pd_var 1)) (PD.t pd_int))
            · refine (PD.t ?_)
              · exact (pd_idx (PD.t (pd_var 0)) (PD.t pd_int))
abbrev s__law_web : Stmt := topS 33
def b1__law_web : FL.Env → Oc := (fun ρ => ((sSet 5 (mCall 2 F__law_drawn (mCons (mVar 0) (mCons (mBin addD (mBin mulT (mC (.int 8)) (mVar 3)) (mVar 4)) mNil)))) ρ).seq (fun ρ => ((sSet 6 (vB (mOr (mB (mBin (eqD false) (mVar 4) (mBin addD (mVar 3) (mC (.int 1))))) (mB (vB (mAnd (mB (mBin (eqD false) (mVar 3) (mC (.int 0)))) (mB (mBin (eqD false) (mVar 4) (mBin subD (mVar 1) (mC (.int 1))))))))))) ρ).seq (sIf (mB (mBin idxD (mLst (mCons (mBin (eqD false) (mBin modD (mVar 5) (mC (.int 2))) (mC (.int 0))) (mCons (mBin (eqD false) (mBin modD (mVar 5) (mC (.int 4))) (mC (.int 0))) (mCons (mBin gtD (mBin modD (mVar 5) (mC (.int 5))) (mC (.int 0))) (mCons (mVar 6) mNil))))) (mBin modD (mBin divD (mVar 0) (mC (.int 8))) (mC (.int 4))))) (sApp 2 (mTup (mCons (mVar 3) (mCons (mVar 4) mNil)))) Oc.nx)))
def b2__law_web : FL.Env → Oc := (sFor (fun ρ => ((mBin addD (mVar 3) (mC (.int 1))) ρ).bind fun x => ((mVar 1) ρ).bind fun y => rg2D x y) (.one 4) b1__law_web)
def m__law_web : FL.Env → Oc := (fun ρ => ((sSet 1 (mBin addD (mC (.int 1)) (mBin modD (mVar 0) (mC (.int 7))))) ρ).seq (fun ρ => ((sOwn 2 mNil) ρ).seq (fun ρ => ((sFor (fun ρ => ((mVar 1) ρ).bind rg1D) (.one 3) b2__law_web) ρ).seq (fun ρ => (sRet (mTup (mCons (mVar 1) (mCons (mVar 2) mNil)))) (frzE 2 ρ)))))
def F__law_web : List D → R D := runF 7 1 m__law_web
theorem sc__law_web : FnScope ["_law_more", "_law_many", "_law_lines", "_law_one", "_law_other", "_law_here", "_law_is_ring"] ["_law_more"] (defScope s__law_web) := ⟨rfl, rfl, rfl, by decide +kernel, rfl, by decide +kernel, by decide +kernel⟩
theorem bb__law_web : ∀ (kV doc pm : Value) (an : Option Addr) (cdv ct : Value) (us : List Value), us.length = (["_law_more"] : List Str).length → bindArgs (PySem.W.fnOf "_law_web" "_law_web" (defArgs s__law_web) (defBody s__law_web) (defScope s__law_web) .none kV doc pm an cdv ct) ⟨us, []⟩ = pure ((["_law_more"] : List Str).zip us) :=
  fun _ _ _ _ _ _ us hl => match us, hl with | [_], _ => rfl
theorem ok__law_web (t : Tp K mg) : Def P w K mg base T "_law_web" 2 ["_law_more"] F__law_web := by
  have G__law_drawn := ok__law_drawn (P := P) (w := w) (base := base) (T := T) t
  show Def P w K mg base T "_law_web" 2 ["_law_more"] (runF 7 1 m__law_web)
  refine def_of (k := 1) (m := m__law_web) t.f__law_web sc__law_web rfl rfl bb__law_web ?_
  intro f cdv A outer s H E c tk po
  · refine (pdss_cons ?_ ?_)
    · refine (pds_set 1 ?_ c.nd)
      · refine (pd_bin o_add (PD.t pd_int) ?_)
        · refine (PD.t ?_)
          · exact (pd_bin o_mod (PD.t (pd_var 0)) (PD.t pd_int))
    · refine (pdss_cons (pds_own 2 pad_nil c.nd) ?_)
      · refine (pdss_cons ?_ ?_)
        · refine (pds_for ?_ (pgf_name 3 c.nd) ?_ po c.calm)
          · exact (pdi_range1 rfl t.n_range (PD.t (pd_var 1)))
          · refine (pdss_one ?_)
            · refine (pds_for ?_ (pgf_name 4 c.nd) ?_ po c.calm)
              · refine (pdi_range2 rfl t.n_range ?_ ?_)
                · refine (PD.t ?_)
                  · exact (pd_bin o_add (PD.t (pd_var 3)) (PD.t pd_int))
                · exact (PD.t (pd_var 1))
              · refine (pdss_cons ?_ ?_)
                · refine (pds_set 5 ?_ c.nd)
                  · refine (pd_callD G__law_drawn c (by decide) (by exact rfl) rfl ?_)
                    · refine (pad_cons (pd_var 0) ?_)
                      · refine (pad_cons ?_ pad_nil)
                        · refine (pd_bin o_add ?_ ?_)
                          · refine (PD.t ?_)
                            · exact (pd_bin o_mulT (PD.t pd_int) (PD.t (pd_var 3)))
                          · exact (PD.t (pd_var 4))
                · refine (pdss_cons ?_ ?_)
                  · refine (pds_set 6 ?_ c.nd)
                    · refine (FL.pd_or ?_ ?_)
                      · refine (pd_cmp (o_eq c.hu) ?_ ?_)
                        · exact (PD.t (pd_var 4))
                        · refine (PD.t ?_)
                          · exact (pd_bin o_add (PD.t (pd_var 3)) (PD.t pd_int))
                      · refine (pd_one ?_)
                        · refine (FL.pd_and ?_ ?_)
                          · exact (pd_cmp (o_eq c.hu) (PD.t (pd_var 3)) (PD.t pd_int))
                          · refine (pd_one ?_)
                            · refine (pd_cmp (o_eq c.hu) ?_ ?_)
                              · exact (PD.t (pd_var 4))
                              · refine (PD.t ?_)
                                · exact (pd_bin o_sub (PD.t (pd_var 1)) (PD.t pd_int))
                  · refine (pdss_one ?_)
                    · refine (pds_if ?_ ?_ pdss_nil)
                      · refine (ptd_val ?_)
                        · refine (pd_idx ?_ ?_)
                          · refine (PD.t ?_)
                            · refine (pd_lst ?_)
                              · refine (pad_cons ?_ ?_)
                                · refine (pd_cmp (o_eq c.hu) ?_ (PD.t pd_int))
                                  · refine (PD.t ?_)
                                    · exact (pd_bin o_mod (PD.t (pd_var 5)) (PD.t pd_int))
                                · refine (pad_cons ?_ ?_)
                                  · refine (pd_cmp (o_eq c.hu) ?_ (PD.t pd_int))
                                    · refine (PD.t ?_)
                                      · exact (pd_bin o_mod (PD.t (pd_var 5)) (PD.t pd_int))
                                  · refine (pad_cons ?_ ?_)
                                    · refine (pd_cmp o_gt ?_ (PD.t pd_int))
                                      · refine (PD.t ?_)
                                        · exact (pd_bin o_mod (PD.t (pd_var 5)) (PD.t pd_int))
                                    · exact (pad_cons (pd_var 6) pad_nil)
                          · refine (PD.t ?_)
                            · refine (pd_bin o_mod ?_ (PD.t pd_int))
                              · refine (PD.t ?_)
                                · exact (pd_bin o_div (PD.t (pd_var 0)) (PD.t pd_int))
                      · refine (pdss_one ?_)
                        · refine (pds_app 2 ?_)
                          · refine (pd_tup ?_)
                            · exact (pad_cons (pd_var 3) (pad_cons (pd_var 4) pad_nil))
        · refine (pdss_frz 2 ?_)
          · refine (pdss_one ?_)
            · refine (pds_ret ?_)
              · refine (pd_tup ?_)
                · exact (pad_cons (pd_var 1) (pad_cons (pd_var 2) pad_nil))
abbrev s__law_lists : Stmt := topS 34
def t1__law_lists : FL.Env → Oc := (sSet 1 (mLst (mCons (mLst (mCons (mC (.int 0)) mNil)) mNil)))
def t2__law_lists : FL.Env → Oc := (sSet 3 (mLst mNil))
def t3__law_lists : FL.Env → Oc := (sSet 3 (mBin addD (mVar 3) (mLst (mCons (mBin addD (mVar 4) (mLst (mCons (mC (.int 0)) mNil))) (mCons (mBin addD (mVar 4) (mLst (mCons (mC (.int 1)) mNil))) mNil)))))
def b4__law_lists : FL.Env → Oc := t3__law_lists
def t4__law_lists : FL.Env → Oc := (sFor (fun ρ => ((mVar 1) ρ).bind itemsD) (.one 4) b4__law_lists)
def t5__law_lists : FL.Env → Oc := (sSet 1 (mVar 3))
def b7__law_lists : FL.Env → Oc := (fun ρ => (t2__law_lists ρ).seq (fun ρ => (t4__law_lists ρ).seq t5__law_lists))
def t6__law_lists : FL.Env → Oc := (sFor (fun ρ => ((mBin subD (mVar 0) (mC (.int 1))) ρ).bind rg1D) (.one 2) b7__law_lists)
def t7__law_lists : FL.Env → Oc := (sRet (mVar 1))
def m__law_lists : FL.Env → Oc := (fun ρ => (t1__law_lists ρ).seq (fun ρ => (t6__law_lists ρ).seq t7__law_lists))
def F__law_lists : List D → R D := runF 5 1 m__law_lists
theorem sc__law_lists : FnScope ["_law_many", "_law_found", "_law_j", "_law_longer", "_law_one"] ["_law_many"] (defScope s__law_lists) := ⟨rfl, rfl, rfl, by decide +kernel, rfl, by decide +kernel, by decide +kernel⟩
theorem bb__law_lists : ∀ (kV doc pm : Value) (an : Option Addr) (cdv ct : Value) (us : List Value), us.length = (["_law_many"] : List Str).length → bindArgs (PySem.W.fnOf "_law_lists" "_law_lists" (defArgs s__law_lists) (defBody s__law_lists) (defScope s__law_lists) .none kV doc pm an cdv ct) ⟨us, []⟩ = pure ((["_law_many"] : List Str).zip us) :=
  fun _ _ _ _ _ _ us hl => match us, hl with | [_], _ => rfl
theorem ok__law_lists (t : Tp K mg) : Def P w K mg base T "_law_lists" 1 ["_law_many"] F__law_lists := by
  show Def P w K mg base T "_law_lists" 1 ["_law_many"] (runF 5 1 m__law_lists)
  refine def_of (k := 0) (m := m__law_lists) t.f__law_lists sc__law_lists rfl rfl bb__law_lists ?_
  intro f cdv A outer s H E c tk po
  · refine (pdss_cons ?_ ?_)
    · refine (pds_set 1 ?_ c.nd)
      · refine (pd_lst ?_)
        · exact (pad_cons (pd_lst (pad_cons pd_int pad_nil)) pad_nil)
    · refine (pdss_cons ?_ ?_)
      · refine (pds_for ?_ (pgf_name 2 c.nd) ?_ po c.calm)
        · refine (pdi_range1 rfl t.n_range ?_)
          · refine (PD.t ?_)
            · exact (pd_bin o_sub (PD.t (pd_var 0)) (PD.t pd_int))
        · refine (pdss_cons ?_ ?_)
          · exact (pds_set 3 (pd_lst pad_nil) c.nd)
          · refine (pdss_cons ?_ ?_)
            · refine (pds_for ?_ (pgf_name 4 c.nd) ?_ po c.calm)
              · exact (pdi_seq (pd_var 1))
              · refine (pdss_one ?_)
                · refine (pds_set 3 ?_ c.nd)
                  · refine (pd_bin o_add ?_ ?_)
                    · exact (PD.t (pd_var 3))
                    · refine (PD.t ?_)
                      · refine (pd_lst ?_)
                        · refine (pad_cons ?_ ?_)
                          · refine (pd_bin o_add ?_ ?_)
                            · exact (PD.t (pd_var 4))
                            · exact (PD.t (pd_lst (pad_cons pd_int pad_nil)))
                          · refine (pad_cons ?_ pad_nil)
                            · refine (pd_bin o_add ?_ ?_)
                              · exact (PD.t (pd_var 4))
                              · exact (PD.t (pd_lst (pad_cons pd_int pad_nil)))
            · exact (pdss_one (pds_set 1 (pd_var 3) c.nd))
      · exact (pdss_one (pds_ret (pd_var 1)))
abbrev s__law_bad : Stmt := topS 35
def m__law_bad : FL.Env → Oc := (sRet (mUn lenD (mLc (fun ρ => ((mVar 0) ρ).bind itemsD) (.many [2, 3]) (mB (mBin (eqD false) (mBin idxD (mVar 1) (mVar 2)) (mBin idxD (mVar 1) (mVar 3)))) (mVar 2) [2, 3])))
def F__law_bad : List D → R D := runF 4 2 m__law_bad
theorem sc__law_bad : FnScope ["_law_lines", "_law_halves", "_law_one", "_law_other"] ["_law_lines", "_law_halves"] (defScope s__law_bad) := ⟨rfl, rfl, rfl, by decide +kernel, rfl, by decide +kernel, by decide +kernel⟩
theorem bb__law_bad : ∀ (kV doc pm : Value) (an : Option Addr) (cdv ct : Value) (us : List Value), us.length = (["_law_lines", "_law_halves"] : List Str).length → bindArgs (PySem.W.fnOf "_law_bad" "_law_bad" (defArgs s__law_bad) (defBody s__law_bad) (defScope s__law_bad) .none kV doc pm an cdv ct) ⟨us, []⟩ = pure ((["_law_lines", "_law_halves"] : List Str).zip us) :=
  fun _ _ _ _ _ _ us hl => match us, hl with | [_, _], _ => rfl
theorem ok__law_bad (t : Tp K mg) : Def P w K mg base T "_law_bad" 1 ["_law_lines", "_law_halves"] F__law_bad := by
  show Def P w K mg base T "_law_bad" 1 ["_law_lines", "_law_halves"] (runF 4 2 m__law_bad)
  refine def_of (k := 0) (m := m__law_bad) t.f__law_bad sc__law_bad rfl rfl bb__law_bad ?_
  intro f cdv A outer s H E c tk po
  · refine (pdss_one ?_)
    · refine (pds_ret ?_)
      · refine (pd_b1 c_len rfl t.n_len bt_len ?_)
        · refine (PD.t ?_)
          · refine (pd_lc (own := [("_law_one", 2), ("_law_other", 3)]) (t := (.many [2, 3])) (mt := (mB (mBin (eqD false) (mBin idxD (mVar 1) (mVar 2)) (mBin idxD (mVar 1) (mVar 3))))) (me := (mVar 2)) c.calm c.nd ?_ (blkOk_by (by kernel_rfl)) (by decide) ?_ ?_ ?_)
            · exact (PDI.t (pdi_seq (pd_var 0)))
            · exact fun _ _ _ _ _ => (pgd_tup (pgsd_cons 2 (pgsd_cons 3 pgsd_nil (Cg.blk c _ _ _ _ _).nd) (Cg.blk c _ _ _ _ _).nd) (Cg.blk c _ _ _ _ _).calm)
            · intro _ _ _ _ _
              refine (pts1 ?_)
              · refine (ptd_cmp (o_eq (Cg.blk c _ _ _ _ _).hu) ?_ ?_)
                · refine (PD.t ?_)
                  · exact (pd_idx (PD.t (pd_var 1)) (PD.t (pd_var 2)))
                · refine (PD.t ?_)
                  · exact (pd_idx (PD.t (pd_var 1)) (PD.t (pd_var 3)))
            · exact fun _ _ _ _ _ => (pd_var 2)
abbrev s__law_choices : Stmt := topS 36
def t1__law_choices : FL.Env → Oc := (sSet 2 (mLst (mCons (mLst mNil) mNil)))
def t2__law_choices : FL.Env → Oc := (sSet 2 (mBin addD (mVar 2) (mLc (fun ρ => ((mVar 2) ρ).bind itemsD) (.one 4) mYes (mBin addD (mVar 4) (mLst (mCons (mVar 3) mNil))) [4])))
def b3__law_choices : FL.Env → Oc := t2__law_choices
def t3__law_choices : FL.Env → Oc := (sFor (fun ρ => ((mVar 0) ρ).bind rg1D) (.one 3) b3__law_choices)
def t4__law_choices : FL.Env → Oc := (sRet (mLc (fun ρ => ((mVar 2) ρ).bind itemsD) (.one 4) (mB (mBin (eqD false) (mUn lenD (mVar 4)) (mVar 1))) (mVar 4) [4]))
def m__law_choices : FL.Env → Oc := (fun ρ => (t1__law_choices ρ).seq (fun ρ => (t3__law_choices ρ).seq t4__law_choices))
def F__law_choices : List D → R D := runF 5 2 m__law_choices
theorem sc__law_choices : FnScope ["_law_many", "_law_here", "_law_found", "_law_node", "_law_one"] ["_law_many", "_law_here"] (defScope s__law_choices) := ⟨rfl, rfl, rfl, by decide +kernel, rfl, by decide +kernel, by decide +kernel⟩
theorem bb__law_choices : ∀ (kV doc pm : Value) (an : Option Addr) (cdv ct : Value) (us : List Value), us.length = (["_law_many", "_law_here"] : List Str).length → bindArgs (PySem.W.fnOf "_law_choices" "_law_choices" (defArgs s__law_choices) (defBody s__law_choices) (defScope s__law_choices) .none kV doc pm an cdv ct) ⟨us, []⟩ = pure ((["_law_many", "_law_here"] : List Str).zip us) :=
  fun _ _ _ _ _ _ us hl => match us, hl with | [_, _], _ => rfl
theorem ok__law_choices (t : Tp K mg) : Def P w K mg base T "_law_choices" 1 ["_law_many", "_law_here"] F__law_choices := by
  show Def P w K mg base T "_law_choices" 1 ["_law_many", "_law_here"] (runF 5 2 m__law_choices)
  refine def_of (k := 0) (m := m__law_choices) t.f__law_choices sc__law_choices rfl rfl bb__law_choices ?_
  intro f cdv A outer s H E c tk po
  · refine (pdss_cons ?_ ?_)
    · refine (pds_set 2 ?_ c.nd)
      · exact (pd_lst (pad_cons (pd_lst pad_nil) pad_nil))
    · refine (pdss_cons ?_ ?_)
      · refine (pds_for ?_ (pgf_name 3 c.nd) ?_ po c.calm)
        · exact (pdi_range1 rfl t.n_range (PD.t (pd_var 0)))
        · refine (pdss_one ?_)
          · refine (pds_set 2 ?_ c.nd)
            · refine (pd_bin o_add ?_ ?_)
              · exact (PD.t (pd_var 2))
              · refine (PD.t ?_)
                · refine (pd_lc (own := [("_law_one", 4)]) (t := (.one 4)) (mt := mYes) (me := (mBin addD (mVar 4) (mLst (mCons (mVar 3) mNil)))) c.calm c.nd ?_ (blkOk_by (by kernel_rfl)) (by decide) ?_ ?_ ?_)
                  · exact (PDI.t (pdi_seq (pd_var 2)))
                  · exact fun _ _ _ _ _ => (pgd_name 4 (Cg.blk c _ _ _ _ _).nd)
                  · exact fun _ _ _ _ _ => pts0
                  · intro _ _ _ _ _
                    refine (pd_bin o_add ?_ ?_)
                    · exact (PD.t (pd_var 4))
                    · refine (PD.t ?_)
                      · exact (pd_lst (pad_cons (pd_var 3) pad_nil))
      · refine (pdss_one ?_)
        · refine (pds_ret ?_)
          · refine (pd_lc (own := [("_law_one", 4)]) (t := (.one 4)) (mt := (mB (mBin (eqD false) (mUn lenD (mVar 4)) (mVar 1)))) (me := (mVar 4)) c.calm c.nd ?_ (blkOk_by (by kernel_rfl)) (by decide) ?_ ?_ ?_)
            · exact (PDI.t (pdi_seq (pd_var 2)))
            · exact fun _ _ _ _ _ => (pgd_name 4 (Cg.blk c _ _ _ _ _).nd)
            · intro _ _ _ _ _
              refine (pts1 ?_)
              · refine (ptd_cmp (o_eq (Cg.blk c _ _ _ _ _).hu) ?_ ?_)
                · refine (PD.t ?_)
                  · exact (pd_b1 c_len rfl t.n_len bt_len (PD.t (pd_var 4)))
                · exact (PD.t (pd_var 1))
            · exact fun _ _ _ _ _ => (pd_var 4)
abbrev s__law_is_so : Stmt := topS 37
def t1__law_is_so : FL.Env → Oc := (sSet 2 (mLc (fun ρ => ((mVar 0) ρ).bind itemsD) (.one 4) (mAnd (mB (mBin (inD false) (mBin idxD (mVar 4) (mC (.int 0))) (mVar 1))) (mB (mBin (inD false) (mBin idxD (mVar 4) (mC (.int 1))) (mVar 1)))) (mVar 4) [4]))
def t2__law_is_so : FL.Env → Oc := (sRet (mC (.bl true)))
def t3__law_is_so : FL.Env → Oc := (sIf (mB (mBin (eqD false) (mVar 1) (mLst mNil))) t2__law_is_so Oc.nx)
def t4__law_is_so : FL.Env → Oc := (sRet (mC (.bl true)))
def t5__law_is_so : FL.Env → Oc := (sIf (mNot (mB (mUn anyD (mLc (fun ρ => ((mVar 2) ρ).bind itemsD) (.many [5, 6]) mYes (mBin (eqD false) (mBin idxD (mVar 3) (mLix (mVar 1) (mVar 5))) (mBin idxD (mVar 3) (mLix (mVar 1) (mVar 6)))) [5, 6])))) t4__law_is_so Oc.nx)
def b6__law_is_so : FL.Env → Oc := t5__law_is_so
def t6__law_is_so : FL.Env → Oc := (sFor (fun ρ => ((mCall 1 F__law_lists (mCons (mUn lenD (mVar 1)) mNil)) ρ).bind itemsD) (.one 3) b6__law_is_so)
def t7__law_is_so : FL.Env → Oc := (sRet (mC (.bl false)))
def m__law_is_so : FL.Env → Oc := (fun ρ => (t1__law_is_so ρ).seq (fun ρ => (t3__law_is_so ρ).seq (fun ρ => (t6__law_is_so ρ).seq t7__law_is_so)))
def F__law_is_so : List D → R D := runF 7 2 m__law_is_so
theorem sc__law_is_so : FnScope ["_law_lines", "_law_nodes", "_law_row", "_law_halves", "_law_line", "_law_one", "_law_other"] ["_law_lines", "_law_nodes"] (defScope s__law_is_so) := ⟨rfl, rfl, rfl, by decide +kernel, rfl, by decide +kernel, by decide +kernel⟩
theorem bb__law_is_so : ∀ (kV doc pm : Value) (an : Option Addr) (cdv ct : Value) (us : List Value), us.length = (["_law_lines", "_law_nodes"] : List Str).length → bindArgs (PySem.W.fnOf "_law_is_so" "_law_is_so" (defArgs s__law_is_so) (defBody s__law_is_so) (defScope s__law_is_so) .none kV doc pm an cdv ct) ⟨us, []⟩ = pure ((["_law_lines", "_law_nodes"] : List Str).zip us) :=
  fun _ _ _ _ _ _ us hl => match us, hl with | [_, _], _ => rfl
theorem ok__law_is_so (t : Tp K mg) : Def P w K mg base T "_law_is_so" 2 ["_law_lines", "_law_nodes"] F__law_is_so := by
  have G__law_lists := ok__law_lists (P := P) (w := w) (base := base) (T := T) t
  show Def P w K mg base T "_law_is_so" 2 ["_law_lines", "_law_nodes"] (runF 7 2 m__law_is_so)
  refine def_of (k := 1) (m := m__law_is_so) t.f__law_is_so sc__law_is_so rfl rfl bb__law_is_so ?_
  intro f cdv A outer s H E c tk po
  · refine (pdss_cons ?_ ?_)
    · refine (pds_setLc 2 (own := [("_law_line", 4)]) (t := (.one 4)) (mt := (mAnd (mB (mBin (inD false) (mBin idxD (mVar 4) (mC (.int 0))) (mVar 1))) (mB (mBin (inD false) (mBin idxD (mVar 4) (mC (.int 1))) (mVar 1))))) (me := (mVar 4)) c.calm c.nd ?_ (blkOk_by (by kernel_rfl)) (by decide) ?_ ?_ ?_)
      · exact (PDI.t (pdi_seq (pd_var 0)))
      · exact fun _ _ _ _ _ => (pgd_name 4 (Cg.blk c _ _ _ _ _).nd)
      · intro _ _ _ _ _
        refine (pts1 ?_)
        · refine (PWD.p ?_)
          · refine (pwd_and ?_ ?_)
            · refine (ptd_cmp (o_in (Cg.blk c _ _ _ _ _).hu5) ?_ ?_)
              · refine (PD.t ?_)
                · exact (pd_idx (PD.t (pd_var 4)) (PD.t pd_int))
              · exact (PD.t (pd_var 1))
            · refine (pwd_and1 ?_)
              · refine (ptd_cmp (o_in (Cg.blk c _ _ _ _ _).hu5) ?_ ?_)
                · refine (PD.t ?_)
                  · exact (pd_idx (PD.t (pd_var 4)) (PD.t pd_int))
                · exact (PD.t (pd_var 1))
      · exact fun _ _ _ _ _ => (pd_var 4)
    · refine (pdss_cons ?_ ?_)
      · refine (pds_if ?_ ?_ pdss_nil)
        · exact (ptd_cmp (o_eq c.hu) (PD.t (pd_var 1)) (PD.t (pd_lst pad_nil)))
        · exact (pdss_one (pds_ret pd_bl))
      · refine (pdss_cons ?_ ?_)
        · refine (pds_for ?_ (pgf_name 3 c.nd) ?_ po c.calm)
          · refine (pdi_seq ?_)
            · refine (pd_callD G__law_lists c (by decide) (by exact rfl) rfl ?_)
              · refine (pad_cons ?_ pad_nil)
                · exact (pd_b1 c_len rfl t.n_len bt_len (PD.t (pd_var 1)))
          · refine (pdss_one ?_)
            · refine (pds_if ?_ ?_ pdss_nil)
              · refine (ptd_not ?_)
                · refine (ptd_val ?_)
                  · refine (pd_b1 (c_any c.calm) rfl t.n_any bt_any ?_)
                    · refine (PD.t ?_)
                      · refine (pd_lc (own := [("_law_one", 5), ("_law_other", 6)]) (t := (.many [5, 6])) (mt := mYes) (me := (mBin (eqD false) (mBin idxD (mVar 3) (mLix (mVar 1) (mVar 5))) (mBin idxD (mVar 3) (mLix (mVar 1) (mVar 6))))) c.calm c.nd ?_ (blkOk_by (by kernel_rfl)) (by decide) ?_ ?_ ?_)
                        · exact (PDI.t (pdi_seq (pd_var 2)))
                        · exact fun _ _ _ _ _ => (pgd_tup (pgsd_cons 5 (pgsd_cons 6 pgsd_nil (Cg.blk c _ _ _ _ _).nd) (Cg.blk c _ _ _ _ _).nd) (Cg.blk c _ _ _ _ _).calm)
                        · exact fun _ _ _ _ _ => pts0
                        · intro _ _ _ _ _
                          refine (pd_cmp (o_eq (Cg.blk c _ _ _ _ _).hu) ?_ ?_)
                          · refine (PD.t ?_)
                            · refine (pd_idx ?_ ?_)
                              · exact (PD.t (pd_var 3))
                              · refine (PD.t ?_)
                                · exact (pd_lix (Cg.blk c _ _ _ _ _).hu5 (PD.t (pd_var 1)) (PD.t (pd_var 5)))
                          · refine (PD.t ?_)
                            · refine (pd_idx ?_ ?_)
                              · exact (PD.t (pd_var 3))
                              · refine (PD.t ?_)
                                · exact (pd_lix (Cg.blk c _ _ _ _ _).hu5 (PD.t (pd_var 1)) (PD.t (pd_var 6)))
              · exact (pdss_one (pds_ret pd_bl))
        · exact (pdss_one (pds_ret pd_bl))
abbrev s_law : Stmt := topS 38
def t1_law : FL.Env → Oc := (sSet 2 (mCall 2 F__law_drawn (mCons (mCall 2 F__law_cell (mCons (mVar 0) (mCons (mVar 1) mNil))) (mCons (mVar 1) mNil))))
def t2_law : FL.Env → Oc := (sSet 3 (mCall 1 F__law_web (mCons (mVar 2) mNil)))
def t3_law : FL.Env → Oc := (sAsg (.many [10, 11]) (mVar 3))
def t4_law : FL.Env → Oc := (sSet 4 (mUn lstD (mVar 11)))
def t5_law : FL.Env → Oc := (sSet 5 (mCall 1 F__law_lists (mCons (mVar 10) mNil)))
def t6_law : FL.Env → Oc := (sSet 6 (mLc (fun ρ => ((mVar 5) ρ).bind itemsD) (.one 15) mYes (mCall 2 F__law_bad (mCons (mVar 11) (mCons (mVar 15) mNil))) [15]))
def t7_law : FL.Env → Oc := (sRet (mC (.bl false)))
def t8_law : FL.Env → Oc := (sIf (mB (mBin (eqD true) (mTold csW gW (mCall 1 F_far_halves (mCons (mVar 3) mNil))) (mUn minLD (mVar 6)))) t7_law Oc.nx)
def t9_law : FL.Env → Oc := (sRet (mC (.bl false)))
def t10_law : FL.Env → Oc := (sIf (mB (mBin (eqD true) (mTold csW gW (mCall 1 F_halves_of (mCons (mVar 3) mNil))) (mBin idxD (mVar 5) (mLix (mVar 6) (mUn minLD (mVar 6)))))) t9_law Oc.nx)
def t11_law : FL.Env → Oc := (sSet 7 (mLc (fun ρ => ((mBin addD (mVar 10) (mC (.int 1))) ρ).bind rg1D) (.one 12) mYes (mTold csW gW (mCall 2 F_by_nodes (mCons (mVar 3) (mCons (mVar 12) mNil)))) [12]))
def t12_law : FL.Env → Oc := (sRet (mC (.bl false)))
def t13_law : FL.Env → Oc := (sIf (mB (mBin (eqD true) (mUn lstD (mVar 11)) (mVar 4))) t12_law Oc.nx)
def t14_law : FL.Env → Oc := (sSet 14 (mCall 2 F__law_choices (mCons (mVar 10) (mCons (mVar 12) mNil))))
def t15_law : FL.Env → Oc := (sRet (mC (.bl false)))
def t16_law : FL.Env → Oc := (sIf (mB (mBin (eqD true) (mVar 13) (mCall 2 F__law_made (mCons (mUn lenD (mLc (fun ρ => ((mVar 14) ρ).bind itemsD) (.one 17) (mNot (mB (mCall 2 F__law_is_so (mCons (mVar 11) (mCons (mVar 17) mNil))))) (mVar 17) [17])) (mCons (mUn lenD (mVar 14)) mNil))))) t15_law Oc.nx)
def t17_law : FL.Env → Oc := (sRet (mC (.bl false)))
def t18_law : FL.Env → Oc := (sIf (mAnd (mB (mBin gtD (mVar 12) (mC (.int 0)))) (mB (mCall 2 F__law_less (mCons (mVar 13) (mCons (mBin idxD (mVar 7) (mBin subD (mVar 12) (mC (.int 1)))) mNil))))) t17_law Oc.nx)
def b19_law : FL.Env → Oc := (fun ρ => (t14_law ρ).seq (fun ρ => (t16_law ρ).seq t18_law))
def t19_law : FL.Env → Oc := (sFor (fun ρ => ((mVar 7) ρ).bind enumD) (.many [12, 13]) b19_law)
def t20_law : FL.Env → Oc := (sSet 8 (mLst (mCons (mTup (mCons (mC (.int 0)) (mCons (mLst mNil) mNil))) (mCons (mTup (mCons (mC (.int 11)) (mCons (mLst mNil) mNil))) (mCons (mTup (mCons (mVar 10) (mCons (mLst (mCons (mTup (mCons (mC (.int 0)) (mCons (mC (.int 0)) mNil))) mNil)) mNil))) (mCons (mTup (mCons (mVar 10) (mCons (mLst (mCons (mTup (mCons (mC (.int 1)) (mCons (mC (.int 0)) mNil))) mNil)) mNil))) (mCons (mTup (mCons (mVar 10) (mCons (mLst (mCons (mTup (mCons (mC (.int 0)) (mCons (mVar 10) mNil))) mNil)) mNil))) mNil)))))))
def t21_law : FL.Env → Oc := (sSet 8 (mBin addD (mVar 8) (mLst (mCons (mTup (mCons (mVar 10) (mCons (mLst (mCons (mLst (mCons (mC (.int 0)) (mCons (mC (.int 1)) mNil))) mNil)) mNil))) (mCons (mTup (mCons (mVar 10) (mCons (mC .non) mNil))) mNil)))))
def t22_law : FL.Env → Oc := (sSet 8 (mBin addD (mVar 8) (mLst (mCons (mTup (mCons (mC (.int 8)) (mCons (mLst (mCons (mTup (mCons (mC (.int 0)) (mCons (mC (.int 1)) mNil))) (mCons (mTup (mCons (mC (.int 0)) (mCons (mC (.int 1)) mNil))) mNil))) mNil))) (mCons (mTup (mCons (mC (.int 8)) (mCons (mLst (mCons (mTup (mCons (mC (.int 1)) (mCons (mC (.int 2)) mNil))) (mCons (mTup (mCons (mC (.int 0)) (mCons (mC (.int 1)) mNil))) mNil))) mNil))) (mCons (mTup (mCons (mVar 10) (mCons (mLst (mCons (mTup (mCons (mC (.int 0)) (mCons (mC (.bl true)) mNil))) mNil)) mNil))) mNil))))))
def t23_law : FL.Env → Oc := (sSet 8 (mBin addD (mVar 8) (mLst (mCons (mTup (mCons (mC (.int 8)) (mCons (mLst (mCons (mTup (mCons (mC (.int 0)) (mCons (mC (.int 1)) (mCons (mC (.int 2)) mNil)))) mNil)) mNil))) (mCons (mTup (mCons (mVar 10) (mCons (mLst (mCons (mTup (mCons (mUn negD (mC (.int 1))) (mCons (mC (.int 0)) mNil))) mNil)) mNil))) mNil)))))
def t24_law : FL.Env → Oc := (sSet 9 (mBin idxD (mVar 8) (mBin modD (mBin divD (mVar 2) (mBin powD (mC (.int 2)) (mC (.int 20)))) (mC (.int 12)))))
def t25_law : FL.Env → Oc := (sRet (mC (.bl false)))
def t26_law : FL.Env → Oc := (sIf (mB (mBin (eqD true) (mLc (fun ρ => ((mLst (mCons (mC (.fn "far_halves")) (mCons (mC (.fn "halves_of")) mNil))) ρ).bind itemsD) (.one 16) mYes (mTold csW gW (mCallV 1 16 [("far_halves", F_far_halves), ("halves_of", F_halves_of)] (mCons (mVar 9) mNil))) [16]) (mLst (mCons (mC (.str "BadWeb")) (mCons (mC (.str "BadWeb")) mNil))))) t25_law Oc.nx)
def t27_law : FL.Env → Oc := (sRet (mC (.bl false)))
def t28_law : FL.Env → Oc := (sIf (mB (mBin (eqD true) (mTold csW gW (mCall 2 F_by_nodes (mCons (mVar 9) (mCons (mUn negD (mC (.int 1))) mNil)))) (mC (.str "BadWeb")))) t27_law Oc.nx)
def t29_law : FL.Env → Oc := (sRet (mC (.bl false)))
def t30_law : FL.Env → Oc := (sIf (mB (mBin (eqD true) (mLc (fun ρ => ((mLst (mCons (mUn negD (mC (.int 1))) (mCons (mBin addD (mVar 10) (mC (.int 1))) mNil))) ρ).bind itemsD) (.one 12) mYes (mTold csW gW (mCall 2 F_by_nodes (mCons (mVar 3) (mCons (mVar 12) mNil)))) [12]) (mLst (mCons (mC (.str "BadTest")) (mCons (mC (.str "BadTest")) mNil))))) t29_law Oc.nx)
def b32_law : FL.Env → Oc := (fun ρ => (t1_law ρ).seq (fun ρ => (t2_law ρ).seq (fun ρ => (t3_law ρ).seq (fun ρ => (t4_law ρ).seq (fun ρ => (t5_law ρ).seq (fun ρ => (t6_law ρ).seq (fun ρ => (t8_law ρ).seq (fun ρ => (t10_law ρ).seq (fun ρ => (t11_law ρ).seq (fun ρ => (t13_law ρ).seq (fun ρ => (t19_law ρ).seq (fun ρ => (t20_law ρ).seq (fun ρ => (t21_law ρ).seq (fun ρ => (t22_law ρ).seq (fun ρ => (t23_law ρ).seq (fun ρ => (t24_law ρ).seq (fun ρ => (t26_law ρ).seq (fun ρ => (t28_law ρ).seq t30_law))))))))))))))))))
def t31_law : FL.Env → Oc := (sFor (fun ρ => ((mBin max2D (mC (.int 1)) (mBin min2D (mC (.int 3)) (mUn lenD (mVar 0)))) ρ).bind rg1D) (.one 1) b32_law)
def t32_law : FL.Env → Oc := (sRet (mC (.bl true)))
def m_law : FL.Env → Oc := (fun ρ => (t31_law ρ).seq t32_law)
def F_law : List D → R D := runF 18 1 m_law
theorem sc_law : FnScope ["_law_script", "_law_k", "_law_more", "_law_web_here", "_law_kept", "_law_row", "_law_counts", "_law_shares", "_law_bad_here", "_law_odd", "_law_many", "_law_lines", "_law_here", "_law_found", "_law_some", "_law_halves", "_law_deed", "_law_nodes"] ["_law_script"] (defScope s_law) := ⟨rfl, rfl, rfl, by decide +kernel, rfl, by decide +kernel, by decide +kernel⟩
theorem bb_law : ∀ (kV doc pm : Value) (an : Option Addr) (cdv ct : Value) (us : List Value), us.length = (["_law_script"] : List Str).length → bindArgs (PySem.W.fnOf "law" "law" (defArgs s_law) (defBody s_law) (defScope s_law) .none kV doc pm an cdv ct) ⟨us, []⟩ = pure ((["_law_script"] : List Str).zip us) :=
  fun _ _ _ _ _ _ us hl => match us, hl with | [_], _ => rfl
theorem ok_law (t : Tp K mg) {fa : Addr} {fd : FuncData} (F : FunD K "law" "law" (defArgs s_law) (defBody s_law) (defScope s_law) [] [] fa fd) {c0 P0 : Addr} (hc0 : fd.code = .ref c0) (la : LamOk base mg T "law" c0 P0) : FnOk P w K mg base (L2N.CX P w) 8 fa fd ["_law_script"] (spD K mg T 1 F_law) := by
  have G__law_bad := ok__law_bad (P := P) (w := w) (base := base) (T := T) t
  have G__law_cell := ok__law_cell (P := P) (w := w) (base := base) (T := T) t
  have G__law_choices := ok__law_choices (P := P) (w := w) (base := base) (T := T) t
  have G__law_drawn := ok__law_drawn (P := P) (w := w) (base := base) (T := T) t
  have G__law_is_so := ok__law_is_so (P := P) (w := w) (base := base) (T := T) t
  have G__law_less := ok__law_less (P := P) (w := w) (base := base) (T := T) t
  have G__law_lists := ok__law_lists (P := P) (w := w) (base := base) (T := T) t
  have G__law_made := ok__law_made (P := P) (w := w) (base := base) (T := T) t
  have G__law_web := ok__law_web (P := P) (w := w) (base := base) (T := T) t
  have G_by_nodes := ok_by_nodes (P := P) (w := w) (base := base) (T := T) t
  have G_far_halves := ok_far_halves (P := P) (w := w) (base := base) (T := T) t
  have G_halves_of := ok_halves_of (P := P) (w := w) (base := base) (T := T) t
  have cand1 : Cands P w K mg base T 5 1 [("far_halves", F_far_halves), ("halves_of", F_halves_of)] := (cands_cons G_far_halves (by decide) rfl (cands_cons G_halves_of (by decide) rfl cands_nil))
  show FnOk P w K mg base (L2N.CX P w) 8 fa fd ["_law_script"] (spD K mg T 1 (runF 18 1 m_law))
  refine law_okC (k := 7) (m := m_law) F hc0 sc_law rfl rfl ?_
  intro A outer s H E c tk po
  · refine (pdss_cons ?_ ?_)
    · refine (pds_for ?_ (pgf_name 1 c.nd) ?_ po c.calm)
      · refine (pdi_range1 rfl t.n_range ?_)
        · refine (PD.t ?_)
          · refine (pd_b2 (c_max2 c.calm) rfl t.n_max bt_max (PD.t pd_int) ?_)
            · refine (PD.t ?_)
              · refine (pd_b2 (c_min2 c.calm) rfl t.n_min bt_min (PD.t pd_int) ?_)
                · refine (PD.t ?_)
                  · exact (pd_b1 c_len rfl t.n_len bt_len (PD.t (pd_var 0)))
      · refine (pdss_cons ?_ ?_)
        · refine (pds_set 2 ?_ c.nd)
          · refine (pd_callD G__law_drawn c (by decide) (by exact rfl) rfl ?_)
            · refine (pad_cons ?_ ?_)
              · refine (pd_callD G__law_cell c (by decide) (by exact rfl) rfl ?_)
                · exact (pad_cons (pd_var 0) (pad_cons (pd_var 1) pad_nil))
              · exact (pad_cons (pd_var 1) pad_nil)
        · refine (pdss_cons ?_ ?_)
          · refine (pds_set 3 ?_ c.nd)
            · exact (pd_callD G__law_web c (by decide) (by exact rfl) rfl (pad_cons (pd_var 2) pad_nil))
          · refine (pdss_cons ?_ ?_)
            · refine (pds_asg (pd_var 3) ?_)
              · exact (pgf_tup (pgsf_cons 10 (pgsf_cons 11 pgsf_nil c.nd) c.nd) c.calm)
            · refine (pdss_cons ?_ ?_)
              · refine (pds_set 4 ?_ c.nd)
                · exact (pd_t1 c_list rfl t.n_list bt_list (PD.t (pd_var 11)))
              · refine (pdss_cons ?_ ?_)
                · refine (pds_set 5 ?_ c.nd)
                  · exact (pd_callD G__law_lists c (by decide) (by exact rfl) rfl (pad_cons (pd_var 10) pad_nil))
                · refine (pdss_cons ?_ ?_)
                  · refine (pds_setLc 6 (own := [("_law_halves", 15)]) (t := (.one 15)) (mt := mYes) (me := (mCall 2 F__law_bad (mCons (mVar 11) (mCons (mVar 15) mNil)))) c.calm c.nd ?_ (blkOk_by (by kernel_rfl)) (by decide) ?_ ?_ ?_)
                    · exact (PDI.t (pdi_seq (pd_var 5)))
                    · exact fun _ _ _ _ _ => (pgd_name 15 (Cg.blk c _ _ _ _ _).nd)
                    · exact fun _ _ _ _ _ => pts0
                    · intro _ _ _ _ _
                      refine (pd_callD G__law_bad (Cg.blk c _ _ _ _ _) (by decide) (by exact rfl) rfl ?_)
                      · exact (pad_cons (pd_var 11) (pad_cons (pd_var 15) pad_nil))
                  · refine (pdss_cons ?_ ?_)
                    · refine (pds_if ?_ ?_ pdss_nil)
                      · refine (ptd_cmp (o_ne c.hu) ?_ ?_)
                        · refine (PD.t ?_)
                          · refine (pd_told (mb := (mCall 1 F_far_halves (mCons (mVar 3) mNil))) (st := s__law_told) t.f__law_told sc__law_told rfl bb__law_told (by first | exact Or.inl rfl | exact Or.inr (Or.inl rfl)) rfl rfl rfl (ok__law_word t) t.exw c (show 5 + 2 ≤ _ by decide) (by decide) (by exact rfl) la.tb rfl la.mem la.u (LamX.lamS_by (by kernel_rfl)) ?_)
                            · intro A2 outer2 s2 H2 E2 f2 c2 cg1
                              exact (pd_callD G_far_halves cg1 (by decide) (by exact rfl) rfl (pad_cons (pd_var 3) pad_nil))
                        · refine (PD.t ?_)
                          · exact (pd_b1 (c_min c.calm) rfl t.n_min bt_min (PD.t (pd_var 6)))
                      · exact (pdss_one (pds_ret pd_bl))
                    · refine (pdss_cons ?_ ?_)
                      · refine (pds_if ?_ ?_ pdss_nil)
                        · refine (ptd_cmp (o_ne c.hu) ?_ ?_)
                          · refine (PD.t ?_)
                            · refine (pd_told (mb := (mCall 1 F_halves_of (mCons (mVar 3) mNil))) (st := s__law_told) t.f__law_told sc__law_told rfl bb__law_told (by first | exact Or.inl rfl | exact Or.inr (Or.inl rfl)) rfl rfl rfl (ok__law_word t) t.exw c (show 5 + 2 ≤ _ by decide) (by decide) (by exact rfl) la.tb rfl la.mem la.u (LamX.lamS_by (by kernel_rfl)) ?_)
                              · intro A2 outer2 s2 H2 E2 f2 c2 cg2
                                exact (pd_callD G_halves_of cg2 (by decide) (by exact rfl) rfl (pad_cons (pd_var 3) pad_nil))
                          · refine (PD.t ?_)
                            · refine (pd_idx ?_ ?_)
                              · exact (PD.t (pd_var 5))
                              · refine (PD.t ?_)
                                · refine (pd_lix c.hu5 ?_ ?_)
                                  · exact (PD.t (pd_var 6))
                                  · refine (PD.t ?_)
                                    · exact (pd_b1 (c_min c.calm) rfl t.n_min bt_min (PD.t (pd_var 6)))
                        · exact (pdss_one (pds_ret pd_bl))
                      · refine (pdss_cons ?_ ?_)
                        · refine (pds_setLc 7 (own := [("_law_here", 12)]) (t := (.one 12)) (mt := mYes) (me := (mTold csW gW (mCall 2 F_by_nodes (mCons (mVar 3) (mCons (mVar 12) mNil))))) c.calm c.nd ?_ (blkOk_by (by kernel_rfl)) (by decide) ?_ ?_ ?_)
                          · refine (PDI.t ?_)
                            · refine (pdi_range1 rfl t.n_range ?_)
                              · refine (PD.t ?_)
                                · exact (pd_bin o_add (PD.t (pd_var 10)) (PD.t pd_int))
                          · exact fun _ _ _ _ _ => (pgd_name 12 (Cg.blk c _ _ _ _ _).nd)
                          · exact fun _ _ _ _ _ => pts0
                          · intro _ _ _ _ _
                            refine (pd_told (mb := (mCall 2 F_by_nodes (mCons (mVar 3) (mCons (mVar 12) mNil)))) (st := s__law_told) t.f__law_told sc__law_told rfl bb__law_told (by first | exact Or.inl rfl | exact Or.inr (Or.inl rfl)) rfl rfl rfl (ok__law_word t) t.exw (Cg.blk c _ _ _ _ _) (show 5 + 2 ≤ _ by decide) (by decide) (by exact rfl) la.tb rfl la.mem la.u (LamX.lamS_by (by kernel_rfl)) ?_)
                            · intro A2 outer2 s2 H2 E2 f2 c2 cg3
                              refine (pd_callD G_by_nodes cg3 (by decide) (by exact rfl) rfl ?_)
                              · exact (pad_cons (pd_var 3) (pad_cons (pd_var 12) pad_nil))
                        · refine (pdss_cons ?_ ?_)
                          · refine (pds_if ?_ ?_ pdss_nil)
                            · refine (ptd_cmp (o_ne c.hu) ?_ ?_)
                              · refine (PD.t ?_)
                                · exact (pd_t1 c_list rfl t.n_list bt_list (PD.t (pd_var 11)))
                              · exact (PD.t (pd_var 4))
                            · exact (pdss_one (pds_ret pd_bl))
                          · refine (pdss_cons ?_ ?_)
                            · refine (pds_for ?_ ?_ ?_ po c.calm)
                              · exact (pdi_enum rfl t.n_enumerate (pd_var 7))
                              · exact (pgf_tup (pgsf_cons 12 (pgsf_cons 13 pgsf_nil c.nd) c.nd) c.calm)
                              · refine (pdss_cons ?_ ?_)
                                · refine (pds_set 14 ?_ c.nd)
                                  · refine (pd_callD G__law_choices c (by decide) (by exact rfl) rfl ?_)
                                    · exact (pad_cons (pd_var 10) (pad_cons (pd_var 12) pad_nil))
                                · refine (pdss_cons ?_ ?_)
                                  · refine (pds_if ?_ ?_ pdss_nil)
                                    · refine (ptd_cmp (o_ne c.hu) ?_ ?_)
                                      · exact (PD.t (pd_var 13))
                                      · refine (PD.t ?_)
                                        · refine (pd_callD G__law_made c (by decide) (by exact rfl) rfl ?_)
                                          · refine (pad_cons ?_ ?_)
                                            · refine (pd_b1 c_len rfl t.n_len bt_len ?_)
                                              · refine (PD.t ?_)
                                                · refine (pd_lc (own := [("_law_nodes", 17)]) (t := (.one 17)) (mt := (mNot (mB (mCall 2 F__law_is_so (mCons (mVar 11) (mCons (mVar 17) mNil)))))) (me := (mVar 17)) c.calm c.nd ?_ (blkOk_by (by kernel_rfl)) (by decide) ?_ ?_ ?_)
                                                  · exact (PDI.t (pdi_seq (pd_var 14)))
                                                  · exact fun _ _ _ _ _ => (pgd_name 17 (Cg.blk c _ _ _ _ _).nd)
                                                  · intro _ _ _ _ _
                                                    refine (pts1 ?_)
                                                    · refine (ptd_not ?_)
                                                      · refine (ptd_val ?_)
                                                        · refine (pd_callD G__law_is_so (Cg.blk c _ _ _ _ _) (by decide) (by exact rfl) rfl ?_)
                                                          · exact (pad_cons (pd_var 11) (pad_cons (pd_var 17) pad_nil))
                                                  · exact fun _ _ _ _ _ => (pd_var 17)
                                            · refine (pad_cons ?_ pad_nil)
                                              · exact (pd_b1 c_len rfl t.n_len bt_len (PD.t (pd_var 14)))
                                    · exact (pdss_one (pds_ret pd_bl))
                                  · refine (pdss_one ?_)
                                    · refine (pds_if ?_ ?_ pdss_nil)
                                      · refine (PWD.p ?_)
                                        · refine (pwd_and ?_ ?_)
                                          · exact (ptd_cmp o_gt (PD.t (pd_var 12)) (PD.t pd_int))
                                          · refine (pwd_and1 ?_)
                                            · refine (ptd_val ?_)
                                              · refine (pd_callD G__law_less c (by decide) (by exact rfl) rfl ?_)
                                                · refine (pad_cons (pd_var 13) ?_)
                                                  · refine (pad_cons ?_ pad_nil)
                                                    · refine (pd_idx ?_ ?_)
                                                      · exact (PD.t (pd_var 7))
                                                      · refine (PD.t ?_)
                                                        · exact (pd_bin o_sub (PD.t (pd_var 12)) (PD.t pd_int))
                                      · exact (pdss_one (pds_ret pd_bl))
                            · refine (pdss_cons ?_ ?_)
                              · refine (pds_set 8 ?_ c.nd)
                                · refine (pd_lst ?_)
                                  · refine (pad_cons ?_ ?_)
                                    · refine (pd_tup ?_)
                                      · exact (pad_cons pd_int (pad_cons (pd_lst pad_nil) pad_nil))
                                    · refine (pad_cons ?_ ?_)
                                      · refine (pd_tup ?_)
                                        · exact (pad_cons pd_int (pad_cons (pd_lst pad_nil) pad_nil))
                                      · refine (pad_cons ?_ ?_)
                                        · refine (pd_tup ?_)
                                          · refine (pad_cons (pd_var 10) ?_)
                                            · refine (pad_cons ?_ pad_nil)
                                              · refine (pd_lst ?_)
                                                · refine (pad_cons ?_ pad_nil)
                                                  · exact (pd_tup (pad_cons pd_int (pad_cons pd_int pad_nil)))
                                        · refine (pad_cons ?_ ?_)
                                          · refine (pd_tup ?_)
                                            · refine (pad_cons (pd_var 10) ?_)
                                              · refine (pad_cons ?_ pad_nil)
                                                · refine (pd_lst ?_)
                                                  · refine (pad_cons ?_ pad_nil)
                                                    · exact (pd_tup (pad_cons pd_int (pad_cons pd_int pad_nil)))
                                          · refine (pad_cons ?_ pad_nil)
                                            · refine (pd_tup ?_)
                                              · refine (pad_cons (pd_var 10) ?_)
                                                · refine (pad_cons ?_ pad_nil)
                                                  · refine (pd_lst ?_)
                                                    · refine (pad_cons ?_ pad_nil)
                                                      · refine (pd_tup ?_)
                                                        · exact (pad_cons pd_int (pad_cons (pd_var 10) pad_nil))
                              · refine (pdss_cons ?_ ?_)
                                · refine (pds_set 8 ?_ c.nd)
                                  · refine (pd_bin o_add ?_ ?_)
                                    · exact (PD.t (pd_var 8))
                                    · refine (PD.t ?_)
                                      · refine (pd_lst ?_)
                                        · refine (pad_cons ?_ ?_)
                                          · refine (pd_tup ?_)
                                            · refine (pad_cons (pd_var 10) ?_)
                                              · refine (pad_cons ?_ pad_nil)
                                                · refine (pd_lst ?_)
                                                  · refine (pad_cons ?_ pad_nil)
                                                    · exact (pd_lst (pad_cons pd_int (pad_cons pd_int pad_nil)))
                                          · refine (pad_cons ?_ pad_nil)
                                            · exact (pd_tup (pad_cons (pd_var 10) (pad_cons pd_non pad_nil)))
                                · refine (pdss_cons ?_ ?_)
                                  · refine (pds_set 8 ?_ c.nd)
                                    · refine (pd_bin o_add ?_ ?_)
                                      · exact (PD.t (pd_var 8))
                                      · refine (PD.t ?_)
                                        · refine (pd_lst ?_)
                                          · refine (pad_cons ?_ ?_)
                                            · refine (pd_tup ?_)
                                              · refine (pad_cons pd_int ?_)
                                                · refine (pad_cons ?_ pad_nil)
                                                  · refine (pd_lst ?_)
                                                    · refine (pad_cons ?_ ?_)
                                                      · exact (pd_tup (pad_cons pd_int (pad_cons pd_int pad_nil)))
                                                      · refine (pad_cons ?_ pad_nil)
                                                        · exact (pd_tup (pad_cons pd_int (pad_cons pd_int pad_nil)))
                                            · refine (pad_cons ?_ ?_)
                                              · refine (pd_tup ?_)
                                                · refine (pad_cons pd_int ?_)
                                                  · refine (pad_cons ?_ pad_nil)
                                                    · refine (pd_lst ?_)
                                                      · refine (pad_cons ?_ ?_)
                                                        · exact (pd_tup (pad_cons pd_int (pad_cons pd_int pad_nil)))
                                                        · refine (pad_cons ?_ pad_nil)
                                                          · exact (pd_tup (pad_cons pd_int (pad_cons pd_int pad_nil)))
                                              · refine (pad_cons ?_ pad_nil)
                                                · refine (pd_tup ?_)
                                                  · refine (pad_cons (pd_var 10) ?_)
                                                    · refine (pad_cons ?_ pad_nil)
                                                      · refine (pd_lst ?_)
                                                        · refine (pad_cons ?_ pad_nil)
                                                          · exact (pd_tup (pad_cons pd_int (pad_cons pd_bl pad_nil)))
                                  · refine (pdss_cons ?_ ?_)
                                    · refine (pds_set 8 ?_ c.nd)
                                      · refine (pd_bin o_add ?_ ?_)
                                        · exact (PD.t (pd_var 8))
                                        · refine (PD.t ?_)
                                          · refine (pd_lst ?_)
                                            · refine (pad_cons ?_ ?_)
                                              · refine (pd_tup ?_)
                                                · refine (pad_cons pd_int ?_)
                                                  · refine (pad_cons ?_ pad_nil)
                                                    · refine (pd_lst ?_)
                                                      · refine (pad_cons ?_ pad_nil)
                                                        · refine (pd_tup ?_)
                                                          · exact (pad_cons pd_int (pad_cons pd_int (pad_cons pd_int pad_nil)))
                                              · refine (pad_cons ?_ pad_nil)
                                                · refine (pd_tup ?_)
                                                  · refine (pad_cons (pd_var 10) ?_)
                                                    · refine (pad_cons ?_ pad_nil)
                                                      · refine (pd_lst ?_)
                                                        · refine (pad_cons ?_ pad_nil)
                                                          · refine (pd_tup ?_)
                                                            · exact (pad_cons (pd_neg (PD.t pd_int)) (pad_cons pd_int pad_nil))
                                    · refine (pdss_cons ?_ ?_)
                                      · refine (pds_set 9 ?_ c.nd)
                                        · refine (pd_idx ?_ ?_)
                                          · exact (PD.t (pd_var 8))
                                          · refine (PD.t ?_)
                                            · refine (pd_bin o_mod ?_ (PD.t pd_int))
                                              · refine (PD.t ?_)
                                                · refine (pd_bin o_div ?_ ?_)
                                                  · exact (PD.t (pd_var 2))
                                                  · exact (PD.t (pd_bin o_pow (PD.t pd_int) (PD.t pd_int)))
                                      · refine (pdss_cons ?_ ?_)
                                        · refine (pds_if ?_ ?_ pdss_nil)
                                          · refine (ptd_cmp (o_ne c.hu) ?_ ?_)
                                            · refine (PD.t ?_)
                                              · refine (pd_lc (own := [("_law_deed", 16)]) (t := (.one 16)) (mt := mYes) (me := (mTold csW gW (mCallV 1 16 [("far_halves", F_far_halves), ("halves_of", F_halves_of)] (mCons (mVar 9) mNil)))) c.calm c.nd ?_ (blkOk_by (by kernel_rfl)) (by decide) ?_ ?_ ?_)
                                                · refine (PDI.t ?_)
                                                  · refine (pdi_seq ?_)
                                                    · refine (pd_lst ?_)
                                                      · exact (pad_cons (pd_fnD G_far_halves (by exact rfl)) (pad_cons (pd_fnD G_halves_of (by exact rfl)) pad_nil))
                                                · exact fun _ _ _ _ _ => (pgd_name 16 (Cg.blk c _ _ _ _ _).nd)
                                                · exact fun _ _ _ _ _ => pts0
                                                · intro _ _ _ _ _
                                                  refine (pd_told (mb := (mCallV 1 16 [("far_halves", F_far_halves), ("halves_of", F_halves_of)] (mCons (mVar 9) mNil))) (st := s__law_told) t.f__law_told sc__law_told rfl bb__law_told (by first | exact Or.inl rfl | exact Or.inr (Or.inl rfl)) rfl rfl rfl (ok__law_word t) t.exw (Cg.blk c _ _ _ _ _) (show 5 + 2 ≤ _ by decide) (by decide) (by exact rfl) la.tb rfl la.mem la.u (LamX.lamS_by (by kernel_rfl)) ?_)
                                                  · intro A2 outer2 s2 H2 E2 f2 c2 cg4
                                                    exact (pd_callV (n := 1) (cands := [("far_halves", F_far_halves), ("halves_of", F_halves_of)]) 16 (cands_le cand1 (by decide)) cg4 (pad_cons (pd_var 9) pad_nil))
                                            · refine (PD.t ?_)
                                              · exact (pd_lst (pad_cons pd_str (pad_cons pd_str pad_nil)))
                                          · exact (pdss_one (pds_ret pd_bl))
                                        · refine (pdss_cons ?_ ?_)
                                          · refine (pds_if ?_ ?_ pdss_nil)
                                            · refine (ptd_cmp (o_ne c.hu) ?_ (PD.t pd_str))
                                              · refine (PD.t ?_)
                                                · refine (pd_told (mb := (mCall 2 F_by_nodes (mCons (mVar 9) (mCons (mUn negD (mC (.int 1))) mNil)))) (st := s__law_told) t.f__law_told sc__law_told rfl bb__law_told (by first | exact Or.inl rfl | exact Or.inr (Or.inl rfl)) rfl rfl rfl (ok__law_word t) t.exw c (show 5 + 2 ≤ _ by decide) (by decide) (by exact rfl) la.tb rfl la.mem la.u (LamX.lamS_by (by kernel_rfl)) ?_)
                                                  · intro A2 outer2 s2 H2 E2 f2 c2 cg5
                                                    refine (pd_callD G_by_nodes cg5 (by decide) (by exact rfl) rfl ?_)
                                                    · refine (pad_cons (pd_var 9) ?_)
                                                      · exact (pad_cons (pd_neg (PD.t pd_int)) pad_nil)
                                            · exact (pdss_one (pds_ret pd_bl))
                                          · refine (pdss_one ?_)
                                            · refine (pds_if ?_ ?_ pdss_nil)
                                              · refine (ptd_cmp (o_ne c.hu) ?_ ?_)
                                                · refine (PD.t ?_)
                                                  · refine (pd_lc (own := [("_law_here", 12)]) (t := (.one 12)) (mt := mYes) (me := (mTold csW gW (mCall 2 F_by_nodes (mCons (mVar 3) (mCons (mVar 12) mNil))))) c.calm c.nd ?_ (blkOk_by (by kernel_rfl)) (by decide) ?_ ?_ ?_)
                                                    · refine (PDI.t ?_)
                                                      · refine (pdi_seq ?_)
                                                        · refine (pd_lst ?_)
                                                          · refine (pad_cons ?_ ?_)
                                                            · exact (pd_neg (PD.t pd_int))
                                                            · refine (pad_cons ?_ pad_nil)
                                                              · exact (pd_bin o_add (PD.t (pd_var 10)) (PD.t pd_int))
                                                    · exact fun _ _ _ _ _ => (pgd_name 12 (Cg.blk c _ _ _ _ _).nd)
                                                    · exact fun _ _ _ _ _ => pts0
                                                    · intro _ _ _ _ _
                                                      refine (pd_told (mb := (mCall 2 F_by_nodes (mCons (mVar 3) (mCons (mVar 12) mNil)))) (st := s__law_told) t.f__law_told sc__law_told rfl bb__law_told (by first | exact Or.inl rfl | exact Or.inr (Or.inl rfl)) rfl rfl rfl (ok__law_word t) t.exw (Cg.blk c _ _ _ _ _) (show 5 + 2 ≤ _ by decide) (by decide) (by exact rfl) la.tb rfl la.mem la.u (LamX.lamS_by (by kernel_rfl)) ?_)
                                                      · intro A2 outer2 s2 H2 E2 f2 c2 cg6
                                                        refine (pd_callD G_by_nodes cg6 (by decide) (by exact rfl) rfl ?_)
                                                        · exact (pad_cons (pd_var 3) (pad_cons (pd_var 12) pad_nil))
                                                · refine (PD.t ?_)
                                                  · exact (pd_lst (pad_cons pd_str (pad_cons pd_str pad_nil)))
                                              · exact (pdss_one (pds_ret pd_bl))
    · exact (pdss_one (pds_ret pd_bl))
end
end FL
set_option maxHeartbeats 4000000
namespace FL
open PySem PySem.Spec PyProof.Rows L2
local macro_rules | `(tactic| simp_arith only [$ls,*]) => `(tactic| simp only [R.bind_ok, R.bind_er, R.bind_no, R.out_ok, R.out_er, R.out_no, R.strict_ok, R.strict_er, R.strict_no, Oc.seq_nx, Oc.seq_rt, Oc.seq_er, Oc.seq_no, Oc.loop_nx, Oc.loop_rt, sIf, sRet, sSet, sAsg, sDrop, mVar_0, mVarT_0, mVarO_0, mVar_1, mVarT_1, mVarO_1, mVar_2, mVarT_2, mVarO_2, mVar_3, mVarT_3, mVarO_3, mVar_4, mVarT_4, mVarO_4, mVar_5, mVarT_5, mVarO_5, mVar_6, mVarT_6, mVarO_6, mVar_7, mVarT_7, mVarO_7, mVar_8, mVarT_8, mVarO_8, mVar_9, mVarT_9, mVarO_9, mVar_10, mVarT_10, mVarO_10, mVar_11, mVarT_11, mVarO_11, mVar_12, mVarT_12, mVarO_12, mVar_13, mVarT_13, mVarO_13, mVar_14, mVarT_14, mVarO_14, mVar_15, mVarT_15, mVarO_15, mVar_16, mVarT_16, mVarO_16, mVar_17, mVarT_17, mVarO_17, mVar_18, mVarT_18, mVarO_18, mVar_19, mVarT_19, mVarO_19, mVar_20, mVarT_20, mVarO_20, mVar_21, mVarT_21, mVarO_21, mVar_22, mVarT_22, mVarO_22, mVar_23, mVarT_23, mVarO_23, mVar_24, mVarT_24, mVarO_24, mC, mNil, mCons, mTup, mLst, mBin, mUn, mCall, mB, asB_bl, mNot, mAnd, mOr, vB, mIf, mIsN, isN, mYes, mChain, Tg.oc, Tg.put, setAll, List.getElem?_cons_zero, List.getElem?_cons_succ, List.set_cons_zero, List.set_cons_succ, List.map_cons, List.map_nil, List.length_cons, List.length_nil, List.replicate_succ, List.replicate_zero, List.cons_append, List.nil_append, List.append_nil, Nat.reduceAdd, Nat.reduceSub, Nat.succ_eq_add_one, if_true, if_false, ite_true, ite_false, Bool.false_eq_true, Bool.not_true, Bool.not_false, Bool.xor_false, Bool.false_xor, Bool.true_xor, sz_0, sz_1, sz_2, sz_3, sz_4, sz_5, sz_6, sz_7, sz_8, sz_9, sz_10, sz_11, sz_12, sz_13, sz_14, sz_15, sz_16, sz_17, sz_18, sz_19, sz_20, sz_21, sz_22, sz_23, sz_24, sz_25, sz_26, sz_27, sz_28, sz_29, sz_30, sz_31, sz_32, sz_33, sz_34, sz_35, sz_36, sz_37, sz_38, sz_39, sz_40, ok_ite, bl_ite, and_ite, or_ite, Bool.or_false, Bool.false_or, Bool.true_or, Bool.or_true, Bool.and_true, Bool.true_and, Bool.and_false, Bool.false_and, lcTurn, wipeE, itemsD_lst, itemsD_tup, ↓reduceIte, reduceCtorEq, sApp, sExt, sOwn, sPar, ownAt, frzE, $ls,*])
theorem drawn_ok {c k : Int} (hc : Sm 2000000 c) (hk : Sm 2000000 k) : F__law_drawn [.int c, .int k] = .ok (.int (drawnI c k)) := by
  show runF 3 2 m__law_drawn [.int c, .int k] = _
  have k1 : Sm 2000001 (k + 1) := hk.add (Sm.lit (i := 1) (b := 1) (by decide) |>.up (by omega))
  have e1 : mulT (.int c) (.int 6364136223846793005) = _ := mulT_int hc (b := 64) (Sm.lit (by decide +kernel)) (by omega) (by omega) (by omega)
  have e2 : mulT (.int (k + 1)) (.int 1442695040888963407) = _ := mulT_int k1 (b := 64) (Sm.lit (by decide +kernel)) (by omega) (by omega) (by omega)
  have r1b : Sm 129 (dr1 c k) := by
    obtain ⟨h1, h2⟩ := fmod_rng (i := c * 6364136223846793005 + (k + 1) * 1442695040888963407) (j := 340282366920938463463374607431768211507) (by decide)
    exact .of h1 (Int.lt_trans h2 (by decide +kernel))
  obtain ⟨a1, a2⟩ := fmod_rng (i := dr1 c k * dr1 c k) (j := 340282366920938463463374607431768211297) (by decide)
  have r2b : Sm 129 (dr2 c k) := .of a1 (Int.lt_trans a2 (by decide +kernel))
  have b1 : Sm 66 ((dr2 c k).fmod 18446744073709551557 + 1) := by
    obtain ⟨h1, h2⟩ := fmod_rng (i := dr2 c k) (j := 18446744073709551557) (by decide)
    exact .of (by omega) (Int.lt_of_lt_of_le (Int.add_lt_add_right h2 1) (by decide +kernel))
  have b2 : Sm 130 (dr2 c k / 18446744073709551557 + 1) := by
    have q1 : 0 ≤ dr2 c k / 18446744073709551557 := Int.ediv_nonneg a1 (by decide)
    have q2 : dr2 c k / 18446744073709551557 ≤ dr2 c k := Int.ediv_le_self _ a1
    have a2 : dr2 c k < 340282366920938463463374607431768211297 := a2
    refine .of (by omega) (Int.lt_of_lt_of_le (b := 340282366920938463463374607431768211297 + 1) (by omega) (by decide +kernel))
  simp_arith only [runF, m__law_drawn, addD_int, e1, e2, modD_lit (j := 340282366920938463463374607431768211507) (by decide +kernel)]
  rw [show (c * 6364136223846793005 + (k + 1) * 1442695040888963407).fmod 340282366920938463463374607431768211507 = dr1 c k from rfl]
  simp_arith only [mulT_int r1b r1b (by omega) (by omega) (by omega), modD_lit (j := 340282366920938463463374607431768211297) (by decide +kernel)]
  rw [show (dr1 c k * dr1 c k).fmod 340282366920938463463374607431768211297 = dr2 c k from rfl]
  simp_arith only [modD_lit (j := 18446744073709551557) (by decide +kernel), divD_lit (j := 18446744073709551557) (by decide +kernel), addD_int, mulT_int b1 b2 (by omega) (by omega) (by omega), mulT_int (b1.mul b2) r2b (by omega) (by omega) (by omega), modD_lit (j := 340282366920938463463374607431768211507) (by decide +kernel)]
  rfl
theorem cell_ok {ns : List Int} {k : Int} (h : ScrOk ns) (hk : 0 ≤ k ∧ k < 64) : ∃ c, F__law_cell [.scr ns, .int k] = .ok (.int c) ∧ Sm 2000000 c := by
  have hk6 : Sm 6 k := .of hk.1 (by have : ((2 ^ 6 : Nat) : Int) = 64 := rfl
                                    omega)
  have kk : Sm 23 (k * 7919) := (hk6.mul (Sm.lit (b := 17) (i := 7919) (by decide)))
  cases e : ns with
  | nil =>
    subst e
    refine ⟨k * 7919, ?_, kk.up (by omega)⟩
    show runF 2 2 m__law_cell [.scr [], .int k] = _
    simp_arith only [runF, m__law_cell, Nat.zero_le, eqD_scr, List.isEmpty_nil, mulT_int hk6 (Sm.lit (b := 17) (i := 7919) (by decide)) (by omega) (by omega) (by omega)]
  | cons n0 r =>
    rw [← e]
    have hne : ns.isEmpty = false := by rw [e]; rfl
    have hlen : 1 ≤ ns.length ∧ ns.length ≤ 63 := ⟨by rw [e, List.length_cons]; omega, h.1⟩
    have hpos : (0 : Int) < (ns.length : Int) := by omega
    obtain ⟨m1, m2⟩ := fmod_rng (i := k) hpos
    obtain ⟨j, hj⟩ := Int.eq_ofNat_of_zero_le m1
    have hjl : j < ns.length := by omega
    have hg : idxD (.scr ns) (.int (k.fmod ns.length)) = .ok (.int (ns.getD j 0)) := by
      rw [hj]
      show (match atI ns ((j : Nat) : Int) with | some d => R.ok (D.int d) | none => .no) = _
      rw [atI_nat, List.getElem?_eq_getElem hjl, List.getD_eq_getElem?_getD, List.getElem?_eq_getElem hjl]
      rfl
    have hz : Sm 1048576 (ns.getD j 0) := by
      refine bits_sm (h.2 _ ?_)
      rw [List.getD_eq_getElem?_getD, List.getElem?_eq_getElem hjl]
      exact List.getElem_mem hjl
    have q1 : 0 ≤ k / (ns.length : Int) := Int.ediv_nonneg hk.1 (by omega)
    have q2 : k / (ns.length : Int) ≤ k := Int.ediv_le_self _ hk.1
    have q6 : Sm 6 (k / (ns.length : Int)) := .of q1 (by have : ((2 ^ 6 : Nat) : Int) = 64 := rfl
                                                         omega)
    have hd : divD (.int k) (.int (ns.length : Int)) = .ok (.int (k / (ns.length : Int))) := divD_int ⟨hpos, by
      have : (ns.length : Int).natAbs = ns.length := by omega
      rw [this]
      have : ns.length.log2 < 6 := (Nat.log2_lt (by omega)).mpr (by omega)
      omega⟩
    have qm : Sm 23 (k / (ns.length : Int) * 104729) := q6.mul (Sm.lit (b := 17) (i := 104729) (by decide))
    refine ⟨ns.getD j 0 + k / (ns.length : Int) * 104729, ?_, (hz.add (qm.up (by omega))).up (by omega)⟩
    show runF 2 2 m__law_cell [.scr ns, .int k] = _
    simp_arith only [runF, m__law_cell, Nat.zero_le, eqD_scr, hne, lenD, modD_int (show (ns.length : Int) ≠ 0 by omega), hg, hd, mulT_int q6 (Sm.lit (b := 17) (i := 104729) (by decide)) (by omega) (by omega) (by omega), addD_int]
end FL
set_option maxHeartbeats 4000000
namespace FL
open PySem PySem.Spec PyProof.Rows L2
local macro_rules | `(tactic| simp_arith only [$ls,*]) => `(tactic| simp only [R.bind_ok, R.bind_er, R.bind_no, R.out_ok, R.out_er, R.out_no, R.strict_ok, R.strict_er, R.strict_no, Oc.seq_nx, Oc.seq_rt, Oc.seq_er, Oc.seq_no, Oc.loop_nx, Oc.loop_rt, sIf, sRet, sSet, sAsg, sDrop, mVar_0, mVarT_0, mVarO_0, mVar_1, mVarT_1, mVarO_1, mVar_2, mVarT_2, mVarO_2, mVar_3, mVarT_3, mVarO_3, mVar_4, mVarT_4, mVarO_4, mVar_5, mVarT_5, mVarO_5, mVar_6, mVarT_6, mVarO_6, mVar_7, mVarT_7, mVarO_7, mVar_8, mVarT_8, mVarO_8, mVar_9, mVarT_9, mVarO_9, mVar_10, mVarT_10, mVarO_10, mVar_11, mVarT_11, mVarO_11, mVar_12, mVarT_12, mVarO_12, mVar_13, mVarT_13, mVarO_13, mVar_14, mVarT_14, mVarO_14, mVar_15, mVarT_15, mVarO_15, mVar_16, mVarT_16, mVarO_16, mVar_17, mVarT_17, mVarO_17, mVar_18, mVarT_18, mVarO_18, mVar_19, mVarT_19, mVarO_19, mVar_20, mVarT_20, mVarO_20, mVar_21, mVarT_21, mVarO_21, mVar_22, mVarT_22, mVarO_22, mVar_23, mVarT_23, mVarO_23, mVar_24, mVarT_24, mVarO_24, mC, mNil, mCons, mTup, mLst, mBin, mUn, mCall, mB, asB_bl, mNot, mAnd, mOr, vB, mIf, mIsN, isN, mYes, mChain, Tg.oc, Tg.put, setAll, List.getElem?_cons_zero, List.getElem?_cons_succ, List.set_cons_zero, List.set_cons_succ, List.map_cons, List.map_nil, List.length_cons, List.length_nil, List.replicate_succ, List.replicate_zero, List.cons_append, List.nil_append, List.append_nil, Nat.reduceAdd, Nat.reduceSub, Nat.succ_eq_add_one, if_true, if_false, ite_true, ite_false, Bool.false_eq_true, Bool.not_true, Bool.not_false, Bool.xor_false, Bool.false_xor, Bool.true_xor, sz_0, sz_1, sz_2, sz_3, sz_4, sz_5, sz_6, sz_7, sz_8, sz_9, sz_10, sz_11, sz_12, sz_13, sz_14, sz_15, sz_16, sz_17, sz_18, sz_19, sz_20, sz_21, sz_22, sz_23, sz_24, sz_25, sz_26, sz_27, sz_28, sz_29, sz_30, sz_31, sz_32, sz_33, sz_34, sz_35, sz_36, sz_37, sz_38, sz_39, sz_40, ok_ite, bl_ite, and_ite, or_ite, Bool.or_false, Bool.false_or, Bool.true_or, Bool.or_true, Bool.and_true, Bool.true_and, Bool.and_false, Bool.false_and, lcTurn, wipeE, itemsD_lst, itemsD_tup, ↓reduceIte, reduceCtorEq, sApp, sExt, sOwn, sPar, ownAt, frzE, $ls,*])
theorem fraction_ok {a : Int} {b : Nat} (hb : 0 < b) (hz : b < 2 ^ 8000) : F_fraction [.int a, .int (b : Int)] = .ok (frD a b) := fraction_sem hb hz (fu := fu_fraction) fun _ => rfl
theorem law_made_ok {a : Int} {b : Nat} (hb : 0 < b) (hz : b < 2 ^ 8000) : F__law_made [.int a, .int (b : Int)] = .ok (frD a b) := fraction_sem hb hz (fu := fu__law_made) fun _ => rfl
theorem law_less_ok {a c : Int} {b d : Nat} (hb : 0 < b) (hd : 0 < d) (sa : Sm 10000000 a) (sb : Sm 10000000 (b : Int)) (sc : Sm 10000000 c) (sd : Sm 10000000 (d : Int)) : F__law_less [frD a b, frD c d] = .ok (.bl (decide (a * (d : Int) < c * (b : Int)))) := by
  show runF 2 2 m__law_less [frD a b, frD c d] = _
  have m1 := mulT_int (div_sm (b := Nat.gcd a.natAbs b) sa) (div_sm (b := Nat.gcd c.natAbs d) sd) (by omega) (by omega) (by omega)
  have m2 := mulT_int (div_sm (b := Nat.gcd c.natAbs d) sc) (div_sm (b := Nat.gcd a.natAbs b) sb) (by omega) (by omega) (by omega)
  have e := frac_less (a := a) (c := c) hb hd
  simp_arith only [runF, m__law_less, frD, idx_tup0, idx_tup1, m1, m2, ltD_int]
  congr 2
  exact decide_eq_decide.mpr e
end FL
set_option maxHeartbeats 4000000
namespace FL
open PySem PySem.Spec PyProof.Rows L2
local macro_rules | `(tactic| simp_arith only [$ls,*]) => `(tactic| simp only [R.bind_ok, R.bind_er, R.bind_no, R.out_ok, R.out_er, R.out_no, R.strict_ok, R.strict_er, R.strict_no, Oc.seq_nx, Oc.seq_rt, Oc.seq_er, Oc.seq_no, Oc.loop_nx, Oc.loop_rt, sIf, sRet, sSet, sAsg, sDrop, mVar_0, mVarT_0, mVarO_0, mVar_1, mVarT_1, mVarO_1, mVar_2, mVarT_2, mVarO_2, mVar_3, mVarT_3, mVarO_3, mVar_4, mVarT_4, mVarO_4, mVar_5, mVarT_5, mVarO_5, mVar_6, mVarT_6, mVarO_6, mVar_7, mVarT_7, mVarO_7, mVar_8, mVarT_8, mVarO_8, mVar_9, mVarT_9, mVarO_9, mVar_10, mVarT_10, mVarO_10, mVar_11, mVarT_11, mVarO_11, mVar_12, mVarT_12, mVarO_12, mVar_13, mVarT_13, mVarO_13, mVar_14, mVarT_14, mVarO_14, mVar_15, mVarT_15, mVarO_15, mVar_16, mVarT_16, mVarO_16, mVar_17, mVarT_17, mVarO_17, mVar_18, mVarT_18, mVarO_18, mVar_19, mVarT_19, mVarO_19, mVar_20, mVarT_20, mVarO_20, mVar_21, mVarT_21, mVarO_21, mVar_22, mVarT_22, mVarO_22, mVar_23, mVarT_23, mVarO_23, mVar_24, mVarT_24, mVarO_24, mC, mNil, mCons, mTup, mLst, mBin, mUn, mCall, mB, asB_bl, mNot, mAnd, mOr, vB, mIf, mIsN, isN, mYes, mChain, Tg.oc, Tg.put, setAll, List.getElem?_cons_zero, List.getElem?_cons_succ, List.set_cons_zero, List.set_cons_succ, List.map_cons, List.map_nil, List.length_cons, List.length_nil, List.replicate_succ, List.replicate_zero, List.cons_append, List.nil_append, List.append_nil, Nat.reduceAdd, Nat.reduceSub, Nat.succ_eq_add_one, if_true, if_false, ite_true, ite_false, Bool.false_eq_true, Bool.not_true, Bool.not_false, Bool.xor_false, Bool.false_xor, Bool.true_xor, sz_0, sz_1, sz_2, sz_3, sz_4, sz_5, sz_6, sz_7, sz_8, sz_9, sz_10, sz_11, sz_12, sz_13, sz_14, sz_15, sz_16, sz_17, sz_18, sz_19, sz_20, sz_21, sz_22, sz_23, sz_24, sz_25, sz_26, sz_27, sz_28, sz_29, sz_30, sz_31, sz_32, sz_33, sz_34, sz_35, sz_36, sz_37, sz_38, sz_39, sz_40, ok_ite, bl_ite, and_ite, or_ite, Bool.or_false, Bool.false_or, Bool.true_or, Bool.or_true, Bool.and_true, Bool.true_and, Bool.and_false, Bool.false_and, lcTurn, wipeE, itemsD_lst, itemsD_tup, ↓reduceIte, reduceCtorEq, sApp, sExt, sOwn, sPar, ownAt, frzE, $ls,*])
/-! ### webs -/
abbrev lnD (l : Int × Int) : D := .tup [.int l.1, .int l.2]
abbrev lsD (ls : List (Int × Int)) : D := .lst (ls.map lnD)
def lexP (a b : Int × Int) : Bool := decide (a.1 < b.1) || (a.1 == b.1 && decide (a.2 < b.2))
structure WebOk (n : Nat) (ls : List (Int × Int)) : Prop where
  n1 : 1 ≤ n
  n7 : n ≤ 7
  rng : ∀ l ∈ ls, 0 ≤ l.1 ∧ l.1 < l.2 ∧ l.2 < (n : Int)
  up : ls.Pairwise fun a b => lexP a b = true
abbrev wbD (n : Nat) (ls : List (Int × Int)) : D := .tup [.int (n : Int), lsD ls]
theorem is_node_ok (i n : Int) : F_is_node [.int i, .int n] = .ok (.bl (decide (0 ≤ i) && decide (i < n))) := by
  show runF 2 2 m_is_node [.int i, .int n] = _
  simp_arith only [runF, m_is_node, isi_int, isi_bool, leD_int, ltD_int]
theorem is_line_pair (a b n : Int) : F_is_line [.tup [.int a, .int b], .int n] = .ok (.bl ((decide (0 ≤ a) && decide (a < n)) && ((decide (0 ≤ b) && decide (b < n)) && decide (a < b)))) := by
  show runF 3 2 m_is_line [.tup [.int a, .int b], .int n] = _
  have e2 : (((0 + 1 + 1 : Nat) : Int) == 2) = true := rfl
  simp_arith only [runF, m_is_line, isi_tup, lenD, eqD_int, e2]
  rw [mLc_all D.int (fun i => D.bl (decide (0 ≤ i) && decide (i < n))) [a, b] (by simp_arith only []) (fun i hi => by simp_arith only [is_node_ok])]
  rw [R.bind_ok, all_bl]
  simp_arith only [List.all_cons, List.all_nil, idx_tup0, idx_tup1, ltD_int]
  cases decide (0 ≤ a) && decide (a < n)
  · simp_arith only []
  · cases decide (0 ≤ b) && decide (b < n)
    · simp_arith only []
    · simp_arith only [idx_tup0, idx_tup1, ltD_int]
theorem is_line_ok {n : Nat} {l : Int × Int} (h : 0 ≤ l.1 ∧ l.1 < l.2 ∧ l.2 < (n : Int)) : F_is_line [lnD l, .int (n : Int)] = .ok (.bl true) := by
  rw [is_line_pair, decide_eq_true h.1, decide_eq_true (show l.1 < (n : Int) by omega), decide_eq_true (show 0 ≤ l.2 by omega), decide_eq_true h.2.2, decide_eq_true h.2.1]
  rfl
theorem need_web_two {n : Nat} {ls : List (Int × Int)} (hn : 1 ≤ n ∧ n ≤ 10) (hl : ∀ l ∈ ls, F_is_line [lnD l, .int (n : Int)] = .ok (.bl true)) : F_need_web [wbD n ls] = if ((ls.zip ls.tail).all fun p => lexP p.1 p.2) = true then .ok .non else .er "BadWeb" := by
  show runF 5 1 m_need_web [wbD n ls] = _
  have h1 : decide ((1 : Int) ≤ (n : Int)) = true := decide_eq_true (by omega)
  have h2 : decide ((n : Int) ≤ 10) = true := decide_eq_true (by omega)
  simp_arith only [runF, m_need_web, isi_list, leD_int, h1, h2]
  rw [mLc_all lnD (fun _ => D.bl true) ls (by simp_arith only []) (fun l h => by simp_arith only [hl l h])]
  simp_arith only [all_true]
  rw [mLc_all (fun p : (Int × Int) × (Int × Int) => D.tup [lnD p.1, lnD p.2]) (fun p => D.bl (lexP p.1 p.2)) (ls.zip ls.tail) (by simp_arith only [mSl, asI, slD, cut_tail, zip_tailG]) (fun p h => by simp_arith only [lt_pair]; rfl)]
  simp_arith only [all_bl]
  cases (ls.zip ls.tail).all fun p => lexP p.1 p.2 <;> rfl
theorem need_web_ok {n : Nat} {ls : List (Int × Int)} (h : WebOk n ls) : F_need_web [wbD n ls] = .ok .non := by
  rw [need_web_two ⟨h.n1, by have := h.n7; omega⟩ fun l hl => is_line_ok (h.rng l hl), if_pos]
  exact List.all_eq_true.mpr fun p hp => zip_adj h.up p hp
/-! ### what is no web -/
theorem need_web_cnt {m : Int} {d : D} (hl : ∃ ds, d = .lst ds) (h : m < 1 ∨ 10 < m) : F_need_web [.tup [.int m, d]] = .er "BadWeb" := by
  obtain ⟨ds, rfl⟩ := hl
  show runF 5 1 m_need_web [.tup [.int m, .lst ds]] = _
  rcases h with h | h
  · have h1 : decide ((1 : Int) ≤ m) = false := decide_eq_false (by omega)
    simp_arith only [runF, m_need_web, isi_list, leD_int, h1]
  · have h1 : decide ((1 : Int) ≤ m) = true := decide_eq_true (by omega)
    have h2 : decide (m ≤ 10) = false := decide_eq_false (by omega)
    simp_arith only [runF, m_need_web, isi_list, leD_int, h1, h2]
theorem need_web_none {m : Int} : F_need_web [.tup [.int m, .non]] = .er "BadWeb" := by
  show runF 5 1 m_need_web [.tup [.int m, .non]] = _
  simp_arith only [runF, m_need_web, isi_list_n]
theorem need_web_line {n : Nat} {d : D} (hn : 1 ≤ n ∧ n ≤ 10) (h : F_is_line [d, .int (n : Int)] = .ok (.bl false)) : F_need_web [.tup [.int (n : Int), .lst [d]]] = .er "BadWeb" := by
  show runF 5 1 m_need_web [.tup [.int (n : Int), .lst [d]]] = _
  have h1 : decide ((1 : Int) ≤ (n : Int)) = true := decide_eq_true (by omega)
  have h2 : decide ((n : Int) ≤ 10) = true := decide_eq_true (by omega)
  have ha : allD (.lst [.bl false]) = .ok (.bl false) := all_bl (fun x : Bool => x) [false]
  simp_arith only [runF, m_need_web, isi_list, leD_int, h1, h2, mLc, lcGo, h, ha]
theorem line_list (ds : List D) (m : Int) : F_is_line [.lst ds, .int m] = .ok (.bl false) := by
  show runF 3 2 m_is_line [.lst ds, .int m] = _
  simp_arith only [runF, m_is_line, isi_tup_l]
theorem line_three (a b c : D) (m : Int) : F_is_line [.tup [a, b, c], .int m] = .ok (.bl false) := by
  show runF 3 2 m_is_line [.tup [a, b, c], .int m] = _
  have e2 : (((0 + 1 + 1 + 1 : Nat) : Int) == 2) = false := rfl
  simp_arith only [runF, m_is_line, isi_tup, lenD, eqD_int, e2]
theorem line_true (m : Int) : F_is_line [.tup [.int 0, .bl true], .int m] = .ok (.bl false) := by
  show runF 3 2 m_is_line [.tup [.int 0, .bl true], .int m] = _
  have e2 : (((0 + 1 + 1 : Nat) : Int) == 2) = true := rfl
  have hn : F_is_node [.bl true, .int m] = .ok (.bl false) := by
    show runF 2 2 m_is_node [.bl true, .int m] = _
    simp_arith only [runF, m_is_node, isi_intb, isi_boolb]
  have ha : ∀ x : Bool, allD (.lst [.bl x, .bl false]) = .ok (.bl (x && (false && true))) := fun x => all_bl (fun x : Bool => x) [x, false]
  simp_arith only [runF, m_is_line, isi_tup, lenD, eqD_int, e2, mLc, lcGo, is_node_ok, hn, ha]
def oddWebs (n : Int) : List D := [.tup [.int 0, .lst []], .tup [.int 11, .lst []], .tup [.int n, .lst [.tup [.int 0, .int 0]]], .tup [.int n, .lst [.tup [.int 1, .int 0]]], .tup [.int n, .lst [.tup [.int 0, .int n]]], .tup [.int n, .lst [.lst [.int 0, .int 1]]], .tup [.int n, .non],
  .tup [.int 8, .lst [.tup [.int 0, .int 1], .tup [.int 0, .int 1]]], .tup [.int 8, .lst [.tup [.int 1, .int 2], .tup [.int 0, .int 1]]], .tup [.int n, .lst [.tup [.int 0, .bl true]]], .tup [.int 8, .lst [.tup [.int 0, .int 1, .int 2]]], .tup [.int n, .lst [.tup [.int (-1), .int 0]]]]
theorem odd_webs {n : Nat} (hn : 1 ≤ n ∧ n ≤ 7) : ∀ d ∈ oddWebs (n : Int), F_need_web [d] = .er "BadWeb" := by
  intro d hd
  unfold oddWebs at hd
  simp only [List.mem_cons, List.not_mem_nil, or_false] at hd
  have hn10 : 1 ≤ n ∧ n ≤ 10 := by omega
  rcases hd with rfl | rfl | rfl | rfl | rfl | rfl | rfl | rfl | rfl | rfl | rfl | rfl
  · exact need_web_cnt ⟨_, rfl⟩ (.inl (by omega))
  · exact need_web_cnt ⟨_, rfl⟩ (.inr (by omega))
  · exact need_web_line hn10 (by rw [is_line_pair]; simp)
  · exact need_web_line hn10 (by rw [is_line_pair]; simp)
  · exact need_web_line hn10 (by rw [is_line_pair]; simp)
  · exact need_web_line hn10 (line_list _ _)
  · exact need_web_none
  · have e := need_web_two (n := 8) (ls := [(0, 1), (0, 1)]) (by omega) (fun l hl => is_line_ok (by
      have : l = (0, 1) := by simpa using hl
      rw [this]; decide))
    exact e
  · have e := need_web_two (n := 8) (ls := [(1, 2), (0, 1)]) (by omega) (fun l hl => is_line_ok (by
      have : l = (1, 2) ∨ l = (0, 1) := by simpa using hl
      rcases this with e | e <;> rw [e] <;> decide))
    exact e
  · exact need_web_line hn10 (line_true _)
  · exact need_web_line (n := 8) (by omega) (line_three _ _ _ _)
  · exact need_web_line hn10 (by rw [is_line_pair]; simp)
/-! ### the law's webs -/
theorem web_turn {more : Int} {one other : Nat} {many : Int} {ls : List (Int × Int)} {a b : Sl} (hm : 0 ≤ more ∧ more < dm1) (h1 : one < 8) (h2 : other < 8) (hl : ls.length ≤ 1000) : ∃ (ls' : List (Int × Int)) (a' b' : Sl), (ls' = ls ∨ ls' = ls ++ [((one : Int), (other : Int))]) ∧
    b1__law_web [.sh (.int more), .sh (.int many), .ow (ls.map lnD), .sh (.int (one : Int)), .sh (.int (other : Int)), a, b] = .nx [.sh (.int more), .sh (.int many), .ow (ls'.map lnD), .sh (.int (one : Int)), .sh (.int (other : Int)), a', b'] := by
  have e8 : (8 : Int) * (one : Int) + (other : Int) = ((8 * one + other : Nat) : Int) := by omega
  have hd := drawn_ok (dm_sm hm) (k := (8 : Int) * (one : Int) + (other : Int)) (by rw [e8]; exact mul_rng (by omega))
  generalize drawnI more ((8 : Int) * (one : Int) + (other : Int)) = q at hd
  have ml : mulT (.int 8) (.int (one : Int)) = .ok (.int (8 * (one : Int))) := mulT_int (a := 7) (b := 7) (sm7 (by omega)) (sm7 (by omega)) (by omega) (by omega) (by omega)
  have hlt : ((ls.map lnD).length < sizeLine) = True := by rw [List.length_map]; exact szlt (by omega)
  have hr : ∃ v : Bool, vB (mOr (mB (mBin (eqD false) (mVar 4) (mBin addD (mVar 3) (mC (.int 1))))) (mB (vB (mAnd (mB (mBin (eqD false) (mVar 3) (mC (.int 0)))) (mB (mBin (eqD false) (mVar 4) (mBin subD (mVar 1) (mC (.int 1))))))))) [.sh (.int more), .sh (.int many), .ow (ls.map lnD), .sh (.int (one : Int)), .sh (.int (other : Int)), .sh (.int q), b] = .ok (.bl v) := by
    refine ⟨((other : Int) == (one : Int) + 1) || (((one : Int) == 0) && ((other : Int) == many - 1)), ?_⟩
    simp_arith only [addD_int, subD_int, eqD_int]
  obtain ⟨v, hr⟩ := hr
  obtain ⟨i, hi, ei⟩ := fmod_lit (i := more / 8) (n := 4) (by omega)
  have ei : (more / 8).fmod 4 = (i : Int) := ei
  have hp : ∃ w : Bool, idxD (.lst [.bl (q.fmod 2 == 0), .bl (q.fmod 4 == 0), .bl (decide (0 < q.fmod 5)), .bl v]) (.int ((more / 8).fmod 4)) = .ok (.bl w) := by
    rw [ei]
    rcases (show i = 0 ∨ i = 1 ∨ i = 2 ∨ i = 3 by omega) with rfl | rfl | rfl | rfl
    · exact ⟨_, idx_lst _ 0 _ rfl⟩
    · exact ⟨_, idx_lst _ 1 _ rfl⟩
    · exact ⟨_, idx_lst _ 2 _ rfl⟩
    · exact ⟨_, idx_lst _ 3 _ rfl⟩
  obtain ⟨w, hp⟩ := hp
  refine ⟨if w = true then ls ++ [((one : Int), (other : Int))] else ls, .sh (.int q), .sh (.bl v), ?_, ?_⟩
  · cases w
    · exact .inl rfl
    · exact .inr rfl
  · unfold b1__law_web
    rw [seq_eq (ρ' := [.sh (.int more), .sh (.int many), .ow (ls.map lnD), .sh (.int (one : Int)), .sh (.int (other : Int)), .sh (.int q), b]) (by simp_arith only [ml, addD_int, hd])]
    rw [seq_eq (ρ' := [.sh (.int more), .sh (.int many), .ow (ls.map lnD), .sh (.int (one : Int)), .sh (.int (other : Int)), .sh (.int q), .sh (.bl v)]) (by unfold sSet; rw [hr]; simp_arith only [])]
    simp_arith only [modD_lit (j := 2) (by decide +kernel), modD_lit (j := 4) (by decide +kernel), modD_lit (j := 5) (by decide +kernel), eqD_int, gtD_int, divD_lit (j := 8) (by decide +kernel), hp]
    cases w
    · simp_arith only []
    · simp_arith only [hlt, List.map_append]
/-- lines drawn so far -/
structure SoFar (one other : Int) (n : Nat) (ls : List (Int × Int)) : Prop where
  rng : ∀ l ∈ ls, 0 ≤ l.1 ∧ l.1 < l.2 ∧ l.2 < (n : Int)
  up : ls.Pairwise fun a b => lexP a b = true
  last : ∀ l ∈ ls, l.1 < one ∨ (l.1 = one ∧ l.2 < other)
theorem SoFar.up_ {one other one' other' : Int} {n : Nat} {ls : List (Int × Int)} (h : SoFar one other n ls) (q : one < one' ∨ (one = one' ∧ other ≤ other')) : SoFar one' other' n ls := ⟨h.rng, h.up, fun l hl => by have := h.last l hl; omega⟩
theorem SoFar.add {one other : Nat} {n : Nat} {ls ls' : List (Int × Int)} (h : SoFar one other n ls) (h1 : one < other) (h2 : other < n) (q : ls' = ls ∨ ls' = ls ++ [((one : Int), (other : Int))]) : SoFar one ((other : Int) + 1) n ls' := by
  rcases q with rfl | rfl
  · exact h.up_ (.inr ⟨rfl, by omega⟩)
  · refine ⟨fun l hl => ?_, ?_, fun l hl => ?_⟩
    · rcases List.mem_append.mp hl with hl | hl
      · exact h.rng l hl
      · have : l = ((one : Int), (other : Int)) := by simpa using hl
        rw [this]
        show (0 : Int) ≤ (one : Int) ∧ (one : Int) < (other : Int) ∧ (other : Int) < (n : Int)
        omega
    · refine List.pairwise_append.mpr ⟨h.up, by simp, fun a ha b hb => ?_⟩
      have : b = ((one : Int), (other : Int)) := by simpa using hb
      rw [this]
      have hla := h.last a ha
      unfold lexP
      rw [Bool.or_eq_true, Bool.and_eq_true, decide_eq_true_eq, decide_eq_true_eq, beq_iff_eq]
      exact hla
    · rcases List.mem_append.mp hl with hl | hl
      · have := h.last l hl; omega
      · have : l = ((one : Int), (other : Int)) := by simpa using hl
        rw [this]
        show (one : Int) < one ∨ ((one : Int) = one ∧ (other : Int) < (other : Int) + 1)
        omega
theorem rg2_nat {lo n : Nat} (h : lo ≤ n) (hn : n ≤ 1000) : rg2D (.int ((lo : Int))) (.int (n : Int)) = .ok ((List.range (n - lo)).map fun (i : Nat) => D.int (((lo + i : Nat)) : Int)) := by
  show (if _ then _ else _) = _
  rw [if_pos (by omega)]
  unfold rgD
  have e : ((n : Int) - (lo : Int)).toNat = n - lo := by omega
  rw [e]
  congr 1
theorem for_rg2 {ma mb : Env → R D} {t : Tg} {f : Env → Oc} {ρ : Env} {lo n : Nat} (h1 : ma ρ = .ok (.int (lo : Int))) (h2 : mb ρ = .ok (.int (n : Int))) (h : lo ≤ n) (hn : n ≤ 1000) : sFor (fun ρ => (ma ρ).bind fun x => (mb ρ).bind fun y => rg2D x y) t f ρ = forGo t f ((List.range (n - lo)).map fun (i : Nat) => D.int (((lo + i : Nat)) : Int)) ρ := by
  unfold sFor
  show (((ma ρ).bind fun x => (mb ρ).bind fun y => rg2D x y).out fun ds => forGo t f ds ρ) = _
  rw [h1, R.bind_ok, h2, R.bind_ok, rg2_nat h hn, R.out_ok]
theorem web_inner {more : Int} {n one : Nat} {ls : List (Int × Int)} {a b c : Sl} (hm : 0 ≤ more ∧ more < dm1) (hn7 : n ≤ 7) (ho : one < n) (hs : SoFar (one : Int) ((one : Int) + 1) n ls) (hlen : ls.length ≤ 7 * one) : ∃ (ls' : List (Int × Int)) (a' b' c' : Sl), SoFar ((one : Int) + 1) ((one : Int) + 1 + 1) n ls' ∧ ls'.length ≤ 7 * (one + 1) ∧
      forGo (.one 4) b1__law_web ((List.range (n - (one + 1))).map fun (i : Nat) => D.int (((one + 1 + i : Nat)) : Int)) [.sh (.int more), .sh (.int (n : Int)), .ow (ls.map lnD), .sh (.int (one : Int)), a, b, c] = .nx [.sh (.int more), .sh (.int (n : Int)), .ow (ls'.map lnD), .sh (.int (one : Int)), a', b', c'] := by
  have key := forGo_inv (t := .one 4) (f := b1__law_web) (fun (i : Nat) => D.int (((one + 1 + i : Nat)) : Int)) (fun dn ρ => ∃ (ls' : List (Int × Int)) (a b c : Sl), SoFar (one : Int) (((one + 1 + dn.length : Nat)) : Int) n ls' ∧ ls'.length ≤ ls.length + dn.length ∧ ρ = [.sh (.int more), .sh (.int (n : Int)), .ow (ls'.map lnD), .sh (.int (one : Int)), a, b, c])
      (List.range (n - (one + 1))) [] [.sh (.int more), .sh (.int (n : Int)), .ow (ls.map lnD), .sh (.int (one : Int)), a, b, c] ⟨ls, _, _, _, hs.up_ (.inr ⟨rfl, by simp⟩), Nat.le_refl _, rfl⟩ (fun dn x rs ρ hd hI => ?_)
  · obtain ⟨ρ', e, ls', a', b', c', h1, h2, rfl⟩ := key
    rw [List.nil_append, List.length_range] at h1 h2
    exact ⟨ls', a', b', c', h1.up_ (.inl (by omega)), by omega, e⟩
  · obtain ⟨ls1, a, b, c, h1, h2, rfl⟩ := hI
    rw [List.nil_append] at hd
    obtain ⟨hx, hxl⟩ := range_at hd
    rw [← hx] at h1 h2
    obtain ⟨ls2, a', b', q, e⟩ := web_turn (more := more) (one := one) (other := one + 1 + x) (many := (n : Int)) (ls := ls1) (a := b) (b := c) hm (by omega) (by omega) (by omega)
    have h3 := h1.add (by omega) (by omega) q
    have hl : (dn ++ [x]).length = x + 1 := by rw [List.length_append, ← hx]; rfl
    refine ⟨[.sh (.int more), .sh (.int (n : Int)), .ow (ls2.map lnD), .sh (.int (one : Int)), .sh (.int (((one + 1 + x : Nat)) : Int)), a', b'], ?_, ls2, _, _, _, ?_, ?_, rfl⟩
    · show b1__law_web _ = _
      exact e
    · rw [hl]
      exact h3.up_ (.inr ⟨rfl, by omega⟩)
    · rw [hl]
      rcases q with rfl | rfl
      · omega
      · rw [List.length_append, List.length_singleton]; omega
theorem web_ok {more : Int} (hm : 0 ≤ more ∧ more < dm1) : ∃ (n : Nat) (ls : List (Int × Int)), WebOk n ls ∧ F__law_web [.int more] = .ok (wbD n ls) := by
  obtain ⟨z, hz, ez⟩ := fmod_lit (i := more) (n := 7) (by omega)
  have ez : more.fmod 7 = (z : Int) := ez
  have e1 : (1 : Int) + (z : Int) = ((1 + z : Nat) : Int) := by omega
  generalize hn : 1 + z = n at e1
  have hn7 : 1 ≤ n ∧ n ≤ 7 := by omega
  have key := forGo_inv (t := .one 3) (f := b2__law_web) (fun (i : Nat) => D.int (i : Int)) (fun dn ρ => ∃ (ls : List (Int × Int)) (a b c d : Sl), SoFar (dn.length : Int) ((dn.length : Int) + 1) n ls ∧ ls.length ≤ 7 * dn.length ∧ ρ = [.sh (.int more), .sh (.int (n : Int)), .ow (ls.map lnD), a, b, c, d])
    (List.range n) [] [.sh (.int more), .sh (.int (n : Int)), .ow [], .no, .no, .no, .no] ⟨[], _, _, _, _, ⟨(fun l hl => by cases hl), List.Pairwise.nil, fun l hl => by cases hl⟩, Nat.zero_le _, rfl⟩ (fun dn x rs ρ hd hI => ?_)
  · obtain ⟨ρ', e, ls, a, b, c, d, h1, h2, rfl⟩ := key
    refine ⟨n, ls, ⟨hn7.1, hn7.2, h1.rng, h1.up⟩, ?_⟩
    show runF 7 1 m__law_web [.int more] = _
    simp_arith only [runF, m__law_web, modD_lit (j := 7) (by decide +kernel), ez, addD_int, e1, sFor, rg1_nat n (by omega), e]
  · obtain ⟨ls, a, b, c, d, h1, h2, rfl⟩ := hI
    rw [List.nil_append] at hd
    obtain ⟨hx, hxl⟩ := range_at hd
    rw [← hx] at h1 h2
    obtain ⟨ls', a', b', c', h3, h4, e⟩ := web_inner (a := b) (b := c) (c := d) hm hn7.2 (by omega) h1 h2
    have hl : (dn ++ [x]).length = x + 1 := by rw [List.length_append, ← hx]; rfl
    refine ⟨[.sh (.int more), .sh (.int (n : Int)), .ow (ls'.map lnD), .sh (.int (x : Int)), a', b', c'], ?_, ls', _, _, _, _, ?_, ?_, rfl⟩
    · have e2 : (x : Int) + 1 = ((x + 1 : Nat) : Int) := by omega
      show b2__law_web [.sh (.int more), .sh (.int (n : Int)), .ow (ls.map lnD), .sh (.int (x : Int)), b, c, d] = _
      unfold b2__law_web
      rw [for_rg2 (lo := x + 1) (n := n) (by simp_arith only [addD_int, e2]) (by simp_arith only []) (by omega) (by omega)]
      exact e
    · rw [hl]
      exact h3.up_ (.inr ⟨by omega, by omega⟩)
    · rw [hl]
      exact h4
end FL
set_option maxHeartbeats 4000000
namespace FL
open PySem PySem.Spec PyProof.Rows L2
local macro_rules | `(tactic| simp_arith only [$ls,*]) => `(tactic| simp only [R.bind_ok, R.bind_er, R.bind_no, R.out_ok, R.out_er, R.out_no, R.strict_ok, R.strict_er, R.strict_no, Oc.seq_nx, Oc.seq_rt, Oc.seq_er, Oc.seq_no, Oc.loop_nx, Oc.loop_rt, sIf, sRet, sSet, sAsg, sDrop, mVar_0, mVarT_0, mVarO_0, mVar_1, mVarT_1, mVarO_1, mVar_2, mVarT_2, mVarO_2, mVar_3, mVarT_3, mVarO_3, mVar_4, mVarT_4, mVarO_4, mVar_5, mVarT_5, mVarO_5, mVar_6, mVarT_6, mVarO_6, mVar_7, mVarT_7, mVarO_7, mVar_8, mVarT_8, mVarO_8, mVar_9, mVarT_9, mVarO_9, mVar_10, mVarT_10, mVarO_10, mVar_11, mVarT_11, mVarO_11, mVar_12, mVarT_12, mVarO_12, mVar_13, mVarT_13, mVarO_13, mVar_14, mVarT_14, mVarO_14, mVar_15, mVarT_15, mVarO_15, mVar_16, mVarT_16, mVarO_16, mVar_17, mVarT_17, mVarO_17, mVar_18, mVarT_18, mVarO_18, mVar_19, mVarT_19, mVarO_19, mVar_20, mVarT_20, mVarO_20, mVar_21, mVarT_21, mVarO_21, mVar_22, mVarT_22, mVarO_22, mVar_23, mVarT_23, mVarO_23, mVar_24, mVarT_24, mVarO_24, mC, mNil, mCons, mTup, mLst, mBin, mUn, mCall, mB, asB_bl, mNot, mAnd, mOr, vB, mIf, mIsN, isN, mYes, mChain, Tg.oc, Tg.put, setAll, List.getElem?_cons_zero, List.getElem?_cons_succ, List.set_cons_zero, List.set_cons_succ, List.map_cons, List.map_nil, List.length_cons, List.length_nil, List.replicate_succ, List.replicate_zero, List.cons_append, List.nil_append, List.append_nil, Nat.reduceAdd, Nat.reduceSub, Nat.succ_eq_add_one, if_true, if_false, ite_true, ite_false, Bool.false_eq_true, Bool.not_true, Bool.not_false, Bool.xor_false, Bool.false_xor, Bool.true_xor, sz_0, sz_1, sz_2, sz_3, sz_4, sz_5, sz_6, sz_7, sz_8, sz_9, sz_10, sz_11, sz_12, sz_13, sz_14, sz_15, sz_16, sz_17, sz_18, sz_19, sz_20, sz_21, sz_22, sz_23, sz_24, sz_25, sz_26, sz_27, sz_28, sz_29, sz_30, sz_31, sz_32, sz_33, sz_34, sz_35, sz_36, sz_37, sz_38, sz_39, sz_40, ok_ite, bl_ite, and_ite, or_ite, Bool.or_false, Bool.false_or, Bool.true_or, Bool.or_true, Bool.and_true, Bool.true_and, Bool.and_false, Bool.false_and, lcTurn, wipeE, itemsD_lst, itemsD_tup, ↓reduceIte, reduceCtorEq, sApp, sExt, sOwn, sPar, ownAt, frzE, $ls,*])
/-! ### halves -/
def two (o : List Int) : List (List Int) := [o ++ [0], o ++ [1]]
def hlI : Nat → List (List Int)
  | 0 => [[0]]
  | j + 1 => (hlI j).flatMap two
theorem two_len (ws : List (List Int)) : (ws.flatMap two).length = ws.length * 2 := by
  induction ws with
  | nil => rfl
  | cons w ws ih =>
    rw [List.flatMap_cons, List.length_append, ih, List.length_cons]
    show 2 + _ = _
    omega
theorem hl_len : ∀ j, (hlI j).length = 2 ^ j
  | 0 => rfl
  | j + 1 => by
    show ((hlI j).flatMap two).length = _
    rw [two_len, hl_len j, Nat.pow_succ]
theorem hl_each : ∀ {j : Nat} {h : List Int}, h ∈ hlI j → h.length = j + 1
  | 0, h, q => by
    have : h = [0] := by simpa [hlI] using q
    rw [this]; rfl
  | j + 1, h, q => by
    obtain ⟨o, ho, q⟩ := List.mem_flatMap.mp (show h ∈ (hlI j).flatMap two from q)
    have := hl_each ho
    unfold two at q
    simp only [List.mem_cons, List.not_mem_nil, or_false] at q
    rcases q with rfl | rfl <;> rw [List.length_append, this] <;> rfl
/-- every list of 0 and 1 with 0 ahead is one of these -/
theorem hl_all : ∀ (t : List Int), (∀ a ∈ t, a = 0 ∨ a = 1) → (0 :: t) ∈ hlI t.length := by
  intro t
  generalize hk : t.length = k
  induction k generalizing t with
  | zero =>
    intro _
    rw [List.eq_nil_of_length_eq_zero hk]
    exact List.mem_cons_self
  | succ k ih =>
    intro h
    have hne : t ≠ [] := fun z => by rw [z] at hk; cases hk
    have e : t = t.dropLast ++ [t.getLast hne] := (List.dropLast_concat_getLast hne).symm
    have hl : t.dropLast.length = k := by rw [List.length_dropLast]; omega
    have h1 := ih t.dropLast hl fun a ha => h a (by rw [List.dropLast_eq_take] at ha; exact List.mem_of_mem_take ha)
    have h2 := h (t.getLast hne) (List.getLast_mem hne)
    show _ ∈ (hlI k).flatMap two
    refine List.mem_flatMap.mpr ⟨_, h1, ?_⟩
    unfold two
    simp only [List.mem_cons, List.not_mem_nil, or_false]
    rw [e]
    simp only [List.cons_append, List.dropLast_concat]
    rcases h2 with h2 | h2
    · left; rw [h2]
    · right; rw [h2]
theorem hl_small {j : Nat} (hj : j ≤ 6) : (hlI j).length ≤ 64 := by
  rw [hl_len]
  exact Nat.pow_le_pow_right (show 0 < 2 by omega) hj
theorem add01 (o : List Int) (h : o.length ≤ 1000) (b : Int) : addD (iD o) (.lst [.int b]) = .ok (iD (o ++ [b])) := by
  rw [addD_lst (by rw [List.length_map]; simp; omega)]
  show R.ok (D.lst (o.map D.int ++ [b].map D.int)) = _
  rw [← List.map_append]
theorem len_flat2 {dn rs ws : List (List Int)} {x : List Int} (h : dn ++ x :: rs = ws) : (dn.flatMap two).length + 2 ≤ ws.length * 2 := by
  have := congrArg List.length h
  rw [List.length_append, List.length_cons] at this
  rw [two_len]
  omega
theorem all_halves_in {j x : Nat} {n s3 s4 : Sl} (hj : j < 6) : ∃ s4', b7_all_halves [n, .sh (ggD (hlI j)), .sh (.int (x : Int)), s3, s4] = .nx [n, .sh (ggD (hlI (j + 1))), .sh (.int (x : Int)), .sh (ggD (hlI (j + 1))), s4'] := by
  have hs := hl_small (j := j) (by omega)
  obtain ⟨ρ', e, c, rfl⟩ := forGo_inv (t := .one 4) (f := b4_all_halves) iD (fun dn ρ => ∃ c : Sl, ρ = [n, .sh (ggD (hlI j)), .sh (.int (x : Int)), .ow ((dn.flatMap two).map iD), c]) (hlI j) [] [n, .sh (ggD (hlI j)), .sh (.int (x : Int)), .ow [], s4] ⟨_, rfl⟩ (fun dn o rs ρ hd hI => by
    obtain ⟨c, rfl⟩ := hI
    rw [List.nil_append] at hd
    have ho : o ∈ hlI j := by rw [← hd]; simp
    have hol := hl_each ho
    have hlen := len_flat2 hd
    refine ⟨[n, .sh (ggD (hlI j)), .sh (.int (x : Int)), .ow (((dn ++ [o]).flatMap two).map iD), .sh (iD o)], ?_, _, rfl⟩
    simp_arith only [b4_all_halves, t3_all_halves, add01 o (by omega)]
    rw [if_pos (szl (by rw [List.length_map]; omega)), List.flatMap_append, List.map_append]
    rfl)
  refine ⟨c, ?_⟩
  rw [List.nil_append] at e
  have e9 : (Sl.sh (D.lst (((hlI j).flatMap two).map iD))) = .sh (ggD (hlI (j + 1))) := rfl
  unfold b7_all_halves
  rw [seq_eq (f := t2_all_halves) (ρ' := [n, .sh (ggD (hlI j)), .sh (.int (x : Int)), .ow [], s4]) (by simp_arith only [t2_all_halves])]
  rw [seq_eq (f := t4_all_halves) (ρ' := [n, .sh (ggD (hlI j)), .sh (.int (x : Int)), .ow (((hlI j).flatMap two).map iD), c]) (by unfold t4_all_halves sFor; simp_arith only []; exact e)]
  simp_arith only [t5_all_halves]
  rfl
theorem all_halves_ok {j : Nat} (hj : j ≤ 6) : F_all_halves [.int ((j + 1 : Nat) : Int)] = .ok (ggD (hlI j)) := by
  show runF 5 1 m_all_halves [.int ((j + 1 : Nat) : Int)] = _
  have key := forGo_inv (t := .one 2) (f := b7_all_halves) (fun (i : Nat) => D.int (((1 + i : Nat)) : Int)) (fun dn ρ => ∃ a b c : Sl, ρ = [.sh (.int ((j + 1 : Nat) : Int)), .sh (ggD (hlI dn.length)), a, b, c]) (List.range (j + 1 - 1)) [] [.sh (.int ((j + 1 : Nat) : Int)), .sh (ggD (hlI 0)), .no, .no, .no] ⟨_, _, _, rfl⟩ (fun dn x rs ρ hd hI => ?_)
  · obtain ⟨ρ', e, a, b, c, rfl⟩ := key
    rw [List.nil_append, List.length_range] at e
    have ej : j + 1 - 1 = j := by omega
    rw [ej] at e
    refine runF_rt rfl ?_
    unfold m_all_halves
    rw [seq_eq (f := t1_all_halves) (ρ := [D.int ((j + 1 : Nat) : Int)].map Sl.sh ++ List.replicate (5 - 1) Sl.no) (ρ' := [.sh (.int ((j + 1 : Nat) : Int)), .sh (ggD (hlI 0)), .no, .no, .no]) (by simp_arith only [t1_all_halves]; rfl)]
    rw [seq_eq (f := t6_all_halves) (ρ' := [.sh (.int ((j + 1 : Nat) : Int)), .sh (ggD (hlI j)), a, b, c]) (by
      unfold t6_all_halves
      rw [for_rg2 (lo := 1) (n := j + 1) (by rfl) (by simp_arith only []) (by omega) (by omega)]
      rw [ej]
      exact e)]
    simp_arith only [t7_all_halves]
  · obtain ⟨a, b, c, rfl⟩ := hI
    rw [List.nil_append] at hd
    obtain ⟨hx, hxl⟩ := range_at hd
    obtain ⟨c', e⟩ := all_halves_in (j := dn.length) (x := 1 + x) (n := .sh (.int ((j + 1 : Nat) : Int))) (s3 := b) (s4 := c) (by omega)
    refine ⟨[.sh (.int ((j + 1 : Nat) : Int)), .sh (ggD (hlI (dn.length + 1))), .sh (.int ((1 + x : Nat) : Int)), .sh (ggD (hlI (dn.length + 1))), c'], ?_, _, _, _, by rw [List.length_append]; rfl⟩
    show b7_all_halves _ = _
    exact e
theorem law_lists_in {j x : Nat} {n s3 s4 : Sl} (hj : j < 6) : ∃ s4', b7__law_lists [n, .sh (ggD (hlI j)), .sh (.int (x : Int)), s3, s4] = .nx [n, .sh (ggD (hlI (j + 1))), .sh (.int (x : Int)), .sh (ggD (hlI (j + 1))), s4'] := by
  have hs := hl_small (j := j) (by omega)
  obtain ⟨ρ', e, c, rfl⟩ := forGo_inv (t := .one 4) (f := b4__law_lists) iD (fun dn ρ => ∃ c : Sl, ρ = [n, .sh (ggD (hlI j)), .sh (.int (x : Int)), .sh (.lst ((dn.flatMap two).map iD)), c]) (hlI j) [] [n, .sh (ggD (hlI j)), .sh (.int (x : Int)), .sh (.lst []), s4] ⟨_, rfl⟩ (fun dn o rs ρ hd hI => by
    obtain ⟨c, rfl⟩ := hI
    rw [List.nil_append] at hd
    have ho : o ∈ hlI j := by rw [← hd]; simp
    have hol := hl_each ho
    have hlen := len_flat2 hd
    refine ⟨[n, .sh (ggD (hlI j)), .sh (.int (x : Int)), .sh (.lst (((dn ++ [o]).flatMap two).map iD)), .sh (iD o)], ?_, _, rfl⟩
    simp_arith only [b4__law_lists, t3__law_lists, add01 o (by omega)]
    rw [addD_lst (by rw [List.length_map]; simp only [List.length_cons, List.length_nil]; omega), List.flatMap_append, List.map_append]
    rfl)
  refine ⟨c, ?_⟩
  rw [List.nil_append] at e
  unfold b7__law_lists
  rw [seq_eq (f := t2__law_lists) (ρ' := [n, .sh (ggD (hlI j)), .sh (.int (x : Int)), .sh (.lst []), s4]) (by simp_arith only [t2__law_lists])]
  rw [seq_eq (f := t4__law_lists) (ρ' := [n, .sh (ggD (hlI j)), .sh (.int (x : Int)), .sh (.lst (((hlI j).flatMap two).map iD)), c]) (by unfold t4__law_lists sFor; simp_arith only []; exact e)]
  simp_arith only [t5__law_lists]
  rfl
theorem law_lists_ok {j : Nat} (hj : j ≤ 6) : F__law_lists [.int ((j + 1 : Nat) : Int)] = .ok (ggD (hlI j)) := by
  show runF 5 1 m__law_lists [.int ((j + 1 : Nat) : Int)] = _
  have ej : ((j + 1 : Nat) : Int) - 1 = (j : Int) := by omega
  have key := forGo_inv (t := .one 2) (f := b7__law_lists) (fun (i : Nat) => D.int (i : Int)) (fun dn ρ => ∃ a b c : Sl, ρ = [.sh (.int ((j + 1 : Nat) : Int)), .sh (ggD (hlI dn.length)), a, b, c]) (List.range j) [] [.sh (.int ((j + 1 : Nat) : Int)), .sh (ggD (hlI 0)), .no, .no, .no] ⟨_, _, _, rfl⟩ (fun dn x rs ρ hd hI => ?_)
  · obtain ⟨ρ', e, a, b, c, rfl⟩ := key
    rw [List.nil_append, List.length_range] at e
    refine runF_rt rfl ?_
    unfold m__law_lists
    rw [seq_eq (f := t1__law_lists) (ρ := [D.int ((j + 1 : Nat) : Int)].map Sl.sh ++ List.replicate (5 - 1) Sl.no) (ρ' := [.sh (.int ((j + 1 : Nat) : Int)), .sh (ggD (hlI 0)), .no, .no, .no]) (by simp_arith only [t1__law_lists]; rfl)]
    rw [seq_eq (f := t6__law_lists) (ρ' := [.sh (.int ((j + 1 : Nat) : Int)), .sh (ggD (hlI j)), a, b, c]) (by
      unfold t6__law_lists sFor
      simp_arith only [subD_int, ej, rg1_nat j (by omega)]
      exact e)]
    simp_arith only [t7__law_lists]
  · obtain ⟨a, b, c, rfl⟩ := hI
    rw [List.nil_append] at hd
    obtain ⟨hx, hxl⟩ := range_at hd
    obtain ⟨c', e⟩ := law_lists_in (j := dn.length) (x := x) (n := .sh (.int ((j + 1 : Nat) : Int))) (s3 := b) (s4 := c) (by omega)
    refine ⟨[.sh (.int ((j + 1 : Nat) : Int)), .sh (ggD (hlI (dn.length + 1))), .sh (.int (x : Int)), .sh (ggD (hlI (dn.length + 1))), c'], ?_, _, _, _, by rw [List.length_append]; rfl⟩
    show b7__law_lists _ = _
    exact e
/-! ### lines with both ends in one half -/
def badN (ls : List (Int × Int)) (h : List Int) : Nat := (ls.filter fun l => h.getD l.1.toNat 0 == h.getD l.2.toNat 0).length
theorem bad_lines_ok {ls : List (Int × Int)} {h : List Int} (hr : ∀ l ∈ ls, (0 ≤ l.1 ∧ l.1 < (h.length : Int)) ∧ (0 ≤ l.2 ∧ l.2 < (h.length : Int))) : F_bad_lines [lsD ls, iD h] = .ok (.int (badN ls h : Nat)) := by
  show runF 4 2 m_bad_lines [lsD ls, iD h] = _
  simp_arith only [runF, m_bad_lines]
  rw [mLc_if lnD (fun l => h.getD l.1.toNat 0 == h.getD l.2.toNat 0) (fun l => D.int l.1) ls (by simp_arith only []) (fun l hl => by simp_arith only [idx_z (hr l hl).1, idx_z (hr l hl).2, eqD_int])]
  simp_arith only [lenD, List.length_map]
  rfl
theorem law_bad_ok {ls : List (Int × Int)} {h : List Int} (hr : ∀ l ∈ ls, (0 ≤ l.1 ∧ l.1 < (h.length : Int)) ∧ (0 ≤ l.2 ∧ l.2 < (h.length : Int))) : F__law_bad [lsD ls, iD h] = .ok (.int (badN ls h : Nat)) := by
  show runF 4 2 m__law_bad [lsD ls, iD h] = _
  simp_arith only [runF, m__law_bad]
  rw [mLc_if lnD (fun l => h.getD l.1.toNat 0 == h.getD l.2.toNat 0) (fun l => D.int l.1) ls (by simp_arith only []) (fun l hl => by simp_arith only [idx_z (hr l hl).1, idx_z (hr l hl).2, eqD_int])]
  simp_arith only [lenD, List.length_map]
  rfl
theorem WebOk.for_ {n : Nat} {ls : List (Int × Int)} (w : WebOk n ls) {h : List Int} (hh : h ∈ hlI (n - 1)) : ∀ l ∈ ls, (0 ≤ l.1 ∧ l.1 < (h.length : Int)) ∧ (0 ≤ l.2 ∧ l.2 < (h.length : Int)) := fun l hl => by
  have := w.rng l hl
  have := w.n1
  rw [hl_each hh]
  omega
def cntW (ls : List (Int × Int)) (n : Nat) : List Int := (hlI (n - 1)).map fun h => ((badN ls h : Nat) : Int)
theorem WebOk.pred {n : Nat} {ls : List (Int × Int)} (w : WebOk n ls) : n - 1 ≤ 6 ∧ n - 1 + 1 = n := by
  have := w.n1
  have := w.n7
  omega
/-- the least count, where it first is -/
theorem least_ex {n : Nat} (ls : List (Int × Int)) : ∃ (d : Int) (k : Nat) (h : List Int), minLD (iD (cntW ls n)) = .ok (.int d) ∧ lixD ((cntW ls n).map D.int) (.int d) = .ok (.int (k : Int)) ∧ (hlI (n - 1))[k]? = some h ∧ ((badN ls h : Nat) : Int) = d := by
  have hne : cntW ls n ≠ [] := fun z => by
    have := congrArg List.length z
    unfold cntW at this
    rw [List.length_map, hl_len] at this
    have hp : 0 < 2 ^ (n - 1) := Nat.pow_pos (by omega)
    simp at this
  obtain ⟨d, hd1, hd2⟩ := min_ex hne
  obtain ⟨k, hk, hl⟩ := lix_at hd1
  unfold cntW at hk
  rw [List.getElem?_map] at hk
  cases e : (hlI (n - 1))[k]? with
  | none => rw [e] at hk; cases hk
  | some h =>
    rw [e] at hk
    exact ⟨d, k, h, minLD_i hd2 hd1, hl, e, Option.some.inj hk⟩
theorem halves_of_ok {n : Nat} {ls : List (Int × Int)} (w : WebOk n ls) {d : Int} {k : Nat} {h : List Int} (h1 : minLD (iD (cntW ls n)) = .ok (.int d)) (h2 : lixD ((cntW ls n).map D.int) (.int d) = .ok (.int (k : Int))) (h3 : (hlI (n - 1))[k]? = some h) : F_halves_of [wbD n ls] = .ok (iD h) := by
  obtain ⟨w1, w2⟩ := w.pred
  have eh := all_halves_ok w1
  rw [w2] at eh
  show runF 4 1 m_halves_of [wbD n ls] = _
  simp_arith only [runF, m_halves_of, need_web_ok w, idx_tup0, eh]
  rw [mLc_all iD (fun h => D.int ((badN ls h : Nat) : Int)) (hlI (n - 1)) (by simp_arith only []) (fun h hh => by simp_arith only [idx_tup1, bad_lines_ok (w.for_ hh)])]
  have e : ((hlI (n - 1)).map fun h => D.int ((badN ls h : Nat) : Int)) = (cntW ls n).map D.int := by unfold cntW; rw [List.map_map]; rfl
  rw [e]
  have hi : idxD (ggD (hlI (n - 1))) (.int (k : Int)) = .ok (iD h) := idx_lst _ k _ (by rw [List.getElem?_map, h3]; rfl)
  simp_arith only [h1, mLix, asL, h2, hi]
theorem far_halves_ok {n : Nat} {ls : List (Int × Int)} (w : WebOk n ls) {d : Int} {k : Nat} {h : List Int} (h1 : minLD (iD (cntW ls n)) = .ok (.int d)) (h2 : lixD ((cntW ls n).map D.int) (.int d) = .ok (.int (k : Int))) (h3 : (hlI (n - 1))[k]? = some h) (h4 : ((badN ls h : Nat) : Int) = d) : F_far_halves [wbD n ls] = .ok (.int d) := by
  show runF 1 1 m_far_halves [wbD n ls] = _
  have hh : h ∈ hlI (n - 1) := List.mem_of_getElem? h3
  simp_arith only [runF, m_far_halves, idx_tup1, halves_of_ok w h1 h2 h3, bad_lines_ok (w.for_ hh), h4]
end FL
set_option maxHeartbeats 4000000
namespace FL
open PySem PySem.Spec PyProof.Rows L2
local macro_rules | `(tactic| simp_arith only [$ls,*]) => `(tactic| simp only [R.bind_ok, R.bind_er, R.bind_no, R.out_ok, R.out_er, R.out_no, R.strict_ok, R.strict_er, R.strict_no, Oc.seq_nx, Oc.seq_rt, Oc.seq_er, Oc.seq_no, Oc.loop_nx, Oc.loop_rt, sIf, sRet, sSet, sAsg, sDrop, mVar_0, mVarT_0, mVarO_0, mVar_1, mVarT_1, mVarO_1, mVar_2, mVarT_2, mVarO_2, mVar_3, mVarT_3, mVarO_3, mVar_4, mVarT_4, mVarO_4, mVar_5, mVarT_5, mVarO_5, mVar_6, mVarT_6, mVarO_6, mVar_7, mVarT_7, mVarO_7, mVar_8, mVarT_8, mVarO_8, mVar_9, mVarT_9, mVarO_9, mVar_10, mVarT_10, mVarO_10, mVar_11, mVarT_11, mVarO_11, mVar_12, mVarT_12, mVarO_12, mVar_13, mVarT_13, mVarO_13, mVar_14, mVarT_14, mVarO_14, mVar_15, mVarT_15, mVarO_15, mVar_16, mVarT_16, mVarO_16, mVar_17, mVarT_17, mVarO_17, mVar_18, mVarT_18, mVarO_18, mVar_19, mVarT_19, mVarO_19, mVar_20, mVarT_20, mVarO_20, mVar_21, mVarT_21, mVarO_21, mVar_22, mVarT_22, mVarO_22, mVar_23, mVarT_23, mVarO_23, mVar_24, mVarT_24, mVarO_24, mC, mNil, mCons, mTup, mLst, mBin, mUn, mCall, mB, asB_bl, mNot, mAnd, mOr, vB, mIf, mIsN, isN, mYes, mChain, Tg.oc, Tg.put, setAll, List.getElem?_cons_zero, List.getElem?_cons_succ, List.set_cons_zero, List.set_cons_succ, List.map_cons, List.map_nil, List.length_cons, List.length_nil, List.replicate_succ, List.replicate_zero, List.cons_append, List.nil_append, List.append_nil, Nat.reduceAdd, Nat.reduceSub, Nat.succ_eq_add_one, if_true, if_false, ite_true, ite_false, Bool.false_eq_true, Bool.not_true, Bool.not_false, Bool.xor_false, Bool.false_xor, Bool.true_xor, sz_0, sz_1, sz_2, sz_3, sz_4, sz_5, sz_6, sz_7, sz_8, sz_9, sz_10, sz_11, sz_12, sz_13, sz_14, sz_15, sz_16, sz_17, sz_18, sz_19, sz_20, sz_21, sz_22, sz_23, sz_24, sz_25, sz_26, sz_27, sz_28, sz_29, sz_30, sz_31, sz_32, sz_33, sz_34, sz_35, sz_36, sz_37, sz_38, sz_39, sz_40, ok_ite, bl_ite, and_ite, or_ite, Bool.or_false, Bool.false_or, Bool.true_or, Bool.or_true, Bool.and_true, Bool.true_and, Bool.and_false, Bool.false_and, lcTurn, wipeE, itemsD_lst, itemsD_tup, ↓reduceIte, reduceCtorEq, sApp, sExt, sOwn, sPar, ownAt, frzE, $ls,*])
/-! ### choices of nodes -/
def subN : Nat → List (List Int)
  | 0 => [[]]
  | k + 1 => subN k ++ (subN k).map fun s => s ++ [(k : Int)]
theorem sub_len : ∀ k, (subN k).length = 2 ^ k
  | 0 => rfl
  | k + 1 => by
    show (subN k ++ (subN k).map _).length = _
    rw [List.length_append, List.length_map, sub_len k, Nat.pow_succ]
    omega
theorem sub_ok : ∀ {k : Nat} {s : List Int}, s ∈ subN k → s.length ≤ k ∧ (∀ a ∈ s, 0 ≤ a ∧ a < (k : Int)) ∧ s.Pairwise (· < ·)
  | 0, s, h => by
    have : s = [] := by simpa [subN] using h
    subst this
    exact ⟨Nat.le_refl _, (fun a ha => by cases ha), List.Pairwise.nil⟩
  | k + 1, s, h => by
    rcases List.mem_append.mp (show s ∈ subN k ++ (subN k).map _ from h) with h | h
    · obtain ⟨h1, h2, h3⟩ := sub_ok h
      exact ⟨by omega, fun a ha => by have := h2 a ha; omega, h3⟩
    · obtain ⟨u, hu, rfl⟩ := List.mem_map.mp h
      obtain ⟨h1, h2, h3⟩ := sub_ok hu
      refine ⟨by rw [List.length_append]; simp; omega, fun a ha => ?_, List.pairwise_append.mpr ⟨h3, by simp, fun a ha b hb => ?_⟩⟩
      · rcases List.mem_append.mp ha with ha | ha
        · have := h2 a ha; omega
        · have : a = (k : Int) := by simpa using ha
          omega
      · have : b = (k : Int) := by simpa using hb
        have := h2 a ha
        omega
def chs (n c : Nat) : List (List Int) := (subN n).filter fun s => s.length == c
theorem chs_few : ∀ n, n < 8 → ∀ c, c < 9 → (chs n c).length < 64 := by decide +kernel
theorem chs_pos : ∀ n, n < 8 → ∀ c, c ≤ n → 0 < (chs n c).length := by decide +kernel
theorem chs_zero : ∀ n, n < 8 → (chs n 0).length ≤ 1 := by decide +kernel
theorem chs_mem {n c : Nat} {s : List Int} (h : s ∈ chs n c) : s ∈ subN n ∧ s.length = c := by
  obtain ⟨h1, h2⟩ := List.mem_filter.mp h
  exact ⟨h1, by simpa using h2⟩
theorem sub_small {n : Nat} (h : n ≤ 7) : (subN n).length ≤ 128 := by
  rw [sub_len]
  exact Nat.pow_le_pow_right (show 0 < 2 by omega) h
theorem len_beq (a b : Nat) : ((a : Int) == (b : Int)) = (a == b) := by
  rw [Bool.eq_iff_iff, beq_iff_eq, beq_iff_eq]
  omega
theorem choices_ok {n c : Nat} (hn : n ≤ 7) : F__law_choices [.int (n : Int), .int (c : Int)] = .ok (ggD (chs n c)) := by
  show runF 5 2 m__law_choices [.int (n : Int), .int (c : Int)] = _
  have key := forGo_inv (t := .one 3) (f := b3__law_choices) (fun (i : Nat) => D.int (i : Int)) (fun dn ρ => ∃ a : Sl, ρ = [.sh (.int (n : Int)), .sh (.int (c : Int)), .sh (ggD (subN dn.length)), a, .no]) (List.range n) [] [.sh (.int (n : Int)), .sh (.int (c : Int)), .sh (ggD (subN 0)), .no, .no] ⟨_, rfl⟩ (fun dn x rs ρ hd hI => ?_)
  · obtain ⟨ρ', e, a, rfl⟩ := key
    rw [List.nil_append, List.length_range] at e
    refine runF_rt rfl ?_
    unfold m__law_choices
    rw [seq_eq (f := t1__law_choices) (ρ := [D.int (n : Int), D.int (c : Int)].map Sl.sh ++ List.replicate (5 - 2) Sl.no) (ρ' := [.sh (.int (n : Int)), .sh (.int (c : Int)), .sh (ggD (subN 0)), .no, .no]) (by simp_arith only [t1__law_choices]; rfl)]
    rw [seq_eq (f := t3__law_choices) (ρ' := [.sh (.int (n : Int)), .sh (.int (c : Int)), .sh (ggD (subN n)), a, .no]) (by
      unfold t3__law_choices sFor
      simp_arith only [rg1_nat n (by omega)]
      exact e)]
    simp_arith only [t4__law_choices]
    rw [mLc_if iD (fun s => s.length == c) iD (subN n) (by simp_arith only []) (fun s hs => by simp_arith only [lenD, List.length_map, eqD_int, len_beq])]
    rfl
  · obtain ⟨a, rfl⟩ := hI
    rw [List.nil_append] at hd
    obtain ⟨hx, hxl⟩ := range_at hd
    rw [← hx]
    have hs := sub_small (n := x) (by omega)
    refine ⟨[.sh (.int (n : Int)), .sh (.int (c : Int)), .sh (ggD (subN (x + 1))), .sh (.int (x : Int)), .no], ?_, _, by rw [List.length_append, ← hx]; rfl⟩
    show b3__law_choices [.sh (.int (n : Int)), .sh (.int (c : Int)), .sh (ggD (subN x)), .sh (.int (x : Int)), .no] = _
    unfold b3__law_choices t2__law_choices
    simp_arith only []
    rw [mLc_all iD (fun s => iD (s ++ [(x : Int)])) (subN x) (by simp_arith only []) (fun s h => by
      obtain ⟨h1, _⟩ := sub_ok h
      have ea : addD (iD s) (.lst [.int (x : Int)]) = .ok (iD (s ++ [(x : Int)])) := by
        rw [addD_lst (by rw [List.length_map]; simp; omega)]
        show R.ok (D.lst (s.map D.int ++ [(x : Int)].map D.int)) = _
        rw [← List.map_append]
      simp_arith only [ea])]
    simp_arith only []
    rw [addD_lst (by rw [List.length_map, List.length_map]; omega)]
    show Oc.nx [_, _, Sl.sh (D.lst ((subN x).map iD ++ (subN x).map fun s => iD (s ++ [(x : Int)]))), _, _] = Oc.nx [_, _, Sl.sh (D.lst ((subN x ++ (subN x).map fun s => s ++ [(x : Int)]).map iD)), _, _]
    rw [List.map_append, List.map_map]
    rfl
/-! ### all looks -/
def lteN (n c : Nat) : List (List Int) := (subN n).filter fun s => decide (s.length ≤ c)
theorem lteN_succ (n c : Nat) : lteN (n + 1) c = lteN n c ++ ((lteN n c).filter fun s => decide (s.length < c)).map fun s => s ++ [(n : Int)] := by
  unfold lteN
  show (subN n ++ (subN n).map _).filter _ = _
  rw [List.filter_append]
  congr 1
  rw [List.filter_filter]
  generalize subN n = L
  induction L with
  | nil => rfl
  | cons s L ih =>
    rw [List.map_cons, List.filter_cons, List.filter_cons, ih]
    by_cases h : s.length < c
    · have h1 : decide ((s ++ [(n : Int)]).length ≤ c) = true := decide_eq_true (by rw [List.length_append]; simp; omega)
      have h2 : (decide (s.length < c) && decide (s.length ≤ c)) = true := by rw [decide_eq_true h, decide_eq_true (by omega)]; rfl
      rw [if_pos h1, if_pos h2]
      rfl
    · have h1 : ¬ (decide ((s ++ [(n : Int)]).length ≤ c) = true) := by rw [decide_eq_true_eq, List.length_append]; simp; omega
      have h2 : ¬ ((decide (s.length < c) && decide (s.length ≤ c)) = true) := by rw [decide_eq_false h]; simp
      rw [if_neg h1, if_neg h2]
theorem lte_chs (n c : Nat) : (lteN n c).filter (fun s => s.length == c) = chs n c := by
  unfold lteN chs
  rw [List.filter_filter]
  refine List.filter_congr fun s hs => ?_
  by_cases h : s.length = c
  · rw [h]; simp
  · have : (s.length == c) = false := by simpa using h
    rw [this, Bool.false_and]
theorem sortX_ws {ws : List (List Int)} (h : wsB ws = true) : sortXD (.lst (ws.map wD)) = .ok (.lst ((sortW ws).map wD)) := by
  have e : asWs (ws.map wD) = some ws := asWs_map ws
  cases ws with
  | nil => rfl
  | cons w r =>
    show (match asInts ((w :: r).map wD) with
      | some _ => sortTD (.lst ((w :: r).map wD))
      | none => sortWD (.lst ((w :: r).map wD))) = _
    have e2 : asInts ((w :: r).map wD) = none := rfl
    rw [e2]
    show (match asWs ((w :: r).map wD) with
      | some ws => if wsB ws = true then R.ok (D.lst ((sortW ws).map fun w : List Int => D.tup (w.map D.int))) else .no
      | none => .no) = _
    rw [e]
    show (if wsB (w :: r) = true then R.ok (D.lst ((sortW (w :: r)).map fun w : List Int => D.tup (w.map D.int))) else .no) = _
    rw [if_pos h]
theorem chs_wsB {n c : Nat} (hn : n ≤ 7) (hc : c ≤ n) : wsB (chs n c) = true := by
  unfold wsB
  rw [Bool.or_eq_true, decide_eq_true_eq]
  by_cases h0 : c = 0
  · subst h0
    exact .inl (chs_zero n (by omega))
  · right
    rw [Bool.and_eq_true, decide_eq_true_eq]
    refine ⟨chs_few n (by omega) c (by omega), List.all_eq_true.mpr fun w hw => ?_⟩
    obtain ⟨h1, h2⟩ := chs_mem hw
    obtain ⟨_, h3, _⟩ := sub_ok h1
    have hh : ((chs n c).headD []).length = c := by
      cases e : chs n c with
      | nil => rw [e] at hw; cases hw
      | cons v r => exact (chs_mem (n := n) (c := c) (s := v) (by rw [e]; exact List.mem_cons_self)).2
    rw [Bool.and_eq_true, Bool.and_eq_true, decide_eq_true_eq, decide_eq_true_eq, hh, h2]
    refine ⟨⟨by omega, rfl⟩, List.all_eq_true.mpr fun a ha => ?_⟩
    have := h3 a ha
    rw [Bool.and_eq_true, decide_eq_true_eq, decide_eq_true_eq]
    omega
theorem looks_ok {n c : Nat} (hn : n ≤ 7) (hc : c ≤ n) : F_all_looks [.int (n : Int), .int (c : Int)] = .ok (.lst ((sortW (chs n c)).map wD)) := by
  show runF 5 2 m_all_looks [.int (n : Int), .int (c : Int)] = _
  have lte0 : lteN 0 c = [[]] := by
    show (([[]] : List (List Int)).filter _) = _
    simp
  have lsm : ∀ x, x ≤ 7 → (lteN x c).length ≤ 128 := fun x hx => Nat.le_trans (List.length_filter_le _ _) (sub_small hx)
  have key := forGo_inv (t := .one 3) (f := b3_all_looks) (fun (i : Nat) => D.int (i : Int)) (fun dn ρ => ∃ a : Sl, ρ = [.sh (.int (n : Int)), .sh (.int (c : Int)), .sh (.lst ((lteN dn.length c).map wD)), a, .no]) (List.range n) [] [.sh (.int (n : Int)), .sh (.int (c : Int)), .sh (.lst ((lteN 0 c).map wD)), .no, .no] ⟨_, rfl⟩ (fun dn x rs ρ hd hI => ?_)
  · obtain ⟨ρ', e, a, rfl⟩ := key
    rw [List.nil_append, List.length_range] at e
    refine runF_rt rfl ?_
    unfold m_all_looks
    rw [seq_eq (f := t1_all_looks) (ρ := [D.int (n : Int), D.int (c : Int)].map Sl.sh ++ List.replicate (5 - 2) Sl.no) (ρ' := [.sh (.int (n : Int)), .sh (.int (c : Int)), .sh (.lst ((lteN 0 c).map wD)), .no, .no]) (by rw [lte0]; simp_arith only [t1_all_looks]; rfl)]
    rw [seq_eq (f := t3_all_looks) (ρ' := [.sh (.int (n : Int)), .sh (.int (c : Int)), .sh (.lst ((lteN n c).map wD)), a, .no]) (by
      unfold t3_all_looks sFor
      simp_arith only [rg1_nat n (by omega)]
      exact e)]
    simp_arith only [t4_all_looks]
    rw [mLc_if wD (fun s => s.length == c) wD (lteN n c) (by simp_arith only []) (fun s hs => by simp_arith only [lenD, List.length_map, eqD_int, len_beq])]
    rw [lte_chs]
    simp_arith only [sortX_ws (chs_wsB hn hc)]
  · obtain ⟨a, rfl⟩ := hI
    rw [List.nil_append] at hd
    obtain ⟨hx, hxl⟩ := range_at hd
    rw [← hx]
    have hs := lsm x (by omega)
    refine ⟨[.sh (.int (n : Int)), .sh (.int (c : Int)), .sh (.lst ((lteN (x + 1) c).map wD)), .sh (.int (x : Int)), .no], ?_, _, by rw [List.length_append, ← hx]; rfl⟩
    show b3_all_looks [.sh (.int (n : Int)), .sh (.int (c : Int)), .sh (.lst ((lteN x c).map wD)), .sh (.int (x : Int)), .no] = _
    unfold b3_all_looks t2_all_looks
    simp_arith only []
    rw [mLc_if wD (fun s => decide (s.length < c)) (fun s => wD (s ++ [(x : Int)])) (lteN x c) (by simp_arith only []) (fun s h => by
      obtain ⟨h1, _⟩ := sub_ok (List.mem_filter.mp h).1
      have ea : addD (wD s) (.tup [.int (x : Int)]) = .ok (wD (s ++ [(x : Int)])) := by
        rw [addD_tup (by rw [List.length_map]; simp; omega), wD_snoc]
      have el : decide ((s.length : Int) < (c : Int)) = decide (s.length < c) := decide_eq_decide.mpr (by omega)
      simp_arith only [lenD, List.length_map, ltD_int, el, ea])]
    simp_arith only []
    have hf : ((lteN x c).filter fun s => decide (s.length < c)).length ≤ (lteN x c).length := List.length_filter_le _ _
    rw [addD_lst (by rw [List.length_map, List.length_map]; omega), lteN_succ, List.map_append, List.map_map]
    rfl
/-! ### with more nodes no less -/
def cnt (n : Nat) (p : List Int → Bool) (h : Nat) : Nat := ((subN n).filter fun s => s.length == h && p s).length
def addp (p : List Int → Bool) (n : Nat) : List Int → Bool := fun s => p (s ++ [(n : Int)])
def Mono (p : List Int → Bool) : Prop := ∀ s t : List Int, (∀ x ∈ s, x ∈ t) → p s = true → p t = true
theorem Mono.add {p : List Int → Bool} (h : Mono p) (n : Nat) : Mono (addp p n) := fun s t q e => h _ _ (fun x hx => by
  rcases List.mem_append.mp hx with hx | hx
  · exact List.mem_append_left _ (q x hx)
  · exact List.mem_append_right _ hx) e
theorem filter_map_len {α : Type} (f : α → α) (p : α → Bool) : ∀ L : List α, ((L.map f).filter p).length = (L.filter fun s => p (f s)).length
  | [] => rfl
  | s :: L => by
    rw [List.map_cons, List.filter_cons, List.filter_cons]
    split
    · rw [List.length_cons, List.length_cons, filter_map_len f p L]
    · exact filter_map_len f p L
theorem cnt_succ (n : Nat) (p : List Int → Bool) (h : Nat) : cnt (n + 1) p (h + 1) = cnt n p (h + 1) + cnt n (addp p n) h := by
  unfold cnt
  show ((subN n ++ (subN n).map _).filter _).length = _
  rw [List.filter_append, List.length_append, filter_map_len]
  congr 2
  refine List.filter_congr fun s hs => ?_
  have e : ((s ++ [(n : Int)]).length == h + 1) = (s.length == h) := by
    rw [Bool.eq_iff_iff, beq_iff_eq, beq_iff_eq, List.length_append]
    simp
  rw [e]
  rfl
theorem cnt_zero (n : Nat) (p : List Int → Bool) : cnt (n + 1) p 0 = cnt n p 0 := by
  unfold cnt
  show ((subN n ++ (subN n).map _).filter _).length = _
  rw [List.filter_append, List.length_append, filter_map_len]
  have : (subN n).filter (fun s => (s ++ [(n : Int)]).length == 0 && p (s ++ [(n : Int)])) = [] := List.filter_eq_nil_iff.mpr fun s hs => by
    rw [List.length_append]
    simp
  rw [this]
  rfl
theorem filter_len_le {α : Type} {p q : α → Bool} (h : ∀ s, p s = true → q s = true) : ∀ L : List α, (L.filter p).length ≤ (L.filter q).length
  | [] => Nat.le_refl _
  | s :: L => by
    have ih := filter_len_le h L
    rw [List.filter_cons, List.filter_cons]
    cases e : p s with
    | true => rw [if_pos rfl, if_pos (h s e), List.length_cons, List.length_cons]; omega
    | false =>
      rw [if_neg Bool.false_ne_true]
      split
      · rw [List.length_cons]; omega
      · exact ih
theorem cnt_add {p : List Int → Bool} (h : Mono p) (n m k : Nat) : cnt n p k ≤ cnt n (addp p m) k := by
  unfold cnt
  refine filter_len_le (fun s e => ?_) _
  rw [Bool.and_eq_true] at e ⊢
  exact ⟨e.1, h _ _ (fun x hx => List.mem_append_left _ hx) e.2⟩
theorem cnt_up : ∀ (n : Nat) (p : List Int → Bool) (h : Nat), Mono p → cnt n p h * n ≤ cnt n p h * h + (h + 1) * cnt n p (h + 1)
  | 0, _, _, _ => by rw [Nat.mul_zero]; exact Nat.zero_le _
  | n + 1, p, 0, m => by
    have ih := cnt_up n p 0 m
    have ha := cnt_add m n n 0
    rw [cnt_zero, cnt_succ, Nat.mul_succ]
    generalize cnt n p 0 * n = A at *
    omega
  | n + 1, p, k + 1, m => by
    have i1 := cnt_up n p (k + 1) m
    have i2 := cnt_up n (addp p n) k (m.add n)
    have ha := cnt_add m n n (k + 1)
    rw [cnt_succ, cnt_succ]
    generalize cnt n p (k + 1) = a at *
    generalize cnt n p (k + 1 + 1) = b at *
    generalize cnt n (addp p n) k = c at *
    generalize cnt n (addp p n) (k + 1) = d at *
    have e1 : (a + c) * (n + 1) = a * n + c * n + (a + c) := by rw [Nat.mul_succ, Nat.add_mul]
    have e2 : (a + c) * (k + 1) = a * (k + 1) + (c * k + c) := by rw [Nat.add_mul, Nat.mul_succ c k]
    have e3 : (k + 1 + 1) * (b + d) = (k + 1 + 1) * b + ((k + 1) * d + d) := by rw [Nat.mul_add, Nat.succ_mul (k + 1) d]
    rw [e1, e2, e3]
    generalize a * n = x1 at *
    generalize c * n = x2 at *
    generalize a * (k + 1) = x3 at *
    generalize c * k = x4 at *
    generalize (k + 1 + 1) * b = x5 at *
    generalize (k + 1) * d = x6 at *
    omega
theorem tot_eq : ∀ (n h : Nat), cnt n (fun _ => true) h * n = cnt n (fun _ => true) h * h + (h + 1) * cnt n (fun _ => true) (h + 1)
  | 0, 0 => rfl
  | 0, h + 1 => by
    have e1 : cnt 0 (fun _ => true) (h + 1) = 0 := rfl
    have e2 : cnt 0 (fun _ => true) (h + 1 + 1) = 0 := rfl
    rw [e1, e2]
    simp
  | n + 1, 0 => by
    have ih := tot_eq n 0
    rw [cnt_zero, cnt_succ, Nat.mul_succ]
    have e : addp (fun _ => true) n = fun _ => true := rfl
    rw [e]
    generalize cnt n (fun _ => true) 0 * n = A at *
    omega
  | n + 1, k + 1 => by
    have i1 := tot_eq n (k + 1)
    have i2 := tot_eq n k
    rw [cnt_succ, cnt_succ]
    have e : addp (fun _ => true) n = fun _ => true := rfl
    rw [e]
    generalize cnt n (fun _ => true) (k + 1) = a at *
    generalize cnt n (fun _ => true) (k + 1 + 1) = b at *
    generalize cnt n (fun _ => true) k = c at *
    have e1 : (a + c) * (n + 1) = a * n + c * n + (a + c) := by rw [Nat.mul_succ, Nat.add_mul]
    have e2 : (a + c) * (k + 1) = a * (k + 1) + (c * k + c) := by rw [Nat.add_mul, Nat.mul_succ c k]
    have e3 : (k + 1 + 1) * (b + a) = (k + 1 + 1) * b + ((k + 1) * a + a) := by rw [Nat.mul_add, Nat.succ_mul (k + 1) a]
    rw [e1, e2, e3]
    generalize a * n = x1 at *
    generalize c * n = x2 at *
    generalize a * (k + 1) = x3 at *
    generalize c * k = x4 at *
    generalize (k + 1 + 1) * b = x5 at *
    generalize (k + 1) * a = x6 at *
    omega
theorem share_up {p : List Int → Bool} (m : Mono p) (n h : Nat) : cnt n p h * cnt n (fun _ => true) (h + 1) ≤ cnt n p (h + 1) * cnt n (fun _ => true) h := by
  have h1 := cnt_up n p h m
  have h2 := tot_eq n h
  generalize cnt n p h = B at *
  generalize cnt n p (h + 1) = B' at *
  generalize cnt n (fun _ => true) h = U at *
  generalize cnt n (fun _ => true) (h + 1) = U' at *
  have h3 : U * (B * n) ≤ U * (B * h + (h + 1) * B') := Nat.mul_le_mul_left U h1
  have h4 : U * (B * n) = B * (U * n) := Nat.mul_left_comm ..
  rw [h4, h2, Nat.mul_add, Nat.mul_add] at h3
  have e1 : B * (U * h) = U * (B * h) := Nat.mul_left_comm ..
  have e2 : B * ((h + 1) * U') = (h + 1) * (B * U') := Nat.mul_left_comm ..
  have e3 : U * ((h + 1) * B') = (h + 1) * (B' * U) := by rw [Nat.mul_left_comm, Nat.mul_comm U B']
  rw [e1, e2, e3] at h3
  exact Nat.le_of_mul_le_mul_left (show (h + 1) * (B * U') ≤ (h + 1) * (B' * U) by omega) (by omega)
end FL
set_option maxHeartbeats 4000000
namespace FL
open PySem PySem.Spec PyProof.Rows L2
/-! ### colors -/
def Proper (ls : List (Int × Int)) (ns : List Int) (c : Int → Bool) : Prop := ∀ l ∈ ls, l.1 ∈ ns → l.2 ∈ ns → c l.1 ≠ c l.2
def Colorable (ls : List (Int × Int)) (ns : List Int) : Prop := ∃ c, Proper ls ns c
def kvD (h : List (Int × Int)) : List (Key × D) := h.map fun e => (Sum.inl e.1, D.int e.2)
def hasI (h : List (Int × Int)) (x : Int) : Bool := h.any fun e => e.1 == x
def valI (h : List (Int × Int)) (x : Int) : Int := match h.find? fun e => e.1 == x with
  | some e => e.2
  | none => 0
theorem key_beq (a x : Int) : decide ((Sum.inl a : Key) = Sum.inl x) = (a == x) := by
  rw [Bool.eq_iff_iff, decide_eq_true_eq, beq_iff_eq]
  exact ⟨fun h => Sum.inl.inj h, fun h => by rw [h]⟩
theorem hasK_kv (h : List (Int × Int)) (x : Int) : hasK (kvD h) (.inl x) = hasI h x := by
  induction h with
  | nil => rfl
  | cons e h ih =>
    show (decide ((Sum.inl e.1 : Key) = Sum.inl x) || hasK (kvD h) (.inl x)) = (e.1 == x || hasI h x)
    rw [key_beq, ih]
theorem getK_kv {h : List (Int × Int)} {x : Int} (q : hasI h x = true) : getK (kvD h) (.inl x) = .ok (.int (valI h x)) := by
  induction h with
  | nil => cases q
  | cons e h ih =>
    unfold getK valI kvD
    rw [List.map_cons, List.find?_cons, List.find?_cons]
    simp only [key_beq]
    cases b : e.1 == x with
    | true => rfl
    | false =>
      have q2 : hasI h x = true := by
        have : (e.1 == x || hasI h x) = true := q
        rw [b, Bool.false_or] at this
        exact this
      have := ih q2
      unfold getK valI kvD at this
      exact this
theorem setK_kv {h : List (Int × Int)} {x v : Int} (q : hasI h x = false) : setK (kvD h) (.inl x) (.int v) = kvD (h ++ [(x, v)]) := by
  unfold setK
  rw [hasK_kv, q, if_neg Bool.false_ne_true]
  unfold kvD
  rw [List.map_append]
  rfl
theorem hasI_snoc (h : List (Int × Int)) (x v y : Int) : hasI (h ++ [(x, v)]) y = (hasI h y || x == y) := by
  unfold hasI
  rw [List.any_append]
  congr 1
  exact Bool.or_false _
theorem valI_old {h : List (Int × Int)} {x v y : Int} (q : hasI h y = true) : valI (h ++ [(x, v)]) y = valI h y := by
  unfold valI
  rw [List.find?_append]
  cases e : h.find? fun e => e.1 == y with
  | some z => rfl
  | none =>
    rw [List.find?_eq_none] at e
    unfold hasI at q
    obtain ⟨z, hz, hz2⟩ := List.any_eq_true.mp q
    exact absurd hz2 (e z hz)
theorem valI_new {h : List (Int × Int)} {x v : Int} (q : hasI h x = false) : valI (h ++ [(x, v)]) x = v := by
  unfold valI
  rw [List.find?_append]
  have e : h.find? (fun e => e.1 == x) = none := by
    rw [List.find?_eq_none]
    intro z hz hz2
    unfold hasI at q
    rw [List.any_eq_false] at q
    exact q z hz hz2
  rw [e, Option.none_or, List.find?_cons_of_pos (by exact beq_self_eq_true x)]
theorem valI_mem {h : List (Int × Int)} {x : Int} (q : hasI h x = true) : (x, valI h x) ∈ h := by
  induction h with
  | nil => cases q
  | cons e h ih =>
    unfold valI
    rw [List.find?_cons]
    cases b : e.1 == x with
    | true =>
      show (x, e.2) ∈ _
      rw [← eq_of_beq b]
      exact List.mem_cons_self
    | false =>
      have q2 : hasI h x = true := by
        have : (e.1 == x || hasI h x) = true := q
        rw [b, Bool.false_or] at this
        exact this
      exact List.mem_cons_of_mem _ (ih q2)
def miss (ns : List Int) (h : List (Int × Int)) : Nat := (ns.filter fun z => !hasI h z).length
theorem miss_snoc {h : List (Int × Int)} {x : Int} (v : Int) (q : hasI h x = false) : ∀ {ns : List Int}, miss ns (h ++ [(x, v)]) ≤ miss ns h ∧ (x ∈ ns → miss ns (h ++ [(x, v)]) + 1 ≤ miss ns h)
  | [] => ⟨Nat.le_refl _, fun z => by cases z⟩
  | z :: ns => by
    obtain ⟨i1, i2⟩ := miss_snoc v q (ns := ns)
    unfold miss at i1 i2 ⊢
    rw [List.filter_cons, List.filter_cons]
    rw [hasI_snoc]
    rw [show (fun z => !(hasI (h ++ [(x, v)]) z)) = fun z => !(hasI (h ++ [(x, v)]) z) from rfl]
    cases hz : hasI h z with
    | true =>
      rw [Bool.true_or, Bool.not_true, if_neg Bool.false_ne_true, if_neg Bool.false_ne_true]
      refine ⟨i1, fun hx => i2 ?_⟩
      rcases List.mem_cons.mp hx with e | e
      · rw [e, hz] at q; cases q
      · exact e
    | false =>
      rw [Bool.false_or, Bool.not_false, if_pos rfl, List.length_cons]
      cases b : x == z with
      | true =>
        rw [Bool.not_true, if_neg Bool.false_ne_true]
        exact ⟨by omega, fun _ => by omega⟩
      | false =>
        rw [Bool.not_false, if_pos rfl, List.length_cons]
        refine ⟨by omega, fun hx => ?_⟩
        rcases List.mem_cons.mp hx with e | e
        · rw [e, beq_self_eq_true] at b; cases b
        · have := i2 e; omega
/-! ### the search -/
def Edge (l : Int × Int) (a b : Int) : Prop := (l.1 = a ∧ l.2 = b) ∨ (l.1 = b ∧ l.2 = a)
structure Inv (ls : List (Int × Int)) (ns : List Int) (h : List (Int × Int)) (w : List Int) (ex : Int × Int → Int → Prop) : Prop where
  ks : ∀ e ∈ h, e.1 ∈ ns ∧ (e.2 = 0 ∨ e.2 = 1)
  wh : ∀ x ∈ w, hasI h x = true
  dn : ∀ l ∈ ls, ∀ a b, Edge l a b → a ∈ ns → b ∈ ns → hasI h a = true → a ∉ w → ¬ ex l a → hasI h b = true ∧ valI h a ≠ valI h b
  ag : ∀ c0, Proper ls ns c0 → ∃ c, Proper ls ns c ∧ ∀ z, hasI h z = true → c z = (valI h z == 1)
  sz : h.length + miss ns h ≤ ns.length
section
variable {ls : List (Int × Int)} {ns : List Int} {h : List (Int × Int)} {w : List Int} {ex ex' : Int × Int → Int → Prop}
theorem Inv.bit (i : Inv ls ns h w ex) {x : Int} (q : hasI h x = true) : x ∈ ns ∧ (valI h x = 0 ∨ valI h x = 1) := i.ks _ (valI_mem q)
theorem Proper.edge {c : Int → Bool} (p : Proper ls ns c) {l : Int × Int} (hl : l ∈ ls) {a b : Int} (e : Edge l a b) (ha : a ∈ ns) (hb : b ∈ ns) : c a ≠ c b := by
  rcases e with ⟨e1, e2⟩ | ⟨e1, e2⟩
  · subst e1 e2
    exact p l hl ha hb
  · subst e1 e2
    exact fun z => p l hl hb ha z.symm
theorem Inv.wk (i : Inv ls ns h w ex) (f : ∀ l ∈ ls, ∀ a b, Edge l a b → a ∈ ns → b ∈ ns → hasI h a = true → a ∉ w → ¬ ex' l a → ex l a → hasI h b = true ∧ valI h a ≠ valI h b) : Inv ls ns h w ex' := by
  refine ⟨i.ks, i.wh, fun l hl a b e ha hb q hw hx => ?_, i.ag, i.sz⟩
  by_cases k : ex l a
  · exact f l hl a b e ha hb q hw hx k
  · exact i.dn l hl a b e ha hb q hw k
/-- a node is taken -/
theorem Inv.pop {x : Int} (i : Inv ls ns h (w ++ [x]) ex) (hf : ∀ l a, ¬ ex l a) : Inv ls ns h w fun l a => a = x := by
  refine ⟨i.ks, fun y hy => i.wh y (List.mem_append_left _ hy), fun l hl a b e ha hb q hw hx => i.dn l hl a b e ha hb q (fun z => ?_) (hf _ _), i.ag, i.sz⟩
  rcases List.mem_append.mp z with z | z
  · exact hw z
  · exact hx (by simpa using z)
/-- a new node -/
theorem Inv.push {x y : Int} {l : Int × Int} (i : Inv ls ns h w ex) (hl : l ∈ ls) (he : Edge l x y) (hx : hasI h x = true) (hy : y ∈ ns) (q : hasI h y = false) (hex : ∀ l' a, a ≠ x → ¬ ex l' a) (hex2 : ∀ l', ¬ ex' l' x → ex l' x → l' = l) (hex3 : ∀ l' a, a ≠ x → ¬ ex' l' a) :
    Inv ls ns (h ++ [(y, 1 - valI h x)]) (w ++ [y]) ex' := by
  have bx := i.bit hx
  have hyx : y ≠ x := fun z => by rw [z, hx] at q; cases q
  have old : ∀ a, hasI (h ++ [(y, 1 - valI h x)]) a = true → a ≠ y → hasI h a = true := fun a ha n => by
    rw [hasI_snoc, Bool.or_eq_true] at ha
    rcases ha with ha | ha
    · exact ha
    · exact absurd (eq_of_beq ha).symm n
  have mono : ∀ a, hasI h a = true → hasI (h ++ [(y, 1 - valI h x)]) a = true := fun a ha => by rw [hasI_snoc, ha]; rfl
  refine ⟨fun e he => ?_, fun z hz => ?_, fun l' hl' a b e ha hb qa hw hx' => ?_, fun c0 p0 => ?_, ?_⟩
  · rcases List.mem_append.mp he with he | he
    · exact i.ks e he
    · have : e = (y, 1 - valI h x) := by simpa using he
      rw [this]
      exact ⟨hy, by show 1 - valI h x = 0 ∨ 1 - valI h x = 1; omega⟩
  · rcases List.mem_append.mp hz with hz | hz
    · exact mono z (i.wh z hz)
    · have : z = y := by simpa using hz
      rw [this, hasI_snoc, beq_self_eq_true, Bool.or_true]
  · have hay : a ≠ y := fun z => hw (by rw [z]; simp)
    have qa' := old a qa hay
    have hw' : a ∉ w := fun z => hw (List.mem_append_left _ z)
    by_cases k : ex l' a
    · have hax : a = x := Classical.byContradiction fun n => hex l' a n k
      subst hax
      have hll := hex2 l' hx' k
      subst hll
      have hby : b = y := by
        have e1 := e
        unfold Edge at e1 he
        omega
      subst hby
      refine ⟨by rw [hasI_snoc, beq_self_eq_true, Bool.or_true], ?_⟩
      rw [valI_old hx, valI_new q]
      omega
    · obtain ⟨h1, h2⟩ := i.dn l' hl' a b e ha hb qa' hw' k
      exact ⟨mono b h1, by rw [valI_old qa', valI_old h1]; exact h2⟩
  · obtain ⟨c, p, hc⟩ := i.ag c0 p0
    refine ⟨c, p, fun z hz => ?_⟩
    by_cases hzy : z = y
    · subst hzy
      rw [valI_new q]
      have h1 := p.edge hl he bx.1 hy
      have h2 := hc x hx
      rcases bx.2 with b | b <;> rw [b] at h2 ⊢ <;> rw [h2] at h1 <;> cases e : c z <;> rw [e] at h1 <;> first | rfl | exact absurd rfl h1
    · have := old z hz hzy
      rw [valI_old this]
      exact hc z this
  · have := miss_snoc (1 - valI h x) q (ns := ns)
    have := this.2 hy
    have := i.sz
    rw [List.length_append, List.length_singleton]
    omega
/-- a new beginning -/
theorem Inv.fresh {y : Int} (i : Inv ls ns h [] ex) (hf : ∀ l a, ¬ ex l a) (hy : y ∈ ns) (q : hasI h y = false) : Inv ls ns (h ++ [(y, 0)]) [y] ex := by
  have old : ∀ a, hasI (h ++ [(y, 0)]) a = true → a ≠ y → hasI h a = true := fun a ha n => by
    rw [hasI_snoc, Bool.or_eq_true] at ha
    rcases ha with ha | ha
    · exact ha
    · exact absurd (eq_of_beq ha).symm n
  have mono : ∀ a, hasI h a = true → hasI (h ++ [(y, 0)]) a = true := fun a ha => by rw [hasI_snoc, ha]; rfl
  have noW : ∀ a : Int, a ∉ ([] : List Int) := fun a z => by cases z
  refine ⟨fun e he => ?_, fun z hz => ?_, fun l' hl' a b e ha hb qa hw hx' => ?_, fun c0 p0 => ?_, ?_⟩
  · rcases List.mem_append.mp he with he | he
    · exact i.ks e he
    · have : e = (y, 0) := by simpa using he
      rw [this]
      exact ⟨hy, .inl rfl⟩
  · have : z = y := by simpa using hz
    rw [this, hasI_snoc, beq_self_eq_true, Bool.or_true]
  · have hay : a ≠ y := fun z => hw (by rw [z]; simp)
    have qa' := old a qa hay
    obtain ⟨h1, h2⟩ := i.dn l' hl' a b e ha hb qa' (noW a) (hf _ _)
    exact ⟨mono b h1, by rw [valI_old qa', valI_old h1]; exact h2⟩
  · obtain ⟨c, p, hc⟩ := i.ag c0 p0
    by_cases cy : c y = false
    · refine ⟨c, p, fun z hz => ?_⟩
      by_cases hzy : z = y
      · subst hzy
        rw [valI_new q, cy]
        rfl
      · have := old z hz hzy
        rw [valI_old this]
        exact hc z this
    · have cy : c y = true := by simpa using cy
      refine ⟨fun z => if hasI h z = true then c z else !c z, fun l hl h1 h2 => ?_, fun z hz => ?_⟩
      · have pp := p l hl h1 h2
        have k1 := fun t => (i.dn l hl l.1 l.2 (.inl ⟨rfl, rfl⟩) h1 h2 t (noW _) (hf _ _)).1
        have k2 := fun t => (i.dn l hl l.2 l.1 (.inr ⟨rfl, rfl⟩) h2 h1 t (noW _) (hf _ _)).1
        show (if hasI h l.1 = true then c l.1 else !c l.1) ≠ (if hasI h l.2 = true then c l.2 else !c l.2)
        by_cases b1 : hasI h l.1 = true
        · rw [if_pos b1, if_pos (k1 b1)]
          exact pp
        · rw [if_neg b1, if_neg (fun z => b1 (k2 z))]
          intro z
          refine pp ?_
          cases e1 : c l.1 <;> cases e2 : c l.2 <;> rw [e1, e2] at z <;> first | rfl | cases z
      · show (if hasI h z = true then c z else !c z) = _
        by_cases hzy : z = y
        · subst hzy
          rw [valI_new q, if_neg (by rw [q]; exact Bool.false_ne_true), cy]
          rfl
        · have := old z hz hzy
          rw [valI_old this, if_pos this]
          exact hc z this
  · have := miss_snoc 0 q (ns := ns)
    have := this.2 hy
    have := i.sz
    rw [List.length_append, List.length_singleton]
    omega
theorem Inv.first : Inv ls ns [] [] ex := by
  refine ⟨(fun e he => by cases he), (fun z hz => by cases hz), (fun l hl a b e ha hb q => by cases q), (fun c p => ⟨c, p, fun z hz => by cases hz⟩), ?_⟩
  show 0 + miss ns [] ≤ _
  rw [Nat.zero_add]
  exact List.length_filter_le _ _
/-- two of one color -/
theorem Inv.clash {x y : Int} {l : Int × Int} (i : Inv ls ns h w ex) (hl : l ∈ ls) (he : Edge l x y) (hx : hasI h x = true) (hy : hasI h y = true) (q : valI h y = valI h x) : ¬ Colorable ls ns := by
  intro ⟨c0, p0⟩
  obtain ⟨c, p, hc⟩ := i.ag c0 p0
  have h1 := p.edge hl he (i.bit hx).1 (i.bit hy).1
  rw [hc x hx, hc y hy, q] at h1
  exact h1 rfl
theorem Inv.last (i : Inv ls ns h [] ex) (hf : ∀ l a, ¬ ex l a) (ha : ∀ z ∈ ns, hasI h z = true) : Colorable ls ns := by
  refine ⟨fun z => valI h z == 1, fun l hl h1 h2 => ?_⟩
  obtain ⟨k1, k2⟩ := i.dn l hl l.1 l.2 (.inl ⟨rfl, rfl⟩) h1 h2 (ha _ h1) (fun z => by cases z) (hf _ _)
  have b1 := (i.bit (ha _ h1)).2
  have b2 := (i.bit k1).2
  show (valI h l.1 == 1) ≠ (valI h l.2 == 1)
  rcases b1 with b1 | b1 <;> rcases b2 with b2 | b2 <;> rw [b1, b2] at k2 ⊢ <;> first | exact absurd rfl k2 | decide
end
end FL
set_option maxHeartbeats 4000000
namespace FL
open PySem PySem.Spec PyProof.Rows L2
local macro_rules | `(tactic| simp_arith only [$ls,*]) => `(tactic| simp only [R.bind_ok, R.bind_er, R.bind_no, R.out_ok, R.out_er, R.out_no, R.strict_ok, R.strict_er, R.strict_no, Oc.seq_nx, Oc.seq_rt, Oc.seq_er, Oc.seq_no, Oc.loop_nx, Oc.loop_rt, sIf, sRet, sSet, sAsg, sDrop, mVar_0, mVarT_0, mVarO_0, mVar_1, mVarT_1, mVarO_1, mVar_2, mVarT_2, mVarO_2, mVar_3, mVarT_3, mVarO_3, mVar_4, mVarT_4, mVarO_4, mVar_5, mVarT_5, mVarO_5, mVar_6, mVarT_6, mVarO_6, mVar_7, mVarT_7, mVarO_7, mVar_8, mVarT_8, mVarO_8, mVar_9, mVarT_9, mVarO_9, mVar_10, mVarT_10, mVarO_10, mVar_11, mVarT_11, mVarO_11, mVar_12, mVarT_12, mVarO_12, mVar_13, mVarT_13, mVarO_13, mVar_14, mVarT_14, mVarO_14, mVar_15, mVarT_15, mVarO_15, mVar_16, mVarT_16, mVarO_16, mVar_17, mVarT_17, mVarO_17, mVar_18, mVarT_18, mVarO_18, mVar_19, mVarT_19, mVarO_19, mVar_20, mVarT_20, mVarO_20, mVar_21, mVarT_21, mVarO_21, mVar_22, mVarT_22, mVarO_22, mVar_23, mVarT_23, mVarO_23, mVar_24, mVarT_24, mVarO_24, mC, mNil, mCons, mTup, mLst, mBin, mUn, mCall, mB, asB_bl, mNot, mAnd, mOr, vB, mIf, mIsN, isN, mYes, mChain, Tg.oc, Tg.put, setAll, List.getElem?_cons_zero, List.getElem?_cons_succ, List.set_cons_zero, List.set_cons_succ, List.map_cons, List.map_nil, List.length_cons, List.length_nil, List.replicate_succ, List.replicate_zero, List.cons_append, List.nil_append, List.append_nil, Nat.reduceAdd, Nat.reduceSub, Nat.succ_eq_add_one, if_true, if_false, ite_true, ite_false, Bool.false_eq_true, Bool.not_true, Bool.not_false, Bool.xor_false, Bool.false_xor, Bool.true_xor, sz_0, sz_1, sz_2, sz_3, sz_4, sz_5, sz_6, sz_7, sz_8, sz_9, sz_10, sz_11, sz_12, sz_13, sz_14, sz_15, sz_16, sz_17, sz_18, sz_19, sz_20, sz_21, sz_22, sz_23, sz_24, sz_25, sz_26, sz_27, sz_28, sz_29, sz_30, sz_31, sz_32, sz_33, sz_34, sz_35, sz_36, sz_37, sz_38, sz_39, sz_40, ok_ite, bl_ite, and_ite, or_ite, Bool.or_false, Bool.false_or, Bool.true_or, Bool.or_true, Bool.and_true, Bool.true_and, Bool.and_false, Bool.false_and, lcTurn, wipeE, itemsD_lst, itemsD_tup, ↓reduceIte, reduceCtorEq, sApp, sExt, sOwn, sPar, ownAt, frzE, $ls,*])
/-! ### the search, walked -/
theorem any_int (x : Int) (ws : List Int) : ((ws.map D.int).any fun z => eqvD z (.int x)) = decide (x ∈ ws) := by
  rw [List.any_map, Bool.eq_iff_iff, decide_eq_true_eq, List.any_eq_true]
  constructor
  · intro ⟨y, h1, h2⟩
    rw [← eq_of_beq (show (y == x) = true from h2)]
    exact h1
  · intro h
    exact ⟨x, h, beq_self_eq_true x⟩
theorem in_tup (neg : Bool) (x : Int) (ws : List Int) : inD neg (.int x) (wD ws) = .ok (.bl (xor neg (decide (x ∈ ws)))) := by
  show (if _ then R.ok (D.bl (xor neg ((ws.map D.int).any fun z => eqvD z (.int x)))) else .no) = _
  have e : (flD (.int x) && (ws.map D.int).all flD) = true := by
    show (ws.map D.int).all flD = true
    rw [List.all_map]
    exact List.all_eq_true.mpr fun y hy => rfl
  rw [if_pos e, any_int]
theorem in_lst (neg : Bool) (x : Int) (ws : List Int) : inD neg (.int x) (iD ws) = .ok (.bl (xor neg (decide (x ∈ ws)))) := by
  show (if _ then R.ok (D.bl (xor neg ((ws.map D.int).any fun z => eqvD z (.int x)))) else .no) = _
  have e : (shD 60 (.int x) && shL 59 (ws.map D.int)) = true := by rw [shL_ints]; rfl
  rw [if_pos e, any_int]
theorem in_line (x : Int) (l : Int × Int) : inD false (.int x) (lnD l) = .ok (.bl (decide (x = l.1 ∨ x = l.2))) := by
  have e := in_tup false x [l.1, l.2]
  rw [show (decide (x ∈ [l.1, l.2])) = decide (x = l.1 ∨ x = l.2) by simp] at e
  rw [Bool.false_xor] at e
  exact e
theorem din_kv {m : Env → R D} {ρ : Env} {i : Nat} {neg : Bool} {h : List (Int × Int)} {y : Int} (e1 : ρ[i]? = some (.od (kvD h))) (e2 : m ρ = .ok (.int y)) : mDin neg i m ρ = .ok (.bl (xor neg (hasI h y))) := by
  unfold mDin dctAt
  rw [e1, e2, R.bind_ok]
  show R.ok (D.bl (xor neg (hasK (kvD h) (.inl y)))) = _
  rw [hasK_kv]
theorem dget_kv {m : Env → R D} {ρ : Env} {i : Nat} {h : List (Int × Int)} {y : Int} (e1 : ρ[i]? = some (.od (kvD h))) (e2 : m ρ = .ok (.int y)) (q : hasI h y = true) : mDget i m ρ = .ok (.int (valI h y)) := by
  unfold mDget dctAt
  rw [e1, e2]
  show getK (kvD h) (.inl y) = _
  exact getK_kv q
theorem dput_kv {mk mv : Env → R D} {ρ : Env} {i : Nat} {h : List (Int × Int)} {y v : Int} (e1 : ρ[i]? = some (.od (kvD h))) (e2 : mk ρ = .ok (.int y)) (e3 : mv ρ = .ok (.int v)) (q : hasI h y = false) (hl : h.length ≤ 1000) : sDput i mk mv ρ = .nx (ρ.set i (.od (kvD (h ++ [(y, v)])))) := by
  unfold sDput dctAt
  rw [e1, e2, e3]
  show (if (kvD h).length < sizeLine then Oc.nx (ρ.set i (.od (setK (kvD h) (.inl y) (.int v)))) else .no) = _
  rw [if_pos (by unfold kvD; rw [List.length_map, sizeLine_eq]; omega), setK_kv q]
theorem pop_i {ρ : Env} {i j : Nat} {w : List Int} {x : Int} (e1 : ρ[i]? = some (.ow ((w ++ [x]).map D.int))) : sPop j i ρ = .nx ((ρ.set i (.ow (w.map D.int))).set j (.sh (.int x))) := by
  unfold sPop ownAt
  rw [e1]
  show (match ((w ++ [x]).map D.int).getLast? with | some d => _ | none => _) = _
  rw [List.map_append, List.map_cons, List.map_nil, List.getLast?_concat, List.dropLast_concat]
theorem app_i {ρ : Env} {i : Nat} {m : Env → R D} {w : List Int} {x : Int} (e1 : ρ[i]? = some (.ow (w.map D.int))) (e2 : m ρ = .ok (.int x)) (hl : w.length ≤ 1000) : sApp i m ρ = .nx (ρ.set i (.ow ((w ++ [x]).map D.int))) := by
  unfold sApp ownAt
  rw [e1, e2]
  show (if (w.map D.int).length < sizeLine then Oc.nx (ρ.set i (.ow (w.map D.int ++ [D.int x]))) else .no) = _
  rw [if_pos (by rw [List.length_map, sizeLine_eq]; omega), List.map_append]
  rfl
section
variable {ls : List (Int × Int)} {ns : List Int}
abbrev eS (ls : List (Int × Int)) (ns : List Int) (h : List (Int × Int)) (w : List Int) (b x a6 a7 : Sl) : Env := [.sh (lsD ls), .sh (wD ns), .od (kvD h), b, .ow (w.map D.int), x, a6, a7]
abbrev exN (x : Int) (dn : List (Int × Int)) : Int × Int → Int → Prop := fun l a => a = x ∧ l ∉ dn
structure StA (ls : List (Int × Int)) (ns : List Int) (k : Nat) (h : List (Int × Int)) (w : List Int) (ex : Int × Int → Int → Prop) : Prop where
  i : Inv ls ns h w ex
  m : w.length + miss ns h ≤ k
theorem line_turn (hn : ns.length ≤ 100) {k : Nat} (hk : k ≤ 200) {x : Int} {dn : List (Int × Int)} {l : Int × Int} {b a6 a7 : Sl} {h : List (Int × Int)} {w : List Int} (hl : l ∈ ls) (s : StA ls ns k h w (exN x dn)) (hx : hasI h x = true) :
    (b14_are_so (eS ls ns h w b (.sh (.int x)) (.sh (lnD l)) a7) = .rt (.bl false) ∧ ¬ Colorable ls ns) ∨
    ∃ h' w' a7', b14_are_so (eS ls ns h w b (.sh (.int x)) (.sh (lnD l)) a7) = .nx (eS ls ns h' w' b (.sh (.int x)) (.sh (lnD l)) a7') ∧ StA ls ns k h' w' (exN x (dn ++ [l])) ∧ ∀ z, hasI h z = true → hasI h' z = true := by
  have hb := s.i.bit hx
  have szh := s.i.sz
  have szm := s.m
  have skip : (∀ y, Edge l x y → y ∈ ns → hasI h y = true ∧ valI h x ≠ valI h y) → StA ls ns k h w (exN x (dn ++ [l])) := fun f => ⟨s.i.wk fun l' hl' a b' e ha hb' q hw hx' hx => by
    obtain ⟨e1, e2⟩ := hx
    have : l' ∈ dn ++ [l] := Classical.byContradiction fun n => hx' ⟨e1, n⟩
    rcases List.mem_append.mp this with z | z
    · exact absurd z e2
    · have : l' = l := by simpa using z
      subst this e1
      exact f b' e hb', s.m⟩
  by_cases c1 : x = l.1 ∨ x = l.2
  rotate_left
  · right
    refine ⟨h, w, a7, ?_, skip fun y e hy => absurd ?_ c1, fun z hz => hz⟩
    · unfold b14_are_so t13_are_so
      simp_arith only [in_line, decide_eq_false c1]
    · unfold Edge at e; omega
  by_cases c2 : l.1 ∈ ns
  rotate_left
  · right
    refine ⟨h, w, a7, ?_, skip fun y e hy => absurd ?_ c2, fun z hz => hz⟩
    · unfold b14_are_so t13_are_so
      simp_arith only [in_line, decide_eq_true c1, idx_tup0, in_tup, decide_eq_false c2]
    · rcases e with ⟨e1, e2⟩ | ⟨e1, e2⟩
      · rw [e1]; exact hb.1
      · rw [e1]; exact hy
  by_cases c3 : l.2 ∈ ns
  rotate_left
  · right
    refine ⟨h, w, a7, ?_, skip fun y e hy => absurd ?_ c3, fun z hz => hz⟩
    · unfold b14_are_so t13_are_so
      simp_arith only [in_line, decide_eq_true c1, idx_tup0, idx_tup1, in_tup, decide_eq_true c2, decide_eq_false c3]
    · rcases e with ⟨e1, e2⟩ | ⟨e1, e2⟩
      · rw [e2]; exact hy
      · rw [e2]; exact hb.1
  have he : Edge l x (l.1 + l.2 - x) := by unfold Edge; omega
  have hy : l.1 + l.2 - x ∈ ns := by
    rcases c1 with c1 | c1
    · rw [show l.1 + l.2 - x = l.2 by omega]; exact c3
    · rw [show l.1 + l.2 - x = l.1 by omega]; exact c2
  have uni : ∀ y, Edge l x y → y = l.1 + l.2 - x := fun y e => by unfold Edge at e; omega
  have r1 : b14_are_so (eS ls ns h w b (.sh (.int x)) (.sh (lnD l)) a7) = t12_are_so (eS ls ns h w b (.sh (.int x)) (.sh (lnD l)) (.sh (.int (l.1 + l.2 - x)))) := by
    unfold b14_are_so t13_are_so t7_are_so
    simp_arith only [in_line, decide_eq_true c1, idx_tup0, idx_tup1, in_tup, decide_eq_true c2, decide_eq_true c3, addD_int, subD_int]
  rw [r1]
  generalize l.1 + l.2 - x = y at *
  unfold t12_are_so
  cases q : hasI h y with
  | false =>
    right
    refine ⟨h ++ [(y, 1 - valI h x)], w ++ [y], .sh (.int y), ?_, ⟨s.i.push hl he hx hy q (fun l' a n z => n z.1) (fun l' n z => ?_) (fun l' a n z => n z.1), ?_⟩, fun z hz => by rw [hasI_snoc, hz]; rfl⟩
    · unfold sIf
      rw [show (mB (mDin true 2 (mVar 7))) (eS ls ns h w b (.sh (.int x)) (.sh (lnD l)) (.sh (.int y))) = .ok true by
        unfold mB
        rw [din_kv (h := h) (y := y) rfl rfl, q]
        rfl]
      rw [R.out_ok, if_pos rfl]
      have g : mDget 2 (mVar 5) (eS ls ns h w b (.sh (.int x)) (.sh (lnD l)) (.sh (.int y))) = .ok (.int (valI h x)) := dget_kv rfl rfl hx
      show (t8_are_so (eS ls ns h w b (.sh (.int x)) (.sh (lnD l)) (.sh (.int y)))).seq t9_are_so = _
      rw [seq_eq (f := t8_are_so) (ρ' := eS ls ns (h ++ [(y, 1 - valI h x)]) w b (.sh (.int x)) (.sh (lnD l)) (.sh (.int y))) (by
        unfold t8_are_so
        rw [dput_kv (h := h) (y := y) (v := 1 - valI h x) rfl rfl (by
          unfold mBin
          rw [g]
          rfl) q (by omega)]
        rfl)]
      unfold t9_are_so
      rw [app_i (w := w) (x := y) rfl rfl (by omega)]
      rfl
    · have : l' ∈ dn ++ [l] := Classical.byContradiction fun n' => n ⟨rfl, n'⟩
      rcases List.mem_append.mp this with z' | z'
      · exact absurd z' z.2
      · simpa using z'
    · have := (miss_snoc (1 - valI h x) q (ns := ns)).2 hy
      rw [List.length_append, List.length_singleton]
      omega
  | true =>
    have r2 : (sIf (mB (mDin true 2 (mVar 7))) (fun ρ => (t8_are_so ρ).seq t9_are_so) t11_are_so) (eS ls ns h w b (.sh (.int x)) (.sh (lnD l)) (.sh (.int y))) = if valI h y == valI h x then .rt (.bl false) else .nx (eS ls ns h w b (.sh (.int x)) (.sh (lnD l)) (.sh (.int y))) := by
      unfold sIf
      rw [show (mB (mDin true 2 (mVar 7))) (eS ls ns h w b (.sh (.int x)) (.sh (lnD l)) (.sh (.int y))) = .ok false by
        unfold mB
        rw [din_kv (h := h) (y := y) rfl rfl, q]
        rfl]
      rw [R.out_ok, if_neg Bool.false_ne_true]
      unfold t11_are_so sIf
      rw [show (mB (mBin (eqD false) (mDget 2 (mVar 7)) (mDget 2 (mVar 5)))) (eS ls ns h w b (.sh (.int x)) (.sh (lnD l)) (.sh (.int y))) = .ok (valI h y == valI h x) by
        unfold mB mBin
        rw [dget_kv (h := h) (y := y) rfl rfl q, R.bind_ok, dget_kv (h := h) (y := x) rfl rfl hx, R.bind_ok, eqD_int, Bool.false_xor]
        rfl]
      rw [R.out_ok]
      rfl
    rw [r2]
    by_cases e : valI h y = valI h x
    · left
      rw [if_pos (by rw [e]; exact beq_self_eq_true _)]
      exact ⟨rfl, s.i.clash hl he hx q e⟩
    · right
      refine ⟨h, w, .sh (.int y), if_neg (fun z => e (eq_of_beq z)), skip fun y' e' hy' => ?_, fun z hz => hz⟩
      rw [uni y' e']
      exact ⟨q, fun z => e z.symm⟩
theorem while_turn (hn : ns.length ≤ 100) {k : Nat} (hk : k ≤ 200) {x : Int} {b a5 a6 a7 : Sl} {h : List (Int × Int)} {w : List Int} (s : StA ls ns (k + 1) h (w ++ [x]) fun _ _ => False) :
    (b16_are_so (eS ls ns h (w ++ [x]) b a5 a6 a7) = .rt (.bl false) ∧ ¬ Colorable ls ns) ∨
    ∃ h' w' a5' a6' a7', b16_are_so (eS ls ns h (w ++ [x]) b a5 a6 a7) = .nx (eS ls ns h' w' b a5' a6' a7') ∧ StA ls ns k h' w' (fun _ _ => False) ∧ ∀ z, hasI h z = true → hasI h' z = true := by
  have hx : hasI h x = true := s.i.wh x (by simp)
  have sm := s.m
  rw [List.length_append, List.length_singleton] at sm
  unfold b16_are_so
  rw [seq_eq (f := t6_are_so) (ρ' := eS ls ns h w b (.sh (.int x)) a6 a7) (by unfold t6_are_so; rw [pop_i (w := w) (x := x) rfl]; rfl)]
  have r : t14_are_so (eS ls ns h w b (.sh (.int x)) a6 a7) = forGo (.one 6) b14_are_so (ls.map lnD) (eS ls ns h w b (.sh (.int x)) a6 a7) := rfl
  rw [r]
  have key := forGo_or (t := .one 6) (f := b14_are_so) lnD (fun dn ρ => ∃ h' w' a6 a7, ρ = eS ls ns h' w' b (.sh (.int x)) a6 a7 ∧ StA ls ns k h' w' (exN x dn) ∧ hasI h' x = true ∧ ∀ z, hasI h z = true → hasI h' z = true) (.bl false) (¬ Colorable ls ns) ls []
    (eS ls ns h w b (.sh (.int x)) a6 a7) ⟨h, w, a6, a7, rfl, ⟨?_, by omega⟩, hx, fun z hz => hz⟩ (fun dn l rs ρ hd hI => ?_)
  · rcases key with ⟨e, p⟩ | ⟨ρ', e, h', w', a6', a7', rfl, s', _, hm⟩
    · exact .inl ⟨e, p⟩
    · right
      rw [List.nil_append] at s'
      refine ⟨h', w', _, _, _, e, ⟨s'.i.wk fun l hl a b' e' ha hb q hw hx' hx => absurd hl hx.2, s'.m⟩, hm⟩
  · have i2 := s.i.pop fun _ _ => id
    exact i2.wk fun l hl a b' e' ha hb q hw hx' hx => absurd ⟨hx, fun z => by cases z⟩ hx'
  · obtain ⟨h', w', a6', a7', rfl, s', hx', hm⟩ := hI
    rw [List.nil_append] at hd
    have hl : l ∈ ls := by rw [← hd]; simp
    show (b14_are_so (eS ls ns h' w' b (.sh (.int x)) (.sh (lnD l)) a7') = _ ∧ _) ∨ ∃ ρ', b14_are_so (eS ls ns h' w' b (.sh (.int x)) (.sh (lnD l)) a7') = _ ∧ _
    rcases line_turn hn (by omega) (b := b) (a6 := a6') (a7 := a7') hl s' hx' with z | ⟨h2, w2, a2, e, s2, m2⟩
    · exact .inl z
    · exact .inr ⟨_, e, h2, w2, _, _, rfl, s2, m2 _ hx', fun z hz => m2 z (hm z hz)⟩
theorem begin_turn (hn : ns.length ≤ 100) {z : Int} {a4 a5 a6 a7 : Sl} {h : List (Int × Int)} (hz : z ∈ ns) (i : Inv ls ns h [] fun _ _ => False) :
    (b18_are_so [.sh (lsD ls), .sh (wD ns), .od (kvD h), .sh (.int z), a4, a5, a6, a7] = .rt (.bl false) ∧ ¬ Colorable ls ns) ∨
    ∃ h' a4' a5' a6' a7', b18_are_so [.sh (lsD ls), .sh (wD ns), .od (kvD h), .sh (.int z), a4, a5, a6, a7] = .nx [.sh (lsD ls), .sh (wD ns), .od (kvD h'), .sh (.int z), a4', a5', a6', a7'] ∧ Inv ls ns h' [] (fun _ _ => False) ∧ (∀ y, hasI h y = true → hasI h' y = true) ∧ hasI h' z = true := by
  have st : ∃ h1 w1, t5_are_so (eS ls ns h [] (.sh (.int z)) a5 a6 a7) = .nx (eS ls ns h1 w1 (.sh (.int z)) a5 a6 a7) ∧ StA ls ns ns.length h1 w1 (fun _ _ => False) ∧ (∀ y, hasI h y = true → hasI h1 y = true) ∧ hasI h1 z = true := by
    have sz := i.sz
    cases q : hasI h z with
    | true =>
      refine ⟨h, [], ?_, ⟨i, ?_⟩, fun y hy => hy, q⟩
      · unfold t5_are_so sIf
        rw [show (mB (mDin true 2 (mVar 3))) (eS ls ns h [] (.sh (.int z)) a5 a6 a7) = .ok false by
          unfold mB
          rw [din_kv (h := h) (y := z) rfl rfl, q]
          rfl]
        rfl
      · show 0 + _ ≤ _
        omega
    | false =>
      have ms := (miss_snoc 0 q (ns := ns)).2 hz
      refine ⟨h ++ [(z, 0)], [z], ?_, ⟨i.fresh (fun _ _ => id) hz q, ?_⟩, fun y hy => by rw [hasI_snoc, hy]; rfl, by rw [hasI_snoc, beq_self_eq_true, Bool.or_true]⟩
      · unfold t5_are_so sIf
        rw [show (mB (mDin true 2 (mVar 3))) (eS ls ns h [] (.sh (.int z)) a5 a6 a7) = .ok true by
          unfold mB
          rw [din_kv (h := h) (y := z) rfl rfl, q]
          rfl]
        rw [R.out_ok, if_pos rfl]
        show (t3_are_so (eS ls ns h [] (.sh (.int z)) a5 a6 a7)).seq t4_are_so = _
        rw [seq_eq (f := t3_are_so) (ρ' := eS ls ns (h ++ [(z, 0)]) [] (.sh (.int z)) a5 a6 a7) (by
          unfold t3_are_so
          rw [dput_kv (h := h) (y := z) (v := 0) rfl rfl rfl q (by omega)]
          rfl)]
        unfold t4_are_so
        rw [app_i (w := []) (x := z) rfl rfl (by simp)]
        rfl
      · show 1 + _ ≤ _
        omega
  obtain ⟨h1, w1, e1, s1, m1, z1⟩ := st
  unfold b18_are_so
  rw [seq_eq (f := t2_are_so) (ρ' := eS ls ns h [] (.sh (.int z)) a5 a6 a7) rfl]
  show (((t5_are_so (eS ls ns h [] (.sh (.int z)) a5 a6 a7)).seq t15_are_so = _ ∧ _) ∨ ∃ h' a4' a5' a6' a7', (t5_are_so (eS ls ns h [] (.sh (.int z)) a5 a6 a7)).seq t15_are_so = _ ∧ _)
  rw [seq_eq e1]
  have cond : ∀ h w a5 a6 a7, (mB (mBin (eqD true) (mVarT 4) (mLst mNil))) (eS ls ns h w (.sh (.int z)) a5 a6 a7) = .ok (!(w == [])) := by
    intro h w a5 a6 a7
    unfold mB mBin
    rw [show mVarT 4 (eS ls ns h w (.sh (.int z)) a5 a6 a7) = .ok (iD w) from rfl, show (mLst mNil) (eS ls ns h w (.sh (.int z)) a5 a6 a7) = .ok (iD []) from rfl, R.bind_ok, R.bind_ok, eqD_i, Bool.true_xor]
    rfl
  have wh := whGo_or (mt := mB (mBin (eqD true) (mVarT 4) (mLst mNil))) (f := b16_are_so) (fun k ρ => ∃ h w a5 a6 a7, ρ = eS ls ns h w (.sh (.int z)) a5 a6 a7 ∧ k ≤ 100 ∧ StA ls ns k h w (fun _ _ => False) ∧ (∀ y, hasI h1 y = true → hasI h y = true)) (.bl false) (¬ Colorable ls ns) (fun k ρ hI => by
    obtain ⟨h, w, a5, a6, a7, rfl, hk, s, m⟩ := hI
    rw [cond]
    rcases List.eq_nil_or_concat w with rfl | ⟨w', x, rfl⟩
    · exact .inl rfl
    · right
      rw [List.concat_eq_append] at s ⊢
      have sm := s.m
      rw [List.length_append, List.length_singleton] at sm
      obtain ⟨k', rfl⟩ : ∃ k', k = k' + 1 := ⟨k - 1, by omega⟩
      refine ⟨by cases w' <;> rfl, ?_⟩
      rcases while_turn hn (by omega) (b := .sh (.int z)) (a5 := a5) (a6 := a6) (a7 := a7) s with c | ⟨h2, w2, b5, b6, b7, e, s2, m2⟩
      · exact .inl c
      · exact .inr ⟨_, k', by omega, e, h2, w2, b5, b6, b7, rfl, by omega, s2, fun y hy => m2 y (m y hy)⟩) bigFu ns.length (eS ls ns h1 w1 (.sh (.int z)) a5 a6 a7) (by
    show ns.length < 1000000
    omega) ⟨h1, w1, _, _, _, rfl, hn, s1, fun y hy => hy⟩
  rcases wh with ⟨e, p⟩ | ⟨ρ', k', e, ⟨h2, w2, b5, b6, b7, rfl, hk, s2, m2⟩, e3⟩
  · exact .inl ⟨e, p⟩
  · right
    rw [cond] at e3
    have hw : w2 = [] := by
      cases w2 with
      | nil => rfl
      | cons _ _ => cases e3
    subst hw
    exact ⟨h2, _, b5, b6, b7, e, s2.i, fun y hy => m2 y (m1 y hy), m2 z z1⟩
theorem are_so_ok (hn : ns.length ≤ 100) : ∃ b : Bool, F_are_so [lsD ls, wD ns] = .ok (.bl b) ∧ (b = true ↔ Colorable ls ns) := by
  have key := forGo_or (t := .one 3) (f := b18_are_so) D.int (fun dn ρ => ∃ h a3 a4 a5 a6 a7, ρ = [.sh (lsD ls), .sh (wD ns), .od (kvD h), a3, a4, a5, a6, a7] ∧ Inv ls ns h [] (fun _ _ => False) ∧ ∀ y ∈ dn, hasI h y = true) (.bl false) (¬ Colorable ls ns) ns []
    [.sh (lsD ls), .sh (wD ns), .od (kvD []), .no, .no, .no, .no, .no] ⟨[], _, _, _, _, _, rfl, Inv.first, fun y hy => by cases hy⟩ (fun dn z rs ρ hd hI => ?_)
  · have un : ∀ r, ((t16_are_so [.sh (lsD ls), .sh (wD ns), .od (kvD []), .no, .no, .no, .no, .no]).seq t17_are_so) = .rt r → F_are_so [lsD ls, wD ns] = .ok r := by
      intro r e
      show runF 8 2 m_are_so [lsD ls, wD ns] = _
      refine runF_rt rfl ?_
      unfold m_are_so
      rw [seq_eq (f := t1_are_so) (ρ' := [.sh (lsD ls), .sh (wD ns), .od (kvD []), .no, .no, .no, .no, .no]) rfl]
      exact e
    have r : t16_are_so [.sh (lsD ls), .sh (wD ns), .od (kvD []), .no, .no, .no, .no, .no] = forGo (.one 3) b18_are_so (ns.map D.int) [.sh (lsD ls), .sh (wD ns), .od (kvD []), .no, .no, .no, .no, .no] := rfl
    rw [r] at un
    rcases key with ⟨e, p⟩ | ⟨ρ', e, h, _, _, _, _, _, rfl, i, ha⟩
    · refine ⟨false, un _ (by rw [e]; rfl), ⟨fun z => (by cases z), fun c => absurd c p⟩⟩
    · refine ⟨true, un _ (by rw [e]; rfl), ⟨fun _ => i.last (fun _ _ => id) fun z hz => ha z hz, fun _ => rfl⟩⟩
  · obtain ⟨h, a3, a4, a5, a6, a7, rfl, i, ha⟩ := hI
    rw [List.nil_append] at hd
    have hz : z ∈ ns := by rw [← hd]; simp
    rcases begin_turn hn (a4 := a4) (a5 := a5) (a6 := a6) (a7 := a7) hz i with c | ⟨h', b4, b5, b6, b7, e, i2, m2, z2⟩
    · exact .inl c
    · refine .inr ⟨_, e, h', _, b4, b5, b6, b7, rfl, i2, fun y hy => ?_⟩
      rcases List.mem_append.mp hy with hy | hy
      · exact m2 y (ha y hy)
      · have : y = z := by simpa using hy
        rw [this]; exact z2
end
end FL
set_option maxHeartbeats 4000000
namespace FL
open PySem PySem.Spec PyProof.Rows L2
local macro_rules | `(tactic| simp_arith only [$ls,*]) => `(tactic| simp only [R.bind_ok, R.bind_er, R.bind_no, R.out_ok, R.out_er, R.out_no, R.strict_ok, R.strict_er, R.strict_no, Oc.seq_nx, Oc.seq_rt, Oc.seq_er, Oc.seq_no, Oc.loop_nx, Oc.loop_rt, sIf, sRet, sSet, sAsg, sDrop, mVar_0, mVarT_0, mVarO_0, mVar_1, mVarT_1, mVarO_1, mVar_2, mVarT_2, mVarO_2, mVar_3, mVarT_3, mVarO_3, mVar_4, mVarT_4, mVarO_4, mVar_5, mVarT_5, mVarO_5, mVar_6, mVarT_6, mVarO_6, mVar_7, mVarT_7, mVarO_7, mVar_8, mVarT_8, mVarO_8, mVar_9, mVarT_9, mVarO_9, mVar_10, mVarT_10, mVarO_10, mVar_11, mVarT_11, mVarO_11, mVar_12, mVarT_12, mVarO_12, mVar_13, mVarT_13, mVarO_13, mVar_14, mVarT_14, mVarO_14, mVar_15, mVarT_15, mVarO_15, mVar_16, mVarT_16, mVarO_16, mVar_17, mVarT_17, mVarO_17, mVar_18, mVarT_18, mVarO_18, mVar_19, mVarT_19, mVarO_19, mVar_20, mVarT_20, mVarO_20, mVar_21, mVarT_21, mVarO_21, mVar_22, mVarT_22, mVarO_22, mVar_23, mVarT_23, mVarO_23, mVar_24, mVarT_24, mVarO_24, mC, mNil, mCons, mTup, mLst, mBin, mUn, mCall, mB, asB_bl, mNot, mAnd, mOr, vB, mIf, mIsN, isN, mYes, mChain, Tg.oc, Tg.put, setAll, List.getElem?_cons_zero, List.getElem?_cons_succ, List.set_cons_zero, List.set_cons_succ, List.map_cons, List.map_nil, List.length_cons, List.length_nil, List.replicate_succ, List.replicate_zero, List.cons_append, List.nil_append, List.append_nil, Nat.reduceAdd, Nat.reduceSub, Nat.succ_eq_add_one, if_true, if_false, ite_true, ite_false, Bool.false_eq_true, Bool.not_true, Bool.not_false, Bool.xor_false, Bool.false_xor, Bool.true_xor, sz_0, sz_1, sz_2, sz_3, sz_4, sz_5, sz_6, sz_7, sz_8, sz_9, sz_10, sz_11, sz_12, sz_13, sz_14, sz_15, sz_16, sz_17, sz_18, sz_19, sz_20, sz_21, sz_22, sz_23, sz_24, sz_25, sz_26, sz_27, sz_28, sz_29, sz_30, sz_31, sz_32, sz_33, sz_34, sz_35, sz_36, sz_37, sz_38, sz_39, sz_40, ok_ite, bl_ite, and_ite, or_ite, Bool.or_false, Bool.false_or, Bool.true_or, Bool.or_true, Bool.and_true, Bool.true_and, Bool.and_false, Bool.false_and, lcTurn, wipeE, itemsD_lst, itemsD_tup, ↓reduceIte, reduceCtorEq, sApp, sExt, sOwn, sPar, ownAt, frzE, $ls,*])
/-! ### the law's own way to tell -/
def ix (ns : List Int) (a : Int) : Nat := match lixD (ns.map D.int) (.int a) with
  | .ok (.int k) => k.toNat
  | _ => 0
theorem ix_ok {ns : List Int} {a : Int} (h : a ∈ ns) : lixD (ns.map D.int) (.int a) = .ok (.int (ix ns a : Nat)) ∧ ns[ix ns a]? = some a := by
  obtain ⟨k, h1, h2⟩ := lix_at h
  have e : ix ns a = k := by
    unfold ix
    rw [h2]
    rfl
  rw [e]
  exact ⟨h2, h1⟩
theorem hl_bits : ∀ {j : Nat} {h : List Int}, h ∈ hlI j → ∀ a ∈ h, a = 0 ∨ a = 1
  | 0, h, q => by
    have : h = [0] := by simpa [hlI] using q
    rw [this]
    intro a ha
    left
    simpa using ha
  | j + 1, h, q => by
    obtain ⟨o, ho, q⟩ := List.mem_flatMap.mp (show h ∈ (hlI j).flatMap two from q)
    have ih := hl_bits ho
    unfold two at q
    simp only [List.mem_cons, List.not_mem_nil, or_false] at q
    intro a ha
    rcases q with rfl | rfl <;> rcases List.mem_append.mp ha with ha | ha <;> first | exact ih a ha | skip
    · left; simpa using ha
    · right; simpa using ha
def inn (ls : List (Int × Int)) (ns : List Int) : List (Int × Int) := ls.filter fun l => decide (l.1 ∈ ns) && decide (l.2 ∈ ns)
def clash (ns : List Int) (h : List Int) (l : Int × Int) : Bool := h.getD (ix ns l.1) 0 == h.getD (ix ns l.2) 0
def free (ls : List (Int × Int)) (ns : List Int) (h : List Int) : Bool := !((inn ls ns).any (clash ns h))
def soL (ls : List (Int × Int)) (ns : List Int) : Bool := ns == [] || (hlI (ns.length - 1)).any (free ls ns)
theorem inn_mem {ls : List (Int × Int)} {ns : List Int} {l : Int × Int} (h : l ∈ inn ls ns) : l ∈ ls ∧ l.1 ∈ ns ∧ l.2 ∈ ns := by
  obtain ⟨h1, h2⟩ := List.mem_filter.mp h
  rw [Bool.and_eq_true, decide_eq_true_eq, decide_eq_true_eq] at h2
  exact ⟨h1, h2⟩
theorem soL_iff (ls : List (Int × Int)) (ns : List Int) : soL ls ns = true ↔ Colorable ls ns := by
  unfold soL
  rw [Bool.or_eq_true, beq_iff_eq, List.any_eq_true]
  constructor
  · rintro (rfl | ⟨h, hh, hf⟩)
    · exact ⟨fun _ => true, fun l hl h1 => by cases h1⟩
    · refine ⟨fun z => h.getD (ix ns z) 0 == 1, fun l hl h1 h2 => ?_⟩
      have hlen := hl_each hh
      have e1 := (ix_ok h1).2
      have e2 := (ix_ok h2).2
      have b : ∀ k, h.getD k 0 = 0 ∨ h.getD k 0 = 1 := fun k => by
        rw [List.getD_eq_getElem?_getD]
        cases e : h[k]? with
        | none => exact .inl rfl
        | some a => exact hl_bits hh a (List.mem_of_getElem? e)
      have nc : clash ns h l = false := by
        unfold free at hf
        rw [Bool.not_eq_true', List.any_eq_false] at hf
        have := hf l (by
          unfold inn
          rw [List.mem_filter]
          exact ⟨hl, by rw [decide_eq_true h1, decide_eq_true h2]; rfl⟩)
        simpa using this
      unfold clash at nc
      show (h.getD (ix ns l.1) 0 == 1) ≠ (h.getD (ix ns l.2) 0 == 1)
      have b1 := b (ix ns l.1)
      have b2 := b (ix ns l.2)
      generalize h.getD (ix ns l.1) 0 = u at *
      generalize h.getD (ix ns l.2) 0 = v at *
      rcases b1 with rfl | rfl <;> rcases b2 with rfl | rfl <;> first | (cases nc; done) | decide
  · intro ⟨c0, p0⟩
    cases ns with
    | nil => exact .inl rfl
    | cons n0 r =>
      right
      -- a coloring with false at the first node
      obtain ⟨c, p, hc⟩ : ∃ c, Proper ls (n0 :: r) c ∧ c n0 = false := by
        cases e : c0 n0 with
        | false => exact ⟨c0, p0, e⟩
        | true =>
          refine ⟨fun z => !c0 z, fun l hl h1 h2 z => p0 l hl h1 h2 ?_, by show (!c0 n0) = false; rw [e]; rfl⟩
          have z : (!c0 l.1) = (!c0 l.2) := z
          cases q1 : c0 l.1 <;> cases q2 : c0 l.2 <;> rw [q1, q2] at z <;> first | rfl | cases z
      let bit : Int → Int := fun z => if c z = true then 1 else 0
      refine ⟨(n0 :: r).map bit, ?_, ?_⟩
      · have e : (n0 :: r).map bit = 0 :: r.map bit := by
          rw [List.map_cons]
          congr 1
          show (if c n0 = true then (1 : Int) else 0) = 0
          rw [hc]
          rfl
        rw [e]
        have hl := hl_all (r.map bit) (fun a ha => by
          obtain ⟨z, hz, rfl⟩ := List.mem_map.mp ha
          show (if c z = true then (1 : Int) else 0) = 0 ∨ (if c z = true then (1 : Int) else 0) = 1
          cases c z
          · exact .inl rfl
          · exact .inr rfl)
        rw [List.length_map] at hl
        exact hl
      · unfold free
        rw [Bool.not_eq_true', List.any_eq_false]
        intro l hl hx
        obtain ⟨hl0, h1, h2⟩ := inn_mem hl
        have e1 := (ix_ok h1).2
        have e2 := (ix_ok h2).2
        unfold clash at hx
        rw [List.getD_eq_getElem?_getD, List.getD_eq_getElem?_getD, List.getElem?_map, List.getElem?_map, e1, e2, beq_iff_eq] at hx
        have hx : bit l.1 = bit l.2 := hx
        refine p l hl0 h1 h2 ?_
        have hx : (if c l.1 = true then (1 : Int) else 0) = (if c l.2 = true then (1 : Int) else 0) := hx
        cases q1 : c l.1 <;> cases q2 : c l.2 <;> rw [q1, q2] at hx <;> first | rfl | (exact absurd hx (by decide))
theorem law_is_so_ok {ls : List (Int × Int)} {ns : List Int} (hn : ns.length ≤ 7) : F__law_is_so [lsD ls, iD ns] = .ok (.bl (soL ls ns)) := by
  show runF 7 2 m__law_is_so [lsD ls, iD ns] = _
  refine runF_rt rfl ?_
  unfold m__law_is_so
  rw [seq_eq (f := t1__law_is_so) (ρ := [lsD ls, iD ns].map Sl.sh ++ List.replicate (7 - 2) Sl.no) (ρ' := [.sh (lsD ls), .sh (iD ns), .sh (lsD (inn ls ns)), .no, .no, .no, .no]) (by
    show t1__law_is_so [.sh (lsD ls), .sh (iD ns), .no, .no, .no, .no, .no] = _
    unfold t1__law_is_so sSet
    rw [mLc_if lnD (fun l => decide (l.1 ∈ ns) && decide (l.2 ∈ ns)) lnD ls (by simp_arith only []) (fun l hl => by
      simp_arith only [idx_tup0, idx_tup1, in_lst])]
    rfl)]
  by_cases h0 : ns = []
  · subst h0
    have e : eqD false (.lst []) (.lst []) = .ok (.bl true) := rfl
    simp_arith only [t3__law_is_so, t2__law_is_so, e]
    rfl
  · have e : eqD false (iD ns) (iD []) = .ok (.bl (xor false (ns == []))) := eqD_i false ns []
    have e0 : (ns == []) = false := by simpa using h0
    rw [e0] at e
    have e : eqD false (iD ns) (.lst []) = .ok (.bl false) := e
    have hl : 0 < ns.length := List.length_pos_iff.mpr h0
    have ell := law_lists_ok (j := ns.length - 1) (by omega)
    rw [show ns.length - 1 + 1 = ns.length by omega] at ell
    rw [seq_eq (f := t3__law_is_so) (ρ' := [.sh (lsD ls), .sh (iD ns), .sh (lsD (inn ls ns)), .no, .no, .no, .no]) (by simp_arith only [t3__law_is_so, e])]
    have r : ∀ h ∈ hlI (ns.length - 1), ∀ b c d : Sl, b6__law_is_so [.sh (lsD ls), .sh (iD ns), .sh (lsD (inn ls ns)), .sh (iD h), b, c, d] = if free ls ns h = true then .rt (.bl true) else .nx [.sh (lsD ls), .sh (iD ns), .sh (lsD (inn ls ns)), .sh (iD h), b, c, d] := by
      intro h hh b c d
      have hhl := hl_each hh
      have any : (mNot (mB (mUn anyD (mLc (fun ρ => ((mVar 2) ρ).bind itemsD) (.many [5, 6]) mYes (mBin (eqD false) (mBin idxD (mVar 3) (mLix (mVar 1) (mVar 5))) (mBin idxD (mVar 3) (mLix (mVar 1) (mVar 6)))) [5, 6])))) [.sh (lsD ls), .sh (iD ns), .sh (lsD (inn ls ns)), .sh (iD h), b, c, d] = .ok (free ls ns h) := by
        unfold mNot mB mUn
        rw [mLc_all lnD (fun l => D.bl (clash ns h l)) (inn ls ns) (by simp_arith only []) (fun l hl => by
          obtain ⟨h0, h1, h2⟩ := inn_mem hl
          have i1 := (ix_ok h1).1
          have i2 := (ix_ok h2).1
          have lt : ∀ {a}, a ∈ ns → ix ns a < h.length := fun {a} ha => by
            have := (ix_ok ha).2
            have := (List.getElem?_eq_some_iff.mp this).1
            omega
          simp_arith only [mLix, asL, i1, i2, idx_i (lt h1), idx_i (lt h2), eqD_int]
          rfl)]
        rw [R.bind_ok, any_bl]
        rfl
      unfold b6__law_is_so t5__law_is_so sIf
      rw [any, R.out_ok]
      rfl
    have key := forGo_findI (t := .one 3) (f := b6__law_is_so) iD (free ls ns) (fun _ ρ => ∃ a b c d, ρ = [.sh (lsD ls), .sh (iD ns), .sh (lsD (inn ls ns)), a, b, c, d]) (.bl true) (hlI (ns.length - 1)) [] [.sh (lsD ls), .sh (iD ns), .sh (lsD (inn ls ns)), .no, .no, .no, .no] ⟨_, _, _, _, rfl⟩ (by
      intro dn h rs ρ hd hI
      obtain ⟨a, b, c, d, rfl⟩ := hI
      rw [List.nil_append] at hd
      have hh : h ∈ hlI (ns.length - 1) := by rw [← hd]; simp
      have r := r h hh b c d
      refine ⟨fun q => ?_, fun q => ⟨[.sh (lsD ls), .sh (iD ns), .sh (lsD (inn ls ns)), .sh (iD h), b, c, d], ?_, _, _, _, _, rfl⟩⟩
      · show b6__law_is_so [.sh (lsD ls), .sh (iD ns), .sh (lsD (inn ls ns)), .sh (iD h), b, c, d] = _
        rw [r, if_pos q]
      · show b6__law_is_so [.sh (lsD ls), .sh (iD ns), .sh (lsD (inn ls ns)), .sh (iD h), b, c, d] = _
        rw [r, if_neg (by rw [q]; exact Bool.false_ne_true)])
    have un : t6__law_is_so [.sh (lsD ls), .sh (iD ns), .sh (lsD (inn ls ns)), .no, .no, .no, .no] = forGo (.one 3) b6__law_is_so ((hlI (ns.length - 1)).map iD) [.sh (lsD ls), .sh (iD ns), .sh (lsD (inn ls ns)), .no, .no, .no, .no] := by
      unfold t6__law_is_so sFor
      simp_arith only [lenD, List.length_map, ell]
    rw [un]
    unfold soL
    rw [e0, Bool.false_or]
    rcases key with ⟨k1, k2⟩ | ⟨k1, ρ', k2, a, b, c, d, rfl⟩
    · rw [k1, k2]
      rfl
    · rw [k1, k2]
      rfl
/-! ### shares by nodes -/
theorem so_ok {ls : List (Int × Int)} {ns : List Int} (hn : ns.length ≤ 7) : F_are_so [lsD ls, wD ns] = .ok (.bl (soL ls ns)) := by
  obtain ⟨b, h1, h2⟩ := are_so_ok (ls := ls) (ns := ns) (by omega)
  rw [h1]
  congr 2
  rw [Bool.eq_iff_iff, soL_iff]
  exact h2
def notSo (ls : List (Int × Int)) (ns : List Int) : Bool := !soL ls ns
theorem notSo_mono (ls : List (Int × Int)) : Mono (notSo ls) := by
  intro s t h e
  unfold notSo at e ⊢
  rw [Bool.not_eq_true'] at e ⊢
  rw [← Bool.not_eq_true] at e ⊢
  intro q
  refine e ((soL_iff ls s).mpr ?_)
  obtain ⟨c, p⟩ := (soL_iff ls t).mp q
  exact ⟨c, fun l hl h1 h2 => p l hl (h _ h1) (h _ h2)⟩
theorem runF_er {N n : Nat} {m : Env → Oc} {ds : List D} {c : Str} (h : ds.length = n) (e : m (ds.map Sl.sh ++ List.replicate (N - n) Sl.no) = .er c) : runF N n m ds = .er c := by
  unfold runF
  rw [if_pos h, e]
theorem need_test_tr : F_need_test [.bl true] = .ok .non := by
  show runF 1 1 m_need_test [.bl true] = _
  simp_arith only [runF, m_need_test]
theorem need_test_fl : F_need_test [.bl false] = .er "BadTest" := by
  show runF 1 1 m_need_test [.bl false] = _
  simp_arith only [runF, m_need_test]
theorem cnt_chs (n : Nat) (p : List Int → Bool) (c : Nat) : ((chs n c).filter p).length = cnt n p c := by
  unfold chs cnt
  rw [List.filter_filter]
  congr 2
  funext s
  exact Bool.and_comm ..
theorem tot_chs (n c : Nat) : (chs n c).length = cnt n (fun _ => true) c := by
  unfold chs cnt
  congr 2
  funext s
  exact (Bool.and_true _).symm
theorem tot_rng {n c : Nat} (hn : n ≤ 7) (hc : c ≤ n) : 0 < cnt n (fun _ => true) c ∧ cnt n (fun _ => true) c < 64 := by
  rw [← tot_chs]
  exact ⟨chs_pos n (by omega) c hc, chs_few n (by omega) c (by omega)⟩
theorem lt_8000 {b : Nat} (h : b < 64) : b < 2 ^ 8000 := Nat.lt_of_lt_of_le h (Nat.le_trans (show 64 ≤ 2 ^ 6 by decide) (Nat.pow_le_pow_right (by omega) (by omega)))
theorem sortW_cnt (n : Nat) (p : List Int → Bool) (c : Nat) : ((sortW (chs n c)).filter p).length = cnt n p c := by
  rw [((sortW_perm (chs n c)).filter p).length_eq, cnt_chs]
theorem by_nodes_ok {n : Nat} {ls : List (Int × Int)} (w : WebOk n ls) {c : Nat} (hc : c ≤ n) : F_by_nodes [wbD n ls, .int (c : Int)] = .ok (frD (cnt n (notSo ls) c : Nat) (cnt n (fun _ => true) c)) := by
  have hn := w.n7
  have ht := tot_rng hn hc
  have efr := fraction_ok (a := (cnt n (notSo ls) c : Nat)) ht.1 (lt_8000 ht.2)
  have h1 : decide ((0 : Int) ≤ (c : Int)) = true := decide_eq_true (by omega)
  have h2 : decide ((c : Int) ≤ (n : Int)) = true := decide_eq_true (by omega)
  show runF 4 2 m_by_nodes [wbD n ls, .int (c : Int)] = _
  refine runF_rt rfl ?_
  unfold m_by_nodes
  rw [seq_eq (f := t1_by_nodes) (ρ := [wbD n ls, D.int (c : Int)].map Sl.sh ++ List.replicate (4 - 2) Sl.no) (ρ' := [.sh (wbD n ls), .sh (.int (c : Int)), .no, .no]) (by simp_arith only [t1_by_nodes, need_web_ok w]),
    seq_eq (f := t2_by_nodes) (ρ' := [.sh (wbD n ls), .sh (.int (c : Int)), .no, .no]) (by simp_arith only [t2_by_nodes, idx_tup0, leD_int, h1, h2, need_test_tr]),
    seq_eq (f := t3_by_nodes) (ρ' := [.sh (wbD n ls), .sh (.int (c : Int)), .sh (.lst ((sortW (chs n c)).map wD)), .no]) (by simp_arith only [t3_by_nodes, idx_tup0, looks_ok hn hc])]
  have hl : (sortW (chs n c)).length = cnt n (fun _ => true) c := by rw [(sortW_perm (chs n c)).length_eq, tot_chs]
  simp_arith only [t4_by_nodes]
  rw [mLc_if wD (notSo ls) wD (sortW (chs n c)) (by simp_arith only []) (fun s hs => by
    have hs := (sortW_perm (chs n c)).mem_iff.mp hs
    obtain ⟨s1, s2⟩ := chs_mem hs
    have s3 := (sub_ok s1).1
    simp_arith only [idx_tup1, so_ok (ls := ls) (ns := s) (by omega)]
    rfl)]
  simp_arith only [lenD, List.length_map, sortW_cnt, hl, efr]
theorem by_nodes_web {d : D} (h : F_need_web [d] = .er "BadWeb") (c : D) : F_by_nodes [d, c] = .er "BadWeb" := by
  show runF 4 2 m_by_nodes [d, c] = _
  simp_arith only [runF, m_by_nodes, t1_by_nodes, h]
theorem by_nodes_test {n : Nat} {ls : List (Int × Int)} (w : WebOk n ls) {c : Int} (hc : c < 0 ∨ (n : Int) < c) : F_by_nodes [wbD n ls, .int c] = .er "BadTest" := by
  have hb : ∀ x : Env, (mChain leD leD (mC (.int 0)) (mVar 1) (mBin idxD (mVar 0) (mC (.int 0)))) [.sh (wbD n ls), .sh (.int c), .no, .no] = .ok (.bl false) := fun _ => by
    rcases hc with hc | hc
    · have h1 : decide (0 ≤ c) = false := decide_eq_false (by omega)
      simp_arith only [leD_int, h1]
    · by_cases h0 : 0 ≤ c
      · have h1 : decide (0 ≤ c) = true := decide_eq_true h0
        have h2 : decide (c ≤ (n : Int)) = false := decide_eq_false (by omega)
        simp_arith only [leD_int, h1, h2, idx_tup0]
      · have h1 : decide (0 ≤ c) = false := decide_eq_false h0
        simp_arith only [leD_int, h1]
  show runF 4 2 m_by_nodes [wbD n ls, .int c] = _
  refine runF_er rfl ?_
  unfold m_by_nodes
  rw [seq_eq (f := t1_by_nodes) (ρ := [wbD n ls, D.int c].map Sl.sh ++ List.replicate (4 - 2) Sl.no) (ρ' := [.sh (wbD n ls), .sh (.int c), .no, .no]) (by simp_arith only [t1_by_nodes, need_web_ok w])]
  have e2 : t2_by_nodes [.sh (wbD n ls), .sh (.int c), .no, .no] = .er "BadTest" := by
    unfold t2_by_nodes sDrop mCall mCons mNil
    rw [hb []]
    simp_arith only [need_test_fl]
  rw [e2]
  rfl
theorem halves_web {d : D} (h : F_need_web [d] = .er "BadWeb") : F_halves_of [d] = .er "BadWeb" := by
  show runF 4 1 m_halves_of [d] = _
  simp_arith only [runF, m_halves_of, h]
end FL
set_option maxHeartbeats 4000000
namespace FL
open PySem PySem.Spec PyProof.Rows L2
local macro_rules | `(tactic| simp_arith only [$ls,*]) => `(tactic| simp only [R.bind_ok, R.bind_er, R.bind_no, R.out_ok, R.out_er, R.out_no, R.strict_ok, R.strict_er, R.strict_no, Oc.seq_nx, Oc.seq_rt, Oc.seq_er, Oc.seq_no, Oc.loop_nx, Oc.loop_rt, sIf, sRet, sSet, sAsg, sDrop, mVar_0, mVarT_0, mVarO_0, mVar_1, mVarT_1, mVarO_1, mVar_2, mVarT_2, mVarO_2, mVar_3, mVarT_3, mVarO_3, mVar_4, mVarT_4, mVarO_4, mVar_5, mVarT_5, mVarO_5, mVar_6, mVarT_6, mVarO_6, mVar_7, mVarT_7, mVarO_7, mVar_8, mVarT_8, mVarO_8, mVar_9, mVarT_9, mVarO_9, mVar_10, mVarT_10, mVarO_10, mVar_11, mVarT_11, mVarO_11, mVar_12, mVarT_12, mVarO_12, mVar_13, mVarT_13, mVarO_13, mVar_14, mVarT_14, mVarO_14, mVar_15, mVarT_15, mVarO_15, mVar_16, mVarT_16, mVarO_16, mVar_17, mVarT_17, mVarO_17, mVar_18, mVarT_18, mVarO_18, mVar_19, mVarT_19, mVarO_19, mVar_20, mVarT_20, mVarO_20, mVar_21, mVarT_21, mVarO_21, mVar_22, mVarT_22, mVarO_22, mVar_23, mVarT_23, mVarO_23, mVar_24, mVarT_24, mVarO_24, mC, mNil, mCons, mTup, mLst, mBin, mUn, mCall, mB, asB_bl, mNot, mAnd, mOr, vB, mIf, mIsN, isN, mYes, mChain, Tg.oc, Tg.put, setAll, List.getElem?_cons_zero, List.getElem?_cons_succ, List.set_cons_zero, List.set_cons_succ, List.map_cons, List.map_nil, List.length_cons, List.length_nil, List.replicate_succ, List.replicate_zero, List.cons_append, List.nil_append, List.append_nil, Nat.reduceAdd, Nat.reduceSub, Nat.succ_eq_add_one, if_true, if_false, ite_true, ite_false, Bool.false_eq_true, Bool.not_true, Bool.not_false, Bool.xor_false, Bool.false_xor, Bool.true_xor, sz_0, sz_1, sz_2, sz_3, sz_4, sz_5, sz_6, sz_7, sz_8, sz_9, sz_10, sz_11, sz_12, sz_13, sz_14, sz_15, sz_16, sz_17, sz_18, sz_19, sz_20, sz_21, sz_22, sz_23, sz_24, sz_25, sz_26, sz_27, sz_28, sz_29, sz_30, sz_31, sz_32, sz_33, sz_34, sz_35, sz_36, sz_37, sz_38, sz_39, sz_40, ok_ite, bl_ite, and_ite, or_ite, Bool.or_false, Bool.false_or, Bool.true_or, Bool.or_true, Bool.and_true, Bool.true_and, Bool.and_false, Bool.false_and, lcTurn, wipeE, itemsD_lst, itemsD_tup, ↓reduceIte, reduceCtorEq, sApp, sExt, sOwn, sPar, ownAt, frzE, $ls,*])
/-! ### the law -/
theorem enum_rng (f : Nat → D) (k : Nat) : enumD (.lst ((List.range k).map f)) = .ok ((List.range k).map fun i => .tup [.int (i : Nat), f i]) := by
  show R.ok (enumL ((List.range k).map f)) = _
  congr 1
  refine List.ext_getElem? fun i => ?_
  unfold enumL
  rw [List.getElem?_zipWith, List.getElem?_map, List.getElem?_map, List.length_map, List.length_range]
  by_cases h : i < k
  · rw [List.getElem?_range h]
    rfl
  · have e1 : (List.range k)[i]? = none := List.getElem?_eq_none (by rw [List.length_range]; omega)
    rw [e1]
    rfl
theorem sh_lns : ∀ ls : List (Int × Int), shL 59 (ls.map lnD) = true
  | [] => rfl
  | l :: ls => by
    show (shD 59 (lnD l) && shL 59 (ls.map lnD)) = true
    rw [sh_lns ls]
    rfl
theorem eqv_lns : ∀ ls : List (Int × Int), eqvL (ls.map lnD) (ls.map lnD) = true
  | [] => rfl
  | l :: ls => by
    show (((l.1 == l.1) && ((l.2 == l.2) && true)) && eqvL (ls.map lnD) (ls.map lnD)) = true
    rw [eqv_lns ls, beq_self_eq_true, beq_self_eq_true]
    rfl
theorem eq_lines (ls : List (Int × Int)) : eqD true (lsD ls) (lsD ls) = .ok (.bl false) := by
  have h1 : shD 60 (lsD ls) = true := by
    show (decide (0 < 60) && shL 59 (ls.map lnD)) = true
    rw [sh_lns]; rfl
  have h2 : eqvD (lsD ls) (lsD ls) = true := eqv_lns ls
  exact eqD_self h1 h2 (fun _ h => by cases h) true
theorem mem_BadWeb : ("BadWeb" : Str) ∈ csW := by decide +kernel
theorem mem_BadTest : ("BadTest" : Str) ∈ csW := by decide +kernel
theorem eq_BadWeb2 : eqD true (.lst [.str "BadWeb", .str "BadWeb"]) (.lst [.str "BadWeb", .str "BadWeb"]) = .ok (.bl false) := eqD_self (by decide +kernel) (by decide +kernel) (fun _ h => by cases h) true
theorem eq_BadTest2 : eqD true (.lst [.str "BadTest", .str "BadTest"]) (.lst [.str "BadTest", .str "BadTest"]) = .ok (.bl false) := eqD_self (by decide +kernel) (by decide +kernel) (fun _ h => by cases h) true
theorem eq_BadWeb1 : eqD true (.str "BadWeb") (.str "BadWeb") = .ok (.bl false) := eqD_self (by decide +kernel) (by decide +kernel) (fun _ h => by cases h) true
theorem far_web {a : D} {x : D} (h : F_need_web [.tup [a, x]] = .er "BadWeb") : F_far_halves [.tup [a, x]] = .er "BadWeb" := by
  show runF 1 1 m_far_halves [.tup [a, x]] = _
  simp_arith only [runF, m_far_halves, idx_tup1, halves_web h]
theorem look1 : List.lookup ("far_halves" : Str) [("far_halves", F_far_halves), ("halves_of", F_halves_of)] = some F_far_halves := by rfl
theorem look2 : List.lookup ("halves_of" : Str) [("far_halves", F_far_halves), ("halves_of", F_halves_of)] = some F_halves_of := by rfl
theorem odd_pick {n i : Int} : ∃ d ∈ oddWebs n, idxD (.lst (oddWebs n)) (.int (i.fmod 12)) = .ok d := by
  obtain ⟨j, hj, ej⟩ := fmod_lit (i := i) (n := 12) (by omega)
  have ej : i.fmod 12 = (j : Int) := ej
  have hl : (oddWebs n).length = 12 := rfl
  rw [ej]
  exact ⟨(oddWebs n)[j]'(by rw [hl]; exact hj), List.getElem_mem _, idx_lst _ _ _ (List.getElem?_eq_getElem (by rw [hl]; exact hj))⟩
theorem odd_form {n : Int} : ∀ d ∈ oddWebs n, ∃ a x, d = .tup [a, x] := by
  intro d hd
  unfold oddWebs at hd
  simp only [List.mem_cons, List.not_mem_nil, or_false] at hd
  rcases hd with rfl | rfl | rfl | rfl | rfl | rfl | rfl | rfl | rfl | rfl | rfl | rfl <;> exact ⟨_, _, rfl⟩
abbrev eM (ns : List Int) (a1 a2 a3 a4 a5 a6 a7 a8 a9 a10 a11 a12 a13 a14 : Sl) : Env := [.sh (.scr ns), a1, a2, a3, a4, a5, a6, a7, a8, a9, a10, a11, a12, a13, a14, .no, .no, .no]
def shareD (n : Nat) (ls : List (Int × Int)) (c : Nat) : D := frD (cnt n (notSo ls) c : Nat) (cnt n (fun _ => true) c)
abbrev sharesD (n : Nat) (ls : List (Int × Int)) : D := .lst ((List.range (n + 1)).map (shareD n ls))
theorem share_fn {n : Nat} {ls : List (Int × Int)} (w : WebOk n ls) {c : Nat} (hc : c ≤ n) : F_by_nodes [wbD n ls, .int (c : Int)] = .ok (shareD n ls c) := by_nodes_ok w hc
theorem cnt_le (n : Nat) (p : List Int → Bool) (c : Nat) : cnt n p c ≤ cnt n (fun _ => true) c := by
  unfold cnt
  exact filter_len_le (fun s e => by rw [Bool.and_eq_true] at e ⊢; exact ⟨e.1, rfl⟩) _
section
variable {ns : List Int} {a1 a2 a3 a4 a5 a6 a7 a8 a9 a10 a11 a12 a13 a14 : Sl}
theorem share_turn {n : Nat} {ls : List (Int × Int)} (w : WebOk n ls) {c : Nat} (hc : c ≤ n) :
    b19_law (eM ns a1 a2 a3 a4 a5 a6 (.sh (sharesD n ls)) a8 a9 (.sh (.int (n : Int))) (.sh (lsD ls)) (.sh (.int (c : Int))) (.sh (shareD n ls c)) a14) = .nx (eM ns a1 a2 a3 a4 a5 a6 (.sh (sharesD n ls)) a8 a9 (.sh (.int (n : Int))) (.sh (lsD ls)) (.sh (.int (c : Int))) (.sh (shareD n ls c)) (.sh (ggD (chs n c)))) := by
  have hn := w.n7
  have ht := tot_rng hn hc
  have hb := cnt_le n (notSo ls) c
  have emd := law_made_ok (a := (cnt n (notSo ls) c : Nat)) ht.1 (lt_8000 ht.2)
  unfold b19_law
  rw [seq_eq (f := t14_law) (ρ' := eM ns a1 a2 a3 a4 a5 a6 (.sh (sharesD n ls)) a8 a9 (.sh (.int (n : Int))) (.sh (lsD ls)) (.sh (.int (c : Int))) (.sh (shareD n ls c)) (.sh (ggD (chs n c)))) (by simp_arith only [t14_law, choices_ok hn]),
    seq_eq (f := t16_law) (ρ' := eM ns a1 a2 a3 a4 a5 a6 (.sh (sharesD n ls)) a8 a9 (.sh (.int (n : Int))) (.sh (lsD ls)) (.sh (.int (c : Int))) (.sh (shareD n ls c)) (.sh (ggD (chs n c)))) (by
      simp_arith only [t16_law]
      rw [mLc_if iD (notSo ls) iD (chs n c) (by simp_arith only []) (fun s hs => by
        obtain ⟨s1, s2⟩ := chs_mem hs
        have s3 := (sub_ok s1).1
        simp_arith only [law_is_so_ok (ls := ls) (ns := s) (by omega)]
        rfl)]
      simp_arith only [lenD, List.length_map, cnt_chs, tot_chs, emd, shareD, eqD_frs])]
  by_cases h0 : c = 0
  · subst h0
    have e : decide ((0 : Int) < ((0 : Nat) : Int)) = false := rfl
    simp_arith only [t18_law, gtD_int, e]
  · have e : decide ((0 : Int) < (c : Int)) = true := decide_eq_true (by omega)
    obtain ⟨k, rfl⟩ : ∃ k, c = k + 1 := ⟨c - 1, by omega⟩
    have ht2 := tot_rng hn (c := k) (by omega)
    have hb2 := cnt_le n (notSo ls) k
    have e1 : ((k + 1 : Nat) : Int) - 1 = (k : Int) := by omega
    have hi : idxD (sharesD n ls) (.int (k : Int)) = .ok (shareD n ls k) := idx_lst _ k _ (by rw [List.getElem?_map, List.getElem?_range (by omega)]; rfl)
    have up := share_up (notSo_mono ls) n k
    have els := law_less_ok (a := (cnt n (notSo ls) (k + 1) : Nat)) (b := cnt n (fun _ => true) (k + 1)) (c := (cnt n (notSo ls) k : Nat)) (d := cnt n (fun _ => true) k) ht.1 ht2.1 ((sm20 (by omega)).up (by omega)) ((sm20 (by omega)).up (by omega)) ((sm20 (by omega)).up (by omega)) ((sm20 (by omega)).up (by omega))
    have hno : decide (((cnt n (notSo ls) (k + 1) : Nat) : Int) * ((cnt n (fun _ => true) k : Nat) : Int) < ((cnt n (notSo ls) k : Nat) : Int) * ((cnt n (fun _ => true) (k + 1) : Nat) : Int)) = false := decide_eq_false fun z => by
      have := Int.ofNat_le.mpr up
      rw [Int.natCast_mul, Int.natCast_mul] at this
      omega
    rw [hno] at els
    have els : F__law_less [shareD n ls (k + 1), shareD n ls k] = .ok (.bl false) := els
    simp_arith only [t18_law, gtD_int, e, subD_int, e1, hi, els]
theorem shares_loop {n : Nat} {ls : List (Int × Int)} (w : WebOk n ls) : ∃ b12 b13 b14, t19_law (eM ns a1 a2 a3 a4 a5 a6 (.sh (sharesD n ls)) a8 a9 (.sh (.int (n : Int))) (.sh (lsD ls)) a12 a13 a14) = .nx (eM ns a1 a2 a3 a4 a5 a6 (.sh (sharesD n ls)) a8 a9 (.sh (.int (n : Int))) (.sh (lsD ls)) b12 b13 b14) := by
  obtain ⟨ρ', e, b12, b13, b14, rfl⟩ := forGo_inv (t := .many [12, 13]) (f := b19_law) (fun (c : Nat) => D.tup [.int (c : Int), shareD n ls c]) (fun dn ρ => ∃ b12 b13 b14, ρ = eM ns a1 a2 a3 a4 a5 a6 (.sh (sharesD n ls)) a8 a9 (.sh (.int (n : Int))) (.sh (lsD ls)) b12 b13 b14) (List.range (n + 1)) [] (eM ns a1 a2 a3 a4 a5 a6 (.sh (sharesD n ls)) a8 a9 (.sh (.int (n : Int))) (.sh (lsD ls)) a12 a13 a14) ⟨_, _, _, rfl⟩ (fun dn c rs ρ hd hI => by
    obtain ⟨b12, b13, b14, rfl⟩ := hI
    rw [List.nil_append] at hd
    obtain ⟨hx, hxl⟩ := range_at hd
    refine ⟨eM ns a1 a2 a3 a4 a5 a6 (.sh (sharesD n ls)) a8 a9 (.sh (.int (n : Int))) (.sh (lsD ls)) (.sh (.int (c : Int))) (.sh (shareD n ls c)) (.sh (ggD (chs n c))), ?_, _, _, _, rfl⟩
    show b19_law (eM ns a1 a2 a3 a4 a5 a6 (.sh (sharesD n ls)) a8 a9 (.sh (.int (n : Int))) (.sh (lsD ls)) (.sh (.int (c : Int))) (.sh (shareD n ls c)) b14) = _
    exact share_turn w (by omega))
  refine ⟨b12, b13, b14, ?_⟩
  unfold t19_law sFor
  show (enumD (sharesD n ls)).out _ = _
  rw [enum_rng, R.out_ok]
  exact e
theorem t11_ok {n : Nat} {ls : List (Int × Int)} (w : WebOk n ls) : t11_law (eM ns a1 a2 (.sh (wbD n ls)) a4 a5 a6 a7 a8 a9 (.sh (.int (n : Int))) (.sh (lsD ls)) a12 a13 a14) = .nx (eM ns a1 a2 (.sh (wbD n ls)) a4 a5 a6 (.sh (sharesD n ls)) a8 a9 (.sh (.int (n : Int))) (.sh (lsD ls)) a12 a13 a14) := by
  have en : ((n : Int) + 1) = ((n + 1 : Nat) : Int) := by omega
  have hn7 := w.n7
  have e0 : (mBin addD (mVar 10) (mC (.int 1))) (eM ns a1 a2 (.sh (wbD n ls)) a4 a5 a6 a7 a8 a9 (.sh (.int (n : Int))) (.sh (lsD ls)) a12 a13 a14) = .ok (.int ((n + 1 : Nat) : Int)) := by
    simp_arith only [addD_int, en]
  have e1 : ((mBin addD (mVar 10) (mC (.int 1))) (eM ns a1 a2 (.sh (wbD n ls)) a4 a5 a6 a7 a8 a9 (.sh (.int (n : Int))) (.sh (lsD ls)) a12 a13 a14)).bind rg1D = .ok ((List.range (n + 1)).map fun (c : Nat) => D.int (c : Int)) := by
    rw [e0, R.bind_ok, rg1_nat (n + 1) (by omega)]
  unfold t11_law sSet
  rw [mLc_all (fun (c : Nat) => D.int (c : Int)) (shareD n ls) (List.range (n + 1)) (by exact e1) (fun c hc => by
    have hc := List.mem_range.mp hc
    simp_arith only [mTold, share_fn w (c := c) (by omega)])]
  simp_arith only []
theorem turn (h : ScrOk ns) {kk : Int} (hk : 0 ≤ kk ∧ kk < 64) : ∃ b2 b3 b4 b5 b6 b7 b8 b9 b10 b11 b12 b13 b14, b32_law (eM ns (.sh (.int kk)) a2 a3 a4 a5 a6 a7 a8 a9 a10 a11 a12 a13 a14) = .nx (eM ns (.sh (.int kk)) b2 b3 b4 b5 b6 b7 b8 b9 b10 b11 b12 b13 b14) := by
  obtain ⟨c, hc, cs⟩ := cell_ok h hk
  have hkS : Sm 2000000 kk := (sm20 (by omega)).up (by omega)
  have hdr := drawn_ok cs hkS
  have hm := drawn_rng c kk
  generalize drawnI c kk = m at hdr hm
  obtain ⟨n, ls, w, ew⟩ := web_ok hm
  have hn7 := w.n7
  have hn1 := w.n1
  obtain ⟨w1, w2⟩ := w.pred
  obtain ⟨d, k, hh, h1, h2, h3, h4⟩ := least_ex (n := n) ls
  have efar := far_halves_ok w h1 h2 h3 h4
  have ehal := halves_of_ok w h1 h2 h3
  have ell := law_lists_ok w1
  rw [w2] at ell
  have hi : idxD (ggD (hlI (n - 1))) (.int (k : Int)) = .ok (iD hh) := idx_lst _ k _ (by rw [List.getElem?_map, h3]; rfl)
  have eh : eqD true (iD hh) (iD hh) = .ok (.bl false) := by rw [eqD_i, beq_self_eq_true]; rfl
  have ed : eqD true (.int d) (.int d) = .ok (.bl false) := by rw [eqD_int, beq_self_eq_true]; rfl
  obtain ⟨b12, b13, b14, loop⟩ := shares_loop (ns := ns) (a1 := .sh (.int kk)) (a2 := .sh (.int m)) (a3 := .sh (wbD n ls)) (a4 := .sh (lsD ls)) (a5 := .sh (ggD (hlI (n - 1)))) (a6 := .sh (iD (cntW ls n))) (a8 := a8) (a9 := a9) (a12 := a12) (a13 := a13) (a14 := a14) w
  obtain ⟨od, hod, eod⟩ := odd_pick (n := (n : Int)) (i := m / 1048576)
  have bad := odd_webs ⟨hn1, hn7⟩ od hod
  obtain ⟨oa, ox, rfl⟩ := odd_form od hod
  have e1 : negD (.int 1) = .ok (.int (-1)) := rfl
  have en : ((n : Int) + 1) = ((n + 1 : Nat) : Int) := by omega
  have bt1 := by_nodes_test w (c := -1) (.inl (by omega))
  have bt2 := by_nodes_test w (c := ((n + 1 : Nat) : Int)) (.inr (by omega))
  refine ⟨.sh (.int m), .sh (wbD n ls), .sh (lsD ls), .sh (ggD (hlI (n - 1))), .sh (iD (cntW ls n)), .sh (sharesD n ls), .sh (.lst (oddWebs n)), .sh (.tup [oa, ox]), .sh (.int (n : Int)), .sh (lsD ls), b12, b13, b14, ?_⟩
  unfold b32_law
  rw [seq_eq (f := t1_law) (ρ' := eM ns (.sh (.int kk)) (.sh (.int m)) a3 a4 a5 a6 a7 a8 a9 a10 a11 a12 a13 a14) (by simp_arith only [t1_law, hc, hdr]),
    seq_eq (f := t2_law) (ρ' := eM ns (.sh (.int kk)) (.sh (.int m)) (.sh (wbD n ls)) a4 a5 a6 a7 a8 a9 a10 a11 a12 a13 a14) (by simp_arith only [t2_law, ew]),
    seq_eq (f := t3_law) (ρ' := eM ns (.sh (.int kk)) (.sh (.int m)) (.sh (wbD n ls)) a4 a5 a6 a7 a8 a9 (.sh (.int (n : Int))) (.sh (lsD ls)) a12 a13 a14) (by simp_arith only [t3_law]),
    seq_eq (f := t4_law) (ρ' := eM ns (.sh (.int kk)) (.sh (.int m)) (.sh (wbD n ls)) (.sh (lsD ls)) a5 a6 a7 a8 a9 (.sh (.int (n : Int))) (.sh (lsD ls)) a12 a13 a14) (by simp_arith only [t4_law, lstD]),
    seq_eq (f := t5_law) (ρ' := eM ns (.sh (.int kk)) (.sh (.int m)) (.sh (wbD n ls)) (.sh (lsD ls)) (.sh (ggD (hlI (n - 1)))) a6 a7 a8 a9 (.sh (.int (n : Int))) (.sh (lsD ls)) a12 a13 a14) (by simp_arith only [t5_law, ell]),
    seq_eq (f := t6_law) (ρ' := eM ns (.sh (.int kk)) (.sh (.int m)) (.sh (wbD n ls)) (.sh (lsD ls)) (.sh (ggD (hlI (n - 1)))) (.sh (iD (cntW ls n))) a7 a8 a9 (.sh (.int (n : Int))) (.sh (lsD ls)) a12 a13 a14) (by
      simp_arith only [t6_law]
      rw [mLc_all iD (fun h => D.int ((badN ls h : Nat) : Int)) (hlI (n - 1)) (by simp_arith only []) (fun h hh => by simp_arith only [law_bad_ok (w.for_ hh)])]
      have e : ((hlI (n - 1)).map fun h => D.int ((badN ls h : Nat) : Int)) = (cntW ls n).map D.int := by unfold cntW; rw [List.map_map]; rfl
      rw [e]
      simp_arith only []),
    seq_eq (f := t8_law) (ρ' := eM ns (.sh (.int kk)) (.sh (.int m)) (.sh (wbD n ls)) (.sh (lsD ls)) (.sh (ggD (hlI (n - 1)))) (.sh (iD (cntW ls n))) a7 a8 a9 (.sh (.int (n : Int))) (.sh (lsD ls)) a12 a13 a14) (by simp_arith only [t8_law, mTold, efar, h1, ed]),
    seq_eq (f := t10_law) (ρ' := eM ns (.sh (.int kk)) (.sh (.int m)) (.sh (wbD n ls)) (.sh (lsD ls)) (.sh (ggD (hlI (n - 1)))) (.sh (iD (cntW ls n))) a7 a8 a9 (.sh (.int (n : Int))) (.sh (lsD ls)) a12 a13 a14) (by simp_arith only [t10_law, mTold, ehal, h1, mLix, asL, h2, hi, eh]),
    seq_eq (f := t11_law) (ρ' := eM ns (.sh (.int kk)) (.sh (.int m)) (.sh (wbD n ls)) (.sh (lsD ls)) (.sh (ggD (hlI (n - 1)))) (.sh (iD (cntW ls n))) (.sh (sharesD n ls)) a8 a9 (.sh (.int (n : Int))) (.sh (lsD ls)) a12 a13 a14) (t11_ok w),
    seq_eq (f := t13_law) (ρ' := eM ns (.sh (.int kk)) (.sh (.int m)) (.sh (wbD n ls)) (.sh (lsD ls)) (.sh (ggD (hlI (n - 1)))) (.sh (iD (cntW ls n))) (.sh (sharesD n ls)) a8 a9 (.sh (.int (n : Int))) (.sh (lsD ls)) a12 a13 a14) (by simp_arith only [t13_law, lstD, eq_lines]),
    seq_eq loop]
  have odds : ∀ s, (t20_law (eM ns (.sh (.int kk)) (.sh (.int m)) (.sh (wbD n ls)) (.sh (lsD ls)) (.sh (ggD (hlI (n - 1)))) (.sh (iD (cntW ls n))) (.sh (sharesD n ls)) a8 a9 (.sh (.int (n : Int))) (.sh (lsD ls)) b12 b13 b14)).seq (fun ρ => (t21_law ρ).seq (fun ρ => (t22_law ρ).seq (fun ρ => (t23_law ρ).seq s))) = s (eM ns (.sh (.int kk)) (.sh (.int m)) (.sh (wbD n ls)) (.sh (lsD ls)) (.sh (ggD (hlI (n - 1)))) (.sh (iD (cntW ls n))) (.sh (sharesD n ls)) (.sh (.lst (oddWebs n))) a9 (.sh (.int (n : Int))) (.sh (lsD ls)) b12 b13 b14) := by
    intro s
    have eadd : ∀ xs ys : List D, xs.length + ys.length ≤ 100 → addD (.lst xs) (.lst ys) = .ok (.lst (xs ++ ys)) := fun xs ys h => addD_lst (by omega)
    simp_arith only [t20_law, t21_law, t22_law, t23_law, e1]
    rw [eadd _ _ (by simp only [List.length_cons, List.length_nil]; omega)]
    simp_arith only []
    rw [eadd _ _ (by simp only [List.length_cons, List.length_nil]; omega)]
    simp_arith only []
    rw [eadd _ _ (by simp only [List.length_cons, List.length_nil]; omega)]
    simp_arith only []
    rfl
  rw [odds]
  rw [seq_eq (f := t24_law) (ρ' := eM ns (.sh (.int kk)) (.sh (.int m)) (.sh (wbD n ls)) (.sh (lsD ls)) (.sh (ggD (hlI (n - 1)))) (.sh (iD (cntW ls n))) (.sh (sharesD n ls)) (.sh (.lst (oddWebs n))) (.sh (.tup [oa, ox])) (.sh (.int (n : Int))) (.sh (lsD ls)) b12 b13 b14) (by simp_arith only [t24_law, pow20, divD_lit (j := 1048576) (by decide +kernel), modD_lit (j := 12) (by decide +kernel), eod]),
    seq_eq (f := t26_law) (ρ' := eM ns (.sh (.int kk)) (.sh (.int m)) (.sh (wbD n ls)) (.sh (lsD ls)) (.sh (ggD (hlI (n - 1)))) (.sh (iD (cntW ls n))) (.sh (sharesD n ls)) (.sh (.lst (oddWebs n))) (.sh (.tup [oa, ox])) (.sh (.int (n : Int))) (.sh (lsD ls)) b12 b13 b14) (by simp_arith only [t26_law, mLc, lcGo, mTold, mCallV, look1, look2, far_web bad, halves_web bad, mem_BadWeb, gW, eq_BadWeb2]),
    seq_eq (f := t28_law) (ρ' := eM ns (.sh (.int kk)) (.sh (.int m)) (.sh (wbD n ls)) (.sh (lsD ls)) (.sh (ggD (hlI (n - 1)))) (.sh (iD (cntW ls n))) (.sh (sharesD n ls)) (.sh (.lst (oddWebs n))) (.sh (.tup [oa, ox])) (.sh (.int (n : Int))) (.sh (lsD ls)) b12 b13 b14) (by simp_arith only [t28_law, mTold, e1, by_nodes_web bad, mem_BadWeb, gW, eq_BadWeb1])]
  simp_arith only [t30_law, mLc, lcGo, mTold, e1, addD_int, en, bt1, bt2, mem_BadTest, gW, eq_BadTest2]
end
theorem law_true : ∀ ns, ScrOk ns → F_law [.scr ns] = .ok (.bl true) := by
  intro ns h
  show runF 18 1 m_law [.scr ns] = _
  obtain ⟨q, hq, hr⟩ := turns_n (ns := ns) (most := 3) (by omega)
  have hr : (((lenD (.scr ns)).bind fun y => min2D (.int 3) y).bind fun y => max2D (.int 1) y) = .ok (.int (q : Int)) := hr
  have key := forGo_inv (t := .one 1) (f := b32_law) (fun (i : Nat) => D.int (i : Int)) (fun dn ρ => ∃ a1 a2 a3 a4 a5 a6 a7 a8 a9 a10 a11 a12 a13 a14, ρ = eM ns a1 a2 a3 a4 a5 a6 a7 a8 a9 a10 a11 a12 a13 a14) (List.range q) [] (eM ns .no .no .no .no .no .no .no .no .no .no .no .no .no .no) ⟨_, _, _, _, _, _, _, _, _, _, _, _, _, _, rfl⟩ (fun dn x rs ρ hd hI => ?_)
  · obtain ⟨ρ', e1, a1, a2, a3, a4, a5, a6, a7, a8, a9, a10, a11, a12, a13, a14, rfl⟩ := key
    simp_arith only [runF, m_law, t31_law, sFor, hr, rg1_nat q (by omega), e1, t32_law]
  · obtain ⟨a1, a2, a3, a4, a5, a6, a7, a8, a9, a10, a11, a12, a13, a14, rfl⟩ := hI
    rw [List.nil_append] at hd
    obtain ⟨hx, hxl⟩ := range_at hd
    obtain ⟨b2, b3, b4, b5, b6, b7, b8, b9, b10, b11, b12, b13, b14, e⟩ := turn (a2 := a2) (a3 := a3) (a4 := a4) (a5 := a5) (a6 := a6) (a7 := a7) (a8 := a8) (a9 := a9) (a10 := a10) (a11 := a11) (a12 := a12) (a13 := a13) (a14 := a14) h (kk := (x : Int)) (by omega)
    exact ⟨eM ns (.sh (.int (x : Int))) b2 b3 b4 b5 b6 b7 b8 b9 b10 b11 b12 b13 b14, by simp_arith only [e], _, _, _, _, _, _, _, _, _, _, _, _, _, _, rfl⟩
end FL
set_option maxHeartbeats 0
namespace FL
open PySem PySem.Spec PyProof.Rows L2 LamX
def dd_fraction : He.DefD := ⟨("fraction", none), "fraction", "fraction", defArgs (topS 10), defBody (topS 10), defScope (topS 10), [], []⟩
def dd_need_test : He.DefD := ⟨("need_test", none), "need_test", "need_test", defArgs (topS 12), defBody (topS 12), defScope (topS 12), [], []⟩
def dd_all_looks : He.DefD := ⟨("all_looks", none), "all_looks", "all_looks", defArgs (topS 14), defBody (topS 14), defScope (topS 14), [], []⟩
def dd_is_node : He.DefD := ⟨("is_node", none), "is_node", "is_node", defArgs (topS 17), defBody (topS 17), defScope (topS 17), [], []⟩
def dd_is_line : He.DefD := ⟨("is_line", none), "is_line", "is_line", defArgs (topS 18), defBody (topS 18), defScope (topS 18), [], []⟩
def dd_need_web : He.DefD := ⟨("need_web", none), "need_web", "need_web", defArgs (topS 19), defBody (topS 19), defScope (topS 19), [], []⟩
def dd_all_halves : He.DefD := ⟨("all_halves", none), "all_halves", "all_halves", defArgs (topS 20), defBody (topS 20), defScope (topS 20), [], []⟩
def dd_bad_lines : He.DefD := ⟨("bad_lines", none), "bad_lines", "bad_lines", defArgs (topS 21), defBody (topS 21), defScope (topS 21), [], []⟩
def dd_halves_of : He.DefD := ⟨("halves_of", none), "halves_of", "halves_of", defArgs (topS 22), defBody (topS 22), defScope (topS 22), [], []⟩
def dd_far_halves : He.DefD := ⟨("far_halves", none), "far_halves", "far_halves", defArgs (topS 23), defBody (topS 23), defScope (topS 23), [], []⟩
def dd_are_so : He.DefD := ⟨("are_so", none), "are_so", "are_so", defArgs (topS 24), defBody (topS 24), defScope (topS 24), [], []⟩
def dd_by_nodes : He.DefD := ⟨("by_nodes", none), "by_nodes", "by_nodes", defArgs (topS 25), defBody (topS 25), defScope (topS 25), [], []⟩
def dd__law_cell : He.DefD := ⟨("_law_cell", none), "_law_cell", "_law_cell", defArgs (topS 27), defBody (topS 27), defScope (topS 27), [], []⟩
def dd__law_drawn : He.DefD := ⟨("_law_drawn", none), "_law_drawn", "_law_drawn", defArgs (topS 28), defBody (topS 28), defScope (topS 28), [], []⟩
def dd__law_word : He.DefD := ⟨("_law_word", none), "_law_word", "_law_word", defArgs (topS 29), defBody (topS 29), defScope (topS 29), [], []⟩
def dd__law_told : He.DefD := ⟨("_law_told", none), "_law_told", "_law_told", defArgs (topS 30), defBody (topS 30), defScope (topS 30), [], []⟩
def dd__law_made : He.DefD := ⟨("_law_made", none), "_law_made", "_law_made", defArgs (topS 31), defBody (topS 31), defScope (topS 31), [], []⟩
def dd__law_less : He.DefD := ⟨("_law_less", none), "_law_less", "_law_less", defArgs (topS 32), defBody (topS 32), defScope (topS 32), [], []⟩
def dd__law_web : He.DefD := ⟨("_law_web", none), "_law_web", "_law_web", defArgs (topS 33), defBody (topS 33), defScope (topS 33), [], []⟩
def dd__law_lists : He.DefD := ⟨("_law_lists", none), "_law_lists", "_law_lists", defArgs (topS 34), defBody (topS 34), defScope (topS 34), [], []⟩
def dd__law_bad : He.DefD := ⟨("_law_bad", none), "_law_bad", "_law_bad", defArgs (topS 35), defBody (topS 35), defScope (topS 35), [], []⟩
def dd__law_choices : He.DefD := ⟨("_law_choices", none), "_law_choices", "_law_choices", defArgs (topS 36), defBody (topS 36), defScope (topS 36), [], []⟩
def dd__law_is_so : He.DefD := ⟨("_law_is_so", none), "_law_is_so", "_law_is_so", defArgs (topS 37), defBody (topS 37), defScope (topS 37), [], []⟩
def dd_law : He.DefD := ⟨("law", none), "law", "law", defArgs (topS 38), defBody (topS 38), defScope (topS 38), [], []⟩
def hFn : List He.DefD := [dd_fraction, dd_need_test, dd_all_looks, dd_is_node, dd_is_line, dd_need_web, dd_all_halves, dd_bad_lines, dd_halves_of, dd_far_halves, dd_are_so, dd_by_nodes, dd__law_cell, dd__law_drawn, dd__law_word, dd__law_told, dd__law_made, dd__law_less, dd__law_web, dd__law_lists, dd__law_bad, dd__law_choices, dd__law_is_so, dd_law]
def hFa : List He.Fa := [.glo "fraction", .glo "need_test", .glo "all_looks", .glo "is_node", .glo "is_line", .glo "need_web", .glo "all_halves", .glo "bad_lines", .glo "halves_of", .glo "far_halves", .glo "are_so", .glo "by_nodes", .glo "_law_cell", .glo "_law_drawn", .glo "_law_word", .glo "_law_told", .glo "_law_made", .glo "_law_less", .glo "_law_web", .glo "_law_lists", .glo "_law_bad", .glo "_law_choices", .glo "_law_is_so", .glo "law", .glo "LookError", .glo "BadKind", .glo "BadWord", .glo "BadTest", .glo "BadRow", .glo "BadTable", .glo "BadWeb", .glo "NoFar", .exc "BadTest", .exc "BadWeb", .free "ValueError", .free "abs", .free "all", .free "any", .free "bool", .free "enumerate", .free "int", .free "isinstance", .free "len", .free "list", .free "max", .free "min", .free "range", .free "sorted", .free "sum", .free "tuple", .free "zip", .int "MOST_NODES" 10]
def hTf : List He.Defn := [("law", none)]
def hEx (K : PySem.W.Frag) : Bool := excWB csW K && (decide (hTf.map fun p => (He.cT K p).2).Nodup)
abbrev hR : PySem.W.OpenRow := PySem.W.OpenLaw.row PySem.Challenge.rw_fewlooks_k70_whole_halves
abbrev hHk : PySem.W.Hook := He.hookX 4 hFa hFn [] hTf hEx
def hOb (s : PySem.W.SharedT) : He.AlX := He.obsX 4 hFa hFn [] hTf hEx (HandSHeadRun.getT s)
theorem hOb_eq (s : PySem.W.SharedT) : hOb s = hHk.obs s.abs := He.obsX_eq (HandSHeadRun.getT_eq s)
def hNm0 : List PySem.Str := ["__name__", "LookError", "BadKind", "BadWord", "BadTest", "BadRow", "BadTable", "BadWeb", "NoFar", "fraction", "need_test", "all_looks", "MOST_NODES", "is_node", "is_line", "need_web", "all_halves", "bad_lines", "halves_of", "far_halves", "are_so", "by_nodes", "_law_cell", "_law_drawn", "_law_word", "_law_told", "_law_made", "_law_less", "_law_web", "_law_lists"]
def hNm1 : List PySem.Str := ["_law_bad", "_law_choices", "_law_is_so"]
def hNm : List PySem.Str := hNm0 ++ hNm1
theorem hRun (w : World) : HandSHeadRun.RunEq hR (PySem.W.view hR.prog [38]) hHk hOb 5000 hNm w := by
  intro os
  kernel_rfl
section
variable {w : World} {K : PySem.W.Frag} {mg : Str → Option Value} {h : Heap}
theorem tp_of (X : K.In h) (G : h.Ns mainGlobals mg) (c : He.SaysX hFa hFn [] hTf hEx w h K) : Tp K mg := by
  have d := c.t.d
  exact {
    f_fraction := funG_of X G d (List.mem_of_getElem? (show hFn[0]? = some _ from rfl)) (List.mem_of_getElem? (show hFa[0]? = some _ from rfl))
    f_need_test := funG_of X G d (List.mem_of_getElem? (show hFn[1]? = some _ from rfl)) (List.mem_of_getElem? (show hFa[1]? = some _ from rfl))
    f_all_looks := funG_of X G d (List.mem_of_getElem? (show hFn[2]? = some _ from rfl)) (List.mem_of_getElem? (show hFa[2]? = some _ from rfl))
    f_is_node := funG_of X G d (List.mem_of_getElem? (show hFn[3]? = some _ from rfl)) (List.mem_of_getElem? (show hFa[3]? = some _ from rfl))
    f_is_line := funG_of X G d (List.mem_of_getElem? (show hFn[4]? = some _ from rfl)) (List.mem_of_getElem? (show hFa[4]? = some _ from rfl))
    f_need_web := funG_of X G d (List.mem_of_getElem? (show hFn[5]? = some _ from rfl)) (List.mem_of_getElem? (show hFa[5]? = some _ from rfl))
    f_all_halves := funG_of X G d (List.mem_of_getElem? (show hFn[6]? = some _ from rfl)) (List.mem_of_getElem? (show hFa[6]? = some _ from rfl))
    f_bad_lines := funG_of X G d (List.mem_of_getElem? (show hFn[7]? = some _ from rfl)) (List.mem_of_getElem? (show hFa[7]? = some _ from rfl))
    f_halves_of := funG_of X G d (List.mem_of_getElem? (show hFn[8]? = some _ from rfl)) (List.mem_of_getElem? (show hFa[8]? = some _ from rfl))
    f_far_halves := funG_of X G d (List.mem_of_getElem? (show hFn[9]? = some _ from rfl)) (List.mem_of_getElem? (show hFa[9]? = some _ from rfl))
    f_are_so := funG_of X G d (List.mem_of_getElem? (show hFn[10]? = some _ from rfl)) (List.mem_of_getElem? (show hFa[10]? = some _ from rfl))
    f_by_nodes := funG_of X G d (List.mem_of_getElem? (show hFn[11]? = some _ from rfl)) (List.mem_of_getElem? (show hFa[11]? = some _ from rfl))
    f__law_cell := funG_of X G d (List.mem_of_getElem? (show hFn[12]? = some _ from rfl)) (List.mem_of_getElem? (show hFa[12]? = some _ from rfl))
    f__law_drawn := funG_of X G d (List.mem_of_getElem? (show hFn[13]? = some _ from rfl)) (List.mem_of_getElem? (show hFa[13]? = some _ from rfl))
    f__law_word := funG_of X G d (List.mem_of_getElem? (show hFn[14]? = some _ from rfl)) (List.mem_of_getElem? (show hFa[14]? = some _ from rfl))
    f__law_told := funG_of X G d (List.mem_of_getElem? (show hFn[15]? = some _ from rfl)) (List.mem_of_getElem? (show hFa[15]? = some _ from rfl))
    f__law_made := funG_of X G d (List.mem_of_getElem? (show hFn[16]? = some _ from rfl)) (List.mem_of_getElem? (show hFa[16]? = some _ from rfl))
    f__law_less := funG_of X G d (List.mem_of_getElem? (show hFn[17]? = some _ from rfl)) (List.mem_of_getElem? (show hFa[17]? = some _ from rfl))
    f__law_web := funG_of X G d (List.mem_of_getElem? (show hFn[18]? = some _ from rfl)) (List.mem_of_getElem? (show hFa[18]? = some _ from rfl))
    f__law_lists := funG_of X G d (List.mem_of_getElem? (show hFn[19]? = some _ from rfl)) (List.mem_of_getElem? (show hFa[19]? = some _ from rfl))
    f__law_bad := funG_of X G d (List.mem_of_getElem? (show hFn[20]? = some _ from rfl)) (List.mem_of_getElem? (show hFa[20]? = some _ from rfl))
    f__law_choices := funG_of X G d (List.mem_of_getElem? (show hFn[21]? = some _ from rfl)) (List.mem_of_getElem? (show hFa[21]? = some _ from rfl))
    f__law_is_so := funG_of X G d (List.mem_of_getElem? (show hFn[22]? = some _ from rfl)) (List.mem_of_getElem? (show hFa[22]? = some _ from rfl))
    n_ValueError := He.free_ok X G (d.fact 34)
    n_abs := He.free_ok X G (d.fact 35)
    n_all := He.free_ok X G (d.fact 36)
    n_any := He.free_ok X G (d.fact 37)
    n_bool := He.free_ok X G (d.fact 38)
    n_enumerate := He.free_ok X G (d.fact 39)
    n_int := He.free_ok X G (d.fact 40)
    n_isinstance := He.free_ok X G (d.fact 41)
    n_len := He.free_ok X G (d.fact 42)
    n_list := He.free_ok X G (d.fact 43)
    n_max := He.free_ok X G (d.fact 44)
    n_min := He.free_ok X G (d.fact 45)
    n_range := He.free_ok X G (d.fact 46)
    n_sorted := He.free_ok X G (d.fact 47)
    n_sum := He.free_ok X G (d.fact 48)
    n_tuple := He.free_ok X G (d.fact 49)
    n_zip := He.free_ok X G (d.fact 50)
    e_BadTest := excF_of X G d (List.mem_of_getElem? (show hFa[27]? = some _ from rfl)) (List.mem_of_getElem? (show hFa[32]? = some _ from rfl))
    e_BadWeb := excF_of X G d (List.mem_of_getElem? (show hFa[30]? = some _ from rfl)) (List.mem_of_getElem? (show hFa[33]? = some _ from rfl))
    exw := excW_of (He.ba c.more).1 (fun z hz => by
        simp only [csW, List.mem_cons, List.not_mem_nil, or_false] at hz
        rcases hz with rfl | rfl | rfl | rfl | rfl | rfl | rfl
        · exact He.glo_ok X G (d.fact 25)
        · exact He.glo_ok X G (d.fact 26)
        · exact He.glo_ok X G (d.fact 27)
        · exact He.glo_ok X G (d.fact 28)
        · exact He.glo_ok X G (d.fact 29)
        · exact He.glo_ok X G (d.fact 30)
        · exact He.glo_ok X G (d.fact 31)) (He.glo_ok X G (d.fact 24))
    c_MOST_NODES := He.int_ok X G (d.fact 51) }
end
theorem at_law (w : World) (mg : Str → Option Value) (fa : Addr) (h : Heap) (Y : hHk.says w h) (G : h.Ns mainGlobals mg) (hm : mg "law" = some (.ref fa)) : ∃ K : PySem.W.Frag, K.In h ∧ LawAtS PySem.Challenge.rw_fewlooks_k70_whole_halves w K (L2N.CX PySem.Challenge.rw_fewlooks_k70_whole_halves.prog w) 8 63 "_law_script" mg fa h := by
  obtain ⟨K, X, c⟩ := Y
  have t := tp_of X G c
  obtain ⟨f, fd, F, hg, hc0⟩ := funC_of (x := "law") (st := s_law) X G c.t.d (List.mem_of_getElem? (show hFn[23]? = some _ from rfl)) (List.mem_of_getElem? (show hFa[23]? = some _ from rfl))
  have hg2 := hg.symm.trans hm
  cases hg2
  have nd := of_decide_eq_true (He.ba c.more).2
  exact ⟨K, X, law_at (ps := hTf) (st := s_law) (F := F_law) X (fun p hp => c.hd p hp) (fun p hp => c.out p hp) (fun p hp => c.empty p hp) F bb_law law_true fun base KB NB TB => ok_law t F hc0 (lamOk_of nd (List.mem_of_getElem? (show hTf[0]? = some _ from rfl)) (TB _ (List.mem_of_getElem? (show hTf[0]? = some _ from rfl))))⟩
theorem no_exc (w : World) (H : Hp) (s : Shared) (e : Value) (s' : Shared) (x : L2N.CX PySem.Challenge.rw_fewlooks_k70_whole_halves.prog w [] H s (fun _ _ _ => False) e s') : False := by
  obtain ⟨_, _, _, _, _, _, _, _, _, _, _, _, z⟩ := x
  exact z
end FL
open PySem PySem.W PySem.Calls PyProof.Rows
theorem PySem.Challenge.cw_fewlooks_k70_whole_halves_holds : PySem.Challenge.rw_fewlooks_k70_whole_halves.Holds := by
  w_on; o_law
  refine HandSHeadRun.head_any (r := FL.hR) (q := view FL.hR.prog [38]) (H := FL.hHk) (ob := FL.hOb) (M := 5000) (loose := FL.hNm) (d := HandSHeadRun.topDef FL.hR.prog 38) (kwd := []) FL.hOb_eq
    (by kernel_rfl) (fun s => by kernel_rfl) FL.hRun (by kernel_rfl) (by kernel_rfl) (by kernel_rfl) (by rfl) (by first | assumption | decide +kernel) (by decide +kernel) ⟨rfl, rfl, rfl, rfl, rfl, by decide +kernel⟩ ?hw ?hc
  case hw => w_witness2
  case hc => exact LamX.walk_ofTsE (l := PySem.Challenge.rw_fewlooks_k70_whole_halves) (n := 63) (k := 8) (x := "_law_script") (CX := fun w => L2N.CX PySem.Challenge.rw_fewlooks_k70_whole_halves.prog w) rfl (by decide) rfl ⟨by decide, by decide, by decide⟩ FL.at_law FL.no_exc
