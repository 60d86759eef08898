import PyProof.Rows.All
import Wide.All
import OpenK.AllK
import Wide.FinOn
import HandS.ForMost
import HandS.Exc
import HandS.ExcCtx
import HandS.Lambda
import HandS.Deep
import HandS.TupAny
import HandS.IsInst
import HandS.Zip
import HandS.Wide
import HandS.Defaults
import HandS.TupMul
import HandS.Conv
import HandS.SortInts
import HandS.HeadHook4
import HandS.Strs
import HandS.SetFor
import HandS.HotCalls
import HandS.ExcIs
import HandS.CallLocal
import PyProof.StrOps2
import HandS.HeadWalk
import HandS.EndTab
import KE.KTupSum
import HandS.Style
import HandS.SortKw
import KE.KRevSl
import KE.DataMinMax
import PySem.Challenge.RW_fewlooks_k60_whole_sums
import KE.KStateDown
import HandS.Head0
import HandS.Head1
import HandS.Head2
set_option Elab.async false
set_option linter.all false
set_option maxRecDepth 100000
set_option maxHeartbeats 4000000
/-! FL1: data, what stands for data in a heap, steps of the heap, judgements with a semantics. -/
namespace FL
open PySem PySem.Spec PyProof.Rows L2

inductive D where
  | non
  | bl (b : Bool)
  | int (i : Int)
  | str (x : Str)
  | fn (x : Str)
  | scr (ns : List Int)
  | tup (ds : List D)
  | lst (ds : List D)
  | adr (a : Addr)

inductive R (α : Type) where
  | ok (a : α)
  | er (c : Str)
  | no

def R.bind {α β : Type} (r : R α) (f : α → R β) : R β := match r with
  | .ok a => f a
  | .er c => .er c
  | .no => .no
@[simp] theorem R.bind_ok {α β : Type} (a : α) (f : α → R β) : (R.ok a).bind f = f a := rfl
@[simp] theorem R.bind_er {α β : Type} (c : Str) (f : α → R β) : (R.er c).bind f = R.er c := rfl
@[simp] theorem R.bind_no {α β : Type} (f : α → R β) : (R.no).bind f = (R.no : R β) := rfl
/-- an error counts as no answer (within a comprehension) -/
def R.strict {α : Type} (r : R α) : R α := match r with
  | .ok a => .ok a
  | _ => .no
@[simp] theorem R.strict_ok {α : Type} (a : α) : (R.ok a).strict = R.ok a := rfl
@[simp] theorem R.strict_er {α : Type} (c : Str) : (R.er c : R α).strict = R.no := rfl
@[simp] theorem R.strict_no {α : Type} : (R.no : R α).strict = R.no := rfl

mutual
def Is (K : PySem.W.Frag) (mg : Str → Option Value) (H : Hp) : D → V → Prop
  | .non, v => v = .non
  | .bl b, v => v = .bl b
  | .int i, v => v = .int i
  | .str x, v => v = .str x
  | .fn x, v => ∃ a, mg x = some (.ref a) ∧ v = .ref a
  | .scr ns, v => ∃ a, v = .ref a ∧ SqL K H a (ns.map V.int)
  | .tup ds, v => ∃ a vs, v = .ref a ∧ SqT K H a vs ∧ IsL K mg H ds vs
  | .lst ds, v => ∃ a vs, v = .ref a ∧ H a = some (.lst vs) ∧ IsL K mg H ds vs
  | .adr a, v => v = .ref a
def IsL (K : PySem.W.Frag) (mg : Str → Option Value) (H : Hp) : List D → List V → Prop
  | [], vs => vs = []
  | d :: ds, vs => ∃ v r, vs = v :: r ∧ Is K mg H d v ∧ IsL K mg H ds r
end

/-- the heap grows: what is tracked stays, but tables of code objects may grow -/
def ExtW (H H' : Hp) : Prop := ∀ b o, H b = some o → H' b = some o ∨ ∃ ps qs, o = .tbl ps ∧ H' b = some (.tbl qs)
theorem ExtW.refl (H : Hp) : ExtW H H := fun _ _ h => .inl h
theorem ExtW.trans {H H1 H2 : Hp} (a : ExtW H H1) (b : ExtW H1 H2) : ExtW H H2 := fun c o h => by
  rcases a c o h with e | ⟨ps, qs, e, e1⟩
  · exact b c o e
  · rcases b c _ e1 with e2 | ⟨ps', qs', e2, e3⟩
    · exact .inr ⟨ps, qs, e, e2⟩
    · exact .inr ⟨ps, qs', e, e3⟩
theorem ExtW.at {H H' : Hp} (x : ExtW H H') {a : Addr} {o : HO} (h : H a = some o) (n : ∀ ps, o ≠ .tbl ps) : H' a = some o := by
  rcases x a o h with e | ⟨ps, qs, e, _⟩
  · exact e
  · exact absurd e (n ps)
theorem ExtW.stays {H H' : Hp} (x : ExtW H H') {a : Addr} (h : H a ≠ none) : H' a ≠ none := by
  cases e : H a with
  | none => exact absurd e h
  | some o =>
    rcases x a o e with q | ⟨_, _, _, q⟩ <;> rw [q] <;> exact fun z => nomatch z
theorem ExtW.free {H H' : Hp} (x : ExtW H H') {a : Addr} (h : H' a = none) : H a = none := by
  cases e : H a with
  | none => rfl
  | some o => exact absurd h (x.stays (by rw [e]; exact fun z => nomatch z))
theorem ExtW.of {H H' : Hp} (e : ∀ b o, H b = some o → H' b = some o) : ExtW H H' := fun b o h => .inl (e b o h)
theorem ExtW.new {H : Hp} {p : Addr} {o : HO} (h : H p = none) : ExtW H (upd H p o) := .of fun b u e => by
  rw [upd_ne (ne_of_none e h)]; exact e
theorem ExtW.rd {H H' : Hp} (x : ExtW H H') {a : Addr} {u : HO} (n : ∀ ps, u ≠ .tbl ps) (r : Rd H a u) : Rd H' a u := by
  rcases r with r | ⟨o, r⟩
  · exact .inl (x.at r n)
  · exact .inr ⟨o, x.at r fun ps z => nomatch z⟩
theorem ExtW.sqL {K : PySem.W.Frag} {H H' : Hp} (x : ExtW H H') {a : Addr} {vs : List V} (h : SqL K H a vs) : SqL K H' a vs := by
  rcases h with h | h
  · exact .inl (x.rd (fun _ z => nomatch z) h)
  · exact .inr h
theorem ExtW.sqT {K : PySem.W.Frag} {H H' : Hp} (x : ExtW H H') {a : Addr} {vs : List V} (h : SqT K H a vs) : SqT K H' a vs := by
  rcases h with h | h
  · exact .inl (x.rd (fun _ z => nomatch z) h)
  · exact .inr h

section
variable {K : PySem.W.Frag} {mg : Str → Option Value} {H H' : Hp}
mutual
theorem Is.mono (x : ExtW H H') : ∀ (d : D) (v : V), Is K mg H d v → Is K mg H' d v
  | .non, _, h => h
  | .bl _, _, h => h
  | .int _, _, h => h
  | .str _, _, h => h
  | .fn _, _, h => h
  | .scr _, _, h => by
    obtain ⟨a, e, q⟩ := h
    exact ⟨a, e, x.sqL q⟩
  | .tup ds, _, h => by
    obtain ⟨a, vs, e, q, r⟩ := h
    exact ⟨a, vs, e, x.sqT q, IsL.mono x ds vs r⟩
  | .lst ds, _, h => by
    obtain ⟨a, vs, e, q, r⟩ := h
    exact ⟨a, vs, e, x.at q (fun _ z => nomatch z), IsL.mono x ds vs r⟩
  | .adr _, _, h => h
theorem IsL.mono (x : ExtW H H') : ∀ (ds : List D) (vs : List V), IsL K mg H ds vs → IsL K mg H' ds vs
  | [], _, h => h
  | d :: ds, _, h => by
    obtain ⟨v, r, e, h1, h2⟩ := h
    exact ⟨v, r, e, Is.mono x d v h1, IsL.mono x ds r h2⟩
end
theorem IsL.length : ∀ {ds : List D} {vs : List V}, IsL K mg H ds vs → vs.length = ds.length
  | [], _, h => by cases h; rfl
  | d :: ds, _, h => by
    obtain ⟨v, r, rfl, _, h2⟩ := h
    rw [List.length_cons, List.length_cons, IsL.length h2]
theorem IsL.get : ∀ {ds : List D} {vs : List V} {i : Nat} {d : D}, IsL K mg H ds vs → ds[i]? = some d → ∃ v, vs[i]? = some v ∧ Is K mg H d v
  | [], _, _, _, _, e => by simp at e
  | _ :: _, _, 0, _, h, e => by
    obtain ⟨v, r, rfl, h1, _⟩ := h
    simp at e; subst e
    exact ⟨v, rfl, h1⟩
  | _ :: _, _, i + 1, _, h, e => by
    obtain ⟨v, r, rfl, _, h2⟩ := h
    obtain ⟨u, e1, e2⟩ := IsL.get (i := i) h2 (by simpa using e)
    exact ⟨u, by simpa using e1, e2⟩
theorem IsL.getV : ∀ {ds : List D} {vs : List V} {i : Nat} {v : V}, IsL K mg H ds vs → vs[i]? = some v → ∃ d, ds[i]? = some d ∧ Is K mg H d v := fun {ds vs i v} h e => by
  have hl := h.length
  have hi : i < ds.length := by rw [← hl]; exact (List.getElem?_eq_some_iff.mp e).1
  obtain ⟨u, e1, e2⟩ := h.get (List.getElem?_eq_getElem hi)
  rw [e] at e1; cases e1
  exact ⟨_, List.getElem?_eq_getElem hi, e2⟩
theorem IsL.append : ∀ {ds es : List D} {vs us : List V}, IsL K mg H ds vs → IsL K mg H es us → IsL K mg H (ds ++ es) (vs ++ us)
  | [], _, _, _, h, q => by cases h; exact q
  | d :: ds, _, _, _, h, q => by
    obtain ⟨v, r, rfl, h1, h2⟩ := h
    exact ⟨v, _, rfl, h1, h2.append q⟩
theorem IsL.take : ∀ {ds : List D} {vs : List V} (n : Nat), IsL K mg H ds vs → IsL K mg H (ds.take n) (vs.take n)
  | _, _, 0, _ => by rw [List.take_zero, List.take_zero]; rfl
  | [], _, n + 1, h => by cases h; rfl
  | d :: ds, _, n + 1, h => by
    obtain ⟨v, r, rfl, h1, h2⟩ := h
    exact ⟨v, _, rfl, h1, h2.take n⟩
theorem IsL.drop : ∀ {ds : List D} {vs : List V} (n : Nat), IsL K mg H ds vs → IsL K mg H (ds.drop n) (vs.drop n)
  | _, _, 0, h => h
  | [], _, n + 1, h => by cases h; rfl
  | d :: ds, _, n + 1, h => by
    obtain ⟨v, r, rfl, h1, h2⟩ := h
    exact h2.drop n
theorem IsL.reverse {ds : List D} {vs : List V} (h : IsL K mg H ds vs) : IsL K mg H ds.reverse vs.reverse := by
  induction ds generalizing vs with
  | nil => cases h; rfl
  | cons d ds ih =>
    obtain ⟨v, r, rfl, h1, h2⟩ := h
    rw [List.reverse_cons, List.reverse_cons]
    exact (ih h2).append ⟨v, [], rfl, h1, rfl⟩
theorem IsL.one {d : D} {v : V} (h : Is K mg H d v) : IsL K mg H [d] [v] := ⟨v, [], rfl, h, rfl⟩
theorem IsL.snoc {ds : List D} {vs : List V} {d : D} {v : V} (h : IsL K mg H ds vs) (q : Is K mg H d v) : IsL K mg H (ds ++ [d]) (vs ++ [v]) := h.append (.one q)
theorem IsL.rep {ds : List D} {vs : List V} (h : IsL K mg H ds vs) : ∀ k : Nat, IsL K mg H (List.replicate k ds).flatten (List.replicate k vs).flatten
  | 0 => rfl
  | k + 1 => by
    rw [List.replicate_succ, List.replicate_succ, List.flatten_cons, List.flatten_cons]
    exact h.append (h.rep k)
theorem IsL.ints : ∀ {ns : List Int} {vs : List V}, IsL K mg H (ns.map D.int) vs → vs = ns.map V.int
  | [], _, h => h
  | n :: ns, _, h => by
    obtain ⟨v, r, rfl, h1, h2⟩ := h
    cases h1
    rw [IsL.ints h2] <;> rfl
theorem IsL.of_ints : ∀ {ns : List Int}, IsL K mg H (ns.map D.int) (ns.map V.int)
  | [] => rfl
  | n :: ns => ⟨_, _, rfl, rfl, IsL.of_ints⟩
theorem IsL.bls : ∀ {bs : List Bool} {vs : List V}, IsL K mg H (bs.map D.bl) vs → vs = bs.map V.bl
  | [], _, h => h
  | n :: ns, _, h => by
    obtain ⟨v, r, rfl, h1, h2⟩ := h
    cases h1
    rw [IsL.bls h2] <;> rfl
end

/-- lists and tuples that are tracked are not too long -/
def Sz (H : Hp) : Prop := ∀ a vs, (Rd H a (.lst vs) ∨ Rd H a (.tup vs)) → vs.length ≤ sizeLine
structure At (T : List (Addr × Str)) (Hs H : Hp) : Prop where
  sub : ExtW Hs H
  tab : LamX.Tabs T H
  sz : Sz Hs
/-- from the shared part Hs of H to the shared part Hs' of H' -/
structure Step (T : List (Addr × Str)) (Hs H Hs' H' : Hp) : Prop where
  s : ExtW Hs Hs'
  a : ExtW H H'
  to : At T Hs' H'
  n : ∀ b, H b ≠ none → Hs b = none → Hs' b = none
section
variable {T : List (Addr × Str)} {Hs H Hs' H' Hs2 H2 : Hp}
theorem Step.refl (h : At T Hs H) : Step T Hs H Hs H := ⟨.refl _, .refl _, h, fun _ _ z => z⟩
theorem Step.trans (x : Step T Hs H Hs' H') (y : Step T Hs' H' Hs2 H2) : Step T Hs H Hs2 H2 :=
  ⟨x.s.trans y.s, x.a.trans y.a, y.to, fun b h z => y.n b (x.a.stays h) (x.n b h z)⟩
theorem Sz.upd_ {p : Addr} {o : HO} (z : Sz H) (ho : ∀ vs, (o = .lst vs ∨ o = .tup vs) → vs.length ≤ sizeLine) (hf : ∀ ob vs, o ≠ .frz ob (.lst vs) ∧ o ≠ .frz ob (.tup vs)) : Sz (upd H p o) := fun a vs h => by
  by_cases e : a = p
  · subst e
    rcases h with (h | ⟨ob, h⟩) | (h | ⟨ob, h⟩)
    · rw [upd_same] at h; cases h; exact ho vs (.inl rfl)
    · rw [upd_same] at h; exact absurd (Option.some.inj h) (hf ob vs).1
    · rw [upd_same] at h; cases h; exact ho vs (.inr rfl)
    · rw [upd_same] at h; exact absurd (Option.some.inj h) (hf ob vs).2
  · refine z a vs ?_
    rcases h with (h | ⟨ob, h⟩) | (h | ⟨ob, h⟩)
    · rw [upd_ne e] at h; exact .inl (.inl h)
    · rw [upd_ne e] at h; exact .inl (.inr ⟨ob, h⟩)
    · rw [upd_ne e] at h; exact .inr (.inl h)
    · rw [upd_ne e] at h; exact .inr (.inr ⟨ob, h⟩)
theorem tabs_ext {H H' : Hp} (t : LamX.Tabs T H) (e : ∀ b o, H b = some o → H' b = some o) : LamX.Tabs T H' := t.ext e
/-- a new object, shared -/
theorem Step.new {p : Addr} {o : HO} (h : At T Hs H) (hp : H p = none) (ho : ∀ vs, (o = .lst vs ∨ o = .tup vs) → vs.length ≤ sizeLine) (hf : ∀ ob vs, o ≠ .frz ob (.lst vs) ∧ o ≠ .frz ob (.tup vs)) : Step T Hs H (upd Hs p o) (upd H p o) where
  s := .new (h.sub.free hp)
  a := .new hp
  to := {
    sub := fun b u e => by
      by_cases z : b = p
      · subst z
        rw [upd_same] at e ⊢
        exact .inl e
      · rw [upd_ne z] at e ⊢
        exact h.sub b u e
    tab := tabs_ext h.tab fun b u e => by rw [upd_ne (ne_of_none e hp)]; exact e
    sz := h.sz.upd_ ho hf }
  n := fun b hb z => by
    have e : b ≠ p := fun q => by subst q; exact hb hp
    rw [upd_ne e]; exact z
theorem Step.lst {p : Addr} {vs : List V} (h : At T Hs H) (hp : H p = none) (hz : vs.length ≤ sizeLine) : Step T Hs H (upd Hs p (.lst vs)) (upd H p (.lst vs)) :=
  .new h hp (fun us q => by rcases q with q | q <;> cases q; exact hz) fun _ _ => ⟨(fun z => nomatch z), fun z => nomatch z⟩
theorem Step.tup {p : Addr} {vs : List V} (h : At T Hs H) (hp : H p = none) (hz : vs.length ≤ sizeLine) : Step T Hs H (upd Hs p (.tup vs)) (upd H p (.tup vs)) :=
  .new h hp (fun us q => by rcases q with q | q <;> cases q; exact hz) fun _ _ => ⟨(fun z => nomatch z), fun z => nomatch z⟩
end

/-- what stands for d, perhaps only now: a list of the def's own that it still grows -/
def IsT (K : PySem.W.Frag) (mg : Str → Option Value) (Hs H : Hp) (d : D) (v : V) : Prop :=
  Is K mg Hs d v ∨ ∃ ds p vs, d = .lst ds ∧ v = .ref p ∧ Hs p = none ∧ H p = some (.lst vs) ∧ IsL K mg Hs ds vs ∧ vs.length ≤ sizeLine
section
variable {K : PySem.W.Frag} {mg : Str → Option Value} {T : List (Addr × Str)} {Hs H Hs' H' : Hp} {d : D} {v : V}
theorem IsT.step (h : IsT K mg Hs H d v) (st : Step T Hs H Hs' H') : IsT K mg Hs' H' d v := by
  rcases h with h | ⟨ds, p, vs, h1, h2, h3, h4, h5, h6⟩
  · exact .inl (Is.mono st.s d v h)
  · exact .inr ⟨ds, p, vs, h1, h2, st.n p (by rw [h4]; exact fun z => nomatch z) h3, st.a.at h4 (fun _ z => nomatch z), IsL.mono st.s ds vs h5, h6⟩
theorem IsT.lst {ds : List D} (h : IsT K mg Hs H (.lst ds) v) (a : At T Hs H) : ∃ p vs, v = .ref p ∧ H p = some (.lst vs) ∧ IsL K mg Hs ds vs ∧ vs.length ≤ sizeLine := by
  rcases h with ⟨p, vs, h1, h2, h3⟩ | ⟨ds', p, vs, h1, h2, h3, h4, h5, h6⟩
  · exact ⟨p, vs, h1, a.sub.at h2 (fun _ z => nomatch z), h3, a.sz p vs (.inl (.inl h2))⟩
  · cases h1
    exact ⟨p, vs, h2, h4, h5, h6⟩
theorem IsT.tup {ds : List D} (h : IsT K mg Hs H (.tup ds) v) (a : At T Hs H) : ∃ p vs, v = .ref p ∧ SqT K H p vs ∧ SqT K Hs p vs ∧ IsL K mg Hs ds vs ∧ vs.length ≤ sizeLine := by
  rcases h with ⟨p, vs, h1, h2, h3⟩ | ⟨ds', p, vs, h1, _⟩
  · refine ⟨p, vs, h1, a.sub.sqT h2, h2, h3, ?_⟩
    rcases h2 with h2 | ⟨o, its, n, e1, e2, e3, e4, e5⟩
    · exact a.sz p vs (.inr h2)
    · have := e5.length
      simp only [Array.length_toList] at this
      omega
  · cases h1
theorem IsT.full (h : IsT K mg Hs H d v) (a : At T Hs H) : Is K mg H d v := by
  rcases h with h | ⟨ds, p, vs, h1, h2, h3, h4, h5, h6⟩
  · exact Is.mono a.sub d v h
  · subst h1
    exact ⟨p, vs, h2, h4, IsL.mono a.sub ds vs h5⟩
theorem IsT.flat (h : IsT K mg Hs H d v) (n : ∀ ds, d ≠ .lst ds) : Is K mg Hs d v := by
  rcases h with h | ⟨ds, _, _, h1, _⟩
  · exact h
  · exact absurd h1 (n ds)
end

/-! ### slots -/
inductive Sl where
  | no
  | sh (d : D)
  | ow (ds : List D)
abbrev Env := List Sl
def SlOk (K : PySem.W.Frag) (mg : Str → Option Value) (Hs H : Hp) (σ : L2.St) (i : Nat) : Sl → Prop
  | .no => True
  | .sh d => ∃ v, σ[i]? = some (some v) ∧ Is K mg Hs d v
  | .ow ds => ∃ p vs, σ[i]? = some (some (.ref p)) ∧ Hs p = none ∧ H p = some (.lst vs) ∧ IsL K mg Hs ds vs ∧ vs.length ≤ sizeLine
structure Rp (K : PySem.W.Frag) (mg : Str → Option Value) (T : List (Addr × Str)) (Hs H : Hp) (σ : L2.St) (ρ : Env) : Prop where
  to : At T Hs H
  len : ρ.length = σ.length
  ok : ∀ (i : Nat) (s : Sl), ρ[i]? = some s → SlOk K mg Hs H σ i s
  sep : ∀ (i j : Nat) (ds es : List D) (p : Addr), i ≠ j → ρ[i]? = some (Sl.ow ds) → ρ[j]? = some (Sl.ow es) → σ[i]? = some (some (V.ref p)) → σ[j]? = some (some (V.ref p)) → False
section
variable {K : PySem.W.Frag} {mg : Str → Option Value} {T : List (Addr × Str)} {Hs H Hs' H' : Hp} {σ : L2.St} {ρ : Env} {d : D} {v : V} {i : Nat}
theorem SlOk.step {s : Sl} (h : SlOk K mg Hs H σ i s) (st : Step T Hs H Hs' H') : SlOk K mg Hs' H' σ i s := by
  cases s with
  | no => trivial
  | sh d =>
    obtain ⟨v, e, h⟩ := h
    exact ⟨v, e, Is.mono st.s d v h⟩
  | ow ds =>
    obtain ⟨p, vs, e, h3, h4, h5, h6⟩ := h
    exact ⟨p, vs, e, st.n p (by rw [h4]; exact fun z => nomatch z) h3, st.a.at h4 (fun _ z => nomatch z), IsL.mono st.s ds vs h5, h6⟩
theorem Rp.step (h : Rp K mg T Hs H σ ρ) (st : Step T Hs H Hs' H') : Rp K mg T Hs' H' σ ρ :=
  ⟨st.to, h.len, fun i s e => (h.ok i s e).step st, h.sep⟩
theorem SlOk.ne {s : Sl} {j : Nat} {x : Option V} (h : SlOk K mg Hs H σ i s) (n : j ≠ i) : SlOk K mg Hs H (σ.set j x) i s := by
  cases s with
  | no => trivial
  | sh d =>
    obtain ⟨v, e, h⟩ := h
    exact ⟨v, by rw [List.getElem?_set_ne n]; exact e, h⟩
  | ow ds =>
    obtain ⟨p, vs, e, h⟩ := h
    exact ⟨p, vs, by rw [List.getElem?_set_ne n]; exact e, h⟩
/-- slot i is told -/
theorem Rp.set (h : Rp K mg T Hs H σ ρ) (q : Is K mg Hs d v) : Rp K mg T Hs H (σ.set i (some v)) (ρ.set i (.sh d)) where
  to := h.to
  len := by rw [List.length_set, List.length_set, h.len]
  ok := fun j s e => by
    by_cases z : i = j
    · subst z
      have hi : i < ρ.length := by
        have := (List.getElem?_eq_some_iff.mp e).1
        rwa [List.length_set] at this
      rw [List.getElem?_set_self hi] at e
      cases e
      exact ⟨v, List.getElem?_set_self (by rw [← h.len]; exact hi), q⟩
    · rw [List.getElem?_set_ne z] at e
      exact (h.ok j s e).ne z
  sep := fun a b ds es p n e1 e2 e3 e4 => by
    have key : ∀ {c : Nat} {cs : List D}, (ρ.set i (Sl.sh d))[c]? = some (Sl.ow cs) → i ≠ c ∧ ρ[c]? = some (Sl.ow cs) := fun {c cs} e => by
      by_cases z : i = c
      · subst z
        have hi : i < ρ.length := by
          have := (List.getElem?_eq_some_iff.mp e).1
          rwa [List.length_set] at this
        rw [List.getElem?_set_self hi] at e
        cases e
      · rw [List.getElem?_set_ne z] at e
        exact ⟨z, e⟩
    obtain ⟨n1, k1⟩ := key e1
    obtain ⟨n2, k2⟩ := key e2
    rw [List.getElem?_set_ne n1] at e3
    rw [List.getElem?_set_ne n2] at e4
    exact h.sep a b ds es p n k1 k2 e3 e4
/-- slot i is forgotten -/
theorem Rp.drop (h : Rp K mg T Hs H σ ρ) {x : Option V} : Rp K mg T Hs H (σ.set i x) (ρ.set i .no) where
  to := h.to
  len := by rw [List.length_set, List.length_set, h.len]
  ok := fun j s e => by
    by_cases z : i = j
    · subst z
      have hi : i < ρ.length := by
        have := (List.getElem?_eq_some_iff.mp e).1
        rwa [List.length_set] at this
      rw [List.getElem?_set_self hi] at e
      cases e
      trivial
    · rw [List.getElem?_set_ne z] at e
      exact (h.ok j s e).ne z
  sep := fun a b ds es p n e1 e2 e3 e4 => by
    have key : ∀ {c : Nat} {cs : List D}, (ρ.set i Sl.no)[c]? = some (Sl.ow cs) → i ≠ c ∧ ρ[c]? = some (Sl.ow cs) := fun {c cs} e => by
      by_cases z : i = c
      · subst z
        have hi : i < ρ.length := by
          have := (List.getElem?_eq_some_iff.mp e).1
          rwa [List.length_set] at this
        rw [List.getElem?_set_self hi] at e
        cases e
      · rw [List.getElem?_set_ne z] at e
        exact ⟨z, e⟩
    obtain ⟨n1, k1⟩ := key e1
    obtain ⟨n2, k2⟩ := key e2
    rw [List.getElem?_set_ne n1] at e3
    rw [List.getElem?_set_ne n2] at e4
    exact h.sep a b ds es p n k1 k2 e3 e4
/-- slot i gets a new list of the def's own -/
theorem Rp.own (h : Rp K mg T Hs H σ ρ) {p : Addr} {vs : List V} {ds : List D} (hp : H p = none) (q : IsL K mg Hs ds vs) (hz : vs.length ≤ sizeLine) :
    Rp K mg T Hs (upd H p (.lst vs)) (σ.set i (some (.ref p))) (ρ.set i (.ow ds)) where
  to := ⟨h.to.sub.trans (.new hp), tabs_ext h.to.tab fun b u e => by rw [upd_ne (ne_of_none e hp)]; exact e, h.to.sz⟩
  len := by rw [List.length_set, List.length_set, h.len]
  ok := fun j s e => by
    by_cases z : i = j
    · subst z
      have hi : i < ρ.length := by
        have := (List.getElem?_eq_some_iff.mp e).1
        rwa [List.length_set] at this
      rw [List.getElem?_set_self hi] at e
      cases e
      exact ⟨p, vs, List.getElem?_set_self (by rw [← h.len]; exact hi), h.to.sub.free hp, upd_same, q, hz⟩
    · rw [List.getElem?_set_ne z] at e
      have k := (h.ok j s e).ne (x := some (.ref p)) z
      cases s with
      | no => trivial
      | sh d => exact k
      | ow es =>
        obtain ⟨b, us, e1, e2, e3, e4⟩ := k
        exact ⟨b, us, e1, e2, by rw [upd_ne (ne_of_none e3 hp)]; exact e3, e4⟩
  sep := fun a b es fs c n e1 e2 e3 e4 => by
    have at_ : ∀ {x : Nat} {xs : List D}, i ≠ x → (ρ.set i (Sl.ow ds))[x]? = some (Sl.ow xs) → ∀ y : Addr, (σ.set i (some (V.ref p)))[x]? = some (some (V.ref y)) → y ≠ p := fun {x xs} nx ex y ey => by
      rw [List.getElem?_set_ne nx] at ex ey
      obtain ⟨b, us, k1, k2, k3, _⟩ := h.ok x _ ex
      rw [ey] at k1; cases k1
      exact ne_of_none k3 hp
    have hi : ∀ {x : Nat} {xs : List D} {y : Addr}, i = x → (ρ.set i (Sl.ow ds))[x]? = some (Sl.ow xs) → (σ.set i (some (V.ref p)))[x]? = some (some (V.ref y)) → y = p := fun {x xs y} ex e ey => by
      subst ex
      have hi : i < ρ.length := by
        have := (List.getElem?_eq_some_iff.mp e).1
        rwa [List.length_set] at this
      rw [List.getElem?_set_self (by rw [← h.len]; exact hi)] at ey
      cases ey
      rfl
    by_cases z1 : i = a
    · by_cases z2 : i = b
      · exact n (z1.symm.trans z2)
      · exact at_ z2 e2 c e4 (hi z1 e1 e3)
    · by_cases z2 : i = b
      · exact at_ z1 e1 c e3 (hi z2 e2 e4)
      · rw [List.getElem?_set_ne z1] at e1 e3
        rw [List.getElem?_set_ne z2] at e2 e4
        exact h.sep a b es fs c n e1 e2 e3 e4
end

/-! ### what is wanted behind a piece -/
def PostG {α β : Type} (T : List (Addr × Str)) (rel : Hp → Hp → α → β → Prop) (W : Str → Hp → Prop) (r : R α) (Hs H : Hp) (Q : β → Hp → Prop) : Prop := match r with
  | .ok a => ∀ b Hs' H', Step T Hs H Hs' H' → rel Hs' H' a b → Q b H'
  | .er c => ∀ Hs' H', Step T Hs H Hs' H' → W c H'
  | .no => False
section
variable {α β γ δ : Type} {T : List (Addr × Str)} {rel rel' : Hp → Hp → α → β → Prop} {rel2 : Hp → Hp → γ → δ → Prop} {W : Str → Hp → Prop} {r : R α} {Hs H Hs' H' : Hp} {Q Q' : β → Hp → Prop}
theorem PostG.mono (h : PostG T rel W r Hs H Q) (q : ∀ b H, Q b H → Q' b H) : PostG T rel W r Hs H Q' := by
  cases r with
  | ok a => exact fun b Hs' H' st k => q _ _ (h b Hs' H' st k)
  | er c => exact h
  | no => exact h
theorem PostG.step (h : PostG T rel W r Hs H Q) (st : Step T Hs H Hs' H') : PostG T rel W r Hs' H' Q := by
  cases r with
  | ok a => exact fun b Hs2 H2 st2 k => h b Hs2 H2 (st.trans st2) k
  | er c => exact fun Hs2 H2 st2 => h Hs2 H2 (st.trans st2)
  | no => exact h
theorem PostG.rel_ (h : PostG T rel W r Hs H Q) (q : ∀ Hs' H' a b, rel' Hs' H' a b → rel Hs' H' a b) : PostG T rel' W r Hs H Q := by
  cases r with
  | ok a => exact fun b Hs' H' st k => h b Hs' H' st (q _ _ _ _ k)
  | er c => exact h
  | no => exact h
theorem PostG.bind {f : α → R γ} {Q : δ → Hp → Prop} (h : PostG T rel2 W (r.bind f) Hs H Q) :
    PostG T rel W r Hs H fun b H' => ∃ Hs' a, Step T Hs H Hs' H' ∧ rel Hs' H' a b ∧ PostG T rel2 W (f a) Hs' H' Q := by
  cases r with
  | ok a => exact fun b Hs' H' st k => ⟨Hs', a, st, k, PostG.step (show PostG T rel2 W (f a) Hs H Q from h) st⟩
  | er c => exact fun Hs' H' st => h Hs' H' st
  | no => exact h
theorem PostG.ret {a : α} {b : β} (h : PostG T rel W (.ok a) Hs H Q) (to : At T Hs H) (k : rel Hs H a b) : Q b H := h b Hs H (.refl to) k
end
abbrev rIs (K : PySem.W.Frag) (mg : Str → Option Value) : Hp → Hp → D → V → Prop := fun Hs _ d v => Is K mg Hs d v
abbrev rIsT (K : PySem.W.Frag) (mg : Str → Option Value) : Hp → Hp → D → V → Prop := fun Hs H d v => IsT K mg Hs H d v
abbrev rIsL (K : PySem.W.Frag) (mg : Str → Option Value) : Hp → Hp → List D → List V → Prop := fun Hs _ d v => IsL K mg Hs d v
abbrev rB : Hp → Hp → Bool → Bool → Prop := fun _ _ a b => a = b

/-! ### the judgements -/
section
variable (X : Cx) (T : List (Addr × Str)) (W : Str → Hp → Prop)
/-- an expression with its semantics -/
def PD (e : Expr) (m : Env → R D) : Prop := ∃ te : TE, PE X e te ∧ ∀ ρ Hs σ H Q, Rp X.K X.mg T Hs H σ ρ → PostG T (rIs X.K X.mg) W (m ρ) Hs H Q → te σ H Q
/-- .. whose value is only looked at -/
def PDt (e : Expr) (m : Env → R D) : Prop := ∃ te : TE, PE X e te ∧ ∀ ρ Hs σ H Q, Rp X.K X.mg T Hs H σ ρ → PostG T (rIsT X.K X.mg) W (m ρ) Hs H Q → te σ H Q
/-- a test -/
def PTD (e : Expr) (m : Env → R Bool) : Prop := ∃ tt : TT, PT X e tt ∧ ∀ ρ Hs σ H Q, Rp X.K X.mg T Hs H σ ρ → PostG T rB W (m ρ) Hs H Q → tt σ H Q
def PWD (e : Expr) (m : Env → R Bool) : Prop := ∃ tt : TT, PW X e tt ∧ ∀ ρ Hs σ H Q, Rp X.K X.mg T Hs H σ ρ → PostG T rB W (m ρ) Hs H Q → tt σ H Q
/-- arguments -/
def PAD (es : List Expr) (m : Env → R (List D)) : Prop := ∃ ta : TA, PA X es ta ∧ ∀ ρ Hs σ H Q, Rp X.K X.mg T Hs H σ ρ → PostG T (rIsL X.K X.mg) W (m ρ) Hs H Q → ta σ H Q
end
section
variable {X : Cx} {T : List (Addr × Str)} {W : Str → Hp → Prop} {e a b : Expr} {es : List Expr} {m ma mb : Env → R D} {pos : Pos}
theorem PD.t (h : PD X T W e m) : PDt X T W e m := by
  obtain ⟨te, pe, ev⟩ := h
  exact ⟨te, pe, fun ρ Hs σ H Q rp hp => ev ρ Hs σ H Q rp (hp.rel_ fun _ _ _ _ k => .inl k)⟩
theorem PWD.p {mt : Env → R Bool} (h : PWD X T W e mt) : PTD X T W e mt := by
  obtain ⟨te, pe, ev⟩ := h
  exact ⟨te, pe.pt, ev⟩

/-! ### names, constants -/
def mVar (i : Nat) : Env → R D := fun ρ => match ρ[i]? with
  | some (.sh d) => .ok d
  | _ => .no
def mVarT (i : Nat) : Env → R D := fun ρ => match ρ[i]? with
  | some (.sh d) => .ok d
  | some (.ow ds) => .ok (.lst ds)
  | _ => .no
def mC (d : D) : Env → R D := fun _ => .ok d
theorem pd_var (i : Nat) {x : Str} (hN : X.N[i]? = some x := by rfl) (hv : Vis X.env.scope x := by first | exact Or.inl rfl | exact Or.inr (Or.inl rfl) | exact Or.inr (Or.inr rfl)) (hd : (x == ("__debug__" : Str)) = false := by decide)
    (hcd : (x == ("__classdict__" : Str)) = false := by decide) : PD X T W (.Name x pos) (mVar i) := by
  refine ⟨tVar i, pe_var hN hv hd hcd, fun ρ Hs σ H Q rp hp => ?_⟩
  unfold mVar at hp
  split at hp
  · rename_i d e
    obtain ⟨v, e1, e2⟩ := rp.ok i _ e
    exact ⟨v, e1, hp.ret rp.to e2⟩
  · exact hp.elim
theorem pdt_var (i : Nat) {x : Str} (hN : X.N[i]? = some x := by rfl) (hv : Vis X.env.scope x := by first | exact Or.inl rfl | exact Or.inr (Or.inl rfl) | exact Or.inr (Or.inr rfl)) (hd : (x == ("__debug__" : Str)) = false := by decide)
    (hcd : (x == ("__classdict__" : Str)) = false := by decide) : PDt X T W (.Name x pos) (mVarT i) := by
  refine ⟨tVar i, pe_var hN hv hd hcd, fun ρ Hs σ H Q rp hp => ?_⟩
  unfold mVarT at hp
  split at hp
  · rename_i d e
    obtain ⟨v, e1, e2⟩ := rp.ok i _ e
    exact ⟨v, e1, hp.ret rp.to (.inl e2)⟩
  · rename_i ds e
    obtain ⟨p, vs, e1, e2, e3, e4, e5⟩ := rp.ok i _ e
    exact ⟨_, e1, hp.ret rp.to (.inr ⟨ds, p, vs, rfl, rfl, e2, e3, e4, e5⟩)⟩
  · exact hp.elim
theorem pd_const {d : D} {v : V} (he : PE X e (tC v)) (hv : ∀ Hs, Is X.K X.mg Hs d v) : PD X T W e (mC d) :=
  ⟨tC v, he, fun ρ Hs σ H Q rp hp => PostG.ret (rel := rIs X.K X.mg) hp rp.to (hv Hs)⟩
theorem pd_int {i j} : PD X T W (.Constant (.int i) j pos) (mC (.int i)) := pd_const pe_int fun _ => rfl
theorem pd_bl {i j} : PD X T W (.Constant (.bool i) j pos) (mC (.bl i)) := pd_const pe_bl fun _ => rfl
theorem pd_non {j} : PD X T W (.Constant .none j pos) (mC .non) := pd_const pe_non fun _ => rfl
theorem pd_str {x j} : PD X T W (.Constant (.str x) j pos) (mC (.str x)) := pd_const pe_str fun _ => rfl
/-- a def of the module as a value -/
theorem pd_fn {x : Str} {f : Addr} (hg : Gl X x) (hm : X.mg x = some (.ref f)) (hd : (x == ("__debug__" : Str)) = false := by decide) : PD X T W (.Name x pos) (mC (.fn x)) :=
  pd_const (pe_glob (v := .ref f) hg hm rfl hd) fun _ => ⟨f, hm, rfl⟩
/-- an int of the module -/
theorem pd_gint {x : Str} {i : Int} {t : Tok} (hg : Gl X x) (hm : X.mg x = some (.int i t)) (hd : (x == ("__debug__" : Str)) = false := by decide) : PD X T W (.Name x pos) (mC (.int i)) :=
  pd_const (pe_glob (v := .int i) hg hm ⟨t, rfl⟩ hd) fun _ => rfl
/-- a tuple of ints of the module -/
theorem pd_gtup {x : Str} {f : Addr} {ns : List Int} (hg : Gl X x) (hm : X.mg x = some (.ref f)) (ht : ∀ H, SqT X.K H f (ns.map V.int)) (hd : (x == ("__debug__" : Str)) = false := by decide) : PD X T W (.Name x pos) (mC (.tup (ns.map D.int))) :=
  pd_const (pe_glob (v := .ref f) hg hm rfl hd) fun _ => ⟨f, _, rfl, ht _, IsL.of_ints⟩

/-! ### arguments, displays -/
def mNil : Env → R (List D) := fun _ => .ok []
def mCons (m : Env → R D) (r : Env → R (List D)) : Env → R (List D) := fun ρ => (m ρ).bind fun d => (r ρ).bind fun ds => .ok (d :: ds)
theorem pad_nil : PAD X T W [] mNil := ⟨tNil, pa_nil, fun ρ Hs σ H Q rp hp => PostG.ret (rel := rIsL X.K X.mg) hp rp.to rfl⟩
theorem pad_cons {r : Env → R (List D)} (h : PD X T W e m) (hr : PAD X T W es r) (hs : starEach (e :: es) X.env = (false, eval e X.env) :: starEach es X.env := by rfl) : PAD X T W (e :: es) (mCons m r) := by
  obtain ⟨te, pe, ev⟩ := h
  obtain ⟨ta, pa, ea⟩ := hr
  refine ⟨_, pa_cons pe pa hs, fun ρ Hs σ H Q rp hp => ev ρ Hs σ H _ rp ?_⟩
  refine PostG.mono (PostG.bind hp) fun v H1 ⟨Hs1, d, st, is, hp1⟩ => ea ρ Hs1 σ H1 _ (rp.step st) ?_
  refine PostG.mono (PostG.bind hp1) fun vs H2 ⟨Hs2, ds, st2, is2, hp2⟩ => ?_
  exact PostG.ret (rel := rIsL X.K X.mg) hp2 st2.to ⟨v, vs, rfl, Is.mono st2.s d v is, is2⟩
def mTup (m : Env → R (List D)) : Env → R D := fun ρ => (m ρ).bind fun ds => if ds.length ≤ sizeLine then .ok (.tup ds) else .no
def mLst (m : Env → R (List D)) : Env → R D := fun ρ => (m ρ).bind fun ds => if ds.length ≤ sizeLine then .ok (.lst ds) else .no
theorem pd_tup {m : Env → R (List D)} {x1} (h : PAD X T W es m) : PD X T W (.Tuple es x1 pos) (mTup m) := by
  obtain ⟨ta, pa, ea⟩ := h
  refine ⟨_, pe_tup pa, fun ρ Hs σ H Q rp hp => ea ρ Hs σ H _ rp ?_⟩
  refine PostG.mono (PostG.bind hp) fun vs H1 ⟨Hs1, ds, st, is, hp1⟩ => ?_
  by_cases hl : ds.length ≤ sizeLine
  · rw [if_pos hl] at hp1
    have hv : vs.length ≤ sizeLine := by rw [is.length]; exact hl
    refine ⟨hv, fun p hp => ?_⟩
    have st2 := Step.tup st.to hp hv
    exact hp1 _ _ _ st2 ⟨p, vs, rfl, .of upd_same, IsL.mono st2.s ds vs is⟩
  · rw [if_neg hl] at hp1
    exact hp1.elim
theorem pd_lst {m : Env → R (List D)} (h : PAD X T W es m) : PD X T W (.List es pos) (mLst m) := by
  obtain ⟨ta, pa, ea⟩ := h
  refine ⟨_, pe_lst pa, fun ρ Hs σ H Q rp hp => ea ρ Hs σ H _ rp ?_⟩
  refine PostG.mono (PostG.bind hp) fun vs H1 ⟨Hs1, ds, st, is, hp1⟩ => ?_
  by_cases hl : ds.length ≤ sizeLine
  · rw [if_pos hl] at hp1
    have hv : vs.length ≤ sizeLine := by rw [is.length]; exact hl
    refine ⟨hv, fun p hp => ?_⟩
    have st2 := Step.lst st.to hp hv
    exact hp1 _ _ _ st2 ⟨p, vs, rfl, upd_same, IsL.mono st2.s ds vs is⟩
  · rw [if_neg hl] at hp1
    exact hp1.elim

/-! ### operators by values -/
/-- an operation of two values does g -/
def Op2 (X : Cx) (T : List (Addr × Str)) (f : Value → Value → Sem Value) (g : D → D → R D) : Prop :=
  ∃ r : R2, OpR X f r ∧ ∀ (W : Str → Hp → Prop) d e x y Hs H Q, At T Hs H → IsT X.K X.mg Hs H d x → IsT X.K X.mg Hs H e y → PostG T (rIs X.K X.mg) W (g d e) Hs H Q → r x y H Q
def mBin (g : D → D → R D) (ma mb : Env → R D) : Env → R D := fun ρ => (ma ρ).bind fun x => (mb ρ).bind fun y => g x y
theorem ev_bin {g : D → D → R D} {ta tb : TE} {r : R2} (ea : ∀ ρ Hs σ H Q, Rp X.K X.mg T Hs H σ ρ → PostG T (rIsT X.K X.mg) W (ma ρ) Hs H Q → ta σ H Q) (eb : ∀ ρ Hs σ H Q, Rp X.K X.mg T Hs H σ ρ → PostG T (rIsT X.K X.mg) W (mb ρ) Hs H Q → tb σ H Q)
    (er : ∀ (W : Str → Hp → Prop) d e x y Hs H Q, At T Hs H → IsT X.K X.mg Hs H d x → IsT X.K X.mg Hs H e y → PostG T (rIs X.K X.mg) W (g d e) Hs H Q → r x y H Q) :
    ∀ ρ Hs σ H Q, Rp X.K X.mg T Hs H σ ρ → PostG T (rIs X.K X.mg) W (mBin g ma mb ρ) Hs H Q → tOp r ta tb σ H Q := by
  intro ρ Hs σ H Q rp hp
  refine ea ρ Hs σ H _ rp (PostG.mono (PostG.bind hp) fun x H1 ⟨Hs1, d, st, is, hp1⟩ => eb ρ Hs1 σ H1 _ (rp.step st) ?_)
  refine PostG.mono (PostG.bind hp1) fun y H2 ⟨Hs2, d2, st2, is2, hp2⟩ => ?_
  exact er W d d2 x y Hs2 H2 Q st2.to (is.step st2) is2 hp2
theorem pd_bin {op : Operator} {g : D → D → R D} (o : Op2 X T (binaryOp op) g) (ha : PDt X T W a ma) (hb : PDt X T W b mb) : PD X T W (.BinOp a op b pos) (mBin g ma mb) := by
  obtain ⟨r, hr, er⟩ := o
  obtain ⟨ta, pa, ea⟩ := ha
  obtain ⟨tb, pb, eb⟩ := hb
  exact ⟨_, pe_op hr pa pb, ev_bin ea eb er⟩
theorem pd_cmp {op : CmpOp} {g : D → D → R D} (o : Op2 X T (compareOp op) g) (ha : PDt X T W a ma) (hb : PDt X T W b mb) (hm : behindInMarks op b = false := by first | exact nomark _ | rfl) : PD X T W (.Compare a [op] [b] pos) (mBin g ma mb) := by
  obtain ⟨r, hr, er⟩ := o
  obtain ⟨ta, pa, ea⟩ := ha
  obtain ⟨tb, pb, eb⟩ := hb
  exact ⟨_, pe_cmpR hr pa pb hm, ev_bin ea eb er⟩
/-- a truth value -/
def asB : D → R Bool
  | .bl b => .ok b
  | _ => .no
@[simp] theorem asB_bl (b : Bool) : asB (.bl b) = .ok b := rfl
def mB (m : Env → R D) : Env → R Bool := fun ρ => (m ρ).bind asB
theorem ev_B {te : TE} (ev : ∀ ρ Hs σ H Q, Rp X.K X.mg T Hs H σ ρ → PostG T (rIs X.K X.mg) W (m ρ) Hs H Q → te σ H Q) :
    ∀ ρ Hs σ H Q, Rp X.K X.mg T Hs H σ ρ → PostG T rB W (mB m ρ) Hs H Q → te σ H fun x H1 => ∃ k, x = .bl k ∧ Q k H1 := by
  intro ρ Hs σ H Q rp hp
  refine ev ρ Hs σ H _ rp (PostG.mono (PostG.bind hp) fun x H1 ⟨Hs1, d, st, is, hp1⟩ => ?_)
  cases d with
  | bl b =>
    cases is
    exact ⟨b, rfl, PostG.ret (rel := rB) hp1 st.to rfl⟩
  | _ => exact hp1.elim
theorem ptd_cmp {op : CmpOp} {g : D → D → R D} (o : Op2 X T (compareOp op) g) (ha : PDt X T W a ma) (hb : PDt X T W b mb) (hm : behindInMarks op b = false := by first | exact nomark _ | rfl) : PTD X T W (.Compare a [op] [b] pos) (mB (mBin g ma mb)) := by
  obtain ⟨r, hr, er⟩ := o
  obtain ⟨ta, pa, ea⟩ := ha
  obtain ⟨tb, pb, eb⟩ := hb
  exact ⟨_, pt_cmpR hr pa pb hm, ev_B (ev_bin ea eb er)⟩
/-- an expression that gives a truth value, as a test -/
theorem ptd_val (h : PD X T W e m) (he : ∀ whole, isTrue e X.env whole = (do let v ← whole; standAt e.pos; holding [v] (truthy v)) := by intro _; rfl) : PTD X T W e (mB m) := by
  obtain ⟨te, pe, ev⟩ := h
  exact ⟨_, pt_val pe he, ev_B ev⟩

/-! ### not, and, or, if else -/
def mNot (m : Env → R Bool) : Env → R Bool := fun ρ => (m ρ).bind fun b => .ok (!b)
def mAnd (m m' : Env → R Bool) : Env → R Bool := fun ρ => (m ρ).bind fun b => if b = true then m' ρ else .ok false
def mOr (m m' : Env → R Bool) : Env → R Bool := fun ρ => (m ρ).bind fun b => if b = true then .ok true else m' ρ
variable {mt mt' : Env → R Bool} {rest : List Expr}
theorem ptd_not (h : PTD X T W a mt) : PTD X T W (.UnaryOp .Not a pos) (mNot mt) := by
  obtain ⟨tt, pt, ev⟩ := h
  refine ⟨_, pt_not pt, fun ρ Hs σ H Q rp hp => ev ρ Hs σ H _ rp (PostG.mono (PostG.bind hp) fun b H1 ⟨Hs1, d, st, is, hp1⟩ => ?_)⟩
  cases is
  exact PostG.ret (rel := rB) hp1 st.to rfl
theorem pwd_and1 (h : PTD X T W a mt) : PWD X T W (.BoolOp .And [a] pos) mt := by
  obtain ⟨tt, pt, ev⟩ := h
  exact ⟨_, pw_and1 pt, ev⟩
theorem pwd_or1 (h : PTD X T W a mt) : PWD X T W (.BoolOp .Or [a] pos) mt := by
  obtain ⟨tt, pt, ev⟩ := h
  exact ⟨_, pw_or1 pt, ev⟩
theorem pwd_and (h : PTD X T W a mt) (h' : PWD X T W (.BoolOp .And (b :: rest) pos) mt') : PWD X T W (.BoolOp .And (a :: b :: rest) pos) (mAnd mt mt') := by
  obtain ⟨tt, pt, ev⟩ := h
  obtain ⟨tt', pt', ev'⟩ := h'
  refine ⟨_, pw_and pt pt', fun ρ Hs σ H Q rp hp => ev ρ Hs σ H _ rp (PostG.mono (PostG.bind hp) fun b H1 ⟨Hs1, d, st, is, hp1⟩ => ?_)⟩
  cases is
  cases b with
  | true =>
    rw [if_pos rfl] at hp1 ⊢
    exact ev' ρ Hs1 σ H1 Q (rp.step st) hp1
  | false =>
    rw [if_neg Bool.false_ne_true] at hp1 ⊢
    exact PostG.ret (rel := rB) hp1 st.to rfl
theorem pwd_or (h : PTD X T W a mt) (h' : PWD X T W (.BoolOp .Or (b :: rest) pos) mt') : PWD X T W (.BoolOp .Or (a :: b :: rest) pos) (mOr mt mt') := by
  obtain ⟨tt, pt, ev⟩ := h
  obtain ⟨tt', pt', ev'⟩ := h'
  refine ⟨_, pw_or pt pt', fun ρ Hs σ H Q rp hp => ev ρ Hs σ H _ rp (PostG.mono (PostG.bind hp) fun b H1 ⟨Hs1, d, st, is, hp1⟩ => ?_)⟩
  cases is
  cases b with
  | true =>
    rw [if_pos rfl] at hp1 ⊢
    exact PostG.ret (rel := rB) hp1 st.to rfl
  | false =>
    rw [if_neg Bool.false_ne_true] at hp1 ⊢
    exact ev' ρ Hs1 σ H1 Q (rp.step st) hp1
/-- as values -/
def vB (m : Env → R Bool) : Env → R D := fun ρ => (m ρ).bind fun b => .ok (.bl b)
theorem pd_one {op} (h : PD X T W a m) : PD X T W (.BoolOp op [a] pos) (vB (mB m)) := by
  obtain ⟨te, pe, ev⟩ := h
  refine ⟨_, pe_one pe, fun ρ Hs σ H Q rp hp => ?_⟩
  have e : vB (mB m) ρ = (m ρ).bind fun d => (asB d).bind fun b => .ok (.bl b) := by
    unfold vB mB
    cases m ρ <;> rfl
  rw [e] at hp
  refine ev ρ Hs σ H _ rp (PostG.mono (PostG.bind hp) fun v H1 ⟨Hs1, d, st, is, hp1⟩ => ?_)
  cases d with
  | bl b =>
    cases is
    exact PostG.ret (rel := rIs X.K X.mg) hp1 st.to rfl
  | _ => exact hp1.elim
theorem pd_and (h : PD X T W a m) (h' : PD X T W (.BoolOp .And (b :: rest) pos) (vB mt')) : PD X T W (.BoolOp .And (a :: b :: rest) pos) (vB (mAnd (mB m) mt')) := by
  obtain ⟨te, pe, ev⟩ := h
  obtain ⟨te', pe', ev'⟩ := h'
  refine ⟨_, L2.pe_and pe pe', fun ρ Hs σ H Q rp hp => ?_⟩
  have e : vB (mAnd (mB m) mt') ρ = (m ρ).bind fun d => (asB d).bind fun b => if b = true then vB mt' ρ else .ok (.bl false) := by
    unfold vB mAnd mB
    cases m ρ with
    | ok d =>
      simp only [R.bind_ok]
      cases asB d with
      | ok b => cases b <;> rfl
      | _ => rfl
    | _ => rfl
  rw [e] at hp
  refine ev ρ Hs σ H _ rp (PostG.mono (PostG.bind hp) fun v H1 ⟨Hs1, d, st, is, hp1⟩ => ?_)
  cases d with
  | bl b =>
    cases is
    refine ⟨b, rfl, ?_⟩
    simp only [asB_bl, R.bind_ok] at hp1
    cases b with
    | true =>
      rw [if_pos rfl] at hp1 ⊢
      exact ev' ρ Hs1 σ H1 Q (rp.step st) hp1
    | false =>
      rw [if_neg Bool.false_ne_true] at hp1 ⊢
      exact PostG.ret (rel := rIs X.K X.mg) hp1 st.to rfl
  | _ => exact hp1.elim
theorem pd_or (h : PD X T W a m) (h' : PD X T W (.BoolOp .Or (b :: rest) pos) (vB mt')) : PD X T W (.BoolOp .Or (a :: b :: rest) pos) (vB (mOr (mB m) mt')) := by
  obtain ⟨te, pe, ev⟩ := h
  obtain ⟨te', pe', ev'⟩ := h'
  refine ⟨_, L2.pe_or pe pe', fun ρ Hs σ H Q rp hp => ?_⟩
  have e : vB (mOr (mB m) mt') ρ = (m ρ).bind fun d => (asB d).bind fun b => if b = true then .ok (.bl true) else vB mt' ρ := by
    unfold vB mOr mB
    cases m ρ with
    | ok d =>
      simp only [R.bind_ok]
      cases asB d with
      | ok b => cases b <;> rfl
      | _ => rfl
    | _ => rfl
  rw [e] at hp
  refine ev ρ Hs σ H _ rp (PostG.mono (PostG.bind hp) fun v H1 ⟨Hs1, d, st, is, hp1⟩ => ?_)
  cases d with
  | bl b =>
    cases is
    refine ⟨b, rfl, ?_⟩
    simp only [asB_bl, R.bind_ok] at hp1
    cases b with
    | true =>
      rw [if_pos rfl] at hp1 ⊢
      exact PostG.ret (rel := rIs X.K X.mg) hp1 st.to rfl
    | false =>
      rw [if_neg Bool.false_ne_true] at hp1 ⊢
      exact ev' ρ Hs1 σ H1 Q (rp.step st) hp1
  | _ => exact hp1.elim
theorem pd_not (h : PD X T W a m) : PD X T W (.UnaryOp .Not a pos) (vB (mNot (mB m))) := by
  obtain ⟨te, pe, ev⟩ := h
  refine ⟨_, L2.pe_not pe, fun ρ Hs σ H Q rp hp => ?_⟩
  have e : vB (mNot (mB m)) ρ = (m ρ).bind fun d => (asB d).bind fun b => .ok (.bl (!b)) := by
    unfold vB mNot mB
    cases m ρ with
    | ok d =>
      simp only [R.bind_ok]
      cases asB d <;> rfl
    | _ => rfl
  rw [e] at hp
  refine ev ρ Hs σ H _ rp (PostG.mono (PostG.bind hp) fun v H1 ⟨Hs1, d, st, is, hp1⟩ => ?_)
  cases d with
  | bl b =>
    cases is
    exact ⟨b, rfl, PostG.ret (rel := rIs X.K X.mg) hp1 st.to rfl⟩
  | _ => exact hp1.elim
def mIf (mt : Env → R Bool) (ma mb : Env → R D) : Env → R D := fun ρ => (mt ρ).bind fun b => if b = true then ma ρ else mb ρ
theorem pd_if {c : Expr} (hc : PTD X T W c mt) (ha : PD X T W a ma) (hb : PD X T W b mb) : PD X T W (.IfExp c a b pos) (mIf mt ma mb) := by
  obtain ⟨tt, pt, ev⟩ := hc
  obtain ⟨ta, pa, ea⟩ := ha
  obtain ⟨tb, pb, eb⟩ := hb
  refine ⟨_, pe_ifExp pt pa pb, fun ρ Hs σ H Q rp hp => ev ρ Hs σ H _ rp (PostG.mono (PostG.bind hp) fun b H1 ⟨Hs1, d, st, is, hp1⟩ => ?_)⟩
  cases is
  cases b with
  | true =>
    rw [if_pos rfl] at hp1 ⊢
    exact ea ρ Hs1 σ H1 Q (rp.step st) hp1
  | false =>
    rw [if_neg Bool.false_ne_true] at hp1 ⊢
    exact eb ρ Hs1 σ H1 Q (rp.step st) hp1
end
end FL
set_option maxHeartbeats 4000000
/-! FL2: operators, comparisons, subscripts on data. -/
namespace FL
open PySem PySem.Spec PyProof.Rows L2

/-! ### data as the library's data -/
mutual
def toP : D → PyData
  | .non => .none
  | .bl b => .bool b
  | .int i => .int i
  | .str x => .str x
  | .fn _ => .none
  | .scr _ => .none
  | .adr _ => .none
  | .tup ds => .tuple (toPs ds)
  | .lst ds => .list (toPs ds)
def toPs : List D → List PyData
  | [] => []
  | d :: ds => toP d :: toPs ds
end
mutual
/-- no def within, texts of true signs, not too deep -/
def shD : Nat → D → Bool
  | _, .non => true
  | _, .bl _ => true
  | _, .int _ => true
  | _, .str x => PyData.canLay0 (.str x)
  | _, .fn _ => false
  | _, .scr _ => false
  | _, .adr _ => false
  | n, .tup ds => decide (0 < n) && shL (n - 1) ds
  | n, .lst ds => decide (0 < n) && shL (n - 1) ds
def shL : Nat → List D → Bool
  | _, [] => true
  | n, d :: ds => shD n d && shL n ds
end
mutual
/-- Python's == -/
def eqvD : D → D → Bool
  | .non, .non => true
  | .bl a, .bl b => a == b
  | .bl a, .int j => (if a then 1 else 0) == j
  | .int i, .bl b => i == (if b then 1 else 0)
  | .int i, .int j => i == j
  | .str x, .str y => x == y
  | .lst xs, .lst ys => eqvL xs ys
  | .tup xs, .tup ys => eqvL xs ys
  | _, _ => false
def eqvL : List D → List D → Bool
  | [], [] => true
  | x :: xs, y :: ys => eqvD x y && eqvL xs ys
  | _, _ => false
end
mutual
theorem sh_lay : ∀ (d : D) (n : Nat), shD n d = true → PyData.canLay0 (toP d) = true ∧ (toP d).depth ≤ n
  | .non, _, _ => ⟨rfl, by simp [toP, PyData.depth]⟩
  | .bl _, _, _ => ⟨rfl, by simp [toP, PyData.depth]⟩
  | .int _, _, _ => ⟨rfl, by simp [toP, PyData.depth]⟩
  | .str x, _, h => ⟨by unfold shD at h; exact h, by simp [toP, PyData.depth]⟩
  | .fn _, _, h => by unfold shD at h; cases h
  | .scr ns, _, h => by unfold shD at h; cases h
  | .adr _, _, h => by unfold shD at h; cases h
  | .tup ds, n, h => by
    unfold shD at h
    obtain ⟨h1, h2⟩ := Bool.and_eq_true_iff.mp h
    have h1 := of_decide_eq_true h1
    obtain ⟨k1, k2⟩ := sh_lays ds _ h2
    refine ⟨k1, ?_⟩
    simp only [toP, PyData.depth]
    omega
  | .lst ds, n, h => by
    unfold shD at h
    obtain ⟨h1, h2⟩ := Bool.and_eq_true_iff.mp h
    have h1 := of_decide_eq_true h1
    obtain ⟨k1, k2⟩ := sh_lays ds _ h2
    refine ⟨k1, ?_⟩
    simp only [toP, PyData.depth]
    omega
theorem sh_lays : ∀ (ds : List D) (n : Nat), shL n ds = true → PyData.canLayAll0 (toPs ds) = true ∧ PyData.depthAll (toPs ds) ≤ n
  | [], _, _ => ⟨rfl, by simp [toPs, PyData.depthAll]⟩
  | d :: ds, n, h => by
    unfold shL at h
    obtain ⟨h1, h2⟩ := Bool.and_eq_true_iff.mp h
    obtain ⟨k1, k2⟩ := sh_lay d n h1
    obtain ⟨k3, k4⟩ := sh_lays ds n h2
    refine ⟨by simp [toPs, PyData.canLayAll0, k1, k3], ?_⟩
    simp only [toPs, PyData.depthAll]
    omega
end
theorem shaped_of {d : D} (h : shD 60 d = true) : SeqAt.shaped (toP d) = true := by
  obtain ⟨h1, h2⟩ := sh_lay d 60 h
  unfold SeqAt.shaped
  rw [h1, Bool.true_and]
  exact decide_eq_true (by omega)
mutual
theorem eqv_toP : ∀ (d e : D) (n : Nat), shD n d = true → shD n e = true → PyData.eqv (toP d) (toP e) = eqvD d e
  | .non, e, _, _, h => by cases e <;> first | rfl | (unfold shD at h; cases h)
  | .bl a, e, _, _, h => by cases e <;> first | rfl | (unfold shD at h; cases h)
  | .int a, e, _, _, h => by cases e <;> first | rfl | (unfold shD at h; cases h)
  | .str a, e, _, _, h => by cases e <;> first | rfl | (unfold shD at h; cases h)
  | .fn a, e, _, h, _ => by unfold shD at h; cases h
  | .scr a, e, _, h, _ => by unfold shD at h; cases h
  | .adr _, _, _, h, _ => by unfold shD at h; cases h
  | .tup ds, e, n, h1, h2 => by
    cases e with
    | tup es =>
      show PyData.eqvAll (toPs ds) (toPs es) = eqvL ds es
      exact eqv_toPs ds es (n - 1) (by unfold shD at h1; exact (Bool.and_eq_true_iff.mp h1).2) (by unfold shD at h2; exact (Bool.and_eq_true_iff.mp h2).2)
    | fn _ => unfold shD at h2; cases h2
    | scr _ => unfold shD at h2; cases h2
    | adr _ => unfold shD at h2; cases h2
    | _ => rfl
  | .lst ds, e, n, h1, h2 => by
    cases e with
    | lst es =>
      show PyData.eqvAll (toPs ds) (toPs es) = eqvL ds es
      exact eqv_toPs ds es (n - 1) (by unfold shD at h1; exact (Bool.and_eq_true_iff.mp h1).2) (by unfold shD at h2; exact (Bool.and_eq_true_iff.mp h2).2)
    | fn _ => unfold shD at h2; cases h2
    | scr _ => unfold shD at h2; cases h2
    | adr _ => unfold shD at h2; cases h2
    | _ => rfl
theorem eqv_toPs : ∀ (ds es : List D) (n : Nat), shL n ds = true → shL n es = true → PyData.eqvAll (toPs ds) (toPs es) = eqvL ds es
  | [], [], _, _, _ => rfl
  | [], _ :: _, _, _, _ => rfl
  | _ :: _, [], _, _, _ => rfl
  | d :: ds, e :: es, n, h1, h2 => by
    unfold shL at h1 h2
    obtain ⟨a1, a2⟩ := Bool.and_eq_true_iff.mp h1
    obtain ⟨b1, b2⟩ := Bool.and_eq_true_iff.mp h2
    show (PyData.eqv (toP d) (toP e) && PyData.eqvAll (toPs ds) (toPs es)) = (eqvD d e && eqvL ds es)
    rw [eqv_toP d e n a1 b1, eqv_toPs ds es n a2 b2]
end
section
variable {K : PySem.W.Frag} {mg : Str → Option Value} {H : Hp}
mutual
theorem dp_of : ∀ (d : D) (n : Nat) (v : V), shD n d = true → Is K mg H d v → Dp K H v (toP d)
  | .non, _, _, _, h => by cases h; exact .non
  | .bl b, _, _, _, h => by cases h; exact .bl b
  | .int i, _, _, _, h => by cases h; exact .int i
  | .str x, _, _, _, h => by cases h; exact .str x
  | .fn _, _, _, h, _ => by unfold shD at h; cases h
  | .scr _, _, _, h, _ => by unfold shD at h; cases h
  | .tup ds, n, _, h, q => by
    obtain ⟨a, vs, rfl, q1, q2⟩ := q
    unfold shD at h
    exact .tup q1 (dps_of ds (n - 1) vs (Bool.and_eq_true_iff.mp h).2 q2)
  | .lst ds, n, _, h, q => by
    obtain ⟨a, vs, rfl, q1, q2⟩ := q
    unfold shD at h
    exact .lst (.of q1) (dps_of ds (n - 1) vs (Bool.and_eq_true_iff.mp h).2 q2)
theorem dps_of : ∀ (ds : List D) (n : Nat) (vs : List V), shL n ds = true → IsL K mg H ds vs → DpAll K H vs (toPs ds)
  | [], _, _, _, h => by cases h; exact .nil
  | d :: ds, n, _, h, q => by
    obtain ⟨v, r, rfl, q1, q2⟩ := q
    unfold shL at h
    obtain ⟨h1, h2⟩ := Bool.and_eq_true_iff.mp h
    exact .cons (dp_of d n v h1 q1) (dps_of ds n r h2 q2)
end
end

/-! ### == and != -/
def eqD (neg : Bool) (d e : D) : R D := match d, e with
  | .scr ns, .lst [] => .ok (.bl (xor neg ns.isEmpty))
  | d, e => if shD 60 d && shD 60 e then .ok (.bl (xor neg (eqvD d e))) else .no
section
variable {X : Cx} {T : List (Addr × Str)}
theorem dpInts {K : PySem.W.Frag} {H : Hp} : ∀ ns : List Int, DpAll K H (ns.map V.int) (ns.map PyData.int)
  | [] => .nil
  | n :: ns => .cons (.int n) (dpInts ns)
theorem depthInts : ∀ ns : List Int, PyData.depthAll (ns.map PyData.int) ≤ 0
  | [] => by simp [PyData.depthAll]
  | n :: ns => by
    have := depthInts ns
    simp only [List.map_cons, PyData.depthAll, PyData.depth]
    omega
theorem layInts : ∀ ns : List Int, PyData.canLayAll0 (ns.map PyData.int) = true
  | [] => rfl
  | n :: ns => by
    simp only [List.map_cons, PyData.canLayAll0, PyData.canLay0, layInts ns] <;> rfl
theorem eqD_core {d e : D} {neg : Bool} {W : Str → Hp → Prop} {Hs H : Hp} {x y : V} {Q : VK} (a : At T Hs H) (hd : IsT X.K X.mg Hs H d x) (he : IsT X.K X.mg Hs H e y) (hp : PostG T (rIs X.K X.mg) W (eqD neg d e) Hs H Q) :
    ∃ p q, Dp X.K H x p ∧ Dp X.K H y q ∧ SeqAt.shaped p = true ∧ SeqAt.shaped q = true ∧ Q (.bl (xor neg (PyData.eqv p q))) H := by
  have gen : ∀ {d e : D}, Is X.K X.mg H d x → Is X.K X.mg H e y → PostG T (rIs X.K X.mg) W (if shD 60 d && shD 60 e then .ok (.bl (xor neg (eqvD d e))) else .no) Hs H Q →
      ∃ p q, Dp X.K H x p ∧ Dp X.K H y q ∧ SeqAt.shaped p = true ∧ SeqAt.shaped q = true ∧ Q (.bl (xor neg (PyData.eqv p q))) H := fun {d e} hd he hp => by
    cases c : (shD 60 d && shD 60 e) with
    | false => rw [c] at hp; exact (show False from hp).elim
    | true =>
      rw [c] at hp
      obtain ⟨c1, c2⟩ := Bool.and_eq_true_iff.mp c
      refine ⟨_, _, dp_of d 60 x c1 hd, dp_of e 60 y c2 he, shaped_of c1, shaped_of c2, ?_⟩
      rw [eqv_toP d e 60 c1 c2]
      exact PostG.ret (rel := rIs X.K X.mg) hp a rfl
  have fd := hd.full a
  have fe := he.full a
  unfold eqD at hp
  split at hp
  · rename_i ns
    obtain ⟨p, rfl, q1⟩ := fd
    obtain ⟨b, vs, rfl, q2, q3⟩ := fe
    cases q3
    refine ⟨.list (ns.map .int), .list [], .lst q1 (dpInts ns), .lst (.of q2) .nil, ?_, rfl, ?_⟩
    · unfold SeqAt.shaped
      have := depthInts ns
      refine Bool.and_eq_true_iff.mpr ⟨layInts ns, decide_eq_true ?_⟩
      simp only [PyData.depth]
      omega
    · have e : PyData.eqv (.list (ns.map PyData.int)) (.list []) = ns.isEmpty := by cases ns <;> rfl
      rw [e]
      exact PostG.ret (rel := rIs X.K X.mg) hp a rfl
  · exact gen fd fe hp
theorem o_eq (hu : X.A.units + 64 < cLine) : Op2 X T (compareOp .Eq) (eqD false) :=
  ⟨_, op_eqD hu, fun W d e x y Hs H Q a hd he hp => by
    obtain ⟨p, q, h1, h2, h3, h4, h5⟩ := eqD_core (neg := false) a hd he hp
    rw [Bool.false_xor] at h5
    exact ⟨p, q, h1, h2, h3, h4, h5⟩⟩
theorem o_ne (hu : X.A.units + 64 < cLine) : Op2 X T (compareOp .NotEq) (eqD true) :=
  ⟨_, op_neD hu, fun W d e x y Hs H Q a hd he hp => by
    obtain ⟨p, q, h1, h2, h3, h4, h5⟩ := eqD_core (neg := true) a hd he hp
    rw [Bool.true_xor] at h5
    exact ⟨p, q, h1, h2, h3, h4, h5⟩⟩

/-! ### arithmetic -/
def addD : D → D → R D
  | .int i, .int j => .ok (.int (i + j))
  | .tup xs, .tup ys => if xs.length + ys.length ≤ sizeLine then .ok (.tup (xs ++ ys)) else .no
  | .lst xs, .lst ys => if xs.length + ys.length ≤ sizeLine then .ok (.lst (xs ++ ys)) else .no
  | _, _ => .no
theorem o_add : Op2 X T (binaryOp .Add) addD := by
  refine ⟨_, op_add.or (op_catA.or op_cat), fun W d e x y Hs H Q a hd he hp => ?_⟩
  unfold addD at hp
  split at hp
  · rename_i i j
    cases hd.flat (fun _ z => nomatch z)
    cases he.flat (fun _ z => nomatch z)
    exact .inl ⟨i, j, rfl, rfl, PostG.ret (rel := rIs X.K X.mg) hp a rfl⟩
  · rename_i xs ys
    by_cases hl : xs.length + ys.length ≤ sizeLine
    · rw [if_pos hl] at hp
      obtain ⟨p, vs, rfl, p1, p2, p3, p4⟩ := hd.tup a
      obtain ⟨q, us, rfl, q1, q2, q3, q4⟩ := he.tup a
      have hz : vs.length + us.length ≤ sizeLine := by rw [p3.length, q3.length]; exact hl
      refine .inr (.inl ⟨p, q, vs, us, rfl, rfl, p1, q1, hz, fun e => ?_, fun e1 e2 => ?_, fun _ _ c hc => ?_⟩)
      · subst e
        have : xs = [] := by have := p3.length; cases xs with | nil => rfl | cons _ _ => simp at this
        subst this
        exact PostG.ret (rel := rIs X.K X.mg) hp a ⟨q, us, rfl, q2, q3⟩
      · subst e2
        have : ys = [] := by have := q3.length; cases ys with | nil => rfl | cons _ _ => simp at this
        subst this
        rw [List.append_nil] at hp
        exact PostG.ret (rel := rIs X.K X.mg) hp a ⟨p, vs, rfl, p2, p3⟩
      · have st := Step.tup a hc (show (vs ++ us).length ≤ sizeLine by rw [List.length_append]; exact hz)
        exact hp _ _ _ st ⟨c, _, rfl, .of upd_same, IsL.mono st.s _ _ (p3.append q3)⟩
    · rw [if_neg hl] at hp
      exact hp.elim
  · rename_i xs ys
    by_cases hl : xs.length + ys.length ≤ sizeLine
    · rw [if_pos hl] at hp
      obtain ⟨p, vs, rfl, p1, p3, p4⟩ := hd.lst a
      obtain ⟨q, us, rfl, q1, q3, q4⟩ := he.lst a
      have hz : vs.length + us.length ≤ sizeLine := by rw [p3.length, q3.length]; exact hl
      refine .inr (.inr ⟨p, q, vs, us, rfl, rfl, p1, q1, hz, fun c hc => ?_⟩)
      have st := Step.lst a hc (show (vs ++ us).length ≤ sizeLine by rw [List.length_append]; exact hz)
      exact hp _ _ _ st ⟨c, _, rfl, upd_same, IsL.mono st.s _ _ (p3.append q3)⟩
    · rw [if_neg hl] at hp
      exact hp.elim
  · exact hp.elim
def intsD (C : Int → Int → Bool) (g : Int → Int → D) : D → D → R D
  | .int i, .int j => if C i j then .ok (g i j) else .no
  | _, _ => .no
@[simp] theorem intsD_int (C : Int → Int → Bool) (g : Int → Int → D) (i j : Int) : intsD C g (.int i) (.int j) = if C i j then .ok (g i j) else .no := rfl
theorem o_ints {f : Value → Value → Sem Value} {P : Int → Int → Prop} {C : Int → Int → Bool} {g : Int → Int → Int} (h : OpR X f (rI P fun i j => .int (g i j))) (hc : ∀ i j, C i j = true → P i j) : Op2 X T f (intsD C fun i j => .int (g i j)) := by
  refine ⟨_, h, fun W d e x y Hs H Q a hd he hp => ?_⟩
  unfold intsD at hp
  split at hp
  · rename_i i j
    cases hd.flat (fun _ z => nomatch z)
    cases he.flat (fun _ z => nomatch z)
    cases c : C i j with
    | true =>
      rw [c] at hp
      exact ⟨i, j, rfl, rfl, hc i j c, PostG.ret (rel := rIs X.K X.mg) hp a rfl⟩
    | false => rw [c] at hp; exact (show False from hp).elim
  · exact hp.elim
theorem o_ints0 {f : Value → Value → Sem Value} {g : Int → Int → Int} (h : OpR X f (rI0 fun i j => .int (g i j))) : Op2 X T f (intsD (fun _ _ => true) fun i j => .int (g i j)) := by
  refine ⟨_, h, fun W d e x y Hs H Q a hd he hp => ?_⟩
  unfold intsD at hp
  split at hp
  · rename_i i j
    cases hd.flat (fun _ z => nomatch z)
    cases he.flat (fun _ z => nomatch z)
    exact ⟨i, j, rfl, rfl, PostG.ret (rel := rIs X.K X.mg) (show PostG T (rIs X.K X.mg) W (.ok (.int (g i j))) Hs H Q from hp) a rfl⟩
  · exact hp.elim
def subD : D → D → R D := intsD (fun _ _ => true) fun i j => .int (i - j)
theorem o_sub : Op2 X T (binaryOp .Sub) subD := o_ints0 op_sub
def cMod (_ j : Int) : Bool := decide (j ≠ 0)
def modD : D → D → R D := intsD cMod fun i j => .int (i.fmod j)
theorem o_mod : Op2 X T (binaryOp .Mod) modD := o_ints op_modN fun _ _ h => of_decide_eq_true h
def cDiv (_ j : Int) : Bool := decide (0 < j ∧ j.natAbs.log2 < 9000)
def divD : D → D → R D := intsD cDiv fun i j => .int (i / j)
theorem o_div : Op2 X T (binaryOp .FloorDiv) divD := o_ints op_fdivW fun _ _ h => by
  have h := of_decide_eq_true h
  exact h
def cMul (i j : Int) : Bool := decide (i.natAbs.log2 + j.natAbs.log2 < 134000000)
theorem cMul_ok {i j : Int} (h : cMul i j = true) : IntMulOk i j := by
  have h := of_decide_eq_true h
  have b : ∀ x : Int, Builtin.Int.intBits x ≤ x.natAbs.log2 + 1 := fun x => by
    unfold Builtin.Int.intBits
    split <;> omega
  have h1 := b i
  have h2 := b j
  have e : bitsLine = 134217728 := by decide
  intro z
  have z2 := (Bool.and_eq_true_iff.mp z).2
  unfold Builtin.Int.intTooBig at z2
  have z3 := of_decide_eq_true z2
  rw [e] at z3
  omega
def mulD : D → D → R D
  | .int i, .int j => if cMul i j then .ok (.int (i * j)) else .no
  | .lst xs, .int k => if xs.length * k.toNat ≤ sizeLine ∧ k.natAbs < 1000000 then .ok (.lst (List.replicate k.toNat xs).flatten) else .no
  | .tup xs, .int k => if xs ≠ [] ∧ 2 ≤ k ∧ k ≤ 1000 ∧ xs.length ≤ 1000 then .ok (.tup (List.replicate k.toNat xs).flatten) else .no
  | _, _ => .no
theorem len_rep {α : Type} (xs : List α) : ∀ k : Nat, (List.replicate k xs).flatten.length = xs.length * k
  | 0 => by simp
  | k + 1 => by rw [List.replicate_succ, List.flatten_cons, List.length_append, len_rep xs k, Nat.mul_succ, Nat.add_comm]
theorem op_mulB : OpR X (binaryOp .Mult) (rI (fun i j => cMul i j = true) fun i j => .int (i * j)) := opI fun _ _ _ _ _ _ _ hc q => mul_int q (cMul_ok hc)
theorem o_mul : Op2 X T (binaryOp .Mult) mulD := by
  refine ⟨_, op_mulB.or (op_rep.or op_repT), fun W d e x y Hs H Q a hd he hp => ?_⟩
  unfold mulD at hp
  split at hp
  · rename_i i j
    cases hd.flat (fun _ z => nomatch z)
    cases he.flat (fun _ z => nomatch z)
    cases c : cMul i j with
    | true =>
      rw [c] at hp
      exact .inl ⟨i, j, rfl, rfl, c, PostG.ret (rel := rIs X.K X.mg) hp a rfl⟩
    | false => rw [c] at hp; exact (show False from hp).elim
  · rename_i xs k
    by_cases hl : xs.length * k.toNat ≤ sizeLine ∧ k.natAbs < 1000000
    · rw [if_pos hl] at hp
      obtain ⟨p, vs, rfl, p1, p3, p4⟩ := hd.lst a
      cases he.flat (fun _ z => nomatch z)
      have hz : vs.length * k.toNat ≤ sizeLine := by rw [p3.length]; exact hl.1
      refine .inr (.inl ⟨p, k, vs, rfl, rfl, p1, by omega, by omega, hz, fun c hc => ?_⟩)
      have st := Step.lst a hc (show (List.replicate k.toNat vs).flatten.length ≤ sizeLine by rw [len_rep]; exact hz)
      exact hp _ _ _ st ⟨c, _, rfl, upd_same, IsL.mono st.s _ _ (p3.rep _)⟩
    · rw [if_neg hl] at hp
      exact hp.elim
  · rename_i xs k
    by_cases hl : xs ≠ [] ∧ 2 ≤ k ∧ k ≤ 1000 ∧ xs.length ≤ 1000
    · rw [if_pos hl] at hp
      obtain ⟨h1, h2, h3, h4⟩ := hl
      obtain ⟨p, vs, rfl, p1, p2, p3, p4⟩ := hd.tup a
      cases he.flat (fun _ z => nomatch z)
      have hv : vs.length ≤ 1000 := by rw [p3.length]; exact h4
      have hn : vs ≠ [] := fun z => by
        subst z
        have := p3.length
        cases xs with
        | nil => exact h1 rfl
        | cons _ _ => simp at this
      refine .inr (.inr ⟨p, k, vs, rfl, rfl, p1, hn, h2, h3, hv, fun c hc => ?_⟩)
      have hz : (List.replicate k.toNat vs).flatten.length ≤ sizeLine := by
        rw [len_rep, sizeLine_eq]
        have : vs.length * k.toNat ≤ 1000 * 1000 := Nat.mul_le_mul hv (by omega)
        omega
      have st := Step.tup a hc hz
      exact hp _ _ _ st ⟨c, _, rfl, .of upd_same, IsL.mono st.s _ _ (p3.rep _)⟩
    · rw [if_neg hl] at hp
      exact hp.elim
  · exact hp.elim
def cPow (i j : Int) : Bool := decide (0 ≤ j ∧ j ≤ 1000000 ∧ i.natAbs < 2 ^ 64)
def powD : D → D → R D := intsD cPow fun i j => .int (i ^ j.toNat)
theorem o_pow : Op2 X T (binaryOp .Pow) powD := o_ints op_pow fun _ _ h => by
  have h := of_decide_eq_true h
  exact h
def shlD : D → D → R D := intsD cPow fun i j => .int (i * 2 ^ j.toNat)
theorem o_shl : Op2 X T (binaryOp .LShift) shlD := o_ints op_shl fun _ _ h => by
  have h := of_decide_eq_true h
  exact h
def bandD : D → D → R D := intsD (fun _ _ => true) fun i j => .int (Builtin.bitAnd i j)
theorem o_band : Op2 X T (binaryOp .BitAnd) bandD := o_ints0 op_and
def bxorD : D → D → R D := intsD (fun _ _ => true) fun i j => .int (Builtin.bitXor i j)
theorem o_bxor : Op2 X T (binaryOp .BitXor) bxorD := o_ints0 op_xor

/-! ### order -/
def asInts : List D → Option (List Int)
  | [] => some []
  | .int i :: r => (asInts r).map (i :: ·)
  | _ :: _ => none
theorem asInts_eq : ∀ {ds : List D} {ns : List Int}, asInts ds = some ns → ds = ns.map D.int
  | [], _, h => by cases h; rfl
  | d :: ds, ns, h => by
    cases d with
    | int i =>
      unfold asInts at h
      cases e : asInts ds with
      | none => rw [e] at h; cases h
      | some ms =>
        rw [e] at h; cases h
        rw [asInts_eq e] <;> rfl
    | _ => cases h
@[simp] theorem asInts_map : ∀ ns : List Int, asInts (ns.map D.int) = some ns
  | [] => rfl
  | n :: ns => by
    show (asInts (ns.map D.int)).map (n :: ·) = _
    rw [asInts_map ns] <;> rfl
def ltD : D → D → R D
  | .int i, .int j => .ok (.bl (decide (i < j)))
  | .tup xs, .tup ys => match asInts xs, asInts ys with
    | some ns, some ms => .ok (.bl (HT.lexLt ns ms))
    | _, _ => .no
  | _, _ => .no
theorem op_ltI : OpR X (compareOp .Lt) (rI0 fun i j => .bl (decide (i < j))) := opB0 fun _ _ _ _ _ _ _ q => lt_int q
theorem o_lt (hu : X.A.units < cLine) : Op2 X T (compareOp .Lt) ltD := by
  refine ⟨_, op_ltI.or (op_ltT hu), fun W d e x y Hs H Q a hd he hp => ?_⟩
  unfold ltD at hp
  split at hp
  · rename_i i j
    cases hd.flat (fun _ z => nomatch z)
    cases he.flat (fun _ z => nomatch z)
    exact .inl ⟨i, j, rfl, rfl, PostG.ret (rel := rIs X.K X.mg) hp a rfl⟩
  · rename_i xs ys
    split at hp
    · rename_i ns ms e1 e2
      have e1 := asInts_eq e1
      have e2 := asInts_eq e2
      subst e1 e2
      obtain ⟨p, vs, rfl, p1, p2, p3, p4⟩ := hd.tup a
      obtain ⟨q, us, rfl, q1, q2, q3, q4⟩ := he.tup a
      rw [p3.ints] at p1
      rw [q3.ints] at q1
      exact .inr ⟨p, q, ns, ms, rfl, rfl, p1, q1, PostG.ret (rel := rIs X.K X.mg) hp a rfl⟩
    · exact hp.elim
  · exact hp.elim
theorem o_cmpI {f : Value → Value → Sem Value} {g : Int → Int → Bool} (h : OpR X f (rI0 fun i j => .bl (g i j))) : Op2 X T f (intsD (fun _ _ => true) fun i j => .bl (g i j)) := by
  refine ⟨_, h, fun W d e x y Hs H Q a hd he hp => ?_⟩
  unfold intsD at hp
  split at hp
  · rename_i i j
    cases hd.flat (fun _ z => nomatch z)
    cases he.flat (fun _ z => nomatch z)
    exact ⟨i, j, rfl, rfl, PostG.ret (rel := rIs X.K X.mg) (show PostG T (rIs X.K X.mg) W (.ok (.bl (g i j))) Hs H Q from hp) a rfl⟩
  · exact hp.elim
def leD : D → D → R D := intsD (fun _ _ => true) fun i j => .bl (decide (i ≤ j))
theorem o_le : Op2 X T (compareOp .LtE) leD := o_cmpI (opB0 fun _ _ _ _ _ _ _ q => le_int q)
def gtD : D → D → R D := intsD (fun _ _ => true) fun i j => .bl (decide (j < i))
theorem o_gt : Op2 X T (compareOp .Gt) gtD := o_cmpI (opB0 fun _ _ _ _ _ _ _ q => gt_int q)
def geD : D → D → R D := intsD (fun _ _ => true) fun i j => .bl (decide (j ≤ i))
theorem o_ge : Op2 X T (compareOp .GtE) geD := o_cmpI (opB0 fun _ _ _ _ _ _ _ q => ge_int q)

/-! ### in, not in -/
def flD : D → Bool
  | .non => true
  | .bl _ => true
  | .int _ => true
  | .str _ => true
  | _ => false
def inD (neg : Bool) (d e : D) : R D := match e with
  | .tup es => if flD d && es.all flD then .ok (.bl (xor neg (es.any fun z => eqvD z d))) else .no
  | .lst es => if shD 60 d && shL 59 es then .ok (.bl (xor neg (es.any fun z => eqvD z d))) else .no
  | _ => .no
theorem fl_flat {K : PySem.W.Frag} {mg : Str → Option Value} {H : Hp} {d : D} {v : V} (h : Is K mg H d v) (f : flD d = true) : flatV v = true := by
  cases d <;> first | (cases h; rfl) | cases f
theorem fl_flats {K : PySem.W.Frag} {mg : Str → Option Value} {H : Hp} : ∀ {ds : List D} {vs : List V}, IsL K mg H ds vs → ds.all flD = true → vs.all flatV = true
  | [], _, h, _ => by cases h; rfl
  | d :: ds, _, h, f => by
    obtain ⟨v, r, rfl, h1, h2⟩ := h
    rw [List.all_cons] at f ⊢
    obtain ⟨f1, f2⟩ := Bool.and_eq_true_iff.mp f
    rw [fl_flat h1 f1, fl_flats h2 f2] <;> rfl
theorem eqV_is {K : PySem.W.Frag} {mg : Str → Option Value} {H : Hp} {d e : D} {v u : V} (h : Is K mg H d v) (q : Is K mg H e u) (f : flD d = true) (g : flD e = true) : eqV v u = eqvD d e := by
  cases d <;> first | cases f | skip
  all_goals (cases e <;> first | cases g | skip)
  all_goals (cases h; cases q)
  all_goals first
    | rfl
    | (unfold eqV eqvD; simp)
    | (unfold eqV eqvD; simp [b2i]; done)
    | skip
theorem any_is {K : PySem.W.Frag} {mg : Str → Option Value} {H : Hp} {d : D} {v : V} (h : Is K mg H d v) (f : flD d = true) : ∀ {es : List D} {us : List V}, IsL K mg H es us → es.all flD = true → inV v us = es.any fun z => eqvD z d
  | [], _, q, _ => by cases q; rfl
  | e :: es, _, q, g => by
    obtain ⟨u, r, rfl, q1, q2⟩ := q
    rw [List.all_cons] at g
    obtain ⟨g1, g2⟩ := Bool.and_eq_true_iff.mp g
    show (eqV u v || inV v r) = _
    rw [List.any_cons, eqV_is q1 h g1 f, any_is h f q2 g2]
theorem any_toPs {d : D} : ∀ {es : List D}, shL 60 es = true → shD 60 d = true → ((toPs es).any fun z => PyData.eqv z (toP d)) = es.any fun z => eqvD z d
  | [], _, _ => rfl
  | e :: es, h, q => by
    unfold shL at h
    obtain ⟨h1, h2⟩ := Bool.and_eq_true_iff.mp h
    show (PyData.eqv (toP e) (toP d) || (toPs es).any fun z => PyData.eqv z (toP d)) = _
    rw [List.any_cons, eqv_toP e d 60 h1 q, any_toPs h2 q]
mutual
theorem shD_up : ∀ (d : D) (n m : Nat), n ≤ m → shD n d = true → shD m d = true
  | .non, _, _, _, _ => rfl
  | .bl _, _, _, _, _ => rfl
  | .int _, _, _, _, _ => rfl
  | .str _, _, _, _, h => h
  | .fn _, _, _, _, h => by unfold shD at h; cases h
  | .scr _, _, _, _, h => by unfold shD at h; cases h
  | .tup ds, n, m, hm, h => by
    unfold shD at h ⊢
    obtain ⟨h1, h2⟩ := Bool.and_eq_true_iff.mp h
    have h1 := of_decide_eq_true h1
    exact Bool.and_eq_true_iff.mpr ⟨decide_eq_true (by omega), shL_up ds _ _ (by omega) h2⟩
  | .lst ds, n, m, hm, h => by
    unfold shD at h ⊢
    obtain ⟨h1, h2⟩ := Bool.and_eq_true_iff.mp h
    have h1 := of_decide_eq_true h1
    exact Bool.and_eq_true_iff.mpr ⟨decide_eq_true (by omega), shL_up ds _ _ (by omega) h2⟩
theorem shL_up : ∀ (ds : List D) (n m : Nat), n ≤ m → shL n ds = true → shL m ds = true
  | [], _, _, _, _ => rfl
  | d :: ds, n, m, hm, h => by
    unfold shL at h ⊢
    obtain ⟨h1, h2⟩ := Bool.and_eq_true_iff.mp h
    exact Bool.and_eq_true_iff.mpr ⟨shD_up d n m hm h1, shL_up ds n m hm h2⟩
end
theorem inD_core {d e : D} {neg : Bool} {W : Str → Hp → Prop} {Hs H : Hp} {x y : V} {Q : VK} (a : At T Hs H) (hd : IsT X.K X.mg Hs H d x) (he : IsT X.K X.mg Hs H e y) (hp : PostG T (rIs X.K X.mg) W (inD neg d e) Hs H Q) :
    (∃ p xs, y = .ref p ∧ (SqL X.K H p xs ∨ SqT X.K H p xs) ∧ flatV x = true ∧ xs.all flatV = true ∧ Q (.bl (xor neg (inV x xs))) H) ∨
      ∃ d ds, Dp X.K H x d ∧ Dp X.K H y (.list ds) ∧ SeqAt.shaped d = true ∧ SeqAt.shaped (.list ds) = true ∧ Q (.bl (xor neg (ds.any fun z => PyData.eqv z d))) H := by
  unfold inD at hp
  split at hp
  · rename_i es
    cases c : (flD d && es.all flD) with
    | false => rw [c] at hp; exact (show False from hp).elim
    | true =>
      rw [c] at hp
      obtain ⟨c1, c2⟩ := Bool.and_eq_true_iff.mp c
      obtain ⟨q, us, rfl, q1, q2, q3, q4⟩ := he.tup a
      have hd' := hd.full a
      have q3' := IsL.mono a.sub _ _ q3
      refine .inl ⟨q, us, rfl, .inr q1, fl_flat hd' c1, fl_flats q3' c2, ?_⟩
      rw [any_is hd' c1 q3' c2]
      exact PostG.ret (rel := rIs X.K X.mg) hp a rfl
  · rename_i es
    cases c : (shD 60 d && shL 59 es) with
    | false => rw [c] at hp; exact (show False from hp).elim
    | true =>
      rw [c] at hp
      obtain ⟨c1, c2⟩ := Bool.and_eq_true_iff.mp c
      have sh : shD 60 (.lst es) = true := by unfold shD; exact Bool.and_eq_true_iff.mpr ⟨rfl, c2⟩
      refine .inr ⟨_, _, dp_of d 60 x c1 (hd.full a), dp_of (.lst es) 60 y sh (he.full a), shaped_of c1, shaped_of sh, ?_⟩
      rw [any_toPs (shL_up es 59 60 (by omega) c2) c1]
      exact PostG.ret (rel := rIs X.K X.mg) hp a rfl
  · exact hp.elim
theorem o_in (hu : X.A.units + 65 < cLine) : Op2 X T (compareOp .In) (inD false) :=
  ⟨_, op_in_seq.or (op_inD hu), fun W d e x y Hs H Q a hd he hp => by
    rcases inD_core (neg := false) a hd he hp with ⟨p, xs, h1, h2, h3, h4, h5⟩ | ⟨p, q, h1, h2, h3, h4, h5⟩
    · rw [Bool.false_xor] at h5
      exact .inl ⟨p, xs, h1, h2, h3, h4, h5⟩
    · rw [Bool.false_xor] at h5
      exact .inr ⟨p, q, h1, h2, h3, h4, h5⟩⟩
theorem o_nin (hu : X.A.units + 65 < cLine) : Op2 X T (compareOp .NotIn) (inD true) :=
  ⟨_, op_notIn_seq.or (op_notInD hu), fun W d e x y Hs H Q a hd he hp => by
    rcases inD_core (neg := true) a hd he hp with ⟨p, xs, h1, h2, h3, h4, h5⟩ | ⟨p, q, h1, h2, h3, h4, h5⟩
    · rw [Bool.true_xor] at h5
      exact .inl ⟨p, xs, h1, h2, h3, h4, h5⟩
    · rw [Bool.true_xor] at h5
      exact .inr ⟨p, q, h1, h2, h3, h4, h5⟩⟩

/-! ### is None -/
def isN : D → Bool
  | .non => true
  | _ => false
def mIsN (neg : Bool) (m : Env → R D) : Env → R D := fun ρ => (m ρ).bind fun d => .ok (.bl (xor neg (isN d)))
theorem isN_is {K : PySem.W.Frag} {mg : Str → Option Value} {Hs H : Hp} {d : D} {v : V} (h : IsT K mg Hs H d v) : decide (v = V.non) = isN d := by
  rcases h with h | ⟨ds, p, vs, rfl, rfl, _⟩
  · cases d with
    | non => cases h; rfl
    | bl b => cases h; rfl
    | int b => cases h; rfl
    | str b => cases h; rfl
    | fn x => obtain ⟨a, _, rfl⟩ := h; rfl
    | scr x => obtain ⟨a, rfl, _⟩ := h; rfl
    | tup x => obtain ⟨a, _, rfl, _⟩ := h; rfl
    | lst x => obtain ⟨a, _, rfl, _⟩ := h; rfl
    | adr a => cases h; rfl
  · rfl
variable {W : Str → Hp → Prop} {a b c : Expr} {ma mb mc : Env → R D} {pos : Pos}
theorem pd_isN {j pos'} (ha : PDt X T W a ma) : PD X T W (.Compare a [.Is] [.Constant .none j pos'] pos) (mIsN false ma) := by
  obtain ⟨ta, pa, ea⟩ := ha
  refine ⟨_, pe_cmp (pc_isN pa) rfl, fun ρ Hs σ H Q rp hp => ea ρ Hs σ H _ rp (PostG.mono (PostG.bind hp) fun x H1 ⟨Hs1, d, st, is, hp1⟩ => ?_)⟩
  rw [isN_is is]
  rw [Bool.false_xor] at hp1
  exact PostG.ret (rel := rIs X.K X.mg) hp1 st.to rfl
theorem pd_notN {j pos'} (ha : PDt X T W a ma) : PD X T W (.Compare a [.IsNot] [.Constant .none j pos'] pos) (mIsN true ma) := by
  obtain ⟨ta, pa, ea⟩ := ha
  refine ⟨_, pe_cmp (pc_notN pa) rfl, fun ρ Hs σ H Q rp hp => ea ρ Hs σ H _ rp (PostG.mono (PostG.bind hp) fun x H1 ⟨Hs1, d, st, is, hp1⟩ => ?_)⟩
  rw [isN_is is]
  rw [Bool.true_xor] at hp1
  exact PostG.ret (rel := rIs X.K X.mg) hp1 st.to rfl

/-! ### a < b < c -/
def mChain (g g' : D → D → R D) (ma mb mc : Env → R D) : Env → R D := fun ρ => (ma ρ).bind fun x => (mb ρ).bind fun y => (g x y).bind fun z => (asB z).bind fun k => if k = true then (mc ρ).bind fun w => g' y w else .ok (.bl false)
theorem ev_chain {g g' : D → D → R D} {r r' : R2} {ta tb tc : TE} (ea : ∀ ρ Hs σ H Q, Rp X.K X.mg T Hs H σ ρ → PostG T (rIsT X.K X.mg) W (ma ρ) Hs H Q → ta σ H Q) (eb : ∀ ρ Hs σ H Q, Rp X.K X.mg T Hs H σ ρ → PostG T (rIsT X.K X.mg) W (mb ρ) Hs H Q → tb σ H Q)
    (ec : ∀ ρ Hs σ H Q, Rp X.K X.mg T Hs H σ ρ → PostG T (rIsT X.K X.mg) W (mc ρ) Hs H Q → tc σ H Q)
    (er : ∀ (W : Str → Hp → Prop) d e x y Hs H Q, At T Hs H → IsT X.K X.mg Hs H d x → IsT X.K X.mg Hs H e y → PostG T (rIs X.K X.mg) W (g d e) Hs H Q → r x y H Q)
    (er' : ∀ (W : Str → Hp → Prop) d e x y Hs H Q, At T Hs H → IsT X.K X.mg Hs H d x → IsT X.K X.mg Hs H e y → PostG T (rIs X.K X.mg) W (g' d e) Hs H Q → r' x y H Q) :
    ∀ ρ Hs σ H Q, Rp X.K X.mg T Hs H σ ρ → PostG T (rIs X.K X.mg) W (mChain g g' ma mb mc ρ) Hs H Q → tChain r r' ta tb tc σ H Q := by
  intro ρ Hs σ H Q rp hp
  refine ea ρ Hs σ H _ rp (PostG.mono (PostG.bind hp) fun x H1 ⟨Hs1, d, st, is, hp1⟩ => eb ρ Hs1 σ H1 _ (rp.step st) ?_)
  refine PostG.mono (PostG.bind hp1) fun y H2 ⟨Hs2, d2, st2, is2, hp2⟩ => ?_
  refine er W d d2 x y Hs2 H2 _ st2.to (is.step st2) is2 ?_
  refine PostG.mono (PostG.bind hp2) fun z H3 ⟨Hs3, d3, st3, is3, hp3⟩ => ?_
  cases d3 with
  | bl k =>
    cases is3
    refine ⟨k, rfl, ?_⟩
    simp only [asB_bl, R.bind_ok] at hp3
    cases k with
    | true =>
      rw [if_pos rfl] at hp3 ⊢
      refine ec ρ Hs3 σ H3 _ (((rp.step st).step st2).step st3) (PostG.mono (PostG.bind hp3) fun w' H4 ⟨Hs4, d4, st4, is4, hp4⟩ => ?_)
      exact er' W d2 d4 y w' Hs4 H4 Q st4.to ((is2.step st3).step st4) is4 hp4
    | false =>
      rw [if_neg Bool.false_ne_true] at hp3 ⊢
      exact PostG.ret (rel := rIs X.K X.mg) hp3 st3.to rfl
  | _ => exact hp3.elim
theorem pd_chain {op op' : CmpOp} {g g' : D → D → R D} (o : Op2 X T (compareOp op) g) (o' : Op2 X T (compareOp op') g') (ha : PDt X T W a ma) (hb : PDt X T W b mb) (hc : PDt X T W c mc)
    (hm : lastMarks [op, op'] [b, c] = false := by with_unfolding_all rfl) : PD X T W (.Compare a [op, op'] [b, c] pos) (mChain g g' ma mb mc) := by
  obtain ⟨r, hr, er⟩ := o
  obtain ⟨r', hr', er'⟩ := o'
  obtain ⟨ta, pa, ea⟩ := ha
  obtain ⟨tb, pb, eb⟩ := hb
  obtain ⟨tc, pc, ec⟩ := hc
  exact ⟨_, pe_chain hr hr' pa pb pc hm, ev_chain ea eb ec er er'⟩
theorem ptd_chain {op op' : CmpOp} {g g' : D → D → R D} (o : Op2 X T (compareOp op) g) (o' : Op2 X T (compareOp op') g') (ha : PDt X T W a ma) (hb : PDt X T W b mb) (hc : PDt X T W c mc)
    (hm : lastMarks [op, op'] [b, c] = false := by with_unfolding_all rfl) : PTD X T W (.Compare a [op, op'] [b, c] pos) (mB (mChain g g' ma mb mc)) := by
  obtain ⟨r, hr, er⟩ := o
  obtain ⟨r', hr', er'⟩ := o'
  obtain ⟨ta, pa, ea⟩ := ha
  obtain ⟨tb, pb, eb⟩ := hb
  obtain ⟨tc, pc, ec⟩ := hc
  exact ⟨_, pt_chain hr hr' pa pb pc hm, ev_B (ev_chain ea eb ec er er')⟩

/-! ### a[i], a[i:j] -/
def idxD : D → D → R D
  | .lst ds, .int i => match atI ds i with
    | some d => .ok d
    | none => .no
  | .tup ds, .int i => match atI ds i with
    | some d => .ok d
    | none => .no
  | .scr ns, .int i => match atI ns i with
    | some n => .ok (.int n)
    | none => .no
  | _, _ => .no
theorem atI_is {K : PySem.W.Frag} {mg : Str → Option Value} {H : Hp} {ds : List D} {vs : List V} {i : Int} {d : D} (h : IsL K mg H ds vs) (e : atI ds i = some d) : ∃ v, atI vs i = some v ∧ Is K mg H d v := by
  unfold atI at e ⊢
  rw [h.length]
  cases q : ixN ds.length i with
  | none => rw [q] at e; cases e
  | some j =>
    rw [q] at e
    exact h.get e
theorem idx_core {d d2 : D} {W : Str → Hp → Prop} {x y : V} {Hs2 H2 : Hp} {Q : VK} (to : At T Hs2 H2) (is : IsT X.K X.mg Hs2 H2 d x) (is2 : IsT X.K X.mg Hs2 H2 d2 y) (hp2 : PostG T (rIs X.K X.mg) W (idxD d d2) Hs2 H2 Q) : rIxL X.K x y H2 Q ∨ rIxT X.K x y H2 Q := by
  cases d <;> first | exact hp2.elim | skip
  all_goals (cases d2 <;> first | exact hp2.elim | skip)
  · rename_i ns i
    cases is2.flat (fun _ z => nomatch z)
    obtain ⟨p, rfl, p1⟩ := is.full to
    cases e : atI ns i with
    | none => simp only [idxD, e] at hp2; exact hp2.elim
    | some n =>
      simp only [idxD, e] at hp2
      refine .inl ⟨p, ns.map V.int, i, .int n, rfl, rfl, p1, ?_, PostG.ret (rel := rIs X.K X.mg) hp2 to rfl⟩
      unfold atI at e ⊢
      rw [List.length_map]
      cases q : ixN ns.length i with
      | none => rw [q] at e; cases e
      | some j =>
        rw [q] at e
        have e : ns[j]? = some n := e
        show (ns.map V.int)[j]? = _
        rw [List.getElem?_map, e] <;> rfl
  · rename_i ds i
    cases is2.flat (fun _ z => nomatch z)
    obtain ⟨p, vs, rfl, p1, p2, p3, p4⟩ := is.tup to
    cases e : atI ds i with
    | none => simp only [idxD, e] at hp2; exact hp2.elim
    | some d =>
      simp only [idxD, e] at hp2
      obtain ⟨v, e1, e2⟩ := atI_is p3 e
      exact .inr ⟨p, vs, i, v, rfl, rfl, p1, e1, PostG.ret (rel := rIs X.K X.mg) hp2 to e2⟩
  · rename_i ds i
    cases is2.flat (fun _ z => nomatch z)
    obtain ⟨p, vs, rfl, p1, p3, p4⟩ := is.lst to
    cases e : atI ds i with
    | none => simp only [idxD, e] at hp2; exact hp2.elim
    | some d =>
      simp only [idxD, e] at hp2
      obtain ⟨v, e1, e2⟩ := atI_is p3 e
      exact .inl ⟨p, vs, i, v, rfl, rfl, .of p1, e1, PostG.ret (rel := rIs X.K X.mg) hp2 to e2⟩
theorem pd_idx (ha : PDt X T W a ma) (hb : PDt X T W b mb) (hs : PlainIx b := by exact fun _ _ => rfl) : PD X T W (.Subscript a b pos) (mBin idxD ma mb) := by
  obtain ⟨ta, pa, ea⟩ := ha
  obtain ⟨tb, pb, eb⟩ := hb
  exact ⟨_, pe_ix (ix_list.or ix_tup) pa pb hs, ev_bin ea eb fun W d e x y Hs H Q => idx_core⟩
/-- a part of a slice -/
def POD (X : Cx) (T : List (Addr × Str)) (W : Str → Hp → Prop) (e : Option Expr) (m : Env → R (Option Int)) : Prop :=
  ∃ t : TO, PO X e t ∧ ∀ ρ Hs σ H Q, Rp X.K X.mg T Hs H σ ρ → PostG T (fun _ _ a b => a = b) W (m ρ) Hs H Q → t σ H Q
theorem pod_none : POD X T W none (fun _ => .ok none) := ⟨_, po_none, fun ρ Hs σ H Q rp hp => PostG.ret (rel := fun _ _ a b => a = b) hp rp.to rfl⟩
def asI : D → R (Option Int)
  | .int i => .ok (some i)
  | _ => .no
@[simp] theorem asI_int (i : Int) : asI (.int i) = .ok (some i) := rfl
theorem pod_some (ha : PDt X T W a ma) : POD X T W (some a) (fun ρ => (ma ρ).bind asI) := by
  obtain ⟨ta, pa, ea⟩ := ha
  refine ⟨_, po_some pa, fun ρ Hs σ H Q rp hp => ea ρ Hs σ H _ rp (PostG.mono (PostG.bind hp) fun x H1 ⟨Hs1, d, st, is, hp1⟩ => ?_)⟩
  cases d with
  | int i =>
    cases is.flat (fun _ z => nomatch z)
    exact ⟨i, rfl, PostG.ret (rel := fun _ _ (a b : Option Int) => a = b) hp1 st.to rfl⟩
  | _ => exact hp1.elim
def cutD {α : Type} (xs : List α) (lo hi : Option Int) : List α := (xs.drop (HT.sIx xs.length 0 lo)).take (HT.sIx xs.length xs.length hi - HT.sIx xs.length 0 lo)
theorem cutD_len {α : Type} (xs : List α) (lo hi : Option Int) : (cutD xs lo hi).length ≤ xs.length := by
  unfold cutD
  rw [List.length_take, List.length_drop]
  omega
def slD (d : D) (lo hi : Option Int) : R D := match d with
  | .lst ds => .ok (.lst (cutD ds lo hi))
  | .tup ds => .ok (.tup (cutD ds lo hi))
  | _ => .no
def mSl (m : Env → R D) (ml mh : Env → R (Option Int)) : Env → R D := fun ρ => (m ρ).bind fun d => (ml ρ).bind fun lo => (mh ρ).bind fun hi => slD d lo hi
theorem cut_is {K : PySem.W.Frag} {mg : Str → Option Value} {H : Hp} {ds : List D} {vs : List V} (h : IsL K mg H ds vs) (lo hi : Option Int) : IsL K mg H (cutD ds lo hi) (cutV vs lo hi) := by
  unfold cutD cutV
  rw [h.length]
  exact (h.drop _).take _
theorem pd_sl {lo hi : Option Expr} {ml mh : Env → R (Option Int)} {p2 : Pos} (ha : PDt X T W a ma) (hl : POD X T W lo ml) (hh : POD X T W hi mh) : PD X T W (.Subscript a (.Slice lo hi none p2) pos) (mSl ma ml mh) := by
  obtain ⟨ta, pa, ea⟩ := ha
  obtain ⟨tl, pl, el⟩ := hl
  obtain ⟨th, ph, eh⟩ := hh
  refine ⟨_, pe_slice (SlR.or sl_list sl_tupA) pa pl ph, fun ρ Hs σ H Q rp hp => ea ρ Hs σ H _ rp (PostG.mono (PostG.bind hp) fun x H1 ⟨Hs1, d, st, is, hp1⟩ => el ρ Hs1 σ H1 _ (rp.step st) ?_)⟩
  refine PostG.mono (PostG.bind hp1) fun l H2 ⟨Hs2, l', st2, e2, hp2⟩ => eh ρ Hs2 σ H2 _ ((rp.step st).step st2) ?_
  refine PostG.mono (PostG.bind hp2) fun u H3 ⟨Hs3, u', st3, e3, hp3⟩ => ?_
  have e2 : l' = l := e2
  have e3 : u' = u := e3
  subst e2 e3
  have is := (is.step st2).step st3
  cases d with
  | lst ds =>
    obtain ⟨p, vs, rfl, p1, p3, p4⟩ := is.lst st3.to
    refine .inl ⟨p, vs, rfl, .of p1, fun c hc => ?_⟩
    have st4 := Step.lst st3.to hc (Nat.le_trans (cutV_length vs l' u') p4)
    exact (show PostG T (rIs X.K X.mg) W (.ok (.lst (cutD ds l' u'))) Hs3 H3 Q from hp3) _ _ _ st4 ⟨c, _, rfl, upd_same, IsL.mono st4.s _ _ (cut_is p3 l' u')⟩
  | tup ds =>
    obtain ⟨p, vs, rfl, p1, p2, p3, p4⟩ := is.tup st3.to
    have hp3 := (show PostG T (rIs X.K X.mg) W (.ok (.tup (cutD ds l' u'))) Hs3 H3 Q from hp3)
    refine .inr ⟨p, vs, rfl, p1, fun ⟨h1, h2⟩ => ?_, fun _ c hc => ?_⟩
    · refine PostG.ret hp3 st3.to ⟨p, vs, rfl, p2, ?_⟩
      have q := cut_is p3 l' u'
      have e : cutV vs l' u' = vs := by
        unfold cutV
        rw [h1, h2]
        simp
      rw [e] at q
      exact q
    · have st4 := Step.tup st3.to hc (Nat.le_trans (cutV_length vs l' u') p4)
      exact hp3 _ _ _ st4 ⟨c, _, rfl, .of upd_same, IsL.mono st4.s _ _ (cut_is p3 l' u')⟩
  | _ => exact hp3.elim
end
end FL
set_option maxHeartbeats 4000000
/-! FL3: what is walked, targets, comprehensions. -/
namespace FL
open PySem PySem.Spec PyProof.Rows L2

/-! ### what a loop walks -/
/-- the iterator J tells the items ds, as long as what is shared only grows -/
structure ItD (K : PySem.W.Frag) (mg : Str → Option Value) (T : List (Addr × Str)) (J : It) (ds : List D) (Hs : Hp) : Prop where
  stop : ∀ i Hs2 H2, ExtW Hs Hs2 → At T Hs2 H2 → ds.length ≤ i → J.stop i H2
  go : ∀ i Hs2 H2, ExtW Hs Hs2 → At T Hs2 H2 → i < ds.length → J.go i H2
  yld : ∀ i Hs2 H2 x H3, ExtW Hs Hs2 → At T Hs2 H2 → i < ds.length → J.yld i H2 x H3 → ∃ Hs3 d, Step T Hs2 H2 Hs3 H3 ∧ ds[i]? = some d ∧ Is K mg Hs3 d x
  sz : ds.length ≤ sizeLine
/-- .. as long as the whole heap only grows -/
structure ItT (K : PySem.W.Frag) (mg : Str → Option Value) (T : List (Addr × Str)) (J : It) (ds : List D) (Hs H : Hp) : Prop where
  stop : ∀ i Hs2 H2, Step T Hs H Hs2 H2 → ds.length ≤ i → J.stop i H2
  go : ∀ i Hs2 H2, Step T Hs H Hs2 H2 → i < ds.length → J.go i H2
  yld : ∀ i Hs2 H2 x H3, Step T Hs H Hs2 H2 → i < ds.length → J.yld i H2 x H3 → ∃ Hs3 d, Step T Hs2 H2 Hs3 H3 ∧ ds[i]? = some d ∧ Is K mg Hs3 d x
  sz : ds.length ≤ sizeLine
theorem ItD.t {K : PySem.W.Frag} {mg : Str → Option Value} {T : List (Addr × Str)} {J : It} {ds : List D} {Hs H : Hp} (h : ItD K mg T J ds Hs) : ItT K mg T J ds Hs H :=
  ⟨fun i Hs2 H2 st => h.stop i Hs2 H2 st.s st.to, fun i Hs2 H2 st => h.go i Hs2 H2 st.s st.to, fun i Hs2 H2 x H3 st => h.yld i Hs2 H2 x H3 st.s st.to, h.sz⟩
section
variable {K : PySem.W.Frag} {mg : Str → Option Value} {T : List (Addr × Str)} {Hs H : Hp}
theorem at_lt {ds : List D} {i : Nat} (h : i < ds.length) : ∃ d, ds[i]? = some d := ⟨_, List.getElem?_eq_getElem h⟩
theorem itD_list {a : Addr} {ds : List D} {vs : List V} (h : Hs a = some (.lst vs)) (q : IsL K mg Hs ds vs) (hz : vs.length ≤ sizeLine) : ItD K mg T (Itl K a) ds Hs where
  stop := fun i Hs2 H2 e to hi => ⟨vs, .of (to.sub.at (e.at h fun _ z => nomatch z) fun _ z => nomatch z), by rw [q.length]; exact hi⟩
  go := fun i Hs2 H2 e to hi => ⟨vs, vs[i]'(by rw [q.length]; exact hi), .of (to.sub.at (e.at h fun _ z => nomatch z) fun _ z => nomatch z), List.getElem?_eq_getElem _⟩
  yld := fun i Hs2 H2 x H3 e to hi y => by
    obtain ⟨e3, y⟩ := y
    subst e3
    obtain ⟨d, hd⟩ := at_lt hi
    obtain ⟨v', e1, e2⟩ := q.get hd
    have := y vs (.of (to.sub.at (e.at h fun _ z => nomatch z) fun _ z => nomatch z))
    rw [e1] at this; cases this
    exact ⟨Hs2, d, .refl to, hd, Is.mono e d _ e2⟩
  sz := by rw [← q.length]; exact hz
theorem itD_tup {a : Addr} {ds : List D} {vs : List V} (h : SqT K Hs a vs) (q : IsL K mg Hs ds vs) (hz : vs.length ≤ sizeLine) : ItD K mg T (Itt K a) ds Hs where
  stop := fun i Hs2 H2 e to hi => ⟨vs, to.sub.sqT (e.sqT h), by rw [q.length]; exact hi⟩
  go := fun i Hs2 H2 e to hi => ⟨vs, vs[i]'(by rw [q.length]; exact hi), to.sub.sqT (e.sqT h), List.getElem?_eq_getElem _⟩
  yld := fun i Hs2 H2 x H3 e to hi y => by
    obtain ⟨e3, y⟩ := y
    subst e3
    obtain ⟨d, hd⟩ := at_lt hi
    obtain ⟨v, e1, e2⟩ := q.get hd
    have := y vs (to.sub.sqT (e.sqT h))
    rw [e1] at this; cases this
    exact ⟨Hs2, d, .refl to, hd, Is.mono e d _ e2⟩
  sz := by rw [← q.length]; exact hz
theorem itT_list {a : Addr} {ds : List D} {vs : List V} (h : H a = some (.lst vs)) (q : IsL K mg Hs ds vs) (hz : vs.length ≤ sizeLine) : ItT K mg T (Itl K a) ds Hs H where
  stop := fun i Hs2 H2 st hi => ⟨vs, .of (st.a.at h fun _ z => nomatch z), by rw [q.length]; exact hi⟩
  go := fun i Hs2 H2 st hi => ⟨vs, vs[i]'(by rw [q.length]; exact hi), .of (st.a.at h fun _ z => nomatch z), List.getElem?_eq_getElem _⟩
  yld := fun i Hs2 H2 x H3 st hi y => by
    obtain ⟨e3, y⟩ := y
    subst e3
    obtain ⟨d, hd⟩ := at_lt hi
    obtain ⟨v, e1, e2⟩ := q.get hd
    have := y vs (.of (st.a.at h fun _ z => nomatch z))
    rw [e1] at this; cases this
    exact ⟨Hs2, d, .refl st.to, hd, Is.mono st.s d _ e2⟩
  sz := by rw [← q.length]; exact hz
def rgD (lo hi : Int) : List D := (List.range (hi - lo).toNat).map fun i => D.int (lo + (i : Nat))
theorem rgD_len (lo hi : Int) : (rgD lo hi).length = (hi - lo).toNat := by unfold rgD; rw [List.length_map, List.length_range]
theorem rgD_get {lo hi : Int} {i : Nat} (h : i < (hi - lo).toNat) : (rgD lo hi)[i]? = some (.int (lo + (i : Nat))) := by
  unfold rgD
  rw [List.getElem?_map, List.getElem?_range h] <;> rfl
theorem itD_range {lo hi : Int} (hz : (hi - lo).toNat ≤ sizeLine) : ItD K mg T (Itr lo (hi - lo).toNat) (rgD lo hi) Hs where
  stop := fun i Hs2 H2 e to h => by rw [rgD_len] at h; exact h
  go := fun i Hs2 H2 e to h => by rw [rgD_len] at h; exact h
  yld := fun i Hs2 H2 x H3 e to h y => by
    rw [rgD_len] at h
    obtain ⟨e3, y⟩ := y
    subst e3 y
    exact ⟨Hs2, _, .refl to, rgD_get h, rfl⟩
  sz := by rw [rgD_len]; exact hz
def zipL (ds es : List D) : List D := (ds.zip es).map fun p => .tup [p.1, p.2]
theorem zipL_len (ds es : List D) : (zipL ds es).length = min ds.length es.length := by unfold zipL; rw [List.length_map, List.length_zip]
theorem zipL_get {ds es : List D} {i : Nat} {d e : D} (h : ds[i]? = some d) (q : es[i]? = some e) : (zipL ds es)[i]? = some (.tup [d, e]) := by
  unfold zipL
  have : (ds.zip es)[i]? = some (d, e) := by rw [List.getElem?_zip_eq_some]; exact ⟨h, q⟩
  rw [List.getElem?_map, this] <;> rfl
theorem two_le : 2 ≤ sizeLine := by rw [sizeLine_eq]; omega
theorem pair_step {Hs2 H2 : Hp} {p : Addr} {d e : D} {x y : V} (to : At T Hs2 H2) (hp : H2 p = none) (h1 : Is K mg Hs2 d x) (h2 : Is K mg Hs2 e y) :
    ∃ Hs3, Step T Hs2 H2 Hs3 (upd H2 p (.tup [x, y])) ∧ Is K mg Hs3 (.tup [d, e]) (.ref p) := by
  have st := Step.tup (vs := [x, y]) to hp two_le
  exact ⟨_, st, p, _, rfl, .of upd_same, x, _, rfl, Is.mono st.s d x h1, y, _, rfl, Is.mono st.s e y h2, rfl⟩
theorem itD_zip {a b : Addr} {ds es : List D} {vs us : List V} (h : Hs a = some (.lst vs)) (q : IsL K mg Hs ds vs) (h' : Hs b = some (.lst us)) (q' : IsL K mg Hs es us) (hz : vs.length ≤ sizeLine) : ItD K mg T (Itz K a b) (zipL ds es) Hs where
  stop := fun i Hs2 H2 e to hi => by
    rw [zipL_len] at hi
    refine ⟨vs, us, .of (to.sub.at (e.at h fun _ z => nomatch z) fun _ z => nomatch z), .of (to.sub.at (e.at h' fun _ z => nomatch z) fun _ z => nomatch z), ?_⟩
    rw [q.length, q'.length]
    omega
  go := fun i Hs2 H2 e to hi => by
    rw [zipL_len] at hi
    exact ⟨vs, us, vs[i]'(by rw [q.length]; omega), us[i]'(by rw [q'.length]; omega), .of (to.sub.at (e.at h fun _ z => nomatch z) fun _ z => nomatch z), .of (to.sub.at (e.at h' fun _ z => nomatch z) fun _ z => nomatch z), List.getElem?_eq_getElem _, List.getElem?_eq_getElem _⟩
  yld := fun i Hs2 H2 x H3 e to hi y => by
    rw [zipL_len] at hi
    obtain ⟨p, x1, x2, rfl, hp, rfl, y1, y2⟩ := y
    obtain ⟨d1, hd1⟩ := at_lt (ds := ds) (i := i) (by omega)
    obtain ⟨d2, hd2⟩ := at_lt (ds := es) (i := i) (by omega)
    obtain ⟨v1, e1, e2⟩ := q.get hd1
    obtain ⟨v2, e3, e4⟩ := q'.get hd2
    have z1 := y1 vs (.of (to.sub.at (e.at h fun _ z => nomatch z) fun _ z => nomatch z))
    have z2 := y2 us (.of (to.sub.at (e.at h' fun _ z => nomatch z) fun _ z => nomatch z))
    rw [e1] at z1; cases z1
    rw [e3] at z2; cases z2
    obtain ⟨Hs3, st, is⟩ := pair_step (K := K) (mg := mg) to hp (Is.mono e _ _ e2) (Is.mono e _ _ e4)
    exact ⟨Hs3, _, st, zipL_get hd1 hd2, is⟩
  sz := by rw [zipL_len, ← q.length]; omega
theorem itD_zipT {a b : Addr} {ds es : List D} {vs us : List V} (h : SqT K Hs a vs) (q : IsL K mg Hs ds vs) (h' : SqT K Hs b us) (q' : IsL K mg Hs es us) (hz : vs.length ≤ sizeLine) : ItD K mg T (RZ.ItzT K a b) (zipL ds es) Hs where
  stop := fun i Hs2 H2 e to hi => by
    rw [zipL_len] at hi
    refine ⟨vs, us, to.sub.sqT (e.sqT h), to.sub.sqT (e.sqT h'), ?_⟩
    rw [q.length, q'.length]
    omega
  go := fun i Hs2 H2 e to hi => by
    rw [zipL_len] at hi
    exact ⟨vs, us, vs[i]'(by rw [q.length]; omega), us[i]'(by rw [q'.length]; omega), to.sub.sqT (e.sqT h), to.sub.sqT (e.sqT h'), List.getElem?_eq_getElem _, List.getElem?_eq_getElem _⟩
  yld := fun i Hs2 H2 x H3 e to hi y => by
    rw [zipL_len] at hi
    obtain ⟨p, x1, x2, rfl, hp, rfl, y1, y2⟩ := y
    obtain ⟨d1, hd1⟩ := at_lt (ds := ds) (i := i) (by omega)
    obtain ⟨d2, hd2⟩ := at_lt (ds := es) (i := i) (by omega)
    obtain ⟨v1, e1, e2⟩ := q.get hd1
    obtain ⟨v2, e3, e4⟩ := q'.get hd2
    have z1 := y1 vs (to.sub.sqT (e.sqT h))
    have z2 := y2 us (to.sub.sqT (e.sqT h'))
    rw [e1] at z1; cases z1
    rw [e3] at z2; cases z2
    obtain ⟨Hs3, st, is⟩ := pair_step (K := K) (mg := mg) to hp (Is.mono e _ _ e2) (Is.mono e _ _ e4)
    exact ⟨Hs3, _, st, zipL_get hd1 hd2, is⟩
  sz := by rw [zipL_len, ← q.length]; omega
def enumL (ds : List D) : List D := (List.range ds.length).zipWith (fun i d => .tup [.int ((i : Nat) : Int), d]) ds
theorem enumL_len (ds : List D) : (enumL ds).length = ds.length := by unfold enumL; rw [List.length_zipWith, List.length_range, Nat.min_self]
theorem enumL_get {ds : List D} {i : Nat} {d : D} (h : ds[i]? = some d) : (enumL ds)[i]? = some (.tup [.int (i : Nat), d]) := by
  have hi : i < ds.length := (List.getElem?_eq_some_iff.mp h).1
  unfold enumL
  rw [List.getElem?_zipWith, List.getElem?_range hi, h]
theorem itD_enum {a : Addr} {ds : List D} {vs : List V} (h : Hs a = some (.lst vs)) (q : IsL K mg Hs ds vs) (hz : vs.length ≤ sizeLine) : ItD K mg T (Ite K a) (enumL ds) Hs where
  stop := fun i Hs2 H2 e to hi => by
    rw [enumL_len] at hi
    exact ⟨vs, .of (to.sub.at (e.at h fun _ z => nomatch z) fun _ z => nomatch z), by rw [q.length]; exact hi⟩
  go := fun i Hs2 H2 e to hi => by
    rw [enumL_len] at hi
    exact ⟨vs, vs[i]'(by rw [q.length]; exact hi), .of (to.sub.at (e.at h fun _ z => nomatch z) fun _ z => nomatch z), List.getElem?_eq_getElem _⟩
  yld := fun i Hs2 H2 x H3 e to hi y => by
    rw [enumL_len] at hi
    obtain ⟨p, x1, rfl, hp, rfl, y1⟩ := y
    obtain ⟨d, hd⟩ := at_lt hi
    obtain ⟨v, e1, e2⟩ := q.get hd
    have z1 := y1 vs (.of (to.sub.at (e.at h fun _ z => nomatch z) fun _ z => nomatch z))
    rw [e1] at z1; cases z1
    obtain ⟨Hs3, st, is⟩ := pair_step (K := K) (mg := mg) (d := .int ((i : Nat) : Int)) (x := .int ((i : Nat) : Int)) to hp rfl (Is.mono e _ _ e2)
    exact ⟨Hs3, _, st, enumL_get hd, is⟩
  sz := by rw [enumL_len, ← q.length]; exact hz
end

/-- something walked, with its items -/
def PDI (X : Cx) (T : List (Addr × Str)) (W : Str → Hp → Prop) (tg e : Expr) (m : Env → R (List D)) : Prop :=
  ∃ wi : TI, PI X tg e wi ∧ ∀ ρ Hs σ H (Q : It → Hp → Prop), Rp X.K X.mg T Hs H σ ρ → PostG T (fun Hs _ ds J => ItD X.K X.mg T J ds Hs) W (m ρ) Hs H Q → wi σ H Q
def PDIt (X : Cx) (T : List (Addr × Str)) (W : Str → Hp → Prop) (tg e : Expr) (m : Env → R (List D)) : Prop :=
  ∃ wi : TI, PI X tg e wi ∧ ∀ ρ Hs σ H (Q : It → Hp → Prop), Rp X.K X.mg T Hs H σ ρ → PostG T (fun Hs H ds J => ItT X.K X.mg T J ds Hs H) W (m ρ) Hs H Q → wi σ H Q
section
variable {X : Cx} {T : List (Addr × Str)} {W : Str → Hp → Prop} {tg e a b : Expr} {es : List Expr} {m ma mb : Env → R D} {pos p : Pos}
theorem PDI.t {mi : Env → R (List D)} (h : PDI X T W tg e mi) : PDIt X T W tg e mi := by
  obtain ⟨wi, pi, ev⟩ := h
  exact ⟨wi, pi, fun ρ Hs σ H Q rp hp => ev ρ Hs σ H Q rp (hp.rel_ fun _ _ _ _ k => k.t)⟩
def iSeq (K : PySem.W.Frag) (tl : TE) : TI := fun σ H R => tl σ H fun x H1 => (∃ a, x = .ref a ∧ (∃ xs, SqL K H1 a xs) ∧ R (Itl K a) H1) ∨ (∃ a, x = .ref a ∧ (∃ xs, SqT K H1 a xs) ∧ R (Itt K a) H1)
theorem pi_seq {l : Expr} {tl : TE} (hl : PE X l tl) : PI X tg l (iSeq X.K tl) := by
  refine ⟨fun pins s σ H R I h => ?_⟩
  refine thn (hl.run pins s σ H _ I h) fun v s1 ⟨x, H1, I1, r1, q1⟩ => ?_
  have fresh : ∀ b ∈ [s1.heap.objs.size], FpOk X pins H1 b := fun b hb => by
    have e : b = s1.heap.objs.size := by simpa using hb
    subst e
    exact I1.fpOk (Nat.le_refl _) (I1.hok.fresh (Nat.le_refl _))
  have grown : ∀ o : Obj, Inv X pins σ H1 { s1 with heap := s1.heap.push o } := fun o => I1.kept (t' := s1.toks) fun b o e => Heap.get?_push_of_some _ e
  rcases q1 with ⟨a, e, ⟨xs, hq⟩, q⟩ | ⟨a, e, ⟨xs, hq⟩, q⟩
  · subst e
    cases r1
    obtain ⟨its, rv, p, hz⟩ := I1.list hq
    exact wpAny_pyIter_list p.isList ⟨s1.heap.objs.size, [s1.heap.objs.size], _, _, H1, rfl, grown _, turn_list a _, ⟨_, Heap.get?_push_size _ rfl, rfl, rfl⟩, fresh, q⟩
  · subst e
    cases r1
    obtain ⟨its, rv, p, hz⟩ := I1.tuple hq
    exact wpAny_pyIter_tuple (show s1.heap.IsTuple a its.toArray from p) ⟨s1.heap.objs.size, [s1.heap.objs.size], _, _, H1, rfl, grown _, turn_tuple a _, ⟨_, Heap.get?_push_size _ rfl, rfl, rfl⟩, fresh, q⟩
def itemsD : D → R (List D)
  | .lst ds => .ok ds
  | .tup ds => .ok ds
  | _ => .no
@[simp] theorem itemsD_lst (ds : List D) : itemsD (.lst ds) = .ok ds := rfl
@[simp] theorem itemsD_tup (ds : List D) : itemsD (.tup ds) = .ok ds := rfl
theorem pdi_seq (h : PD X T W e m) : PDI X T W tg e (fun ρ => (m ρ).bind itemsD) := by
  obtain ⟨te, pe, ev⟩ := h
  refine ⟨_, pi_seq pe, fun ρ Hs σ H Q rp hp => ev ρ Hs σ H _ rp (PostG.mono (PostG.bind hp) fun v H1 ⟨Hs1, d, st, is, hp1⟩ => ?_)⟩
  cases d with
  | lst ds =>
    obtain ⟨a, vs, rfl, q1, q2⟩ := is
    have hz := st.to.sz a vs (.inl (.inl q1))
    exact .inl ⟨a, rfl, ⟨vs, .of (st.to.sub.at q1 fun _ z => nomatch z)⟩, PostG.ret (rel := fun Hs _ ds J => ItD X.K X.mg T J ds Hs) hp1 st.to (itD_list q1 q2 hz)⟩
  | tup ds =>
    obtain ⟨a, vs, rfl, q1, q1', q2, hz⟩ := IsT.tup (.inl is) st.to
    exact .inr ⟨a, rfl, ⟨vs, q1⟩, PostG.ret (rel := fun Hs _ ds J => ItD X.K X.mg T J ds Hs) hp1 st.to (itD_tup q1' q2 hz)⟩
  | _ => exact hp1.elim
theorem pdit_seq (h : PDt X T W e m) : PDIt X T W tg e (fun ρ => (m ρ).bind itemsD) := by
  obtain ⟨te, pe, ev⟩ := h
  refine ⟨_, pi_seq pe, fun ρ Hs σ H Q rp hp => ev ρ Hs σ H _ rp (PostG.mono (PostG.bind hp) fun v H1 ⟨Hs1, d, st, is, hp1⟩ => ?_)⟩
  cases d with
  | lst ds =>
    obtain ⟨a, vs, rfl, q1, q2, hz⟩ := is.lst st.to
    exact .inl ⟨a, rfl, ⟨vs, .of q1⟩, PostG.ret (rel := fun Hs H ds J => ItT X.K X.mg T J ds Hs H) hp1 st.to (itT_list q1 q2 hz)⟩
  | tup ds =>
    obtain ⟨a, vs, rfl, q1, q1', q2, hz⟩ := is.tup st.to
    exact .inr ⟨a, rfl, ⟨vs, q1⟩, PostG.ret (rel := fun Hs H ds J => ItT X.K X.mg T J ds Hs H) hp1 st.to (itD_tup q1' q2 hz).t⟩
  | _ => exact hp1.elim
def rg1D : D → R (List D)
  | .int j => if -1000000 ≤ j ∧ j ≤ 1000000 then .ok (rgD 0 j) else .no
  | _ => .no
def rg2D : D → D → R (List D)
  | .int i, .int j => if -1000000 ≤ i ∧ i ≤ 1000000 ∧ -1000000 ≤ j ∧ j ≤ 1000000 then .ok (rgD i j) else .no
  | _, _ => .no
abbrev rItD (K : PySem.W.Frag) (mg : Str → Option Value) (T : List (Addr × Str)) : Hp → Hp → List D → It → Prop := fun Hs _ ds J => ItD K mg T J ds Hs
theorem pdi_range1 (hg : Gl X "range") (hm : X.mg "range" = none) (ha : PDt X T W a ma) (hs : starEach [a] X.env = [(false, eval a X.env)] := by rfl) : PDI X T W tg (.Call (.Name "range" p) [a] [] pos) (fun ρ => (ma ρ).bind rg1D) := by
  obtain ⟨ta, pa, ea⟩ := ha
  refine ⟨_, pi_range1 hg hm (pa_cons pa pa_nil hs) hs, fun ρ Hs σ H Q rp hp => ea ρ Hs σ H _ rp (PostG.mono (PostG.bind hp) fun v H1 ⟨Hs1, d, st, is, hp1⟩ => ?_)⟩
  cases d with
  | int j =>
    cases is.flat (fun _ z => nomatch z)
    by_cases hj : -1000000 ≤ j ∧ j ≤ 1000000
    · rw [show rg1D (.int j) = .ok (rgD 0 j) from if_pos hj] at hp1
      refine ⟨j, rfl, by omega, by omega, ?_⟩
      have e : (j - 0).toNat = j.toNat := by omega
      have q := PostG.ret (rel := rItD X.K X.mg T) hp1 st.to (itD_range (by rw [sizeLine_eq]; omega))
      rw [e] at q
      exact q
    · rw [show rg1D (.int j) = .no from if_neg hj] at hp1
      exact hp1.elim
  | _ => exact hp1.elim
theorem pdi_range2 (hg : Gl X "range") (hm : X.mg "range" = none) (ha : PDt X T W a ma) (hb : PDt X T W b mb) (hs : starEach [a, b] X.env = [(false, eval a X.env), (false, eval b X.env)] := by rfl) (hs2 : starEach [b] X.env = [(false, eval b X.env)] := by rfl) :
    PDI X T W tg (.Call (.Name "range" p) [a, b] [] pos) (fun ρ => (ma ρ).bind fun x => (mb ρ).bind fun y => rg2D x y) := by
  obtain ⟨ta, pa, ea⟩ := ha
  obtain ⟨tb, pb, eb⟩ := hb
  refine ⟨_, pi_range2 hg hm (pa_cons pa (pa_cons pb pa_nil hs2) (by rw [hs, hs2])) hs hs2, fun ρ Hs σ H Q rp hp => ea ρ Hs σ H _ rp (PostG.mono (PostG.bind hp) fun v H1 ⟨Hs1, d, st, is, hp1⟩ => eb ρ Hs1 σ H1 _ (rp.step st) (PostG.mono (PostG.bind hp1) fun u H2 ⟨Hs2, d2, st2, is2, hp2⟩ => ?_))⟩
  cases d with
  | int i =>
    cases d2 with
    | int j =>
      cases is.flat (fun _ z => nomatch z)
      cases is2.flat (fun _ z => nomatch z)
      by_cases hj : -1000000 ≤ i ∧ i ≤ 1000000 ∧ -1000000 ≤ j ∧ j ≤ 1000000
      · rw [show rg2D (.int i) (.int j) = .ok (rgD i j) from if_pos hj] at hp2
        exact ⟨i, j, rfl, ⟨by omega, by omega, by omega, by omega⟩, PostG.ret (rel := rItD X.K X.mg T) hp2 st2.to (itD_range (by rw [sizeLine_eq]; omega))⟩
      · rw [show rg2D (.int i) (.int j) = .no from if_neg hj] at hp2
        exact hp2.elim
    | _ => exact hp2.elim
  | _ => exact hp2.elim
def zipD : D → D → R (List D)
  | .lst ds, .lst es => .ok (zipL ds es)
  | .tup ds, .tup es => .ok (zipL ds es)
  | _, _ => .no
theorem pdi_zip {tpos : Pos} {elts : List Expr} {kk : Nat} (hg : Gl X "zip") (hm : X.mg "zip" = none) (ha : PD X T W a ma) (hb : PD X T W b mb) (hs : starEach [a, b] X.env = (false, eval a X.env) :: starEach [b] X.env := by rfl) (hs2 : starEach [b] X.env = [(false, eval b X.env)] := by rfl)
    (hpl : (backTo pos (starEach [b] X.env)).any (·.1) = false := by rfl) :
    PDI X T W (.Tuple elts kk tpos) (.Call (.Name "zip" p) [a, b] [] pos) (fun ρ => (ma ρ).bind fun x => (mb ρ).bind fun y => zipD x y) := by
  obtain ⟨ta, pa, ea⟩ := ha
  obtain ⟨tb, pb, eb⟩ := hb
  refine ⟨_, RZ.pi_zipA hg hm (pa_cons pa (pa_cons pb pa_nil hs2) hs) hs hpl, fun ρ Hs σ H Q rp hp => ea ρ Hs σ H _ rp (PostG.mono (PostG.bind hp) fun v H1 ⟨Hs1, d, st, is, hp1⟩ => eb ρ Hs1 σ H1 _ (rp.step st) (PostG.mono (PostG.bind hp1) fun u H2 ⟨Hs2, d2, st2, is2, hp2⟩ => ?_))⟩
  have is : Is X.K X.mg Hs2 d v := Is.mono st2.s d v is
  have is2 : Is X.K X.mg Hs2 d2 u := is2
  cases d with
  | lst ds =>
    cases d2 with
    | lst es =>
      obtain ⟨a1, vs, rfl, q1, q2⟩ := is
      obtain ⟨a2, us, rfl, q3, q4⟩ := is2
      exact ⟨a1, a2, vs, us, rfl, .inl ⟨.of (st2.to.sub.at q1 fun _ z => nomatch z), .of (st2.to.sub.at q3 fun _ z => nomatch z), PostG.ret (rel := rItD X.K X.mg T) hp2 st2.to (itD_zip q1 q2 q3 q4 (st2.to.sz _ _ (.inl (.inl q1))))⟩⟩
    | _ => exact hp2.elim
  | tup ds =>
    cases d2 with
    | tup es =>
      obtain ⟨a1, vs, rfl, q1, q1', q2, hz⟩ := IsT.tup (.inl is) st2.to
      obtain ⟨a2, us, rfl, q3, q3', q4, hz'⟩ := IsT.tup (.inl is2) st2.to
      exact ⟨a1, a2, vs, us, rfl, .inr ⟨q1, q3, PostG.ret (rel := rItD X.K X.mg T) hp2 st2.to (itD_zipT q1' q2 q3' q4 hz)⟩⟩
    | _ => exact hp2.elim
  | _ => exact hp2.elim
def enumD : D → R (List D)
  | .lst ds => .ok (enumL ds)
  | _ => .no
theorem pdi_enum {tpos : Pos} {elts : List Expr} {kk : Nat} (hg : Gl X "enumerate") (hm : X.mg "enumerate" = none) (ha : PD X T W a ma) (hs : starEach [a] X.env = [(false, eval a X.env)] := by rfl) :
    PDI X T W (.Tuple elts kk tpos) (.Call (.Name "enumerate" p) [a] [] pos) (fun ρ => (ma ρ).bind enumD) := by
  obtain ⟨ta, pa, ea⟩ := ha
  refine ⟨_, pi_enum hg hm (pa_cons pa pa_nil hs) hs, fun ρ Hs σ H Q rp hp => ea ρ Hs σ H _ rp (PostG.mono (PostG.bind hp) fun v H1 ⟨Hs1, d, st, is, hp1⟩ => ?_)⟩
  have is : Is X.K X.mg Hs1 d v := is
  cases d with
  | lst ds =>
    obtain ⟨a1, vs, rfl, q1, q2⟩ := is
    exact ⟨a1, vs, rfl, .of (st.to.sub.at q1 fun _ z => nomatch z), PostG.ret (rel := rItD X.K X.mg T) hp1 st.to (itD_enum q1 q2 (st.to.sz _ _ (.inl (.inl q1))))⟩
  | _ => exact hp1.elim
end
end FL
set_option maxHeartbeats 4000000
/-! FL4: targets, comprehensions, built-in calls. -/
namespace FL
open PySem PySem.Spec PyProof.Rows L2

/-! ### readings that hang on K, mg, T alone -/
theorem PE.weak {X : Cx} {e : Expr} {t t' : TE} (h : PE X e t) (q : ∀ σ H Q, t' σ H Q → t σ H Q) : PE X e t' := ⟨fun pins s σ H Q I hq => h.run pins s σ H Q I (q σ H Q hq)⟩
theorem PTs.weak {X : Cx} {e : List Expr} {t t' : TT} (h : PTs X e t) (q : ∀ σ H Q, t' σ H Q → t σ H Q) : PTs X e t' := ⟨fun pins s σ H Q I hq => h.run pins s σ H Q I (q σ H Q hq)⟩
def tD (K : PySem.W.Frag) (mg : Str → Option Value) (T : List (Addr × Str)) (W : Str → Hp → Prop) (m : Env → R D) : TE := fun σ H Q => ∃ ρ Hs, Rp K mg T Hs H σ ρ ∧ PostG T (rIs K mg) W (m ρ) Hs H Q
def tDB (K : PySem.W.Frag) (mg : Str → Option Value) (T : List (Addr × Str)) (W : Str → Hp → Prop) (m : Env → R Bool) : TT := fun σ H Q => ∃ ρ Hs, Rp K mg T Hs H σ ρ ∧ PostG T rB W (m ρ) Hs H Q
section
variable {X : Cx} {T : List (Addr × Str)} {W : Str → Hp → Prop} {e : Expr} {m : Env → R D} {mt : Env → R Bool}
theorem PD.canon (h : PD X T W e m) : PE X e (tD X.K X.mg T W m) := by
  obtain ⟨te, pe, ev⟩ := h
  exact PE.weak pe fun σ H Q ⟨ρ, Hs, rp, hp⟩ => ev ρ Hs σ H Q rp hp
/-- the tests of a comprehension's clause -/
def PTsD (X : Cx) (T : List (Addr × Str)) (W : Str → Hp → Prop) (ifs : List Expr) (m : Env → R Bool) : Prop := ∃ tt : TT, PTs X ifs tt ∧ ∀ ρ Hs σ H Q, Rp X.K X.mg T Hs H σ ρ → PostG T rB W (m ρ) Hs H Q → tt σ H Q
def mYes : Env → R Bool := fun _ => .ok true
theorem pts0 : PTsD X T W [] mYes := ⟨_, pts_nil, fun ρ Hs σ H Q rp hp => PostG.ret (rel := rB) hp rp.to rfl⟩
theorem pts1 (h : PTD X T W e mt) : PTsD X T W [e] mt := by
  obtain ⟨tt, pt, ev⟩ := h
  exact ⟨tt, pts_one pt, ev⟩
theorem PTsD.canon {ifs : List Expr} (h : PTsD X T W ifs mt) : PTs X ifs (tDB X.K X.mg T W mt) := by
  obtain ⟨tt, pt, ev⟩ := h
  exact PTs.weak pt fun σ H Q ⟨ρ, Hs, rp, hp⟩ => ev ρ Hs σ H Q rp hp
end

/-! ### targets: a name, or a tuple of names -/
inductive Tg where
  | one (i : Nat)
  | many (is : List Nat)
def Tg.slots : Tg → List Nat
  | .one i => [i]
  | .many is => is
def setAll : List Nat → List D → Env → Option Env
  | [], [], ρ => some ρ
  | i :: is, d :: ds, ρ => setAll is ds (ρ.set i (.sh d))
  | _, _, _ => none
def Tg.put : Tg → D → Env → Option Env
  | .one i, d, ρ => some (ρ.set i (.sh d))
  | .many is, .tup ds, ρ => setAll is ds ρ
  | _, _, _ => none
def setV : List Nat → List V → L2.St → L2.St
  | i :: is, v :: vs, σ => setV is vs (σ.set i (some v))
  | _, _, σ => σ
section
variable {X : Cx} {T : List (Addr × Str)} {W : Str → Hp → Prop}
/-- a target does what t says -/
def PGD (X : Cx) (T : List (Addr × Str)) (tg : Expr) (t : Tg) : Prop :=
  ∃ g : TG, PG X tg g ∧ ∀ d v ρ ρ' Hs σ H Q, Rp X.K X.mg T Hs H σ ρ → Is X.K X.mg Hs d v → t.put d ρ = some ρ' → (∀ vs, Rp X.K X.mg T Hs H (setV t.slots vs σ) ρ' → Q (setV t.slots vs σ) H) → g v σ H Q
def gD (K : PySem.W.Frag) (mg : Str → Option Value) (T : List (Addr × Str)) (t : Tg) : TG := fun v σ H Q => ∃ ρ ρ' Hs d, Rp K mg T Hs H σ ρ ∧ Is K mg Hs d v ∧ t.put d ρ = some ρ' ∧ ∀ vs, Rp K mg T Hs H (setV t.slots vs σ) ρ' → Q (setV t.slots vs σ) H
theorem PGD.canon {tg : Expr} {t : Tg} (h : PGD X T tg t) : PG X tg (gD X.K X.mg T t) := by
  obtain ⟨g, pg, ev⟩ := h
  exact ⟨fun pins s σ H v u Q I r ⟨ρ, ρ', Hs, d, rp, is, hp, k⟩ => pg.run pins s σ H v u Q I r (ev d v ρ ρ' Hs σ H Q rp is hp k)⟩
theorem pgd_name (i : Nat) {x : Str} {pos : Pos} (hN : X.N.Nodup) (hi : X.N[i]? = some x := by rfl) (hx : Loc X.env.scope x := by first | exact Or.inl rfl | exact Or.inr rfl) (hf : X.fn x = true ∨ X.env.scope.names.lookup x = some .local := by first | exact .inl rfl | exact .inr rfl) : PGD X T (.Name x pos) (.one i) := by
  refine ⟨gName i, pg_name hN hi hx hf, fun d v ρ ρ' Hs σ H Q rp is hp q => ?_⟩
  cases hp
  exact q [v] (rp.set is)
/-- the names of a tuple target -/
def PGsD (X : Cx) (T : List (Addr × Str)) (es : List Expr) (is : List Nat) : Prop := ∃ g : TGs, PGs X es g ∧ es.length = is.length ∧ ∀ ds vs ρ ρ' Hs σ H Q, Rp X.K X.mg T Hs H σ ρ → IsL X.K X.mg Hs ds vs → setAll is ds ρ = some ρ' → (∀ vs, Rp X.K X.mg T Hs H (setV is vs σ) ρ' → Q (setV is vs σ) H) → g vs σ H Q
theorem pgsd_nil : PGsD X T [] [] := ⟨_, pgs_nil, rfl, fun ds vs ρ ρ' Hs σ H Q rp is hp k => by
  cases ds with
  | nil =>
    cases hp
    cases is
    exact ⟨rfl, k [] rp⟩
  | cons d ds => cases hp⟩
theorem pgsd_cons (i : Nat) {x : Str} {pos : Pos} {es : List Expr} {is : List Nat} (h : PGsD X T es is) (hN : X.N.Nodup) (hi : X.N[i]? = some x := by rfl) (hx : Loc X.env.scope x := by first | exact Or.inl rfl | exact Or.inr rfl)
    (hf : X.fn x = true ∨ X.env.scope.names.lookup x = some .local := by first | exact .inl rfl | exact .inr rfl) (hs : (assignEach (.Name x pos :: es) X.env).map (·.2) = assign (.Name x pos) X.env :: (assignEach es X.env).map (·.2) := by rfl) : PGsD X T (.Name x pos :: es) (i :: is) := by
  obtain ⟨g, pg, hl, ev⟩ := h
  refine ⟨_, pgs_cons (pg_name hN hi hx hf) pg hs, by rw [List.length_cons, List.length_cons, hl], fun ds vs ρ ρ' Hs σ H Q rp is hp k => ?_⟩
  cases ds with
  | nil => cases hp
  | cons d ds =>
    obtain ⟨v, r, rfl, h1, h2⟩ := is
    exact ⟨v, r, rfl, ev ds r _ _ Hs _ H Q (rp.set h1) h2 hp fun vs rp' => k (v :: vs) rp'⟩
theorem setAll_len : ∀ {is : List Nat} {ds : List D} {ρ ρ' : Env}, setAll is ds ρ = some ρ' → ds.length = is.length
  | [], [], _, _, _ => rfl
  | [], _ :: _, _, _, h => by cases h
  | _ :: _, [], _, _, h => by cases h
  | i :: is, d :: ds, ρ, ρ', h => by
    rw [List.length_cons, List.length_cons, setAll_len (is := is) (ds := ds) h]
theorem pgd_tup {es : List Expr} {is : List Nat} {k : Nat} {pos : Pos} (h : PGsD X T es is) (hc : X.calm = true) (hn : (assignEach es X.env).length = is.length := by rfl) (hst : (assignEach es X.env).findIdx? (·.1) = none := by rfl) : PGD X T (.Tuple es k pos) (.many is) := by
  obtain ⟨g, pg, hl, ev⟩ := h
  refine ⟨_, pg_tup hc pg hn hst, fun d v ρ ρ' Hs σ H Q rp is' hp k' => ?_⟩
  cases d with
  | tup ds =>
    obtain ⟨a, vs, rfl, q1, q2⟩ := is'
    exact ⟨a, vs, rfl, rp.to.sub.sqT q1, by rw [q2.length]; exact setAll_len hp, ev ds vs ρ ρ' Hs σ H Q rp q2 hp k'⟩
  | _ => cases hp
end

/-! ### slots wiped -/
def wipeE (ρ : Env) : List Nat → Env
  | [] => ρ
  | v :: vs => (wipeE ρ vs).set v .no
theorem Rp.wipe {K : PySem.W.Frag} {mg : Str → Option Value} {T : List (Addr × Str)} {Hs H : Hp} {σ : L2.St} {ρ : Env} (h : Rp K mg T Hs H σ ρ) : ∀ vs : List Nat, Rp K mg T Hs H (L2.wipe σ vs) (wipeE ρ vs)
  | [] => h
  | v :: vs => (h.wipe vs).drop
theorem wipe_get (σ : L2.St) (i : Nat) : ∀ vs : List Nat, (L2.wipe σ vs)[i]? = if i ∈ vs then (if i < σ.length then some none else none) else σ[i]?
  | [] => by simp [L2.wipe]
  | v :: vs => by
    unfold L2.wipe
    by_cases e : v = i
    · subst e
      rw [if_pos List.mem_cons_self]
      by_cases hl : v < σ.length
      · rw [if_pos hl, List.getElem?_set_self (by rw [wipe_length]; exact hl)]
      · rw [if_neg hl, List.getElem?_eq_none (by rw [List.length_set, wipe_length]; omega)]
    · rw [List.getElem?_set_ne e, wipe_get σ i vs]
      by_cases hm : i ∈ vs
      · rw [if_pos hm, if_pos (List.mem_cons_of_mem _ hm)]
      · rw [if_neg hm, if_neg]
        intro z
        rcases List.mem_cons.mp z with z | z
        · exact e z.symm
        · exact hm z
theorem wipe_wipe (σ : L2.St) (vs : List Nat) : L2.wipe (L2.wipe σ vs) vs = L2.wipe σ vs := by
  apply List.ext_getElem?
  intro i
  rw [wipe_get, wipe_get, wipe_length]
  by_cases h : i ∈ vs
  · rw [if_pos h, if_pos h]
  · rw [if_neg h, if_neg h]
theorem wipe_set (σ : L2.St) (vs : List Nat) {j : Nat} (x : Option V) (h : j ∈ vs) : L2.wipe (σ.set j x) vs = L2.wipe σ vs := by
  apply List.ext_getElem?
  intro i
  rw [wipe_get, wipe_get, List.length_set]
  by_cases hm : i ∈ vs
  · rw [if_pos hm, if_pos hm]
  · rw [if_neg hm, if_neg hm, List.getElem?_set_ne]
    intro e
    subst e
    exact hm h
theorem wipe_setV : ∀ (is : List Nat) (us : List V) (σ : L2.St) (vs : List Nat), (∀ j ∈ is, j ∈ vs) → L2.wipe (setV is us σ) vs = L2.wipe σ vs
  | [], _, _, _, _ => rfl
  | _ :: _, [], _, _, _ => rfl
  | i :: is, u :: us, σ, vs, h => by
    show L2.wipe (setV is us (σ.set i (some u))) vs = _
    rw [wipe_setV is us _ vs fun j hj => h j (List.mem_cons_of_mem _ hj), wipe_set _ _ _ (h i List.mem_cons_self)]

/-! ### list comprehensions -/
/-- one turn: nothing, or an item -/
def lcTurn (t : Tg) (mt : Env → R Bool) (me : Env → R D) (ρ : Env) (d : D) : R (List D) := match t.put d ρ with
  | none => .no
  | some ρ' => ((mt ρ').strict).bind fun b => if b = true then ((me ρ').strict).bind fun x => .ok [x] else .ok []
def lcGo (f : D → R (List D)) : List D → R (List D)
  | [] => .ok []
  | d :: ds => (f d).bind fun o => (lcGo f ds).bind fun r => .ok (o ++ r)
def mLc (mi : Env → R (List D)) (t : Tg) (mt : Env → R Bool) (me : Env → R D) (vs : List Nat) : Env → R D := fun ρ => (mi ρ).bind fun ds => (lcGo (lcTurn t mt me (wipeE ρ vs)) ds).bind fun r => .ok (.lst r)
theorem strict_ok' {α : Type} {r : R α} {a : α} (h : r.strict = .ok a) : r = .ok a := by
  cases r with
  | ok b => cases h; rfl
  | er c => cases h
  | no => cases h
theorem bind_ok' {α β : Type} {r : R α} {f : α → R β} {b : β} (h : r.bind f = .ok b) : ∃ a, r = .ok a ∧ f a = .ok b := by
  cases r with
  | ok a => exact ⟨a, rfl, h⟩
  | er c => cases h
  | no => cases h
theorem lcGo_ner {f : D → R (List D)} (hf : ∀ d c, f d ≠ .er c) : ∀ (ds : List D) (c : Str), lcGo f ds ≠ .er c
  | [], c, h => by cases h
  | d :: ds, c, h => by
    unfold lcGo at h
    cases e : f d with
    | er c' => exact hf d c' e
    | no => rw [e] at h; cases h
    | ok o =>
      rw [e] at h
      simp only [R.bind_ok] at h
      cases e2 : lcGo f ds with
      | er c' => exact lcGo_ner hf ds c' e2
      | no => rw [e2] at h; cases h
      | ok r => rw [e2] at h; cases h
theorem strict_ner {α : Type} (r : R α) (c : Str) : r.strict ≠ .er c := by cases r <;> intro h <;> cases h
theorem lcTurn_ner {t : Tg} {mt : Env → R Bool} {me : Env → R D} {ρ : Env} (d : D) (c : Str) : lcTurn t mt me ρ d ≠ .er c := by
  unfold lcTurn
  split
  · intro h; cases h
  · rename_i ρ' _
    intro h
    cases e : (mt ρ').strict with
    | er c' => exact strict_ner _ _ e
    | no => rw [e] at h; cases h
    | ok b =>
      rw [e] at h
      simp only [R.bind_ok] at h
      cases b with
      | false => rw [if_neg Bool.false_ne_true] at h; cases h
      | true =>
        rw [if_pos rfl] at h
        cases e2 : (me ρ').strict with
        | er c' => exact strict_ner _ _ e2
        | no => rw [e2] at h; cases h
        | ok x => rw [e2] at h; cases h
theorem upd_back {H : Hp} {p : Addr} {o : HO} (h : H p = some o) : upd H p o = H := by
  funext b
  by_cases e : b = p
  · subst e; rw [upd_same, h]
  · rw [upd_ne e]
/-- the comprehension's loop, from its parts -/
theorem lc_loop {K : PySem.W.Frag} {mg : Str → Option Value} {T : List (Addr × Str)} {t : Tg} {mt : Env → R Bool} {me : Env → R D} {vs : List Nat} {ρ : Env} {σ : L2.St} {J : It} {ds res : List D} {Hs1 H1 : Hp} {Q : VK}
    (rp : Rp K mg T Hs1 H1 σ ρ) (it : ItT K mg T J ds Hs1 H1) (hsub : ∀ j ∈ t.slots, j ∈ vs) (hgo : lcGo (lcTurn t mt me (wipeE ρ vs)) ds = .ok res) (hQ : ∀ v Hs' H', Step T Hs1 H1 Hs' H' → Is K mg Hs' (.lst res) v → Q v H') :
    ∀ D, H1 D = none → ∃ W : Nat → Nat → Hp → Prop, (∃ m, W 0 m (upd H1 D (.lst []))) ∧ ∀ i m H, W i m H →
      (J.stop i H ∧ Q (.ref D) H) ∨ (J.go i H ∧ ∃ Nx : Hp → Prop, (∀ H', Nx H' → ∃ m', m' < m ∧ W (i + 1) m' H') ∧ ∀ x H', J.yld i H x H' → gD K mg T t x (L2.wipe σ vs) H' fun σ2 H2 => L2.wipe σ2 vs = L2.wipe σ vs ∧ tDB K mg T (fun _ _ => False) mt σ2 H2 fun b H3 =>
        if b = true then tD K mg T (fun _ _ => False) me σ2 H3 fun y H4 => ∃ acc, H4 D = some (.lst acc) ∧ acc.length < sizeLine ∧ Nx (upd H4 D (.lst (acc ++ [y]))) else Nx H3) := by
  intro D hD
  refine ⟨fun i m H => m = ds.length - i ∧ i ≤ ds.length ∧ ∃ Hs acc ad r, Step T Hs1 H1 Hs H ∧ Hs D = none ∧ H D = some (.lst acc) ∧ IsL K mg Hs ad acc ∧ acc.length ≤ i ∧ lcGo (lcTurn t mt me (wipeE ρ vs)) (ds.drop i) = .ok r ∧ ad ++ r = res,
    ⟨ds.length, by simp, Nat.zero_le _, Hs1, [], [], res, ?_, rp.to.sub.free hD, upd_same, rfl, Nat.le_refl _, by rw [List.drop_zero]; exact hgo, rfl⟩, ?_⟩
  · exact ⟨.refl _, .new hD, ⟨rp.to.sub.trans (.new hD), tabs_ext rp.to.tab fun b u e => by rw [upd_ne (ne_of_none e hD)]; exact e, rp.to.sz⟩, fun b _ z => z⟩
  · rintro i m H ⟨rfl, hi, Hs, acc, ad, r, st, nD, eD, ia, hl, hr, he⟩
    by_cases hlt : i < ds.length
    · refine .inr ⟨it.go i Hs H st hlt, fun H' => i + 1 ≤ ds.length ∧ ∃ Hs' acc' ad' r', Step T Hs1 H1 Hs' H' ∧ Hs' D = none ∧ H' D = some (.lst acc') ∧ IsL K mg Hs' ad' acc' ∧ acc'.length ≤ i + 1 ∧ lcGo (lcTurn t mt me (wipeE ρ vs)) (ds.drop (i + 1)) = .ok r' ∧ ad' ++ r' = res,
        fun H' ⟨h1, h2⟩ => ⟨ds.length - (i + 1), by omega, rfl, h1, h2⟩, fun x H' hy => ?_⟩
      obtain ⟨Hs3, d, st3, hd, is⟩ := it.yld i Hs H x H' st hlt hy
      have hdrop : ds.drop i = d :: ds.drop (i + 1) := by
        obtain ⟨h1, h2⟩ := List.getElem?_eq_some_iff.mp hd
        rw [List.drop_eq_getElem_cons h1, h2]
      rw [hdrop] at hr
      obtain ⟨o, ho, hr⟩ := bind_ok' hr
      obtain ⟨r', hr', hr⟩ := bind_ok' hr
      cases hr
      have st13 := st.trans st3
      have rp3 := (rp.wipe vs).step st13
      have nD3 : Hs3 D = none := st3.n D (by rw [eD]; exact fun z => nomatch z) nD
      have eD3 : H' D = some (.lst acc) := st3.a.at eD fun _ z => nomatch z
      unfold lcTurn at ho
      split at ho
      · cases ho
      · rename_i ρ' hput
        obtain ⟨b, hb, ho⟩ := bind_ok' ho
        have hb := strict_ok' hb
        refine ⟨_, ρ', Hs3, d, rp3, is, hput, fun us rpz => ⟨?_, ρ', Hs3, rpz, ?_⟩⟩
        · rw [wipe_setV _ _ _ _ hsub, wipe_wipe]
        · rw [hb]
          intro b' Hs4 H4 st4 hbb
          have hbb : b = b' := hbb
          subst hbb
          have st14 := st13.trans st4
          have nD4 : Hs4 D = none := st4.n D (by rw [eD3]; exact fun z => nomatch z) nD3
          have eD4 : H4 D = some (.lst acc) := st4.a.at eD3 fun _ z => nomatch z
          cases b with
          | false =>
            rw [if_neg Bool.false_ne_true] at ho ⊢
            cases ho
            exact ⟨hlt, Hs4, acc, ad, r', st14, nD4, eD4, IsL.mono (st3.s.trans st4.s) _ _ ia, by omega, hr', he⟩
          | true =>
            rw [if_pos rfl] at ho ⊢
            obtain ⟨y, hy2, ho⟩ := bind_ok' ho
            cases ho
            have hy2 := strict_ok' hy2
            refine ⟨ρ', Hs4, rpz.step st4, ?_⟩
            rw [hy2]
            intro v Hs5 H5 st5 isv
            have st15 := st14.trans st5
            have nD5 : Hs5 D = none := st5.n D (by rw [eD4]; exact fun z => nomatch z) nD4
            have eD5 : H5 D = some (.lst acc) := st5.a.at eD4 fun _ z => nomatch z
            have hz := it.sz
            refine ⟨acc, eD5, by omega, hlt, Hs5, acc ++ [v], ad ++ [y], r', ?_, nD5, upd_same, (IsL.mono ((st3.s.trans st4.s).trans st5.s) _ _ ia).snoc isv, by rw [List.length_append]; simp; omega, hr', by rw [← he]; simp⟩
            have hn : ∀ b u, Hs5 b = some u → b ≠ D := fun b u e z => by rw [z, nD5] at e; cases e
            refine ⟨st15.s, fun b u e => ?_, ⟨fun b u e => ?_, ?_, st15.to.sz⟩, fun b hb z => st15.n b hb z⟩
            · have : b ≠ D := fun z => by rw [z, hD] at e; cases e
              rw [upd_ne this]
              exact st15.a b u e
            · rw [upd_ne (hn b u e)]
              exact st15.to.sub b u e
            · intro p hp
              obtain ⟨ps, h1, h2, h3⟩ := st15.to.tab p hp
              have ne : ∀ c u, H5 c = some u → (∀ ws, u ≠ .lst ws) → c ≠ D := fun c u e n z => by
                rw [z, eD5] at e
                exact n acc (Option.some.inj e).symm
              refine ⟨ps, by rw [upd_ne (ne _ _ h1 fun ws z => nomatch z)]; exact h1, h2, fun pos cv hc => ?_⟩
              obtain ⟨c, e1, e2⟩ := h3 pos cv hc
              exact ⟨c, e1, by rw [upd_ne (ne _ _ e2 fun ws z => by unfold LamX.CodeO at z; cases z)]; exact e2⟩
    · have e : i = ds.length := by omega
      subst e
      rw [List.drop_length] at hr
      cases hr
      rw [List.append_nil] at he
      subst he
      refine .inl ⟨it.stop _ Hs H st (Nat.le_refl _), hQ _ (upd Hs D (.lst acc)) H ?_ ⟨D, acc, rfl, upd_same, IsL.mono (.new nD) _ _ ia⟩⟩
      have hz := it.sz
      refine ⟨st.s.trans (.new nD), st.a, ⟨fun b u e => ?_, st.to.tab, st.to.sz.upd_ (fun us q => by rcases q with q | q <;> cases q; omega) fun _ _ => ⟨(fun z => nomatch z), fun z => nomatch z⟩⟩, fun b hb z => ?_⟩
      · by_cases hb : b = D
        · subst hb
          rw [upd_same] at e
          cases e
          exact .inl eD
        · rw [upd_ne hb] at e
          exact st.to.sub b u e
      · have : b ≠ D := fun q => by rw [q] at hb; exact hb hD
        rw [upd_ne this]
        exact st.n b hb z
section
variable {X : Cx} {T : List (Addr × Str)} {W : Str → Hp → Prop} {elt tg iter : Expr} {ifs : List Expr} {scope : Scope} {own : List (Str × Nat)} {pos : Pos} {mi : Env → R (List D)} {t : Tg} {mt : Env → R Bool} {me : Env → R D}
theorem ev_lc {wi : TI} (ev : ∀ ρ Hs σ H (Q : It → Hp → Prop), Rp X.K X.mg T Hs H σ ρ → PostG T (fun Hs H ds J => ItT X.K X.mg T J ds Hs H) W (mi ρ) Hs H Q → wi σ H Q) (hsub : ∀ j ∈ t.slots, j ∈ own.map (·.2)) :
    ∀ ρ Hs σ H Q, Rp X.K X.mg T Hs H σ ρ → PostG T (rIs X.K X.mg) W (mLc mi t mt me (own.map (·.2)) ρ) Hs H Q → tLc wi (gD X.K X.mg T t) (tDB X.K X.mg T (fun _ _ => False) mt) (tD X.K X.mg T (fun _ _ => False) me) (own.map (·.2)) σ H Q := by
  intro ρ Hs σ H Q rp hp
  refine ev ρ Hs σ H _ rp (PostG.mono (PostG.bind hp) fun J H1 ⟨Hs1, ds, st, it, hp1⟩ => ?_)
  cases e : lcGo (lcTurn t mt me (wipeE ρ (own.map (·.2)))) ds with
  | er c => exact absurd e (lcGo_ner (fun d c => lcTurn_ner d c) ds c)
  | no => rw [e] at hp1; exact hp1.elim
  | ok res =>
    rw [e] at hp1
    exact lc_loop (rp.step st) it hsub e hp1
theorem pd_lc (hc : X.calm = true) (hN : X.N.Nodup) (hi : PDIt X T W tg iter mi) (ok : BlkOk X.N X.env.scope scope own) (hsub : ∀ j ∈ t.slots, j ∈ own.map (·.2))
    (hg : ∀ (s : Shared) (H : Hp) (C : Addr) (cl : List (Str × Addr)) (fp : List Addr), PGD (X.blk s H scope (compEnvC scope cl C X.env) fp) T tg t) (ht : ∀ (s : Shared) (H : Hp) (C : Addr) (cl : List (Str × Addr)) (fp : List Addr), PTsD (X.blk s H scope (compEnvC scope cl C X.env) fp) T (fun _ _ => False) ifs mt)
    (he : ∀ (s : Shared) (H : Hp) (C : Addr) (cl : List (Str × Addr)) (fp : List Addr), PD (X.blk s H scope (compEnvC scope cl C X.env) fp) T (fun _ _ => False) elt me) (hs : ∀ x, foldedSetIterable iter X.env x = pure x := by intro _; rfl) :
    PD X T W (.ListComp elt [⟨tg, iter, ifs, 0⟩] scope pos) (mLc mi t mt me (own.map (·.2))) := by
  obtain ⟨wi, pi, ev⟩ := hi
  exact ⟨_, pe_lc hc hN pi ok (fun s H C cl fp => (hg s H C cl fp).canon) (fun s H C cl fp => (ht s H C cl fp).canon) (fun s H C cl fp => (he s H C cl fp).canon) hs, ev_lc ev hsub⟩
end
end FL
set_option maxHeartbeats 4000000
/-! FL5: statements, loops, defs. -/
namespace FL
open PySem PySem.Spec PyProof.Rows L2

/-- what is wanted of a callee's exception -/
def EW (mg : Str → Option Value) (W : Str → Hp → Prop) : XK := fun cls d H' => ∃ c, mg c = some cls ∧ d = none ∧ W c H'
/-- what is wanted of an exception of a def of which E is wanted -/
def Wof (mg : Str → Option Value) (E : XK) : Str → Hp → Prop := fun c H' => ∀ cls, mg c = some cls → E cls none H'
/-- the context's facts -/
structure Cg (X : Cx) (W : Str → Hp → Prop) (k : Nat) : Prop where
  nd : X.N.Nodup
  calm : X.calm = true
  room : Room k X.A
  pass : Passes (L2N.CX X.prog X.w) X (EW X.mg W)
abbrev W0 : Str → Hp → Prop := fun _ _ => False
theorem Cg.blk {X : Cx} {W : Str → Hp → Prop} {k : Nat} (c : Cg X W k) (s : Shared) (H : Hp) (scope : Scope) (cenv : PySem.Env) (fp : List Addr) : Cg (X.blk s H scope cenv fp) W0 k where
  nd := c.nd
  calm := c.calm
  room := c.room
  pass := fun _ _ _ _ _ _ _ x => by
    obtain ⟨_, _, _, _, _, _, _, _, _, _, _, _, _, _, _, z⟩ := x
    exact z
theorem Cg.hu {X : Cx} {W : Str → Hp → Prop} {k : Nat} (c : Cg X W k) : X.A.units + 64 < cLine := c.room.units
theorem Cg.hu5 {X : Cx} {W : Str → Hp → Prop} {k : Nat} (c : Cg X W k) : X.A.units + 65 < cLine := by have := c.room.un; omega
theorem Cg.hu0 {X : Cx} {W : Str → Hp → Prop} {k : Nat} (c : Cg X W k) : X.A.units < cLine := c.room.units0

/-- a def's promise -/
def spD (K : PySem.W.Frag) (mg : Str → Option Value) (T : List (Addr × Str)) (n : Nat) (F : List D → R D) : Sp := fun vs H Q E => ∃ Hs ds, At T Hs H ∧ IsL K mg Hs ds vs ∧ ds.length = n ∧ PostG T (rIs K mg) (Wof mg E) (F ds) Hs H Q
theorem spD_len {K : PySem.W.Frag} {mg : Str → Option Value} {T : List (Addr × Str)} {n : Nat} {F : List D → R D} (vs : List V) (H : Hp) (Q : VK) (E : XK) (h : spD K mg T n F vs H Q E) : vs.length = n := by
  obtain ⟨Hs, ds, _, h1, h2, _⟩ := h
  rw [h1.length, h2]
section
variable {X : Cx} {T : List (Addr × Str)} {W : Str → Hp → Prop} {e a b : Expr} {es : List Expr} {m ma mb : Env → R D} {pos p : Pos}
def mCall (n : Nat) (F : List D → R D) (r : Env → R (List D)) : Env → R D := fun ρ => (r ρ).bind fun ds => if ds.length = n then F ds else .no
theorem pd_call {k j n : Nat} {f : Addr} {fd : FuncData} {ps : List Str} {x : Str} {F : List D → R D} {r : Env → R (List D)} (G : FnOk X.prog X.w X.K X.mg X.base (L2N.CX X.prog X.w) k f fd ps (spD X.K X.mg T n F)) (c : Cg X W j) (hk : k ≤ j) (hg : Gl X x) (hm : X.mg x = some (.ref f)) (kp : PySem.W.keepIn X.K (.ref f) = true)
    (hb : Binds X.K fd ps []) (ha : PAD X T W (e :: es) r) (hdb : (x == ("__debug__" : Str)) = false := by decide) (he : starEach (e :: es) X.env = (false, eval e X.env) :: starEach es X.env := by rfl) (hpl : (backTo pos (starEach es X.env)).any (·.1) = false := by rfl) :
    PD X T W (.Call (.Name x p) (e :: es) [] pos) (mCall n F r) := by
  obtain ⟨ta, pa, ea⟩ := ha
  refine ⟨_, pe_call G (c.room.mono hk) hg hm kp hb .nil c.pass pa hdb he hpl, fun ρ Hs σ H Q rp hp => ea ρ Hs σ H _ rp (PostG.mono (PostG.bind hp) fun vs H1 ⟨Hs1, ds, st, is, hp1⟩ => ?_)⟩
  by_cases hl : ds.length = n
  · rw [if_pos hl] at hp1
    rw [List.append_nil]
    refine ⟨Hs1, ds, st.to, is, hl, ?_⟩
    cases q : F ds with
    | ok d => rw [q] at hp1; exact hp1
    | er c => rw [q] at hp1; exact fun Hs' H' st' cls hc => ⟨c, hc, rfl, hp1 Hs' H' st'⟩
    | no => rw [q] at hp1; exact hp1
  · rw [if_neg hl] at hp1
    exact hp1.elim
end

/-! ### statements -/
inductive Oc where
  | nx (ρ : Env)
  | rt (d : D)
  | bk (ρ : Env)
  | ct (ρ : Env)
  | er (c : Str)
  | no
/-- from the entry's heaps to now -/
structure Fr (K : PySem.W.Frag) (mg : Str → Option Value) (T : List (Addr × Str)) (Hs0 H0 Hs H : Hp) (σ : L2.St) (ρ : Env) : Prop where
  rp : Rp K mg T Hs H σ ρ
  st : Step T Hs0 H0 Hs H
  ow : ∀ (i : Nat) (ds : List D) (p : Addr), ρ[i]? = some (Sl.ow ds) → σ[i]? = some (some (V.ref p)) → H0 p = none
theorem Fr.step {K : PySem.W.Frag} {mg : Str → Option Value} {T : List (Addr × Str)} {Hs0 H0 Hs H Hs' H' : Hp} {σ : L2.St} {ρ : Env} (h : Fr K mg T Hs0 H0 Hs H σ ρ) (st : Step T Hs H Hs' H') : Fr K mg T Hs0 H0 Hs' H' σ ρ :=
  ⟨h.rp.step st, h.st.trans st, h.ow⟩
theorem Step.rebase {T : List (Addr × Str)} {Hs0 H0 Hs H Hs' H' : Hp} (x : Step T Hs0 H0 Hs H) (y : Step T Hs H0 Hs' H') : Step T Hs0 H0 Hs' H' := ⟨x.s.trans y.s, y.a, y.to, fun b h z => y.n b h (x.n b h z)⟩
theorem Step.mid {T : List (Addr × Str)} {Hs0 H0 Hs H : Hp} (x : Step T Hs0 H0 Hs H) : Step T Hs H0 Hs H := ⟨.refl _, x.a, x.to, fun _ _ z => z⟩
theorem Fr.mid {K : PySem.W.Frag} {mg : Str → Option Value} {T : List (Addr × Str)} {Hs0 H0 Hs H : Hp} {σ : L2.St} {ρ : Env} (h : Fr K mg T Hs0 H0 Hs H σ ρ) : Fr K mg T Hs H0 Hs H σ ρ := ⟨h.rp, h.st.mid, h.ow⟩
theorem Fr.rebase {K : PySem.W.Frag} {mg : Str → Option Value} {T : List (Addr × Str)} {Hs0 H0 Hs H Hs' H' : Hp} {σ σ' : L2.St} {ρ ρ' : Env} (h : Fr K mg T Hs0 H0 Hs H σ ρ) (q : Fr K mg T Hs H0 Hs' H' σ' ρ') : Fr K mg T Hs0 H0 Hs' H' σ' ρ' := ⟨q.rp, h.st.rebase q.st, q.ow⟩
def PostS (K : PySem.W.Frag) (mg : Str → Option Value) (T : List (Addr × Str)) (W : Str → Hp → Prop) (o : Oc) (Hs0 H0 : Hp) (N : Ends) : Prop := match o with
  | .nx ρ => ∀ Hs H σ, Fr K mg T Hs0 H0 Hs H σ ρ → N.nx σ H
  | .bk ρ => ∀ Hs H σ, Fr K mg T Hs0 H0 Hs H σ ρ → N.bk σ H
  | .ct ρ => ∀ Hs H σ, Fr K mg T Hs0 H0 Hs H σ ρ → N.ct σ H
  | .rt d => ∀ v Hs H, Step T Hs0 H0 Hs H → Is K mg Hs d v → N.rt v H
  | .er c => ∀ Hs H, Step T Hs0 H0 Hs H → W c H
  | .no => False
/-- a statement with its semantics -/
def PDS (X : Cx) (T : List (Addr × Str)) (W : Str → Hp → Prop) (st : Stmt) (m : Env → Oc) : Prop := ∃ t : TS, PS X st t ∧ ∀ ρ Hs0 H0 Hs H σ N, Fr X.K X.mg T Hs0 H0 Hs H σ ρ → PostS X.K X.mg T W (m ρ) Hs0 H0 N → t N σ H
def PDSs (X : Cx) (T : List (Addr × Str)) (W : Str → Hp → Prop) (st : List Stmt) (m : Env → Oc) : Prop := ∃ t : TS, PSs X st t ∧ ∀ ρ Hs0 H0 Hs H σ N, Fr X.K X.mg T Hs0 H0 Hs H σ ρ → PostS X.K X.mg T W (m ρ) Hs0 H0 N → t N σ H
def Oc.seq (o : Oc) (f : Env → Oc) : Oc := match o with
  | .nx ρ => f ρ
  | o => o
@[simp] theorem Oc.seq_nx (ρ : Env) (f : Env → Oc) : (Oc.nx ρ).seq f = f ρ := rfl
@[simp] theorem Oc.seq_rt (d : D) (f : Env → Oc) : (Oc.rt d).seq f = Oc.rt d := rfl
@[simp] theorem Oc.seq_er (d : Str) (f : Env → Oc) : (Oc.er d).seq f = Oc.er d := rfl
@[simp] theorem Oc.seq_no (f : Env → Oc) : (Oc.no).seq f = Oc.no := rfl
@[simp] theorem Oc.seq_bk (ρ : Env) (f : Env → Oc) : (Oc.bk ρ).seq f = Oc.bk ρ := rfl
@[simp] theorem Oc.seq_ct (ρ : Env) (f : Env → Oc) : (Oc.ct ρ).seq f = Oc.ct ρ := rfl
/-- an expression's answer, then an outcome -/
def R.out {α : Type} (r : R α) (f : α → Oc) : Oc := match r with
  | .ok a => f a
  | .er c => .er c
  | .no => .no
@[simp] theorem R.out_ok {α : Type} (a : α) (f : α → Oc) : (R.ok a).out f = f a := rfl
@[simp] theorem R.out_er {α : Type} (c : Str) (f : α → Oc) : (R.er c : R α).out f = Oc.er c := rfl
@[simp] theorem R.out_no {α : Type} (f : α → Oc) : (R.no : R α).out f = Oc.no := rfl
section
variable {K : PySem.W.Frag} {mg : Str → Option Value} {T : List (Addr × Str)} {W : Str → Hp → Prop} {Hs0 H0 Hs H : Hp} {σ : L2.St} {ρ : Env} {N : Ends}
theorem PostS.out {α β : Type} {rel : Hp → Hp → α → β → Prop} {r : R α} {f : α → Oc} (fr : Fr K mg T Hs0 H0 Hs H σ ρ) (h : PostS K mg T W (r.out f) Hs0 H0 N) :
    PostG T rel W r Hs H fun b H1 => ∃ Hs1 a, Step T Hs H Hs1 H1 ∧ rel Hs1 H1 a b ∧ PostS K mg T W (f a) Hs0 H0 N := by
  cases r with
  | ok a => exact fun b Hs' H' st k => ⟨Hs', a, st, k, h⟩
  | er c => exact fun Hs' H' st => h Hs' H' (fr.st.trans st)
  | no => exact h
end
section
variable {X : Cx} {T : List (Addr × Str)} {W : Str → Hp → Prop} {e a b : Expr} {es : List Expr} {m ma mb : Env → R D} {mt : Env → R Bool} {st : Stmt} {rest sts sts' : List Stmt} {f g : Env → Oc} {pos p : Pos}
theorem pdss_nil : PDSs X T W [] Oc.nx := ⟨_, pss_nil, fun ρ Hs0 H0 Hs H σ N fr h => h Hs H σ fr⟩
theorem pdss_cons (h : PDS X T W st f) (h' : PDSs X T W rest g) : PDSs X T W (st :: rest) (fun ρ => (f ρ).seq g) := by
  obtain ⟨t, ps, ev⟩ := h
  obtain ⟨t', ps', ev'⟩ := h'
  refine ⟨_, pss_cons ps ps', fun ρ Hs0 H0 Hs H σ N fr hp => ev ρ Hs0 H0 Hs H σ _ fr ?_⟩
  have hp : PostS X.K X.mg T W ((f ρ).seq g) Hs0 H0 N := hp
  cases q : f ρ with
  | nx ρ' =>
    rw [q] at hp
    exact fun Hs1 H1 σ1 fr1 => ev' ρ' Hs0 H0 Hs1 H1 σ1 N fr1 hp
  | rt d => rw [q] at hp; exact hp
  | bk d => rw [q] at hp; exact hp
  | ct d => rw [q] at hp; exact hp
  | er d => rw [q] at hp; exact hp
  | no => rw [q] at hp; exact hp
theorem pdss_one (h : PDS X T W st f) : PDSs X T W [st] f := by
  obtain ⟨t, ps, ev⟩ := h
  exact ⟨t, pss_one ps, ev⟩
theorem pds_pass : PDS X T W (.Pass pos) Oc.nx := ⟨_, ps_pass, fun ρ Hs0 H0 Hs H σ N fr h => h Hs H σ fr⟩
theorem pds_break : PDS X T W (.Break pos) Oc.bk := ⟨_, ps_break, fun ρ Hs0 H0 Hs H σ N fr h => h Hs H σ fr⟩
theorem pds_cont : PDS X T W (.Continue pos) Oc.ct := ⟨_, ps_continue, fun ρ Hs0 H0 Hs H σ N fr h => h Hs H σ fr⟩
def sRet (m : Env → R D) : Env → Oc := fun ρ => (m ρ).out Oc.rt
theorem pds_ret (h : PD X T W e m) : PDS X T W (.Return (some e) pos) (sRet m) := by
  obtain ⟨te, pe, ev⟩ := h
  refine ⟨_, ps_ret pe, fun ρ Hs0 H0 Hs H σ N fr hp => ev ρ Hs σ H _ fr.rp (PostG.mono (PostS.out fr hp) fun v H1 ⟨Hs1, d, st, is, hp1⟩ => ?_)⟩
  exact hp1 v Hs1 H1 (fr.st.trans st) is
theorem pds_retN : PDS X T W (.Return none pos) (fun _ => Oc.rt .non) := ⟨_, ps_retN, fun ρ Hs0 H0 Hs H σ N fr h => h .non Hs H fr.st rfl⟩
def sDrop (m : Env → R D) : Env → Oc := fun ρ => (m ρ).out fun _ => Oc.nx ρ
theorem pds_expr (h : PD X T W e m) (hs : swapsWith e none pos.line X.env = pure false := by rfl) : PDS X T W (.Expr e pos) (sDrop m) := by
  obtain ⟨te, pe, ev⟩ := h
  refine ⟨_, ps_expr pe hs, fun ρ Hs0 H0 Hs H σ N fr hp => ev ρ Hs σ H _ fr.rp (PostG.mono (PostS.out fr hp) fun v H1 ⟨Hs1, d, st, is, hp1⟩ => ?_)⟩
  exact hp1 Hs1 H1 σ (fr.step st)
def sIf (mt : Env → R Bool) (f g : Env → Oc) : Env → Oc := fun ρ => (mt ρ).out fun b => if b = true then f ρ else g ρ
theorem pds_if {c : Expr} (hc : PTD X T W c mt) (ha : PDSs X T W sts f) (hb : PDSs X T W sts' g) : PDS X T W (.If c sts sts' pos) (sIf mt f g) := by
  obtain ⟨tt, pt, ev⟩ := hc
  obtain ⟨t, ps, ev1⟩ := ha
  obtain ⟨t', ps', ev2⟩ := hb
  refine ⟨_, ps_if pt ps ps', fun ρ Hs0 H0 Hs H σ N fr hp => ev ρ Hs σ H _ fr.rp (PostG.mono (PostS.out fr hp) fun b H1 ⟨Hs1, d, st, is, hp1⟩ => ?_)⟩
  cases is
  cases b with
  | true =>
    rw [if_pos rfl] at hp1 ⊢
    exact ev1 ρ Hs0 H0 Hs1 H1 σ N (fr.step st) hp1
  | false =>
    rw [if_neg Bool.false_ne_true] at hp1 ⊢
    exact ev2 ρ Hs0 H0 Hs1 H1 σ N (fr.step st) hp1

/-! ### assignments -/
theorem Fr.put {K : PySem.W.Frag} {mg : Str → Option Value} {Hs0 H0 Hs H : Hp} {σ : L2.St} {ρ : Env} {i : Nat} {d : D} {v : V} (h : Fr K mg T Hs0 H0 Hs H σ ρ) (q : Is K mg Hs d v) : Fr K mg T Hs0 H0 Hs H (σ.set i (some v)) (ρ.set i (.sh d)) where
  rp := h.rp.set q
  st := h.st
  ow := fun j ds p e1 e2 => by
    by_cases z : i = j
    · subst z
      have hi : i < ρ.length := by
        have := (List.getElem?_eq_some_iff.mp e1).1
        rwa [List.length_set] at this
      rw [List.getElem?_set_self hi] at e1
      cases e1
    · rw [List.getElem?_set_ne z] at e1 e2
      exact h.ow j ds p e1 e2
def sSet (i : Nat) (m : Env → R D) : Env → Oc := fun ρ => (m ρ).out fun d => Oc.nx (ρ.set i (.sh d))
theorem pds_set (i : Nat) {x : Str} {pos' : Pos} (h : PD X T W e m) (hN : X.N.Nodup) (hi : X.N[i]? = some x := by rfl) (hx : Loc X.env.scope x := by first | exact Or.inl rfl | exact Or.inr rfl) (hs : swapsWith e (some (.Name x pos')) pos.line X.env = pure false := by rfl)
    (hf : X.fn x = true ∨ X.env.scope.names.lookup x = some .local := by first | exact .inl rfl | exact .inr rfl) : PDS X T W (.Assign [.Name x pos'] e pos) (sSet i m) := by
  obtain ⟨te, pe, ev⟩ := h
  refine ⟨_, ps_set hN hi hx pe hs hf, fun ρ Hs0 H0 Hs H σ N fr hp => ev ρ Hs σ H _ fr.rp (PostG.mono (PostS.out fr hp) fun v H1 ⟨Hs1, d, st, is, hp1⟩ => ?_)⟩
  exact hp1 Hs1 H1 _ ((fr.step st).put is)
theorem Fr.putV {K : PySem.W.Frag} {mg : Str → Option Value} {Hs0 H0 Hs H : Hp} : ∀ {is : List Nat} {ds : List D} {vs : List V} {σ : L2.St} {ρ ρ' : Env}, Fr K mg T Hs0 H0 Hs H σ ρ → IsL K mg Hs ds vs → setAll is ds ρ = some ρ' → Fr K mg T Hs0 H0 Hs H (setV is vs σ) ρ'
  | [], [], _, _, _, _, h, q, e => by cases q; cases e; exact h
  | [], _ :: _, _, _, _, _, _, _, e => by cases e
  | _ :: _, [], _, _, _, _, _, _, e => by cases e
  | i :: is, d :: ds, _, _, _, _, h, q, e => by
    obtain ⟨v, r, rfl, h1, h2⟩ := q
    exact Fr.putV (is := is) (h.put h1) h2 e
/-- a target told by a value: what the frame is behind it -/
def PGF (X : Cx) (T : List (Addr × Str)) (tg : Expr) (t : Tg) : Prop :=
  ∃ g : TG, PG X tg g ∧ ∀ d v ρ ρ' Hs0 H0 Hs σ H Q, Fr X.K X.mg T Hs0 H0 Hs H σ ρ → Is X.K X.mg Hs d v → t.put d ρ = some ρ' → (∀ σ', Fr X.K X.mg T Hs0 H0 Hs H σ' ρ' → Q σ' H) → g v σ H Q
theorem pgf_name (i : Nat) {x : Str} {pos : Pos} (hN : X.N.Nodup) (hi : X.N[i]? = some x := by rfl) (hx : Loc X.env.scope x := by first | exact Or.inl rfl | exact Or.inr rfl) (hf : X.fn x = true ∨ X.env.scope.names.lookup x = some .local := by first | exact .inl rfl | exact .inr rfl) : PGF X T (.Name x pos) (.one i) := by
  refine ⟨gName i, pg_name hN hi hx hf, fun d v ρ ρ' Hs0 H0 Hs σ H Q fr is hp q => ?_⟩
  cases hp
  exact q _ (fr.put is)
def PGsF (X : Cx) (T : List (Addr × Str)) (es : List Expr) (is : List Nat) : Prop := ∃ g : TGs, PGs X es g ∧ ∀ ds vs ρ ρ' Hs0 H0 Hs σ H Q, Fr X.K X.mg T Hs0 H0 Hs H σ ρ → IsL X.K X.mg Hs ds vs → setAll is ds ρ = some ρ' → (∀ σ', Fr X.K X.mg T Hs0 H0 Hs H σ' ρ' → Q σ' H) → g vs σ H Q
theorem pgsf_nil : PGsF X T [] [] := ⟨_, pgs_nil, fun ds vs ρ ρ' Hs0 H0 Hs σ H Q fr is hp k => by
  cases ds with
  | nil =>
    cases hp
    cases is
    exact ⟨rfl, k _ fr⟩
  | cons d ds => cases hp⟩
theorem pgsf_cons (i : Nat) {x : Str} {pos : Pos} {es : List Expr} {is : List Nat} (h : PGsF X T es is) (hN : X.N.Nodup) (hi : X.N[i]? = some x := by rfl) (hx : Loc X.env.scope x := by first | exact Or.inl rfl | exact Or.inr rfl)
    (hf : X.fn x = true ∨ X.env.scope.names.lookup x = some .local := by first | exact .inl rfl | exact .inr rfl) (hs : (assignEach (.Name x pos :: es) X.env).map (·.2) = assign (.Name x pos) X.env :: (assignEach es X.env).map (·.2) := by rfl) : PGsF X T (.Name x pos :: es) (i :: is) := by
  obtain ⟨g, pg, ev⟩ := h
  refine ⟨_, pgs_cons (pg_name hN hi hx hf) pg hs, fun ds vs ρ ρ' Hs0 H0 Hs σ H Q fr is hp k => ?_⟩
  cases ds with
  | nil => cases hp
  | cons d ds =>
    obtain ⟨v, r, rfl, h1, h2⟩ := is
    exact ⟨v, r, rfl, ev ds r _ _ Hs0 H0 Hs _ H Q (fr.put h1) h2 hp k⟩
theorem pgf_tup {es : List Expr} {is : List Nat} {k : Nat} {pos : Pos} (h : PGsF X T es is) (hc : X.calm = true) (hn : (assignEach es X.env).length = is.length := by rfl) (hst : (assignEach es X.env).findIdx? (·.1) = none := by rfl) : PGF X T (.Tuple es k pos) (.many is) := by
  obtain ⟨g, pg, ev⟩ := h
  refine ⟨_, pg_tup hc pg hn hst, fun d v ρ ρ' Hs0 H0 Hs σ H Q fr is' hp k' => ?_⟩
  cases d with
  | tup ds =>
    obtain ⟨a, vs, rfl, q1, q2⟩ := is'
    exact ⟨a, vs, rfl, fr.rp.to.sub.sqT q1, by rw [q2.length]; exact setAll_len hp, ev ds vs ρ ρ' Hs0 H0 Hs σ H Q fr q2 hp k'⟩
  | _ => cases hp
def Tg.oc (t : Tg) (d : D) (ρ : Env) (f : Env → Oc) : Oc := match t.put d ρ with
  | some ρ' => f ρ'
  | none => .no
def sAsg (t : Tg) (m : Env → R D) : Env → Oc := fun ρ => (m ρ).out fun d => t.oc d ρ Oc.nx
/-- a, b = e -/
theorem pds_asg {tg : Expr} {t : Tg} (h : PD X T W e m) (hg : PGF X T tg t) (hs : swapsWithSole [tg] e pos.line X.env = pure false := by rfl) (hw : swappedStores [tg] e X.env = pure none := by rfl) (h1 : (assignEach [tg] X.env).map (·.2) = [assign tg X.env] := by rfl) : PDS X T W (.Assign [tg] e pos) (sAsg t m) := by
  obtain ⟨te, pe, ev⟩ := h
  obtain ⟨g, pg, evg⟩ := hg
  refine ⟨_, ps_asg pe pg hs hw h1, fun ρ Hs0 H0 Hs H σ N fr hp => ev ρ Hs σ H _ fr.rp (PostG.mono (PostS.out fr hp) fun v H1 ⟨Hs1, d, st, is, hp1⟩ => ?_)⟩
  unfold Tg.oc at hp1
  split at hp1
  · rename_i ρ' e
    exact evg d v ρ ρ' Hs0 H0 Hs1 σ H1 _ (fr.step st) is e fun σ' fr' => hp1 Hs1 H1 σ' fr'
  · exact hp1.elim
/-- a, b = e1, e2 -/
def sPar (i j : Nat) (ma mb : Env → R D) : Env → Oc := fun ρ => (ma ρ).out fun d => (mb ρ).out fun d' => Oc.nx ((ρ.set i (.sh d)).set j (.sh d'))
theorem pds_par (i j : Nat) {x y : Str} {px py pt : Pos} {kt k2 pt2} (ha : PD X T W a ma) (hb : PD X T W b mb) (hc : X.calm = true) (hN : X.N.Nodup) (hij : i ≠ j := by decide) (hi : X.N[i]? = some x := by rfl) (hj : X.N[j]? = some y := by rfl)
    (hx : X.env.scope.names.lookup x = some .local := by rfl) (hy : X.env.scope.names.lookup y = some .local := by rfl) (hw : swappedStores [.Tuple [.Name x px, .Name y py] kt pt] (.Tuple [a, b] k2 pt2) X.env = pure (some [x, y]) := by rfl)
    (hs : swapsWithSole [.Tuple [.Name x px, .Name y py] kt pt] (.Tuple [a, b] k2 pt2) pos.line X.env = pure false := by rfl) (hsa : starEach [a, b] X.env = (false, eval a X.env) :: starEach [b] X.env := by rfl) (hsb : starEach [b] X.env = [(false, eval b X.env)] := by rfl) :
    PDS X T W (.Assign [.Tuple [.Name x px, .Name y py] kt pt] (.Tuple [a, b] k2 pt2) pos) (sPar i j ma mb) := by
  obtain ⟨ta, pa, ea⟩ := ha
  obtain ⟨tb, pb, eb⟩ := hb
  refine ⟨_, ps_par hc hN hi hj hij hx hy (pa_cons pa (pa_cons pb pa_nil hsb) hsa) hw hs, fun ρ Hs0 H0 Hs H σ N fr hp => ea ρ Hs σ H _ fr.rp (PostG.mono (PostS.out fr hp) fun v H1 ⟨Hs1, d, st, is, hp1⟩ => eb ρ Hs1 σ H1 _ (fr.rp.step st) (PostG.mono (PostS.out (fr.step st) hp1) fun u H2 ⟨Hs2, d2, st2, is2, hp2⟩ => ?_))⟩
  exact ⟨v, u, rfl, hp2 Hs2 H2 _ ((((fr.step st).step st2).put (Is.mono st2.s d v is)).put is2)⟩
/-- y = [..] -/
theorem pds_setLc (i : Nat) {y : Str} {py spos : Pos} {elt tg iter : Expr} {ifs : List Expr} {scope : Scope} {own : List (Str × Nat)} {mi : Env → R (List D)} {t : Tg} {me : Env → R D} (hc : X.calm = true) (hN : X.N.Nodup) (hi : PDIt X T W tg iter mi) (ok : BlkOk X.N X.env.scope scope own) (hsub : ∀ j ∈ t.slots, j ∈ own.map (·.2))
    (hg : ∀ (s : Shared) (H : Hp) (C : Addr) (cl : List (Str × Addr)) (fp : List Addr), PGD (X.blk s H scope (compEnvC scope cl C X.env) fp) T tg t) (ht : ∀ (s : Shared) (H : Hp) (C : Addr) (cl : List (Str × Addr)) (fp : List Addr), PTsD (X.blk s H scope (compEnvC scope cl C X.env) fp) T W0 ifs mt)
    (he : ∀ (s : Shared) (H : Hp) (C : Addr) (cl : List (Str × Addr)) (fp : List Addr), PD (X.blk s H scope (compEnvC scope cl C X.env) fp) T W0 elt me) (hy : X.N[i]? = some y := by rfl) (hyl : X.env.scope.names.lookup y = some .local := by rfl)
    (hsw : swapsWith (.ListComp elt [⟨tg, iter, ifs, 0⟩] scope pos) (some (.Name y py)) spos.line X.env = pure true := by exact sw_true rfl rfl rfl (by decide +kernel)) (hs : ∀ x, foldedSetIterable iter X.env x = pure x := by intro _; rfl) :
    PDS X T W (.Assign [.Name y py] (.ListComp elt [⟨tg, iter, ifs, 0⟩] scope pos) spos) (sSet i (mLc mi t mt me (own.map (·.2)))) := by
  obtain ⟨wi, pi, ev⟩ := hi
  refine ⟨_, ps_setLc (g := gD X.K X.mg T t) (tt := tDB X.K X.mg T W0 mt) (te := tD X.K X.mg T W0 me) hc hN hy hyl hsw pi ok (fun s H C cl fp => (hg s H C cl fp).canon) (fun s H C cl fp => (ht s H C cl fp).canon) (fun s H C cl fp => (he s H C cl fp).canon) hs, fun ρ Hs0 H0 Hs H σ N fr hp => ?_⟩
  refine ev_lc ev hsub ρ Hs σ H _ fr.rp (PostG.mono (PostS.out fr hp) fun v H1 ⟨Hs1, d, st, is, hp1⟩ => ?_)
  exact hp1 Hs1 H1 _ ((fr.step st).put is)

/-! ### lists of the def's own -/
theorem Fr.own {K : PySem.W.Frag} {mg : Str → Option Value} {Hs0 H0 Hs H : Hp} {σ : L2.St} {ρ : Env} {i : Nat} {p : Addr} {vs : List V} {ds : List D} (h : Fr K mg T Hs0 H0 Hs H σ ρ) (hp : H p = none) (q : IsL K mg Hs ds vs) (hz : vs.length ≤ sizeLine) :
    Fr K mg T Hs0 H0 Hs (upd H p (.lst vs)) (σ.set i (some (.ref p))) (ρ.set i (.ow ds)) where
  rp := h.rp.own hp q hz
  st := ⟨h.st.s, h.st.a.trans (.new hp), ⟨h.st.to.sub.trans (.new hp), tabs_ext h.st.to.tab fun b u e => by rw [upd_ne (ne_of_none e hp)]; exact e, h.st.to.sz⟩, h.st.n⟩
  ow := fun j es c e1 e2 => by
    by_cases z : i = j
    · subst z
      have hi : i < ρ.length := by
        have := (List.getElem?_eq_some_iff.mp e1).1
        rwa [List.length_set] at this
      rw [List.getElem?_set_self (by rw [← h.rp.len]; exact hi)] at e2
      cases e2
      exact h.st.a.free hp
    · rw [List.getElem?_set_ne z] at e1 e2
      exact h.ow j es c e1 e2
def sOwn (i : Nat) (r : Env → R (List D)) : Env → Oc := fun ρ => (r ρ).out fun ds => if ds.length ≤ sizeLine then Oc.nx (ρ.set i (.ow ds)) else .no
/-- x = [..], a list that is to grow -/
theorem pds_own (i : Nat) {x : Str} {pos' lpos : Pos} {r : Env → R (List D)} (h : PAD X T W es r) (hN : X.N.Nodup) (hi : X.N[i]? = some x := by rfl) (hx : Loc X.env.scope x := by first | exact Or.inl rfl | exact Or.inr rfl) (hs : swapsWith (.List es lpos) (some (.Name x pos')) pos.line X.env = pure false := by rfl)
    (hf : X.fn x = true ∨ X.env.scope.names.lookup x = some .local := by first | exact .inl rfl | exact .inr rfl) : PDS X T W (.Assign [.Name x pos'] (.List es lpos) pos) (sOwn i r) := by
  obtain ⟨ta, pa, ea⟩ := h
  refine ⟨_, ps_set hN hi hx (pe_lst pa) hs hf, fun ρ Hs0 H0 Hs H σ N fr hp => ea ρ Hs σ H _ fr.rp (PostG.mono (PostS.out fr hp) fun vs H1 ⟨Hs1, ds, st, is, hp1⟩ => ?_)⟩
  by_cases hl : ds.length ≤ sizeLine
  · rw [if_pos hl] at hp1
    have hv : vs.length ≤ sizeLine := by rw [is.length]; exact hl
    exact ⟨hv, fun c hc => hp1 Hs1 _ _ ((fr.step st).own hc is hv)⟩
  · rw [if_neg hl] at hp1
    exact hp1.elim
/-- the list of slot i grows -/
theorem Fr.grow {K : PySem.W.Frag} {mg : Str → Option Value} {Hs0 H0 Hs H : Hp} {σ : L2.St} {ρ : Env} {i : Nat} {p : Addr} {vs us : List V} {ds es : List D} (h : Fr K mg T Hs0 H0 Hs H σ ρ) (e : ρ[i]? = some (.ow ds)) (ep : σ[i]? = some (some (.ref p))) (eH : H p = some (.lst vs)) (nH : Hs p = none)
    (q : IsL K mg Hs es us) (hz : us.length ≤ sizeLine) : Fr K mg T Hs0 H0 Hs (upd H p (.lst us)) σ (ρ.set i (.ow es)) := by
  have hi : i < ρ.length := (List.getElem?_eq_some_iff.mp e).1
  have h0 : H0 p = none := h.ow i ds p e ep
  have nb : ∀ b u, Hs b = some u → b ≠ p := fun b u q z => by rw [z, nH] at q; cases q
  have at2 : At T Hs (upd H p (.lst us)) := by
    refine ⟨fun b u q => ?_, fun t ht => ?_, h.rp.to.sz⟩
    · rw [upd_ne (nb b u q)]
      exact h.rp.to.sub b u q
    · obtain ⟨ps, h1, h2, h3⟩ := h.rp.to.tab t ht
      have ne : ∀ c u, H c = some u → (∀ ws, u ≠ .lst ws) → c ≠ p := fun c u e n z => by
        rw [z, eH] at e
        exact n vs (Option.some.inj e).symm
      refine ⟨ps, by rw [upd_ne (ne _ _ h1 fun ws z => nomatch z)]; exact h1, h2, fun pos cv hc => ?_⟩
      obtain ⟨c, e1, e2⟩ := h3 pos cv hc
      exact ⟨c, e1, by rw [upd_ne (ne _ _ e2 fun ws z => by unfold LamX.CodeO at z; cases z)]; exact e2⟩
  have key : ∀ {c : Nat} {cs : List D}, i ≠ c → (ρ.set i (Sl.ow es))[c]? = some (Sl.ow cs) → ρ[c]? = some (Sl.ow cs) := fun {c cs} n e => by
    rw [List.getElem?_set_ne n] at e
    exact e
  refine ⟨⟨at2, by rw [List.length_set]; exact h.rp.len, fun j s ej => ?_, fun a b cs fs c n e1 e2 e3 e4 => ?_⟩, ⟨h.st.s, fun b u q => ?_, at2, h.st.n⟩, fun j cs c e1 e2 => ?_⟩
  · by_cases z : i = j
    · subst z
      rw [List.getElem?_set_self hi] at ej
      cases ej
      exact ⟨p, us, ep, nH, upd_same, q, hz⟩
    · rw [List.getElem?_set_ne z] at ej
      have k := h.rp.ok j s ej
      cases s with
      | no => trivial
      | sh d => exact k
      | ow cs =>
        obtain ⟨b, ws, k1, k2, k3, k4⟩ := k
        refine ⟨b, ws, k1, k2, ?_, k4⟩
        rw [upd_ne]
        · exact k3
        · intro y
          subst y
          exact h.rp.sep i j ds cs b z e ej ep k1
  · by_cases z1 : i = a
    · by_cases z2 : i = b
      · exact n (z1.symm.trans z2)
      · subst z1
        exact h.rp.sep i b ds fs c z2 e (key z2 e2) e3 e4
    · by_cases z2 : i = b
      · subst z2
        exact h.rp.sep a i cs ds c (Ne.symm z1) (key z1 e1) e e3 e4
      · exact h.rp.sep a b cs fs c n (key z1 e1) (key z2 e2) e3 e4
  · have : b ≠ p := fun z => by rw [z, h0] at q; cases q
    rw [upd_ne this]
    exact h.st.a b u q
  · by_cases z : i = j
    · subst z
      rw [ep] at e2
      cases e2
      exact h0
    · exact h.ow j cs c (key z e1) e2
def ownAt (ρ : Env) (i : Nat) : R (List D) := match ρ[i]? with
  | some (.ow ds) => .ok ds
  | _ => .no
def sApp (i : Nat) (m : Env → R D) : Env → Oc := fun ρ => (ownAt ρ i).out fun ds => (m ρ).out fun d => if ds.length < sizeLine then Oc.nx (ρ.set i (.ow (ds ++ [d]))) else .no
theorem Rp.ownAt {K : PySem.W.Frag} {mg : Str → Option Value} {Hs H : Hp} {σ : L2.St} {ρ : Env} {i : Nat} (h : Rp K mg T Hs H σ ρ) {ds : List D} (e : FL.ownAt ρ i = .ok ds) : ρ[i]? = some (.ow ds) ∧ ∃ p vs, σ[i]? = some (some (.ref p)) ∧ Hs p = none ∧ H p = some (.lst vs) ∧ IsL K mg Hs ds vs ∧ vs.length ≤ sizeLine := by
  unfold FL.ownAt at e
  split at e
  · rename_i es q
    cases e
    exact ⟨q, h.ok i _ q⟩
  · cases e
/-- x.append(e) -/
theorem pds_app (i : Nat) {x : Str} {p1 p2 p3 : Pos} (h : PD X T W e m) (hN : X.N[i]? = some x := by rfl) (hv : Vis X.env.scope x := by first | exact Or.inl rfl | exact Or.inr (Or.inl rfl)) (hd : (x == ("__debug__" : Str)) = false := by decide) (hcd : (x == ("__classdict__" : Str)) = false := by decide)
    (hbase : attributeBase (.Name x p1) "append" X.env (eval (.Name x p1) X.env) = eval (.Name x p1) X.env := by rfl)
    (hfew : ((backTo p3 (starEach [e] X.env)).all (fun x => !x.1) && (backToKw p3 (keywordEach [] X.env)).all (fun x => x.1.isSome) && decide ([e].length + ([] : List Keyword).length + (if ([] : List Keyword).isEmpty then 0 else 1) < 30)) = true := by rfl)
    (hline : (p2.endLine == p3.line) = true := by rfl) (hst : starEach [e] X.env = (false, eval e X.env) :: starEach [] X.env := by rfl) (hplain : (backTo p3 (starEach [] X.env)).any (·.1) = false := by rfl)
    (hs : swapsWith (.Call (.Attribute (.Name x p1) "append" p2) [e] [] p3) none pos.line X.env = pure false := by rfl) : PDS X T W (.Expr (.Call (.Attribute (.Name x p1) "append" p2) [e] [] p3) pos) (sApp i m) := by
  obtain ⟨te, pe, ev⟩ := h
  refine ⟨_, ps_expr (pe_bm PySem.F.plainAttrs_list PySem.F.slot_list_append PySem.F.type_list_append mt_append (pe_var hN hv hd hcd) (pa_cons pe pa_nil hst) hbase hfew hline hst hplain) hs, fun ρ Hs0 H0 Hs H σ N fr hp => ?_⟩
  unfold sApp at hp
  cases q : ownAt ρ i with
  | ok ds =>
    rw [q] at hp
    obtain ⟨e0, p, vs, e1, e2, e3, e4, e5⟩ := fr.rp.ownAt q
    refine ⟨_, e1, .inl ⟨rfl, _, .of e3⟩, ev ρ Hs σ H _ fr.rp (PostG.mono (PostS.out fr hp) fun v H1 ⟨Hs1, d, st, is, hp1⟩ => ?_)⟩
    by_cases hl : ds.length < sizeLine
    · rw [if_pos hl] at hp1
      have hv : vs.length < sizeLine := by rw [e4.length]; exact hl
      have e3' : H1 p = some (.lst vs) := st.a.at e3 fun _ z => nomatch z
      have n3' : Hs1 p = none := st.n p (by rw [e3]; exact fun z => nomatch z) e2
      exact ⟨p, vs, v, rfl, rfl, e3', hv, hp1 Hs1 _ σ ((fr.step st).grow e0 e1 e3' n3' ((IsL.mono st.s _ _ e4).snoc is) (by rw [List.length_append]; exact hv))⟩
    · rw [if_neg hl] at hp1
      exact hp1.elim
  | er c => unfold ownAt at q; split at q <;> cases q
  | no => rw [q] at hp; exact hp.elim
def sExt (i : Nat) (m : Env → R D) : Env → Oc := fun ρ => (ownAt ρ i).out fun ds => (m ρ).out fun d => match d with
  | .lst es => if ds.length + es.length ≤ sizeLine then Oc.nx (ρ.set i (.ow (ds ++ es))) else .no
  | _ => .no
/-- x.extend(e), e a list -/
theorem pds_ext (i : Nat) {x : Str} {p1 p2 p3 : Pos} (h : PD X T W e m) (hN : X.N[i]? = some x := by rfl) (hv : Vis X.env.scope x := by first | exact Or.inl rfl | exact Or.inr (Or.inl rfl)) (hd : (x == ("__debug__" : Str)) = false := by decide) (hcd : (x == ("__classdict__" : Str)) = false := by decide)
    (hbase : attributeBase (.Name x p1) "extend" X.env (eval (.Name x p1) X.env) = eval (.Name x p1) X.env := by rfl)
    (hfew : ((backTo p3 (starEach [e] X.env)).all (fun x => !x.1) && (backToKw p3 (keywordEach [] X.env)).all (fun x => x.1.isSome) && decide ([e].length + ([] : List Keyword).length + (if ([] : List Keyword).isEmpty then 0 else 1) < 30)) = true := by rfl)
    (hline : (p2.endLine == p3.line) = true := by rfl) (hst : starEach [e] X.env = (false, eval e X.env) :: starEach [] X.env := by rfl) (hplain : (backTo p3 (starEach [] X.env)).any (·.1) = false := by rfl)
    (hs : swapsWith (.Call (.Attribute (.Name x p1) "extend" p2) [e] [] p3) none pos.line X.env = pure false := by rfl) : PDS X T W (.Expr (.Call (.Attribute (.Name x p1) "extend" p2) [e] [] p3) pos) (sExt i m) := by
  obtain ⟨te, pe, ev⟩ := h
  refine ⟨_, ps_expr (pe_bm PySem.F.plainAttrs_list PySem.F.slot_list_extend PySem.F.type_list_extend mt_extend (pe_var hN hv hd hcd) (pa_cons pe pa_nil hst) hbase hfew hline hst hplain) hs, fun ρ Hs0 H0 Hs H σ N fr hp => ?_⟩
  unfold sExt at hp
  cases q : ownAt ρ i with
  | ok ds =>
    rw [q] at hp
    obtain ⟨e0, p, vs, e1, e2, e3, e4, e5⟩ := fr.rp.ownAt q
    refine ⟨_, e1, .inl ⟨rfl, _, .of e3⟩, ev ρ Hs σ H _ fr.rp (PostG.mono (PostS.out fr hp) fun v H1 ⟨Hs1, d, st, is, hp1⟩ => ?_)⟩
    have is : Is X.K X.mg Hs1 d v := is
    cases d with
    | lst es =>
      obtain ⟨b, us, rfl, b1, b2⟩ := is
      have hp1 : PostS X.K X.mg T W (if ds.length + es.length ≤ sizeLine then Oc.nx (ρ.set i (.ow (ds ++ es))) else .no) Hs0 H0 N := hp1
      by_cases hl : ds.length + es.length ≤ sizeLine
      · rw [if_pos hl] at hp1
        have hv : vs.length + us.length ≤ sizeLine := by rw [e4.length, b2.length]; exact hl
        have e3' : H1 p = some (.lst vs) := st.a.at e3 fun _ z => nomatch z
        have n3' : Hs1 p = none := st.n p (by rw [e3]; exact fun z => nomatch z) e2
        exact ⟨p, b, vs, us, rfl, rfl, e3', st.to.sub.at b1 (fun _ z => nomatch z), hv, hp1 Hs1 _ σ ((fr.step st).grow e0 e1 e3' n3' ((IsL.mono st.s _ _ e4).append b2) (by rw [List.length_append]; exact hv))⟩
      · rw [if_neg hl] at hp1
        exact hp1.elim
    | _ => exact hp1.elim
  | er c => unfold ownAt at q; split at q <;> cases q
  | no => rw [q] at hp; exact hp.elim
/-- the list of slot i grows no more -/
def frzE (i : Nat) (ρ : Env) : Env := match ρ[i]? with
  | some (.ow ds) => ρ.set i (.sh (.lst ds))
  | _ => ρ
theorem Fr.frz {K : PySem.W.Frag} {mg : Str → Option Value} {Hs0 H0 Hs H : Hp} {σ : L2.St} {ρ : Env} (h : Fr K mg T Hs0 H0 Hs H σ ρ) (i : Nat) : ∃ Hs', ExtW Hs Hs' ∧ Fr K mg T Hs0 H0 Hs' H σ (frzE i ρ) := by
  unfold frzE
  split
  · rename_i ds e
    obtain ⟨p, vs, e1, e2, e3, e4, e5⟩ := h.rp.ok i _ e
    have hi : i < ρ.length := (List.getElem?_eq_some_iff.mp e).1
    have h0 : H0 p = none := h.ow i ds p e e1
    have x : ExtW Hs (upd Hs p (.lst vs)) := .new e2
    have to : At T (upd Hs p (.lst vs)) H := by
      refine ⟨fun b u q => ?_, h.rp.to.tab, h.rp.to.sz.upd_ (fun us q => by rcases q with q | q <;> cases q; exact e5) fun _ _ => ⟨(fun z => nomatch z), fun z => nomatch z⟩⟩
      by_cases hb : b = p
      · subst hb
        rw [upd_same] at q
        cases q
        exact .inl e3
      · rw [upd_ne hb] at q
        exact h.rp.to.sub b u q
    have key : ∀ {c : Nat} {cs : List D}, (ρ.set i (Sl.sh (.lst ds)))[c]? = some (Sl.ow cs) → i ≠ c ∧ ρ[c]? = some (Sl.ow cs) := fun {c cs} e => by
      by_cases z : i = c
      · subst z
        rw [List.getElem?_set_self hi] at e
        cases e
      · rw [List.getElem?_set_ne z] at e
        exact ⟨z, e⟩
    refine ⟨_, x, ⟨⟨to, by rw [List.length_set]; exact h.rp.len, fun j s ej => ?_, fun a b cs fs c n k1 k2 k3 k4 => h.rp.sep a b cs fs c n (key k1).2 (key k2).2 k3 k4⟩, ⟨h.st.s.trans x, h.st.a, to, fun b hb z => ?_⟩, fun j cs c k1 k2 => h.ow j cs c (key k1).2 k2⟩⟩
    · by_cases z : i = j
      · subst z
        rw [List.getElem?_set_self hi] at ej
        cases ej
        exact ⟨_, e1, p, vs, rfl, upd_same, IsL.mono x _ _ e4⟩
      · rw [List.getElem?_set_ne z] at ej
        have k := h.rp.ok j s ej
        cases s with
        | no => trivial
        | sh d =>
          obtain ⟨v, k1, k2⟩ := k
          exact ⟨v, k1, Is.mono x d v k2⟩
        | ow cs =>
          obtain ⟨b, ws, k1, k2, k3, k4, k5⟩ := k
          refine ⟨b, ws, k1, ?_, k3, IsL.mono x _ _ k4, k5⟩
          rw [upd_ne]
          · exact k2
          · intro y
            subst y
            exact h.rp.sep i j ds cs b z e ej e1 k1
    · have : b ≠ p := fun q => by rw [q] at hb; exact hb h0
      rw [upd_ne this]
      exact h.st.n b hb z
  · exact ⟨Hs, .refl _, h⟩
theorem pdss_frz (i : Nat) (h : PDSs X T W sts f) : PDSs X T W sts (fun ρ => f (frzE i ρ)) := by
  obtain ⟨t, ps, ev⟩ := h
  refine ⟨t, ps, fun ρ Hs0 H0 Hs H σ N fr hp => ?_⟩
  obtain ⟨Hs', x, fr'⟩ := fr.frz i
  exact ev _ Hs0 H0 Hs' H σ N fr' hp

/-! ### loops -/
def Oc.loop (o : Oc) (f : Env → Oc) : Oc := match o with
  | .nx ρ => f ρ
  | .ct ρ => f ρ
  | .bk ρ => .nx ρ
  | o => o
@[simp] theorem Oc.loop_nx (ρ : Env) (f : Env → Oc) : (Oc.nx ρ).loop f = f ρ := rfl
@[simp] theorem Oc.loop_ct (ρ : Env) (f : Env → Oc) : (Oc.ct ρ).loop f = f ρ := rfl
@[simp] theorem Oc.loop_bk (ρ : Env) (f : Env → Oc) : (Oc.bk ρ).loop f = Oc.nx ρ := rfl
@[simp] theorem Oc.loop_rt (d : D) (f : Env → Oc) : (Oc.rt d).loop f = Oc.rt d := rfl
@[simp] theorem Oc.loop_er (d : Str) (f : Env → Oc) : (Oc.er d).loop f = Oc.er d := rfl
@[simp] theorem Oc.loop_no (f : Env → Oc) : (Oc.no).loop f = Oc.no := rfl
def forGo (t : Tg) (f : Env → Oc) : List D → Env → Oc
  | [], ρ => .nx ρ
  | d :: ds, ρ => t.oc d ρ fun ρ' => (f ρ').loop (forGo t f ds)
def sFor (mi : Env → R (List D)) (t : Tg) (f : Env → Oc) : Env → Oc := fun ρ => (mi ρ).out fun ds => forGo t f ds ρ
theorem pds_for {tg iter : Expr} {t : Tg} {mi : Env → R (List D)} (hi : PDI X T W tg iter mi) (hg : PGF X T tg t) (hb : PDSs X T W sts f) (hp : PassesOwn (model X.prog X.w) X.A X.env X.xe) (hc : X.calm = true) (hs : ∀ x, foldedSetIterable iter X.env x = pure x := by intro _; rfl) :
    PDS X T W (.For tg iter sts [] pos) (sFor mi t f) := by
  obtain ⟨wi, pi, ev⟩ := hi
  obtain ⟨g, pg, evg⟩ := hg
  obtain ⟨tb, ps, evb⟩ := hb
  refine ⟨_, ps_for hp hc pi pg ps hs, fun ρ Hs0 H0 Hs H σ N fr hp => ev ρ Hs σ H _ fr.rp (PostG.mono (PostS.out fr hp) fun J H1 ⟨Hs1, ds, st, it, hp1⟩ => ?_)⟩
  have it : ItD X.K X.mg T J ds Hs1 := it
  refine ⟨fun i m' σ' H' => m' = ds.length - i ∧ i ≤ ds.length ∧ ∃ Hs' ρ', Fr X.K X.mg T Hs0 H0 Hs' H' σ' ρ' ∧ ExtW Hs1 Hs' ∧ PostS X.K X.mg T W (forGo t f (ds.drop i) ρ') Hs0 H0 N,
    ⟨ds.length, by simp, Nat.zero_le _, Hs1, ρ, fr.step st, .refl _, by rw [List.drop_zero]; exact hp1⟩, ?_⟩
  rintro i m' σ' H' ⟨rfl, hi, Hs', ρ', fr', x, hp'⟩
  by_cases hlt : i < ds.length
  · refine .inr ⟨it.go i Hs' H' x fr'.rp.to hlt, fun σ2 H2 => i + 1 ≤ ds.length ∧ ∃ Hs2 ρ2, Fr X.K X.mg T Hs0 H0 Hs2 H2 σ2 ρ2 ∧ ExtW Hs1 Hs2 ∧ PostS X.K X.mg T W (forGo t f (ds.drop (i + 1)) ρ2) Hs0 H0 N,
      fun σ2 H2 ⟨h1, h2⟩ => ⟨ds.length - (i + 1), by omega, rfl, h1, h2⟩, fun v H3 hy => ?_⟩
    obtain ⟨Hs3, d, st3, hd, is⟩ := it.yld i Hs' H' v H3 x fr'.rp.to hlt hy
    have hdrop : ds.drop i = d :: ds.drop (i + 1) := by
      obtain ⟨h1, h2⟩ := List.getElem?_eq_some_iff.mp hd
      rw [List.drop_eq_getElem_cons h1, h2]
    rw [hdrop] at hp'
    have hp' : PostS X.K X.mg T W (t.oc d ρ' fun ρ2 => (f ρ2).loop (forGo t f (ds.drop (i + 1)))) Hs0 H0 N := hp'
    unfold Tg.oc at hp'
    split at hp'
    · rename_i ρ2 e
      have fr3 := fr'.step st3
      -- the body's own end: what is shared grows from Hs3 on
      have x3 : ExtW Hs1 Hs3 := x.trans st3.s
      refine evg d v ρ' ρ2 Hs0 H0 Hs3 σ' H3 _ fr3 is e fun σ4 fr4 => ?_
      have back : ∀ {o : Oc}, PostS X.K X.mg T W (o.loop (forGo t f (ds.drop (i + 1)))) Hs0 H0 N → PostS X.K X.mg T W o Hs3 H0 { N with nx := fun σ2 H2 => i + 1 ≤ ds.length ∧ ∃ Hs2 ρ2, Fr X.K X.mg T Hs0 H0 Hs2 H2 σ2 ρ2 ∧ ExtW Hs1 Hs2 ∧ PostS X.K X.mg T W (forGo t f (ds.drop (i + 1)) ρ2) Hs0 H0 N, ct := fun σ2 H2 => i + 1 ≤ ds.length ∧ ∃ Hs2 ρ2, Fr X.K X.mg T Hs0 H0 Hs2 H2 σ2 ρ2 ∧ ExtW Hs1 Hs2 ∧ PostS X.K X.mg T W (forGo t f (ds.drop (i + 1)) ρ2) Hs0 H0 N, bk := N.nx } := fun {o} h => by
        cases o with
        | nx ρ3 => exact fun Hs6 H6 σ6 fr6 => ⟨hlt, Hs6, ρ3, fr4.rebase fr6, x3.trans fr6.st.s, h⟩
        | ct ρ3 => exact fun Hs6 H6 σ6 fr6 => ⟨hlt, Hs6, ρ3, fr4.rebase fr6, x3.trans fr6.st.s, h⟩
        | bk ρ3 => exact fun Hs6 H6 σ6 fr6 => h Hs6 H6 σ6 (fr4.rebase fr6)
        | rt d => exact fun v Hs6 H6 st6 is6 => h v Hs6 H6 (fr4.st.rebase st6) is6
        | er c => exact fun Hs6 H6 st6 => h Hs6 H6 (fr4.st.rebase st6)
        | no => exact h
      exact evb ρ2 Hs3 H0 Hs3 H3 σ4 _ fr4.mid (back hp')
    · exact hp'.elim
  · have e : i = ds.length := by omega
    subst e
    rw [List.drop_length] at hp'
    exact .inl ⟨it.stop _ Hs' H' x fr'.rp.to (Nat.le_refl _), hp' Hs' H' σ' fr'⟩
/-- while, at most so many turns -/
def whGo (mt : Env → R Bool) (f : Env → Oc) : Nat → Env → Oc
  | 0, _ => .no
  | n + 1, ρ => (mt ρ).out fun b => if b = true then (f ρ).loop (whGo mt f n) else .nx ρ
def sWhile (fu : Env → Nat) (mt : Env → R Bool) (f : Env → Oc) : Env → Oc := fun ρ => whGo mt f (fu ρ) ρ
theorem pds_while {c : Expr} (fu : Env → Nat) (hcn : PTD X T W c mt) (hb : PDSs X T W sts f) (hp : PassesOwn (model X.prog X.w) X.A X.env X.xe) : PDS X T W (.While c sts [] pos) (sWhile fu mt f) := by
  obtain ⟨tc, pc, evc⟩ := hcn
  obtain ⟨tb, ps, evb⟩ := hb
  refine ⟨_, ps_while hp pc ps, fun ρ Hs0 H0 Hs H σ N fr hp => ?_⟩
  refine ⟨fun n σ' H' => ∃ Hs' ρ', Fr X.K X.mg T Hs0 H0 Hs' H' σ' ρ' ∧ PostS X.K X.mg T W (whGo mt f n ρ') Hs0 H0 N, ⟨fu ρ, Hs, ρ, fr, hp⟩, ?_⟩
  rintro n σ' H' ⟨Hs', ρ', fr', hp'⟩
  cases n with
  | zero => exact hp'.elim
  | succ n =>
    refine evc ρ' Hs' σ' H' _ fr'.rp (PostG.mono (PostS.out fr' hp') fun b H1 ⟨Hs1, d, st, is, hp1⟩ => ?_)
    cases is
    have fr1 := fr'.step st
    cases b with
    | false =>
      rw [if_neg Bool.false_ne_true] at hp1 ⊢
      exact hp1 Hs1 H1 σ' fr1
    | true =>
      rw [if_pos rfl] at hp1 ⊢
      refine ⟨fun σ2 H2 => ∃ Hs2 ρ2, Fr X.K X.mg T Hs0 H0 Hs2 H2 σ2 ρ2 ∧ PostS X.K X.mg T W (whGo mt f n ρ2) Hs0 H0 N, fun σ2 H2 h => ⟨n, by omega, h⟩, evb ρ' Hs0 H0 Hs1 H1 σ' _ fr1 ?_⟩
      cases q : f ρ' with
      | nx ρ3 => rw [q] at hp1; exact fun Hs6 H6 σ6 fr6 => ⟨Hs6, ρ3, fr6, hp1⟩
      | ct ρ3 => rw [q] at hp1; exact fun Hs6 H6 σ6 fr6 => ⟨Hs6, ρ3, fr6, hp1⟩
      | bk ρ3 => rw [q] at hp1; exact hp1
      | rt d => rw [q] at hp1; exact hp1
      | er c => rw [q] at hp1; exact hp1
      | no => rw [q] at hp1; exact hp1.elim

/-! ### raise -/
/-- an own class under ValueError without an __init__ -/
structure ExcF (K : PySem.W.Frag) (mg : Str → Option Value) (x : Str) : Prop where
  ex : ∃ C, mg x = some (.ref C) ∧ PySem.W.excIn K C He.veBase "ValueError.__new__" = true ∧ PySem.W.keepIn K (.ref C) = true ∧ PySem.W.subIn K (.ref C) (.type "BaseException") = some true ∧ PySem.W.typeIn K (.ref C) = some (.type "type")
theorem pds_raise {x msg : Str} {j : Nat} {p1 p2 p3 : Pos} (E : ExcF X.K X.mg x) (hc : X.calm = true) (tk : L2N.Takes X (fun cls d _ H => EW X.mg W cls d H)) (hg : Gl X x) (hdb : (x == ("__debug__" : Str)) = false := by decide) :
    PDS X T W (.Raise (some (.Call (.Name x p1) [.Constant (.str msg) j p2] [] p3)) none pos) (fun _ => Oc.er x) := by
  obtain ⟨C, gC, hq, kC, sC, tC⟩ := E.ex
  refine ⟨_, L2N.ps_raise hc tk (L2N.pmk_own PySem.F.excBase_ValueError hq gC kC (raises_own sC tC) hg hdb), fun ρ Hs0 H0 Hs H σ N fr hp => ?_⟩
  exact ⟨x, gC, rfl, hp Hs H fr.st⟩
end

/-! ### defs -/
def runF (N n : Nat) (f : Env → Oc) : List D → R D := fun ds => if ds.length = n then (match f (ds.map Sl.sh ++ List.replicate (N - n) Sl.no) with
  | .rt d => .ok d
  | .nx _ => .ok .non
  | .er c => .er c
  | _ => .no) else .no
theorem start_rp {K : PySem.W.Frag} {mg : Str → Option Value} {T : List (Addr × Str)} {Hs H : Hp} {N : List Str} {n : Nat} {ds : List D} {vs : List V} (to : At T Hs H) (is : IsL K mg Hs ds vs) (hl : ds.length = n) (hn : n ≤ N.length) :
    Rp K mg T Hs H (L2.start N vs) (ds.map Sl.sh ++ List.replicate (N.length - n) Sl.no) := by
  have hv := is.length
  have noow : ∀ (i : Nat) (es : List D), (ds.map Sl.sh ++ List.replicate (N.length - n) Sl.no)[i]? ≠ some (Sl.ow es) := fun i es e => by
    by_cases hi : i < ds.length
    · rw [List.getElem?_append_left (by rw [List.length_map]; exact hi), List.getElem?_map, List.getElem?_eq_getElem hi] at e
      cases e
    · rw [List.getElem?_append_right (by rw [List.length_map]; omega), List.getElem?_replicate] at e
      split at e <;> cases e
  refine ⟨to, ?_, fun i s e => ?_, fun i j es fs p n e => absurd e (noow i es)⟩
  · unfold L2.start
    rw [List.length_append, List.length_map, List.length_replicate, List.length_append, List.length_map, List.length_replicate, hv, hl]
  · by_cases hi : i < ds.length
    · rw [List.getElem?_append_left (by rw [List.length_map]; exact hi), List.getElem?_map, List.getElem?_eq_getElem hi] at e
      cases e
      obtain ⟨v, e1, e2⟩ := is.get (List.getElem?_eq_getElem hi)
      refine ⟨v, ?_, e2⟩
      unfold L2.start
      rw [List.getElem?_append_left (by rw [List.length_map, hv]; exact hi), List.getElem?_map, e1] <;> rfl
    · rw [List.getElem?_append_right (by rw [List.length_map]; omega), List.getElem?_replicate] at e
      split at e
      · cases e; trivial
      · cases e
/-- A DEF BY ITS BODY -/
theorem fn_okD {P : Program} {w : World} {K : PySem.W.Frag} {mg : Str → Option Value} {base : Heap} {T : List (Addr × Str)} {x qual : Str} {params : Arguments} {body : List Stmt} {scope : Scope} {kws : List (Str × V)} {f : Addr} {fd : FuncData} {N ps : List Str} {k : Nat} {m : Env → Oc}
    (F : FunD K x qual params body scope [] kws f fd) (S : FnScope N ps scope)
    (hbody : ∀ (cdv : Value) (A : Around) (outer : List PySem.Env) (s : Shared) (H : Hp) (E : XK), Cg (cxOf (L2N.CX P w) P w K mg base N qual scope f cdv A outer s H E) (Wof mg E) k → L2N.Takes (cxOf (L2N.CX P w) P w K mg base N qual scope f cdv A outer s H E) (fun cls d _ H => EW mg (Wof mg E) cls d H) →
      PassesOwn (model P w) (A.deeper (envOfC qual scope s.heap.objs.size f cdv)) (envOfC qual scope s.heap.objs.size f cdv) (cxOf (L2N.CX P w) P w K mg base N qual scope f cdv A outer s H E).xe →
      PDSs (cxOf (L2N.CX P w) P w K mg base N qual scope f cdv A outer s H E) T (Wof mg E) body m) :
    FnOk P w K mg base (L2N.CX P w) (k + 1) f fd ps (spD K mg T ps.length (runF N.length ps.length m)) := by
  have hpl : ps.length ≤ N.length := by have := congrArg List.length S.pre; rw [List.length_take] at this; omega
  refine F.ok S spD_len fun cdv A outer s H vs Q E hr h => ?_
  have tk : L2N.Takes (cxOf (L2N.CX P w) P w K mg base N qual scope f cdv A outer s H E) (fun cls d _ H => EW mg (Wof mg E) cls d H) := (L2N.takes_of rfl rfl rfl rfl).imp fun cls d σ H ⟨c, h1, h2, h3⟩ => by subst h2; exact h3 cls h1
  have cg : Cg (cxOf (L2N.CX P w) P w K mg base N qual scope f cdv A outer s H E) (Wof mg E) k := ⟨S.nd, rfl, hr, L2N.passes_call (E := EW mg (Wof mg E)) tk fun cls d σ H h => h⟩
  obtain ⟨t, ps', ev⟩ := hbody cdv A outer s H E cg tk (passes_of rfl)
  refine ⟨t, ps', ?_⟩
  obtain ⟨Hs, ds, to, is, hl, hp⟩ := h
  have rp := start_rp (N := N) (K := K) (mg := mg) to is hl hpl
  refine ev _ Hs H Hs H _ _ ⟨rp, .refl to, fun i es p e => ?_⟩ ?_
  · exfalso
    by_cases hi : i < ds.length
    · rw [List.getElem?_append_left (by rw [List.length_map]; exact hi), List.getElem?_map, List.getElem?_eq_getElem hi] at e
      cases e
    · rw [List.getElem?_append_right (by rw [List.length_map]; omega), List.getElem?_replicate] at e
      split at e <;> cases e
  · unfold runF at hp
    rw [if_pos hl] at hp
    cases q : m (ds.map Sl.sh ++ List.replicate (N.length - ps.length) Sl.no) with
    | rt d => rw [q] at hp; exact fun v Hs' H' st is => hp v Hs' H' st is
    | nx ρ => rw [q] at hp; exact fun Hs' H' σ' fr => hp .non Hs' H' fr.st rfl
    | er c => rw [q] at hp; exact fun Hs' H' st => hp Hs' H' st
    | bk ρ => rw [q] at hp; exact hp.elim
    | ct ρ => rw [q] at hp; exact hp.elim
    | no => rw [q] at hp; exact hp.elim
end FL
set_option maxHeartbeats 4000000
/-! FL6: built-in calls, methods of lists. -/
namespace FL
open PySem PySem.Spec PyProof.Rows L2
section
variable {X : Cx} {T : List (Addr × Str)} {W : Str → Hp → Prop} {e a b : Expr} {es : List Expr} {m ma mb : Env → R D} {pos p : Pos}
/-- a built-in of one value does g -/
def Cal1 (X : Cx) (T : List (Addr × Str)) (f : Value) (g : D → R D) : Prop := ∃ r, CallR X f r ∧ ∀ (W : Str → Hp → Prop) d x Hs H Q, At T Hs H → IsT X.K X.mg Hs H d x → PostG T (rIs X.K X.mg) W (g d) Hs H Q → r [x] H Q
def Cal2 (X : Cx) (T : List (Addr × Str)) (f : Value) (g : D → D → R D) : Prop := ∃ r, CallR X f r ∧ ∀ (W : Str → Hp → Prop) d d2 x y Hs H Q, At T Hs H → IsT X.K X.mg Hs H d x → IsT X.K X.mg Hs H d2 y → PostG T (rIs X.K X.mg) W (g d d2) Hs H Q → r [x, y] H Q
def mUn (g : D → R D) (m : Env → R D) : Env → R D := fun ρ => (m ρ).bind g
theorem pd_b1 {x : Str} {id : String} {g : D → R D} (c : Cal1 X T (.builtin id) g) (hg : Gl X x) (hm : X.mg x = none) (hv : bootBuiltins x = some (.builtin id)) (ha : PDt X T W a ma) (hn : x ≠ "__name__" := by decide) (hdb : (x == ("__debug__" : Str)) = false := by decide)
    (hs : starEach [a] X.env = (false, eval a X.env) :: starEach [] X.env := by rfl) (hpl : (backTo pos (starEach [] X.env)).any (·.1) = false := by rfl) : PD X T W (.Call (.Name x p) [a] [] pos) (mUn g ma) := by
  obtain ⟨r, hr, er⟩ := c
  obtain ⟨ta, pa, ea⟩ := ha
  refine ⟨_, pe_callB hr hg hm hv (pa_cons pa pa_nil hs) hn hdb hs hpl, fun ρ Hs σ H Q rp hp => ea ρ Hs σ H _ rp (PostG.mono (PostG.bind hp) fun v H1 ⟨Hs1, d, st, is, hp1⟩ => er W d v Hs1 H1 Q st.to is hp1)⟩
theorem pd_t1 {x : Str} {id : String} {g : D → R D} (c : Cal1 X T (.type id) g) (hg : Gl X x) (hm : X.mg x = none) (hv : bootBuiltins x = some (.type id)) (ha : PDt X T W a ma) (hn : x ≠ "__name__" := by decide) (hdb : (x == ("__debug__" : Str)) = false := by decide)
    (hs : starEach [a] X.env = (false, eval a X.env) :: starEach [] X.env := by rfl) (hpl : (backTo pos (starEach [] X.env)).any (·.1) = false := by rfl) : PD X T W (.Call (.Name x p) [a] [] pos) (mUn g ma) := by
  obtain ⟨r, hr, er⟩ := c
  obtain ⟨ta, pa, ea⟩ := ha
  refine ⟨_, pe_callTy hr hg hm hv (pa_cons pa pa_nil hs) hn hdb hs hpl, fun ρ Hs σ H Q rp hp => ea ρ Hs σ H _ rp (PostG.mono (PostG.bind hp) fun v H1 ⟨Hs1, d, st, is, hp1⟩ => er W d v Hs1 H1 Q st.to is hp1)⟩
theorem pd_b2 {x : Str} {id : String} {g : D → D → R D} (c : Cal2 X T (.builtin id) g) (hg : Gl X x) (hm : X.mg x = none) (hv : bootBuiltins x = some (.builtin id)) (ha : PDt X T W a ma) (hb : PDt X T W b mb) (hn : x ≠ "__name__" := by decide) (hdb : (x == ("__debug__" : Str)) = false := by decide)
    (hs : starEach [a, b] X.env = (false, eval a X.env) :: starEach [b] X.env := by rfl) (hs2 : starEach [b] X.env = (false, eval b X.env) :: starEach [] X.env := by rfl) (hpl : (backTo pos (starEach [b] X.env)).any (·.1) = false := by rfl) : PD X T W (.Call (.Name x p) [a, b] [] pos) (mBin g ma mb) := by
  obtain ⟨r, hr, er⟩ := c
  obtain ⟨ta, pa, ea⟩ := ha
  obtain ⟨tb, pb, eb⟩ := hb
  refine ⟨_, pe_callB hr hg hm hv (pa_cons pa (pa_cons pb pa_nil hs2) hs) hn hdb hs hpl, fun ρ Hs σ H Q rp hp => ea ρ Hs σ H _ rp (PostG.mono (PostG.bind hp) fun v H1 ⟨Hs1, d, st, is, hp1⟩ => eb ρ Hs1 σ H1 _ (rp.step st) (PostG.mono (PostG.bind hp1) fun u H2 ⟨Hs2, d2, st2, is2, hp2⟩ => er W d d2 v u Hs2 H2 Q st2.to (is.step st2) is2 hp2))⟩

/-! ### len -/
def lenD : D → R D
  | .lst ds => .ok (.int (ds.length : Nat))
  | .tup ds => .ok (.int (ds.length : Nat))
  | .scr ns => .ok (.int (ns.length : Nat))
  | _ => .no
theorem c_len : Cal1 X T (.builtin "len") lenD := by
  refine ⟨_, call_len_seq, fun W d x Hs H Q to is hp => ?_⟩
  cases d with
  | lst ds =>
    obtain ⟨p, vs, rfl, p1, p3, p4⟩ := is.lst to
    refine ⟨p, vs, rfl, .inl (.of p1), ?_⟩
    rw [p3.length]
    exact PostG.ret (rel := rIs X.K X.mg) hp to rfl
  | tup ds =>
    obtain ⟨p, vs, rfl, p1, p2, p3, p4⟩ := is.tup to
    refine ⟨p, vs, rfl, .inr p1, ?_⟩
    rw [p3.length]
    exact PostG.ret (rel := rIs X.K X.mg) hp to rfl
  | scr ns =>
    obtain ⟨p, rfl, p1⟩ := is.full to
    refine ⟨p, _, rfl, .inl p1, ?_⟩
    rw [List.length_map]
    exact PostG.ret (rel := rIs X.K X.mg) hp to rfl
  | _ => exact hp.elim

/-! ### sum, min, max, all, any, sorted of lists -/
def intsOf (g : List Int → R D) : D → R D
  | .lst ds => match asInts ds with
    | some ns => g ns
    | none => .no
  | _ => .no
@[simp] theorem intsOf_map (g : List Int → R D) (ns : List Int) : intsOf g (.lst (ns.map D.int)) = g ns := by
  unfold intsOf
  simp only [asInts_map]
theorem ints_of {g : List Int → R D} {d : D} {x : V} {Hs H : Hp} {Q : VK} {W : Str → Hp → Prop} (to : At T Hs H) (is : IsT X.K X.mg Hs H d x) (hp : PostG T (rIs X.K X.mg) W (intsOf g d) Hs H Q) : ∃ a ns, x = .ref a ∧ SqL X.K H a (ns.map V.int) ∧ ns.length ≤ sizeLine ∧ PostG T (rIs X.K X.mg) W (g ns) Hs H Q := by
  cases d with
  | lst ds =>
    unfold intsOf at hp
    cases e : asInts ds with
    | none => simp only [e] at hp; exact hp.elim
    | some ns =>
      simp only [e] at hp
      have e := asInts_eq e
      subst e
      obtain ⟨p, vs, rfl, p1, p3, p4⟩ := is.lst to
      have e3 := p3.ints
      subst e3
      exact ⟨p, ns, rfl, .of p1, by rw [List.length_map] at p4; exact p4, hp⟩
  | _ => exact hp.elim
def sumD : D → R D := intsOf fun ns => .ok (.int ns.sum)
theorem c_sum (hc : X.calm = true) : Cal1 X T (.builtin "sum") sumD := by
  refine ⟨_, cr_sum hc, fun W d x Hs H Q to is hp => ?_⟩
  obtain ⟨a, ns, rfl, h1, _, h2⟩ := ints_of to is hp
  exact ⟨a, ns, rfl, h1, PostG.ret (rel := rIs X.K X.mg) h2 to rfl⟩
def minI : Int → List Int → Int
  | n, [] => n
  | n, m :: r => minI (if m < n then m else n) r
def maxI : Int → List Int → Int
  | n, [] => n
  | n, m :: r => maxI (if n < m then m else n) r
theorem minI_le : ∀ (r : List Int) (n : Int), minI n r ≤ n ∧ (∀ y ∈ r, minI n r ≤ y) ∧ minI n r ∈ n :: r
  | [], n => ⟨Int.le_refl _, (fun _ h => nomatch h), List.mem_cons_self⟩
  | m :: r, n => by
    obtain ⟨h1, h2, h3⟩ := minI_le r (if m < n then m else n)
    have key : (if m < n then m else n) ≤ n ∧ (if m < n then m else n) ≤ m := by split <;> omega
    refine ⟨Int.le_trans h1 key.1, fun y hy => ?_, ?_⟩
    · rcases List.mem_cons.mp hy with e | hy
      · rw [e]; exact Int.le_trans h1 key.2
      · exact h2 y hy
    · show minI (if m < n then m else n) r ∈ n :: m :: r
      rcases List.mem_cons.mp h3 with e | h3
      · rw [e]
        split
        · exact List.mem_cons_of_mem _ List.mem_cons_self
        · exact List.mem_cons_self
      · exact List.mem_cons_of_mem _ (List.mem_cons_of_mem _ h3)
theorem maxI_le : ∀ (r : List Int) (n : Int), n ≤ maxI n r ∧ (∀ y ∈ r, y ≤ maxI n r) ∧ maxI n r ∈ n :: r
  | [], n => ⟨Int.le_refl _, (fun _ h => nomatch h), List.mem_cons_self⟩
  | m :: r, n => by
    obtain ⟨h1, h2, h3⟩ := maxI_le r (if n < m then m else n)
    have key : n ≤ (if n < m then m else n) ∧ m ≤ (if n < m then m else n) := by split <;> omega
    refine ⟨Int.le_trans key.1 h1, fun y hy => ?_, ?_⟩
    · rcases List.mem_cons.mp hy with e | hy
      · rw [e]; exact Int.le_trans key.2 h1
      · exact h2 y hy
    · show maxI (if n < m then m else n) r ∈ n :: m :: r
      rcases List.mem_cons.mp h3 with e | h3
      · rw [e]
        split
        · exact List.mem_cons_of_mem _ List.mem_cons_self
        · exact List.mem_cons_self
      · exact List.mem_cons_of_mem _ (List.mem_cons_of_mem _ h3)
def minLD : D → R D := intsOf fun ns => match ns with
  | [] => .no
  | n :: r => .ok (.int (minI n r))
def maxLD : D → R D := intsOf fun ns => match ns with
  | [] => .no
  | n :: r => .ok (.int (maxI n r))
theorem c_min (hc : X.calm = true) : Cal1 X T (.builtin "min") minLD := by
  refine ⟨_, cr_min hc, fun W d x Hs H Q to is hp => ?_⟩
  obtain ⟨a, ns, rfl, h1, _, h2⟩ := ints_of to is hp
  cases ns with
  | nil => exact h2.elim
  | cons n r =>
    refine ⟨a, n :: r, rfl, h1, by simp, fun m hm hle => ?_⟩
    obtain ⟨k1, k2, k3⟩ := minI_le r n
    have e : m = minI n r := Int.le_antisymm (hle _ k3) (by
      rcases List.mem_cons.mp hm with q | q
      · rw [q]; exact k1
      · exact k2 m q)
    subst e
    exact PostG.ret (rel := rIs X.K X.mg) h2 to rfl
theorem c_max (hc : X.calm = true) : Cal1 X T (.builtin "max") maxLD := by
  refine ⟨_, cr_max hc, fun W d x Hs H Q to is hp => ?_⟩
  obtain ⟨a, ns, rfl, h1, _, h2⟩ := ints_of to is hp
  cases ns with
  | nil => exact h2.elim
  | cons n r =>
    refine ⟨a, n :: r, rfl, h1, by simp, fun m hm hle => ?_⟩
    obtain ⟨k1, k2, k3⟩ := maxI_le r n
    have e : m = maxI n r := Int.le_antisymm (by
      rcases List.mem_cons.mp hm with q | q
      · rw [q]; exact k1
      · exact k2 m q) (hle _ k3)
    subst e
    exact PostG.ret (rel := rIs X.K X.mg) h2 to rfl
def asBls : List D → Option (List Bool)
  | [] => some []
  | .bl i :: r => (asBls r).map (i :: ·)
  | _ :: _ => none
theorem asBls_eq : ∀ {ds : List D} {ns : List Bool}, asBls ds = some ns → ds = ns.map D.bl
  | [], _, h => by cases h; rfl
  | d :: ds, ns, h => by
    cases d with
    | bl i =>
      unfold asBls at h
      cases e : asBls ds with
      | none => rw [e] at h; cases h
      | some ms =>
        rw [e] at h; cases h
        rw [asBls_eq e] <;> rfl
    | _ => cases h
@[simp] theorem asBls_map : ∀ ns : List Bool, asBls (ns.map D.bl) = some ns
  | [] => rfl
  | n :: ns => by
    show (asBls (ns.map D.bl)).map (n :: ·) = _
    rw [asBls_map ns] <;> rfl
def blsOf (g : List Bool → R D) : D → R D
  | .lst ds => match asBls ds with
    | some ns => g ns
    | none => .no
  | _ => .no
@[simp] theorem blsOf_map (g : List Bool → R D) (ns : List Bool) : blsOf g (.lst (ns.map D.bl)) = g ns := by
  unfold blsOf
  simp only [asBls_map]
theorem bls_of {g : List Bool → R D} {d : D} {x : V} {Hs H : Hp} {Q : VK} {W : Str → Hp → Prop} (to : At T Hs H) (is : IsT X.K X.mg Hs H d x) (hp : PostG T (rIs X.K X.mg) W (blsOf g d) Hs H Q) : ∃ a ns, x = .ref a ∧ SqL X.K H a (ns.map V.bl) ∧ PostG T (rIs X.K X.mg) W (g ns) Hs H Q := by
  cases d with
  | lst ds =>
    unfold blsOf at hp
    cases e : asBls ds with
    | none => simp only [e] at hp; exact hp.elim
    | some ns =>
      simp only [e] at hp
      have e := asBls_eq e
      subst e
      obtain ⟨p, vs, rfl, p1, p3, p4⟩ := is.lst to
      have e3 := p3.bls
      subst e3
      exact ⟨p, ns, rfl, .of p1, hp⟩
  | _ => exact hp.elim
def allD : D → R D := blsOf fun bs => .ok (.bl (bs.all id))
def anyD : D → R D := blsOf fun bs => .ok (.bl (bs.any id))
theorem c_all (hc : X.calm = true) : Cal1 X T (.builtin "all") allD := by
  refine ⟨_, cr_all hc, fun W d x Hs H Q to is hp => ?_⟩
  obtain ⟨a, ns, rfl, h1, h2⟩ := bls_of to is hp
  exact ⟨a, ns, rfl, h1, PostG.ret (rel := rIs X.K X.mg) h2 to rfl⟩
theorem c_any (hc : X.calm = true) : Cal1 X T (.builtin "any") anyD := by
  refine ⟨_, cr_any hc, fun W d x Hs H Q to is hp => ?_⟩
  obtain ⟨a, ns, rfl, h1, h2⟩ := bls_of to is hp
  exact ⟨a, ns, rfl, h1, PostG.ret (rel := rIs X.K X.mg) h2 to rfl⟩
def insI (n : Int) : List Int → List Int
  | [] => [n]
  | m :: r => if n ≤ m then n :: m :: r else m :: insI n r
def sortI : List Int → List Int
  | [] => []
  | n :: r => insI n (sortI r)
theorem insI_perm (n : Int) : ∀ r : List Int, (insI n r).Perm (n :: r)
  | [] => .refl _
  | m :: r => by
    unfold insI
    split
    · exact .refl _
    · exact ((insI_perm n r).cons m).trans (.swap n m r)
theorem sortI_perm : ∀ r : List Int, (sortI r).Perm r
  | [] => .refl _
  | n :: r => (insI_perm n (sortI r)).trans ((sortI_perm r).cons n)
theorem insI_sorted (n : Int) : ∀ r : List Int, r.Pairwise (· ≤ ·) → (insI n r).Pairwise (· ≤ ·)
  | [], _ => by simp [insI]
  | m :: r, h => by
    unfold insI
    obtain ⟨h1, h2⟩ := List.pairwise_cons.mp h
    split
    · rename_i hn
      refine List.pairwise_cons.mpr ⟨fun y hy => ?_, h⟩
      rcases List.mem_cons.mp hy with e | hy
      · rw [e]; exact hn
      · exact Int.le_trans hn (h1 y hy)
    · rename_i hn
      refine List.pairwise_cons.mpr ⟨fun y hy => ?_, insI_sorted n r h2⟩
      rcases List.mem_cons.mp ((insI_perm n r).mem_iff.mp hy) with e | hy
      · rw [e]; omega
      · exact h1 y hy
theorem sortI_sorted : ∀ r : List Int, (sortI r).Pairwise (· ≤ ·)
  | [] => List.Pairwise.nil
  | n :: r => insI_sorted n _ (sortI_sorted r)
theorem sorted_uniq : ∀ {xs ys : List Int}, xs.Perm ys → xs.Pairwise (· ≤ ·) → ys.Pairwise (· ≤ ·) → xs = ys
  | [], ys, p, _, _ => by rw [List.nil_perm.mp p]
  | x :: xs, [], p, _, _ => absurd p.length_eq (by simp)
  | x :: xs, y :: ys, p, h, q => by
    obtain ⟨h1, h2⟩ := List.pairwise_cons.mp h
    obtain ⟨q1, q2⟩ := List.pairwise_cons.mp q
    have e : x = y := Int.le_antisymm
      (by rcases List.mem_cons.mp (p.mem_iff.mpr List.mem_cons_self) with z | z
          · rw [z]; exact Int.le_refl _
          · exact h1 y z)
      (by rcases List.mem_cons.mp (p.mem_iff.mp List.mem_cons_self) with z | z
          · rw [z]; exact Int.le_refl _
          · exact q1 x z)
    subst e
    rw [sorted_uniq (List.perm_cons x |>.mp p) h2 q2]
def sortD : D → R D := intsOf fun ns => .ok (.lst ((sortI ns).map D.int))
theorem c_sorted : Cal1 X T (.builtin "sorted") sortD := by
  refine ⟨_, cr_sortedI, fun W d x Hs H Q to is hp => ?_⟩
  obtain ⟨a, ns, rfl, h1, hz, h2⟩ := ints_of to is hp
  refine ⟨a, ns, rfl, h1, fun ns' p k1 k2 hpn => ?_⟩
  have e : ns' = sortI ns := sorted_uniq (k1.trans (sortI_perm ns).symm) k2 (sortI_sorted ns)
  subst e
  have st := Step.lst (vs := (sortI ns).map V.int) to hpn (by rw [List.length_map, (sortI_perm ns).length_eq]; exact hz)
  exact h2 _ _ _ st ⟨p, _, rfl, upd_same, IsL.of_ints⟩

/-! ### abs, max, min of two, int, tuple, list -/
def absD : D → R D
  | .int i => .ok (.int (if i < 0 then -i else i))
  | _ => .no
theorem c_abs : Cal1 X T (.builtin "abs") absD := by
  refine ⟨_, call_abs, fun W d x Hs H Q to is hp => ?_⟩
  cases d with
  | int i =>
    cases is.flat (fun _ z => nomatch z)
    exact ⟨i, rfl, PostG.ret (rel := rIs X.K X.mg) hp to rfl⟩
  | _ => exact hp.elim
def max2D : D → D → R D := intsD (fun _ _ => true) fun i j => .int (if j > i then j else i)
def min2D : D → D → R D := intsD (fun _ _ => true) fun i j => .int (if j < i then j else i)
theorem c_ints2 {f : Value} {g : Int → Int → D} {g' : Int → Int → V} (hgg : ∀ i j, ∃ k, g i j = .int k ∧ g' i j = .int k) (h : CallR X f (fun xs H Q => ∃ i j, xs = [.int i, .int j] ∧ Q (g' i j) H)) : Cal2 X T f (intsD (fun _ _ => true) g) := by
  refine ⟨_, h, fun W d d2 x y Hs H Q to is is2 hp => ?_⟩
  unfold intsD at hp
  split at hp
  · rename_i i j
    cases is.flat (fun _ z => nomatch z)
    cases is2.flat (fun _ z => nomatch z)
    obtain ⟨k, e1, e2⟩ := hgg i j
    refine ⟨i, j, rfl, ?_⟩
    rw [if_pos rfl, e1] at hp
    rw [e2]
    exact PostG.ret (rel := rIs X.K X.mg) hp to rfl
  · exact hp.elim
theorem c_max2 (hc : X.calm = true) : Cal2 X T (.builtin "max") max2D := c_ints2 (fun i j => ⟨_, rfl, rfl⟩) (call_max2 hc)
theorem c_min2 (hc : X.calm = true) : Cal2 X T (.builtin "min") min2D := c_ints2 (fun i j => ⟨_, rfl, rfl⟩) (call_min2 hc)
def intD : D → R D
  | .int i => .ok (.int i)
  | .bl b => .ok (.int (if b then 1 else 0))
  | _ => .no
theorem c_int : Cal1 X T (.type "int") intD := by
  refine ⟨_, call_int1, fun W d x Hs H Q to is hp => ?_⟩
  cases d with
  | int i =>
    cases is.flat (fun _ z => nomatch z)
    exact .inl ⟨i, rfl, PostG.ret (rel := rIs X.K X.mg) hp to rfl⟩
  | bl b =>
    cases is.flat (fun _ z => nomatch z)
    exact .inr ⟨b, rfl, PostG.ret (rel := rIs X.K X.mg) hp to rfl⟩
  | _ => exact hp.elim
def tupD : D → R D
  | .lst ds => .ok (.tup ds)
  | .tup ds => .ok (.tup ds)
  | _ => .no
theorem c_tuple : Cal1 X T (.type "tuple") tupD := by
  refine ⟨_, call_tuple_of, fun W d x Hs H Q to is hp => ?_⟩
  cases d with
  | lst ds =>
    obtain ⟨p, vs, rfl, p1, p3, p4⟩ := is.lst to
    refine ⟨p, vs, rfl, .inl ⟨.of p1, fun c hc => ?_⟩⟩
    have st := Step.tup to hc p4
    exact (show PostG T (rIs X.K X.mg) W (.ok (.tup ds)) Hs H Q from hp) _ _ _ st ⟨c, _, rfl, .of upd_same, IsL.mono st.s _ _ p3⟩
  | tup ds =>
    obtain ⟨p, vs, rfl, p1, p2, p3, p4⟩ := is.tup to
    exact ⟨p, vs, rfl, .inr ⟨p1, PostG.ret (rel := rIs X.K X.mg) hp to ⟨p, vs, rfl, p2, p3⟩⟩⟩
  | _ => exact hp.elim
def lstD : D → R D
  | .lst ds => .ok (.lst ds)
  | .tup ds => .ok (.lst ds)
  | _ => .no
theorem c_list : Cal1 X T (.type "list") lstD := by
  refine ⟨_, call_list_of, fun W d x Hs H Q to is hp => ?_⟩
  cases d with
  | lst ds =>
    obtain ⟨p, vs, rfl, p1, p3, p4⟩ := is.lst to
    refine ⟨p, vs, rfl, .inl (.of p1), fun c hc => ?_⟩
    have st := Step.lst to hc p4
    exact (show PostG T (rIs X.K X.mg) W (.ok (.lst ds)) Hs H Q from hp) _ _ _ st ⟨c, _, rfl, upd_same, IsL.mono st.s _ _ p3⟩
  | tup ds =>
    obtain ⟨p, vs, rfl, p1, p2, p3, p4⟩ := is.tup to
    refine ⟨p, vs, rfl, .inr p1, fun c hc => ?_⟩
    have st := Step.lst to hc p4
    exact (show PostG T (rIs X.K X.mg) W (.ok (.lst ds)) Hs H Q from hp) _ _ _ st ⟨c, _, rfl, upd_same, IsL.mono st.s _ _ p3⟩
  | _ => exact hp.elim

/-! ### isinstance(x, T), T a built-in type -/
def tyN : D → String
  | .non => "NoneType"
  | .bl _ => "bool"
  | .int _ => "int"
  | .str _ => "str"
  | .fn _ => ""
  | .scr _ => ""
  | .adr _ => ""
  | .tup _ => "tuple"
  | .lst _ => "list"
def isiD (T : String) (d : D) : R D := if tyN d = "" then .no else match kitB (tyN d) T with
  | some b => .ok (.bl b)
  | none => .no
theorem tyX_of {Hs H : Hp} {d : D} {x : V} (to : At T Hs H) (is : IsT X.K X.mg Hs H d x) (h : tyN d ≠ "") : TyX X.K H x (.type (tyN d)) := by
  cases d with
  | non => cases is.flat (fun _ z => nomatch z); exact .base .non
  | bl b => cases is.flat (fun _ z => nomatch z); exact .base (.bl b)
  | int i => cases is.flat (fun _ z => nomatch z); exact .base (.int i)
  | str i => cases is.flat (fun _ z => nomatch z); exact .base (.str i)
  | fn _ => exact absurd rfl h
  | scr _ => exact absurd rfl h
  | adr _ => exact absurd rfl h
  | lst ds =>
    obtain ⟨p, vs, rfl, p1, p3, p4⟩ := is.lst to
    exact .base (.lst p1)
  | tup ds =>
    obtain ⟨p, vs, rfl, p1, p2, p3, p4⟩ := is.tup to
    rcases p1 with (p1 | ⟨o, p1⟩) | ⟨o, its, n, k1, k2, _⟩
    · exact .base (.tup p1)
    · exact .fTuple p1
    · exact .kTuple k1 k2
theorem pd_isi {t : Str} {Ty : String} {pt : Pos} (hg : Gl X "isinstance") (hm : X.mg "isinstance" = none) (ha : PDt X T W a ma) (hgt : Gl X t) (hmt : X.mg t = none) (hvt : bootBuiltins t = some (.type Ty)) (hnt : t ≠ "__name__" := by decide) (hdt : (t == ("__debug__" : Str)) = false := by decide)
    (hs : starEach [a, .Name t pt] X.env = (false, eval a X.env) :: starEach [.Name t pt] X.env := by rfl) (hs2 : starEach [.Name t pt] X.env = (false, eval (.Name t pt) X.env) :: starEach [] X.env := by rfl) (hpl : (backTo pos (starEach [.Name t pt] X.env)).any (·.1) = false := by rfl) :
    PD X T W (.Call (.Name "isinstance" p) [a, .Name t pt] [] pos) (mUn (isiD Ty) ma) := by
  obtain ⟨ta, pa, ea⟩ := ha
  refine ⟨_, pe_callB call_isi hg hm PyProof.Rows.boot_isinstance (pa_cons pa (pa_cons (pe_bltn (v := .ty Ty) hgt hmt hvt rfl hnt hdt) pa_nil hs2) hs) (by decide) (by decide) hs hpl, fun ρ Hs σ H Q rp hp => ea ρ Hs σ H _ rp (PostG.mono (PostG.bind hp) fun v H1 ⟨Hs1, d, st, is, hp1⟩ => ?_)⟩
  have hp1 : PostG T (rIs X.K X.mg) W (isiD Ty d) Hs1 H1 Q := hp1
  unfold isiD at hp1
  by_cases h : tyN d = ""
  · rw [if_pos h] at hp1
    exact hp1.elim
  · rw [if_neg h] at hp1
    cases q : kitB (tyN d) Ty with
    | none => simp only [q] at hp1; exact hp1.elim
    | some k =>
      simp only [q] at hp1
      exact ⟨v, .ty Ty, _, _, k, rfl, .ty Ty, tyX_of st.to is h, kit_ty q, PostG.ret (rel := rIs X.K X.mg) hp1 st.to rfl⟩

/-! ### list.index, list.count -/
def idxOf (x : D) : List D → Option Nat
  | [] => none
  | d :: ds => if eqvD d x then some 0 else (idxOf x ds).map (· + 1)
def asL : D → R (List D)
  | .lst ds => .ok ds
  | _ => .no
@[simp] theorem asL_lst (ds : List D) : asL (.lst ds) = .ok ds := rfl
def lixD (ds : List D) (x : D) : R D := if shD 60 x && shL 59 ds then (match idxOf x ds with
    | some j => .ok (.int (j : Nat))
    | none => .no) else .no
def mLix (ma mb : Env → R D) : Env → R D := fun ρ => (ma ρ).bind fun d => (asL d).bind fun ds => (mb ρ).bind fun y => lixD ds y
theorem toPs_get : ∀ {ds : List D} {j : Nat} {p : PyData}, (toPs ds)[j]? = some p → ∃ d, ds[j]? = some d ∧ p = toP d
  | [], _, _, h => by simp [toPs] at h
  | d :: ds, 0, p, h => by
    have h : some (toP d) = some p := h
    cases h
    exact ⟨d, rfl, rfl⟩
  | d :: ds, j + 1, p, h => by
    obtain ⟨e, h1, h2⟩ := toPs_get (ds := ds) (j := j) h
    exact ⟨e, h1, h2⟩
theorem get_toPs : ∀ {ds : List D} {j : Nat} {d : D}, ds[j]? = some d → (toPs ds)[j]? = some (toP d)
  | [], _, _, h => by simp at h
  | d :: ds, 0, e, h => by
    have h : some d = some e := h
    cases h
    rfl
  | d :: ds, j + 1, e, h => get_toPs (ds := ds) (j := j) h
theorem sh_get : ∀ {ds : List D} {n j : Nat} {d : D}, shL n ds = true → ds[j]? = some d → shD n d = true
  | [], _, _, _, _, h => by simp at h
  | d :: ds, n, 0, e, q, h => by
    have h : some d = some e := h
    cases h
    unfold shL at q
    exact (Bool.and_eq_true_iff.mp q).1
  | d :: ds, n, j + 1, e, q, h => by
    unfold shL at q
    exact sh_get (ds := ds) (j := j) (Bool.and_eq_true_iff.mp q).2 h
theorem idxOf_is {x : D} : ∀ {ds : List D} {j : Nat}, idxOf x ds = some j → (∃ d, ds[j]? = some d ∧ eqvD d x = true) ∧ ∀ (m : Nat) (d : D), m < j → ds[m]? = some d → eqvD d x = false
  | [], j, h => by cases h
  | d :: ds, j, h => by
    unfold idxOf at h
    by_cases e : eqvD d x = true
    · rw [if_pos e] at h
      cases h
      exact ⟨⟨d, rfl, e⟩, fun m _ h => absurd h (Nat.not_lt_zero m)⟩
    · rw [if_neg e] at h
      cases q : idxOf x ds with
      | none => rw [q] at h; cases h
      | some k =>
        rw [q] at h
        have h : some (k + 1) = some j := h
        cases h
        obtain ⟨⟨d', h1, h2⟩, h3⟩ := idxOf_is q
        refine ⟨⟨d', h1, h2⟩, fun m d2 hm hd => ?_⟩
        cases m with
        | zero =>
          have hd : some d = some d2 := hd
          cases hd
          simpa using e
        | succ m => exact h3 m d2 (by omega) hd
theorem pd_lix {p2 p3 : Pos} (hu : X.A.units + 65 < cLine) (ha : PDt X T W a ma) (hb : PDt X T W b mb)
    (hbase : attributeBase a "index" X.env (eval a X.env) = eval a X.env := by rfl)
    (hfew : ((backTo p3 (starEach [b] X.env)).all (fun x => !x.1) && (backToKw p3 (keywordEach [] X.env)).all (fun x => x.1.isSome) && decide ([b].length + ([] : List Keyword).length + (if ([] : List Keyword).isEmpty then 0 else 1) < 30)) = true := by rfl)
    (hline : (p2.endLine == p3.line) = true := by rfl) (hst : starEach [b] X.env = (false, eval b X.env) :: starEach [] X.env := by rfl) (hplain : (backTo p3 (starEach [] X.env)).any (·.1) = false := by rfl) :
    PD X T W (.Call (.Attribute a "index" p2) [b] [] p3) (mLix ma mb) := by
  obtain ⟨ta, pa, ea⟩ := ha
  obtain ⟨tb, pb, eb⟩ := hb
  refine ⟨_, pe_bm PySem.F.plainAttrs_list PySem.F.slot_list_index PySem.F.type_list_index (mt_indexD hu) pa (pa_cons pb pa_nil hst) hbase hfew hline hst hplain, fun ρ Hs σ H Q rp hp => ea ρ Hs σ H _ rp (PostG.mono (PostG.bind hp) fun v H1 ⟨Hs1, d, st, is, hp1⟩ => ?_)⟩
  cases d with
  | lst ds =>
    obtain ⟨q, vs, rfl, q1, q2, q3⟩ := is.lst st.to
    refine ⟨.inl ⟨rfl, _, .of q1⟩, eb ρ Hs1 σ H1 _ (rp.step st) (PostG.mono (PostG.bind hp1) fun u H2 ⟨Hs2, d2, st2, is2, hp2⟩ => ?_)⟩
    have hp2 : PostG T (rIs X.K X.mg) W (lixD ds d2) Hs2 H2 Q := hp2
    unfold lixD at hp2
    cases c : (shD 60 d2 && shL 59 ds) with
    | false => simp only [c] at hp2; exact hp2.elim
    | true =>
      simp only [c, if_true] at hp2
      obtain ⟨c1, c2⟩ := Bool.and_eq_true_iff.mp c
      cases e : idxOf d2 ds with
      | none => simp only [e] at hp2; exact hp2.elim
      | some j =>
        simp only [e] at hp2
        obtain ⟨⟨d3, h1, h2⟩, h3⟩ := idxOf_is e
        have sh : shD 60 (.lst ds) = true := by unfold shD; exact Bool.and_eq_true_iff.mpr ⟨rfl, c2⟩
        have c2' := shL_up ds 59 60 (by omega) c2
        refine ⟨q, u, toP d2, toPs ds, j, toP d3, rfl, rfl, dp_of (.lst ds) 60 _ sh ((is.step st2).full st2.to), dp_of d2 60 u c1 (is2.full st2.to), shaped_of sh, shaped_of c1, get_toPs h1, by rw [eqv_toP d3 d2 60 (sh_get c2' h1) c1]; exact h2, fun mm z' hm hz => ?_, PostG.ret (rel := rIs X.K X.mg) hp2 st2.to rfl⟩
        obtain ⟨d4, k1, rfl⟩ := toPs_get hz
        rw [eqv_toP d4 d2 60 (sh_get c2' k1) c1]
        exact h3 mm d4 hm k1
  | _ => exact hp1.elim
end
end FL
namespace FL
open PySem PySem.Spec PyProof.Rows L2
def bigFu : Nat := 1000000
theorem bt_len : bootBuiltins "len" = some (.builtin "len") := by decide +kernel
theorem bt_sum : bootBuiltins "sum" = some (.builtin "sum") := by decide +kernel
theorem bt_min : bootBuiltins "min" = some (.builtin "min") := by decide +kernel
theorem bt_max : bootBuiltins "max" = some (.builtin "max") := by decide +kernel
theorem bt_all : bootBuiltins "all" = some (.builtin "all") := by decide +kernel
theorem bt_any : bootBuiltins "any" = some (.builtin "any") := by decide +kernel
theorem bt_sorted : bootBuiltins "sorted" = some (.builtin "sorted") := by decide +kernel
theorem bt_abs : bootBuiltins "abs" = some (.builtin "abs") := by decide +kernel
theorem bt_isinstance : bootBuiltins "isinstance" = some (.builtin "isinstance") := by decide +kernel
theorem bt_int : bootBuiltins "int" = some (.type "int") := by decide +kernel
theorem bt_bool : bootBuiltins "bool" = some (.type "bool") := by decide +kernel
theorem bt_str : bootBuiltins "str" = some (.type "str") := by decide +kernel
theorem bt_list : bootBuiltins "list" = some (.type "list") := by decide +kernel
theorem bt_tuple : bootBuiltins "tuple" = some (.type "tuple") := by decide +kernel
theorem bt_dict : bootBuiltins "dict" = some (.type "dict") := by decide +kernel
theorem bt_set : bootBuiltins "set" = some (.type "set") := by decide +kernel
theorem bt_range : bootBuiltins "range" = some (.type "range") := by decide +kernel
theorem bt_zip : bootBuiltins "zip" = some (.type "zip") := by decide +kernel
theorem bt_enumerate : bootBuiltins "enumerate" = some (.type "enumerate") := by decide +kernel
/-! ### defs by name -/
/-- where a def of the text stands -/
structure FunG (K : PySem.W.Frag) (mg : Str → Option Value) (x : Str) (st : Stmt) : Prop where
  ex : ∃ f fd, FunD K x x (defArgs st) (defBody st) (defScope st) [] [] f fd ∧ mg x = some (.ref f)
/-- the def x keeps the promise F -/
structure Def (P : Program) (w : World) (K : PySem.W.Frag) (mg : Str → Option Value) (base : Heap) (T : List (Addr × Str)) (x : Str) (k : Nat) (ps : List Str) (F : List D → R D) : Prop where
  ex : ∃ f fd, FnOk P w K mg base (L2N.CX P w) k f fd ps (spD K mg T ps.length F) ∧ mg x = some (.ref f) ∧ PySem.W.keepIn K (.ref f) = true ∧ Binds K fd ps []
section
variable {X : Cx} {T : List (Addr × Str)} {W : Str → Hp → Prop} {e a b : Expr} {es : List Expr} {m ma mb : Env → R D} {pos p : Pos}
theorem pd_callD {k j n : Nat} {ps : List Str} {x : Str} {F : List D → R D} {r : Env → R (List D)} (G : Def X.prog X.w X.K X.mg X.base T x k ps F) (c : Cg X W j) (hk : k ≤ j) (hg : Gl X x) (hn : ps.length = n) (ha : PAD X T W (e :: es) r)
    (hdb : (x == ("__debug__" : Str)) = false := by decide) (he : starEach (e :: es) X.env = (false, eval e X.env) :: starEach es X.env := by rfl) (hpl : (backTo pos (starEach es X.env)).any (·.1) = false := by rfl) :
    PD X T W (.Call (.Name x p) (e :: es) [] pos) (mCall n F r) := by
  subst hn
  obtain ⟨f, fd, G, hm, kp, hb⟩ := G.ex
  exact pd_call G c hk hg hm kp hb ha hdb he hpl
/-- a def of the module as a value -/
theorem pd_fnD {k : Nat} {ps : List Str} {x : Str} {F : List D → R D} (G : Def X.prog X.w X.K X.mg X.base T x k ps F) (hg : Gl X x) (hd : (x == ("__debug__" : Str)) = false := by decide) : PD X T W (.Name x pos) (mC (.fn x)) := by
  obtain ⟨f, fd, G, hm, kp, hb⟩ := G.ex
  exact pd_fn hg hm hd
def negD : D → R D
  | .int i => .ok (.int (-i))
  | _ => .no
theorem pd_neg (ha : PDt X T W a ma) : PD X T W (.UnaryOp .USub a pos) (mUn negD ma) := by
  obtain ⟨ta, pa, ea⟩ := ha
  refine ⟨_, pe_un un_neg pa, fun ρ Hs σ H Q rp hp => ea ρ Hs σ H _ rp (PostG.mono (PostG.bind hp) fun v H1 ⟨Hs1, d, st, is, hp1⟩ => ?_)⟩
  cases d with
  | int i =>
    cases is.flat (fun _ z => nomatch z)
    exact ⟨i, rfl, PostG.ret (rel := rIs X.K X.mg) hp1 st.to rfl⟩
  | _ => exact hp1.elim
end
theorem def_of {P : Program} {w : World} {K : PySem.W.Frag} {mg : Str → Option Value} {base : Heap} {T : List (Addr × Str)} {x : Str} {st : Stmt} {N ps : List Str} {k na nb : Nat} {m : Env → Oc}
    (F : FunG K mg x st) (S : FnScope N ps (defScope st)) (hN : N.length = na) (hP : ps.length = nb)
    (hb : ∀ (kV doc pm : Value) (an : Option Addr) (cdv ct : Value) (us : List Value), us.length = ps.length → bindArgs (PySem.W.fnOf x x (defArgs st) (defBody st) (defScope st) .none kV doc pm an cdv ct) ⟨us, []⟩ = pure (ps.zip us))
    (hbody : ∀ (f : Addr) (cdv : Value) (A : Around) (outer : List PySem.Env) (s : Shared) (H : Hp) (E : XK), Cg (cxOf (L2N.CX P w) P w K mg base N x (defScope st) f cdv A outer s H E) (Wof mg E) k → L2N.Takes (cxOf (L2N.CX P w) P w K mg base N x (defScope st) f cdv A outer s H E) (fun cls d _ H => EW mg (Wof mg E) cls d H) →
      PassesOwn (model P w) (A.deeper (envOfC x (defScope st) s.heap.objs.size f cdv)) (envOfC x (defScope st) s.heap.objs.size f cdv) (cxOf (L2N.CX P w) P w K mg base N x (defScope st) f cdv A outer s H E).xe →
      PDSs (cxOf (L2N.CX P w) P w K mg base N x (defScope st) f cdv A outer s H E) T (Wof mg E) (defBody st) m) :
    Def P w K mg base T x (k + 1) ps (runF na nb m) := by
  subst hN hP
  obtain ⟨f, fd, F, hg⟩ := F.ex
  exact ⟨f, fd, fn_okD F S (hbody f), hg, F.kp, F.bindsN hb⟩
end FL
set_option maxHeartbeats 4000000
/-! FL7: sets of a tuple's ints, list(range(..)). -/
namespace FL
open PySem PySem.Spec PyProof.Rows L2
/-- the members once each -/
def dst : List Int → List Int
  | [] => []
  | n :: r => if n ∈ r then dst r else n :: dst r
theorem mem_dst (k : Int) : ∀ ns : List Int, k ∈ dst ns ↔ k ∈ ns
  | [] => Iff.rfl
  | n :: r => by
    unfold dst
    by_cases h : n ∈ r
    · rw [if_pos h, mem_dst k r, List.mem_cons]
      exact ⟨.inr, fun z => z.elim (fun e => by rw [e]; exact h) id⟩
    · rw [if_neg h, List.mem_cons, List.mem_cons, mem_dst k r]
theorem dst_nodup : ∀ ns : List Int, (dst ns).Nodup
  | [] => List.nodup_nil
  | n :: r => by
    unfold dst
    by_cases h : n ∈ r
    · rw [if_pos h]; exact dst_nodup r
    · rw [if_neg h]
      exact List.nodup_cons.mpr ⟨fun z => h ((mem_dst n r).mp z), dst_nodup r⟩
theorem dst_len : ∀ ns : List Int, (dst ns).length ≤ ns.length
  | [] => Nat.le_refl _
  | n :: r => by
    unfold dst
    have := dst_len r
    split <;> simp <;> omega
theorem nodup_len : ∀ {xs ys : List Int}, xs.Nodup → ys.Nodup → (∀ k, k ∈ xs ↔ k ∈ ys) → xs.length = ys.length
  | [], ys, _, _, h => by
    cases ys with
    | nil => rfl
    | cons y r => exact absurd ((h y).mpr List.mem_cons_self) (by simp)
  | x :: xs, ys, n, m, h => by
    obtain ⟨n1, n2⟩ := List.nodup_cons.mp n
    have hx : x ∈ ys := (h x).mp List.mem_cons_self
    have m2 := m.erase x
    have e := nodup_len n2 m2 fun k => by
      rw [m.mem_erase_iff]
      constructor
      · intro hk
        exact ⟨fun z => n1 (by rw [← z]; exact hk), (h k).mp (List.mem_cons_of_mem _ hk)⟩
      · intro ⟨h1, h2⟩
        rcases List.mem_cons.mp ((h k).mpr h2) with z | z
        · exact absurd z h1
        · exact z
    have := List.length_erase_of_mem hx
    have pos : 0 < ys.length := List.length_pos_of_mem hx
    rw [List.length_cons]
    omega
theorem Step.keep {T : List (Addr × Str)} {Hs H : Hp} {p : Addr} {o : HO} (h : At T Hs H) (hp : H p = none) : Step T Hs H Hs (upd H p o) :=
  ⟨.refl _, .new hp, ⟨h.sub.trans (.new hp), tabs_ext h.tab fun b u e => by rw [upd_ne (ne_of_none e hp)]; exact e, h.sz⟩, fun _ _ z => z⟩
section
variable {X : Cx} {T : List (Addr × Str)} {W : Str → Hp → Prop} {e a b : Expr} {es : List Expr} {m ma mb : Env → R D} {pos p p2 q : Pos}
def rSetTI (K : PySem.W.Frag) (w : World) : List V → Hp → VK → Prop := fun xs H Q => ∃ (l : Addr) (ns : List Int), xs = [.ref l] ∧ SqT K H l (ns.map V.int) ∧ ns.length < 60 ∧ ∀ c : Addr, H c = none → Q (.ref c) (upd H c (SetO w c (fun j => decide (j ∈ ns)) (dst ns).length))
theorem cr_setTI (hc : X.calm = true) : CallR X (.type "set") (rSetTI X.K X.w) := by
  intro pins s σ H xs us Q I r h
  obtain ⟨l, ns, rfl, hq, hl, k⟩ := h
  rw [Vals.ref1 r]
  obtain ⟨its, rv, ht, hz⟩ := I.tuple hq
  refine call_set_tupI ns (I.ok.hd hc) (show s.heap.IsTuple l its.toArray from ht) (by simpa using rv.ints) (by show _ < 4096; omega) fun h' tk c R hcl hk => ?_
  have hn : H s.heap.objs.size = none := I.hok.fresh (Nat.le_refl _)
  have ec : c = (dst ns).length := by
    obtain ⟨o, es, ep, t, ho, hx, hd, g, nd, hm, hb, hf, hn, _⟩ := R
    have e := nodup_len nd (dst_nodup ns) fun k => by
      rw [← hm k, mem_dst]
      exact decide_eq_true_iff
    rw [List.length_map, Array.length_toList, hn] at e
    exact e
  subst ec
  exact ⟨.ref s.heap.objs.size, _, I.laid hk (Nat.le_refl _) (setO_new R), rfl, k _ hn⟩
def rLenSet (w : World) : List V → Hp → VK → Prop := fun xs H Q => ∃ (l : Addr) (S : Int → Bool) (n : Nat), xs = [.ref l] ∧ H l = some (SetO w l S n) ∧ Q (.int (n : Nat)) H
theorem cr_lenSet : CallR X (.builtin "len") (rLenSet X.w) := by
  intro pins s σ H xs us Q I r h
  obtain ⟨l, S, n, rfl, ha, k⟩ := h
  rw [Vals.ref1 r]
  obtain ⟨o, es, ep, t, ho, hx, hd, g, nd, hm, hb, hf, hn, _⟩ := setO_get I ha
  subst hn
  refine call_len_set ho hx hd hf (by have : scanBound = 4096 := rfl; omega) ⟨.int (es.size : Nat), H, I.tok _, ⟨_, rfl⟩, k⟩
def tintsD : D → R (List Int)
  | .tup ds => match asInts ds with
    | some ns => if ns.length < 60 then .ok ns else .no
    | none => .no
  | _ => .no
theorem tints_of {d : D} {x : V} {Hs H : Hp} {ns : List Int} (to : At T Hs H) (is : IsT X.K X.mg Hs H d x) (h : tintsD d = .ok ns) : ∃ a, x = .ref a ∧ SqT X.K H a (ns.map V.int) ∧ ns.length < 60 := by
  cases d with
  | tup ds =>
    unfold tintsD at h
    cases e : asInts ds with
    | none => simp only [e] at h; cases h
    | some ms =>
      simp only [e] at h
      by_cases hl : ms.length < 60
      · rw [if_pos hl] at h
        cases h
        have e := asInts_eq e
        subst e
        obtain ⟨p, vs, rfl, p1, p2, p3, p4⟩ := is.tup to
        rw [p3.ints] at p1
        exact ⟨p, rfl, p1, hl⟩
      · rw [if_neg hl] at h
        cases h
  | _ => cases h
/-- len(set(e)), sorted(set(e)) -/
def mLenSet (m : Env → R D) : Env → R D := fun ρ => (m ρ).bind fun d => (tintsD d).bind fun ns => .ok (.int ((dst ns).length : Nat))
def mSortSet (m : Env → R D) : Env → R D := fun ρ => (m ρ).bind fun d => (tintsD d).bind fun ns => .ok (.lst ((sortI (dst ns)).map D.int))
theorem tints_ner (d : D) (c : Str) : tintsD d ≠ .er c := by
  cases d with
  | tup ds =>
    intro h
    unfold tintsD at h
    cases e : asInts ds with
    | none => simp only [e] at h; cases h
    | some ms =>
      simp only [e] at h
      by_cases hl : ms.length < 60
      · rw [if_pos hl] at h; cases h
      · rw [if_neg hl] at h; cases h
  | _ => intro h; cases h
theorem pd_lenset (hc : X.calm = true) (hg : Gl X "len") (hm : X.mg "len" = none) (hg2 : Gl X "set") (hm2 : X.mg "set" = none) (ha : PDt X T W a ma) (hs : starEach [a] X.env = (false, eval a X.env) :: starEach [] X.env := by rfl)
    (hs2 : starEach [.Call (.Name "set" p2) [a] [] q] X.env = (false, eval (.Call (.Name "set" p2) [a] [] q) X.env) :: starEach [] X.env := by rfl) : PD X T W (.Call (.Name "len" p) [.Call (.Name "set" p2) [a] [] q] [] pos) (mLenSet ma) := by
  obtain ⟨ta, pa, ea⟩ := ha
  refine ⟨_, pe_callB cr_lenSet hg hm bt_len (pa_cons (pe_callTy (cr_setTI hc) hg2 hm2 bt_set (pa_cons pa pa_nil hs) (by decide) (by decide) hs rfl) pa_nil hs2) (by decide) (by decide) hs2 rfl, fun ρ Hs σ H Q rp hp => ea ρ Hs σ H _ rp (PostG.mono (PostG.bind hp) fun v H1 ⟨Hs1, d, st, is, hp1⟩ => ?_)⟩
  cases e : tintsD d with
  | er c => exact absurd e (tints_ner d c)
  | no => rw [e] at hp1; exact hp1.elim
  | ok ns =>
    rw [e] at hp1
    obtain ⟨l, rfl, h1, h2⟩ := tints_of st.to is e
    exact ⟨l, ns, rfl, h1, h2, fun c hc => ⟨c, _, _, rfl, upd_same, (show PostG T (rIs X.K X.mg) W (.ok (.int ((dst ns).length : Nat))) Hs1 H1 Q from hp1) _ _ _ (.keep st.to hc) rfl⟩⟩
theorem pd_sortset (hc : X.calm = true) (hg : Gl X "sorted") (hm : X.mg "sorted" = none) (hg2 : Gl X "set") (hm2 : X.mg "set" = none) (ha : PDt X T W a ma) (hs : starEach [a] X.env = (false, eval a X.env) :: starEach [] X.env := by rfl)
    (hs2 : starEach [.Call (.Name "set" p2) [a] [] q] X.env = (false, eval (.Call (.Name "set" p2) [a] [] q) X.env) :: starEach [] X.env := by rfl) : PD X T W (.Call (.Name "sorted" p) [.Call (.Name "set" p2) [a] [] q] [] pos) (mSortSet ma) := by
  obtain ⟨ta, pa, ea⟩ := ha
  refine ⟨_, pe_callB (cr_sortedSet hc) hg hm bt_sorted (pa_cons (pe_callTy (cr_setTI hc) hg2 hm2 bt_set (pa_cons pa pa_nil hs) (by decide) (by decide) hs rfl) pa_nil hs2) (by decide) (by decide) hs2 rfl, fun ρ Hs σ H Q rp hp => ea ρ Hs σ H _ rp (PostG.mono (PostG.bind hp) fun v H1 ⟨Hs1, d, st, is, hp1⟩ => ?_)⟩
  cases e : tintsD d with
  | er c => exact absurd e (tints_ner d c)
  | no => rw [e] at hp1; exact hp1.elim
  | ok ns =>
    rw [e] at hp1
    obtain ⟨l, rfl, h1, h2⟩ := tints_of st.to is e
    refine ⟨l, ns, rfl, h1, h2, fun c hc => ⟨c, _, _, rfl, upd_same, by have := dst_len ns; omega, fun ms c2 k1 k2 k3 hc2 => ?_⟩⟩
    have st2 : Step T Hs1 H1 Hs1 _ := .keep (o := SetO X.w c (fun j => decide (j ∈ ns)) (dst ns).length) st.to hc
    have es : ms = sortI (dst ns) := by
      have np : ms.Nodup := k1.imp fun h => Int.ne_of_lt h
      refine sorted_uniq ?_ (k1.imp fun h => Int.le_of_lt h) (sortI_sorted _)
      refine List.Perm.trans ?_ (sortI_perm _).symm
      rw [List.perm_iff_count]
      intro k
      have c1 : ms.count k = if k ∈ ms then 1 else 0 := np.count
      have c2 : (dst ns).count k = if k ∈ dst ns then 1 else 0 := (dst_nodup ns).count
      rw [c1, c2]
      have : k ∈ ms ↔ k ∈ dst ns := by
        rw [k2 k, mem_dst]
        exact decide_eq_true_iff
      simp only [this]
    subst es
    have hz : ((sortI (dst ns)).map V.int).length ≤ sizeLine := by
      have := dst_len ns
      rw [List.length_map, k3, sizeLine_eq]
      omega
    have st3 := st2.trans (Step.lst st2.to hc2 hz)
    exact (show PostG T (rIs X.K X.mg) W (.ok (.lst ((sortI (dst ns)).map D.int))) Hs1 H1 Q from hp1) _ _ _ st3 ⟨c2, _, rfl, upd_same, IsL.of_ints⟩
/-- list(range(e)) -/
def lrD (d : D) : R D := (rg1D d).bind fun l => .ok (.lst l)
theorem is_rg {K : PySem.W.Frag} {mg : Str → Option Value} {H : Hp} (lo hi : Int) : IsL K mg H (rgD lo hi) (rgV lo hi) := by
  unfold rgD rgV
  have : ∀ l : List Nat, IsL K mg H (l.map fun i => D.int (lo + (i : Nat))) (l.map fun i => V.int (lo + (i : Nat))) := fun l => by
    induction l with
    | nil => rfl
    | cons x l ih => exact ⟨_, _, rfl, rfl, ih⟩
  exact this _
theorem pd_lrange (hg : Gl X "list") (hm : X.mg "list" = none) (hg2 : Gl X "range") (hm2 : X.mg "range" = none) (hc : X.calm = true) (ha : PDt X T W a ma) (hs : starEach [a] X.env = (false, eval a X.env) :: starEach [] X.env := by rfl)
    (hs2 : starEach [.Call (.Name "range" p2) [a] [] q] X.env = (false, eval (.Call (.Name "range" p2) [a] [] q) X.env) :: starEach [] X.env := by rfl) : PD X T W (.Call (.Name "list" p) [.Call (.Name "range" p2) [a] [] q] [] pos) (mUn lrD ma) := by
  obtain ⟨ta, pa, ea⟩ := ha
  refine ⟨_, pe_listRg hc hg hm (prg_1 hg2 hm2 pa hs) hs2, fun ρ Hs σ H Q rp hp => ea ρ Hs σ H _ rp (PostG.mono (PostG.bind hp) fun v H1 ⟨Hs1, d, st, is, hp1⟩ => ?_)⟩
  cases d with
  | int j =>
    cases is.flat (fun _ z => nomatch z)
    by_cases hj : -1000000 ≤ j ∧ j ≤ 1000000
    · have hp1 : PostG T (rIs X.K X.mg) W ((rg1D (.int j)).bind fun l => .ok (.lst l)) Hs1 H1 Q := hp1
      rw [show rg1D (.int j) = .ok (rgD 0 j) from if_pos hj] at hp1
      refine ⟨j, rfl, ⟨by omega, by omega, by omega, by omega, by omega⟩, fun c hc => ?_⟩
      have st2 := Step.lst (vs := rgV 0 j) st.to hc (by rw [rgV_length, sizeLine_eq]; omega)
      exact hp1 _ _ _ st2 ⟨c, _, rfl, upd_same, is_rg 0 j⟩
    · have hp1 : PostG T (rIs X.K X.mg) W ((rg1D (.int j)).bind fun l => .ok (.lst l)) Hs1 H1 Q := hp1
      rw [show rg1D (.int j) = .no from if_neg hj] at hp1
      exact hp1.elim
  | _ => exact hp1.elim
end
end FL
set_option maxHeartbeats 4000000
/-! FL8: where an exception is handled: lists gone through, sums, isinstance of the exception. -/
namespace FL
open PySem PySem.Spec PyProof.Rows L2 HotX
open L2H (HotC RoomH Hot1 PinOk cxH inv_startH)
section
variable {prog : Program} {w : World} {A : Around} {E : Value → Shared → Prop} {s : Shared}
theorem list_end_hot {it l x1 : Addr} {i : Nat} {items : Array Value} {Q : Option Value → Shared → Prop} (hot : HotAt A x1 s.heap) (ne : x1 ≠ it) (hit : s.heap.IsListIter it l i) (hl : s.heap.IsList l items) (hx : items[i]? = none)
    (hQ : ∀ h', Heap.ExtBut it s.heap h' → Q none { s with heap := h' }) : wpAny (model prog w) A (pyNext (.ref it)) Q E s := by
  obtain ⟨o, go, gc, gd⟩ := id hit
  obtain ⟨ol, gol, _, nl, gdl⟩ := hl
  obtain ⟨hh, o1, vs1, h1, d1, c1⟩ := hot
  unfold pyNext
  refine wpAny_bind (wpAny_attempt (wpAny_callSpecial?_slot (name := Str.ofString "__next__") hit.typeIs slot_listiter_next
    (wpAny_call_entry slot_listiter_next hit.typeIs entry_listiter_next ?_ (args_listiter_next (.ref it)))))
  show wpAny _ _ (field (Value.ref it) 0 >>= _) _ _ s
  refine wpAny_bind (wpAny_field go gd (x := Value.ref l) rfl ?_)
  show wpAny _ _ (if (Value.ref l == .none) = true then _ else _) _ _ s
  rw [if_neg (show ¬ ((Value.ref l == .none) = true) from Bool.false_ne_true)]
  show wpAny _ _ (field (Value.ref it) 1 >>= _) _ _ s
  refine wpAny_bind (wpAny_field go gd (x := Value.int i 0) rfl ?_)
  show wpAny _ _ (seqItems? (Value.ref l) >>= _) _ _ s
  refine wpAny_bind (wpAny_seqItems gol gdl ?_)
  simp only [hx, Int.toNat_natCast]
  refine wpAny_bind (wpAny_rule (wpAny_bind (wpAny_setField go gd (by simp) ?_)))
  have g1 : (s.heap.update it (Obj.mapFields (·.setIfInBounds 0 Value.none))).get? x1 = some o1 := by
    rw [Heap.get?_update_other _ _ (Ne.symm ne)]; exact h1
  show wpAny _ _ (newExc (Value.type "StopIteration") [] >>= _) _ _ _
  refine wpAny_bind ?_
  simp only [newTuple, newExc]
  refine wpAny_bind (wpAny_newObj_type ?_ (by size_fits))
  refine wpAny_bind (m := firstArgMember _ _) (wpAny_of_eq (a := Value.none) (by first | (simp only [firstArgMember]; rfl) | rfl) ?_)
  refine wpAny_newObj_type ?_ (by size_fits)
  refine raiseNew_hot ⟨hh, o1, vs1, Heap.get?_push_of_some _ (Heap.get?_push_of_some _ g1), d1, c1⟩ (Nat.ne_of_lt (Heap.lt_size (Heap.get?_push_of_some _ g1))) (Heap.get?_push_size _ rfl) rfl (by first | (simp; omega) | (simp only [Array.size_append]; simp; omega) | (simp; done)) ?_
  refine wpAny_bind (wpAny_isInstance (T := "StopIteration") (b := true) ⟨_, Heap.get?_update_self _ (Heap.get?_push_size _ rfl) rfl, rfl⟩ isSubtype_stop ?_)
  refine wpAny_pure (hQ _ fun b u hb e => ?_)
  have e0 := (Heap.SameBut.update (h := s.heap) (a := it) ..).extBut (h' := s.heap.update it (Obj.mapFields (·.setIfInBounds 0 Value.none))) b u hb e
  rw [Heap.get?_update_other _ _ (Nat.ne_of_gt (Heap.lt_size (Heap.get?_push_of_some _ e0)))]
  exact Heap.get?_push_of_some _ (Heap.get?_push_of_some _ e0)
/-- a list gone through there -/
theorem walks_listH (hh : A.handled = some (.ref x1)) (I ax : Addr) (hne : ax ≠ I) (hn1 : x1 ≠ I) (items : Array Value) :
    Walks prog w A I [I, ax, x1] [I] items.size (fun i v => items[i]? = some v) (fun i h => (h.IsListIter I ax i ∧ h.IsList ax items) ∧ HotAt A x1 h) where
  sub := fun b hb => by simp at hb; simp [hb]
  frame := fun _ _ _ st hk => by
    obtain ⟨st, h0, o1, vs1, h1, d1, c1⟩ := st
    exact ⟨⟨st.1.at fun o e => hk I (by simp) o e, st.2.at fun o e => hk ax (by simp) o e⟩, h0, o1, vs1, hk x1 (by simp) o1 h1, d1, c1⟩
  item := fun i s Q E hi st hQ => by
    obtain ⟨st, h0, o1, vs1, h1, d1, c1⟩ := st
    refine wpAny_pyNext_list_item st.1 st.2 (x := items[i]) (by simp [hi]) fun h' i' s' => ?_
    exact hQ _ h' s.toks (by simp [hi]) ⟨⟨i', st.2.extBut s'.extBut hne⟩, h0, o1, vs1, s'.extBut x1 o1 hn1 h1, d1, c1⟩ fun b o hb e => s'.extBut b o (fun h => hb (by simp [h])) e
  done := fun s Q E st hQ => list_end_hot st.2 hn1 st.1.1 st.1.2 (by simp) fun h' he' => hQ h' s.toks fun b o hb e => he' b o (fun h => hb (by simp [h])) e
  self := fun _ _ _ _ st hQ => wpAny_pyIter_listiter st.1.1 hQ
end
section
variable {X : Cx} {T : List (Addr × Str)}
/-- sum of a few small ints -/
def rSumH (K : PySem.W.Frag) : List V → Hp → VK → Prop := fun vs H Q => ∃ (a : Addr) (ns : List Int), vs = [V.ref a] ∧ SqL K H a (ns.map V.int) ∧ ns.length ≤ 1000 ∧ (∀ n ∈ ns, 0 ≤ n ∧ n ≤ 1) ∧ Q (.int ns.sum) H
theorem sum01 : ∀ {ns : List Int}, (∀ n ∈ ns, 0 ≤ n ∧ n ≤ 1) → 0 ≤ ns.sum ∧ ns.sum ≤ ns.length
  | [], _ => by simp
  | n :: ns, h => by
    obtain ⟨h1, h2⟩ := sum01 (ns := ns) fun m hm => h m (List.mem_cons_of_mem _ hm)
    obtain ⟨h3, h4⟩ := h n List.mem_cons_self
    rw [List.sum_cons, List.length_cons]
    constructor <;> omega
theorem call_sumH (hc : HotC X) : CallR X (.builtin "sum") (rSumH X.K) := by
  intro pins s σ H vs us Q I r h
  obtain ⟨a, ns, rfl, hs, hz, h01, q⟩ := h
  obtain ⟨its, rv, hl, _⟩ := I.list hs
  rw [Vals.ref1 r]
  have hi := rv.ints
  obtain ⟨xs, e⟩ := hi.allInts.items
  have hn : numsOf (intItems xs).toList = ns := by rw [← e]; exact hi.numsOf
  rw [nums_intItems] at hn
  have hl := hl.isList
  rw [e] at hl
  obtain ⟨x1, hot⟩ := hc.at I
  obtain ⟨hh, o1, vs1, h1, d1, c1⟩ := id hot
  refine call_sum_walk (iter_intList hl fun s2 e2 st hfp hlI => ?_)
  subst e2
  have lt1 := Heap.lt_size h1
  have hsz : xs.size = ns.length := by rw [← hn]; simp
  have key : ∀ j : Nat, preSum (numAt xs) j = (ns.take j).sum := fun j => by rw [preSum_eq, hn]
  refine ⟨_, _, _, _, _, _, numAt xs, rfl, walks_listH (A := X.A.in1) hh _ a hlI (Nat.ne_of_lt lt1) (intItems xs), ⟨st, hh, o1, vs1, Heap.get?_push_of_some _ h1, d1, c1⟩, fun b hb => ?_, (fun _ _ => intItems_at), fun j hj => ?_, fun h' tk t' hk => ?_⟩
  · simp only [List.mem_cons, List.not_mem_nil, or_false] at hb
    rcases hb with hb | hb | hb
    · exact hfp b (by simp [hb])
    · exact hfp b (by simp [hb])
    · rw [hb]
      show x1 < (s.heap.push _).objs.size
      rw [Heap.size_push]
      exact Nat.lt_succ_of_lt lt1
  · have hj' : j < ns.length := by rw [← hsz]; simpa [intItems] using hj
    have m1 : numAt xs j ∈ ns := by
      rw [numAt_eq, hn]
      exact PySem.getD_mem hj'
    obtain ⟨k1, k2⟩ := h01 _ m1
    obtain ⟨k3, k4⟩ := sum01 (ns := ns.take (j + 1)) fun m hm => h01 m (List.mem_of_mem_take hm)
    rw [key (j + 1)]
    have k5 : (ns.take (j + 1)).length ≤ 1000 := Nat.le_trans (by rw [List.length_take]; omega) hz
    unfold InLong
    omega
  · have kp : ∀ b o, s.heap.get? b = some o → h'.get? b = some o := fun b o e => hk b o (fun hm => by
      have e1 : b = s.heap.objs.size := by simpa using hm
      exact absurd (e1 ▸ Heap.lt_size e) (Nat.lt_irrefl _)) (Heap.get?_push_of_some _ e)
    have z : preSum (numAt xs) (intItems xs).size = ns.sum := by
      rw [key, List.take_of_length_le (by simp [intItems, hsz])]
    rw [z]
    exact ⟨.int _, H, I.kept kp, ⟨_, rfl⟩, q⟩
end
end FL
set_option maxHeartbeats 4000000
/-! FL9: a list comprehension over a list where an exception is handled. -/
namespace FL
open PySem PySem.Spec PyProof.Rows L2 HotX
open L2H (HotC RoomH Hot1 PinOk cxH inv_startH)
section
variable {X : Cx}
/-- what a turn over a list gives there -/
theorem turn_hot {P : Program} {w : World} {K : PySem.W.Frag} {tg : Expr} {a it x1 i : Nat} {Y : Cx} {pz : List (Addr × Obj)} {s : Shared} {τ : L2.St} {H : Hp} {E : Value → Shared → Prop}
    (hP : Y.prog = P) (hw : Y.w = w) (hK : Y.K = K) (I : Inv Y pz τ H s) (hf : FpOk Y pz H it) (st : s.heap.IsListIter it a i) (hg : (Itl K a).go i H) :
    wpAny (model P w) Y.A (pyNext (.ref it)) (fun r s1 => ∃ u, r = some u ∧ wpAny (model P w) Y.A (letOwnedTupleGo tg (.ref it) u) (fun _ s2 => ∃ x H', Inv Y pz τ H' s2 ∧ RelV x u ∧ (Itl K a).yld i H x H' ∧ s2.heap.IsListIter it a (i + 1) ∧ H' it = none) E s1) E s := by
  subst hP hw hK
  obtain ⟨xs, x, hq, hx⟩ := hg
  obtain ⟨its, rv, p, hz⟩ := I.list hq
  obtain ⟨u, hu, ru⟩ := rv.get hx
  obtain ⟨f0, f1, f2, f3, f4, f5⟩ := id hf
  refine wpAny_pyNext_list_item st p.isList (x := u) (by simpa using hu) fun h' st' sb => ?_
  have I1 : Inv Y pz τ H { s with heap := h' } := I.turned (t' := s.toks) (fun b o hb e => (sb.2 b hb).trans e) f0 f1 f3 f4 f5
  obtain ⟨o, e, c, d⟩ := id st'
  exact ⟨u, rfl, go_of (s := { s with heap := h' }) e c d (by decide) ⟨x, H, I1, ru, ⟨rfl, fun ys hy => by rw [I.list_inj hy hq]; exact hx⟩, st', f0⟩⟩
theorem done_hot {P : Program} {w : World} {K : PySem.W.Frag} {a it x1 i : Nat} {Y : Cx} {pz : List (Addr × Obj)} {s : Shared} {τ : L2.St} {H : Hp} {E : Value → Shared → Prop}
    (hP : Y.prog = P) (hw : Y.w = w) (hK : Y.K = K) (I : Inv Y pz τ H s) (hf : FpOk Y pz H it) (st : s.heap.IsListIter it a i) (hg : (Itl K a).stop i H) (hot : HotAt Y.A x1 s.heap) (ne : x1 ≠ it) :
    wpAny (model P w) Y.A (pyNext (.ref it)) (fun r s1 => r = none ∧ Inv Y pz τ H s1) E s := by
  subst hP hw hK
  obtain ⟨xs, hq, hx⟩ := hg
  obtain ⟨its, rv, p, hz⟩ := I.list hq
  obtain ⟨f0, f1, f2, f3, f4, f5⟩ := id hf
  have hl := rv.length
  exact list_end_hot hot ne st p.isList (by simp; omega) fun h' eb => ⟨rfl, I.turned (t' := s.toks) (fun b o hb e => eb b o hb e) f0 f1 f3 f4 f5⟩
/-- [elt for tg in iter if ..] there, iter a list -/
theorem pe_lcH {elt tg iter : Expr} {ifs : List Expr} {sco : Scope} {ow : List (Str × Nat)} {pos : Pos} {tl : TE} {g : TG} {tt : TT} {te : TE} (hc : HotC X) (hN : X.N.Nodup) (hl : PE X iter tl) (bok : BlkOk X.N X.env.scope sco ow)
    (hg : ∀ (s : Shared) (H : Hp) (C : Addr) (cl : List (Str × Addr)) (fp : List Addr), PG (X.blk s H sco (compEnvC sco cl C X.env) fp) tg g)
    (ht : ∀ (s : Shared) (H : Hp) (C : Addr) (cl : List (Str × Addr)) (fp : List Addr), PTs (X.blk s H sco (compEnvC sco cl C X.env) fp) ifs tt)
    (he : ∀ (s : Shared) (H : Hp) (C : Addr) (cl : List (Str × Addr)) (fp : List Addr), PE (X.blk s H sco (compEnvC sco cl C X.env) fp) elt te) (hs : ∀ x, foldedSetIterable iter X.env x = pure x := by intro _; rfl) :
    PE X (.ListComp elt [⟨tg, iter, ifs, 0⟩] sco pos) (tLc (iList X.K tl) g tt te (ow.map (·.2))) := by
  refine ⟨fun pz s τ H Q I h => ?_⟩
  rw [eval_ListComp]
  have hfree : ∀ y ∈ sco.names, y.2 = .free → ∃ c, X.env.cells.lookup y.1 = some c := fun y hy e => by
    rcases bok.free y hy e with k | k
    · exact I.ok.has _ (.inl k)
    · exact I.ok.has _ (.inr k)
  refine wpAny_comprehension_free (use := none) rfl hs (closure_ok hfree) bok.kind (fun y hy e => by rw [bok.uniq y hy, e]) (thn (hl.run pz s τ H _ I h) fun xv s1 ⟨xl, H2, I1, r1, q1⟩ => ?_)
  obtain ⟨a, e1, ⟨xs0, hq0⟩, q⟩ := q1
  subst e1
  cases r1
  obtain ⟨its0, rv0, p0, hz0⟩ := I1.list hq0
  refine wpAny_pyIter_list p0.isList ?_
  generalize hit : s1.heap.objs.size = it
  generalize hs2 : ({ s1 with heap := s1.heap.push { cls := .type "list_iterator", data := .fields #[.ref a, .int 0 0] } } : Shared) = s2
  have h2 : s2.heap = s1.heap.push { cls := .type "list_iterator", data := .fields #[.ref a, .int 0 0] } := by rw [← hs2]
  have I2 : Inv X pz τ H2 s2 := by
    rw [← hs2]
    exact I1.kept (t' := s1.toks) fun b o e => Heap.get?_push_of_some _ e
  have st2 : s2.heap.IsListIter it a 0 := ⟨_, by rw [h2, ← hit]; exact Heap.get?_push_size _ rfl, rfl, rfl⟩
  have f2 : FpOk X pz H2 it := I1.fpOk (Nat.le_of_eq hit) (I1.hok.fresh (Nat.le_of_eq hit))
  refine wpAny_newObj_type (newEnv_comp ?_) (by show 0 ≤ sizeLine; decide)
  generalize hD : s2.heap.objs.size = D
  have hDn : H2 D = none := I2.hok.fresh (Nat.le_of_eq hD)
  obtain ⟨W, ⟨m0, w0⟩, turn⟩ := q D hDn
  generalize hs3 : ({ s2 with heap := s2.heap.push { cls := .type "list", data := .seq ([] : List Value).toArray } } : Shared) = s3
  have I3 : Inv X pz τ (upd H2 D (.lst [])) s3 := by
    rw [← hs3]
    refine I2.laid (t' := s2.toks) (fun b o e => Heap.get?_push_of_some _ e) (Nat.le_of_eq hD) ⟨Nat.zero_le _, [], 0, .nil, ?_⟩
    rw [← hD]
    exact Heap.get?_push_size _ rfl
  have h3 : s3.heap = s2.heap.push { cls := .type "list", data := .seq ([] : List Value).toArray } := by rw [← hs3]
  have lt2 : it < s2.heap.objs.size := by
    obtain ⟨o, e, _⟩ := st2
    exact Heap.lt_size e
  have f3 : ∀ b ∈ [it], FpOk X pz (upd H2 D (.lst [])) b ∧ b < s3.heap.objs.size := fun b hb => by
    have eb : b = it := by simpa using hb
    subst eb
    refine ⟨⟨?_, f2.2⟩, by rw [h3, Heap.size_push]; exact Nat.lt_succ_of_lt lt2⟩
    rw [upd_ne (by rw [← hD]; exact Nat.ne_of_lt lt2)]
    exact f2.1
  have st3 : s3.heap.IsListIter it a 0 := st2.at fun o e => by rw [h3]; exact Heap.get?_push_of_some _ e
  -- the exception that is handled
  obtain ⟨pp, ⟨hh, v1, e1, c1⟩, hp⟩ := hc
  have P3 := I3.pin pp (List.mem_append_left _ hp)
  have P1 := I1.pin pp (List.mem_append_left _ hp)
  have neI : pp.1 ≠ it := by rw [← hit]; exact Nat.ne_of_lt (Heap.lt_size P1.1)
  have nst : pp.1 ∉ frs X.stack := fun hm => (List.mem_cons.mp (I3.stkSub pp.1 hm)).elim P3.2.2.1 P3.2.2.2.1
  have I4 := block_start I3 bok hN f3
  have pg := hg s3 (upd H2 D (.lst [])) s3.heap.objs.size (cellsFrom (s3.heap.objs.size + 1) sco.names (cloFrom X.env.cells sco.names [])) [it]
  have pt := ht s3 (upd H2 D (.lst [])) s3.heap.objs.size (cellsFrom (s3.heap.objs.size + 1) sco.names (cloFrom X.env.cells sco.names [])) [it]
  have pe := he s3 (upd H2 D (.lst [])) s3.heap.objs.size (cellsFrom (s3.heap.objs.size + 1) sco.names (cloFrom X.env.cells sco.names [])) [it]
  show codeAny _ _ (.compStart (.ListComp elt [⟨tg, iter, ifs, 0⟩] sco pos) 0 (.ref it) (.ref D) (compEnvC sco (cellsFrom (s3.heap.objs.size + 1) sco.names (cloFrom X.env.cells sco.names [])) s3.heap.objs.size X.env)) (compPost (model X.prog X.w) X.A X.xe none (EP X pz τ Q) (.ref D) s3.heap.objs.size) { s3 with heap := pushCells (s3.heap.push { cls := .type "dict", data := .dict #[] }) sco.names }
  have nfp : (upd H2 D (.lst [])) it = none := (f3 it (by simp)).1.1
  generalize hce : compEnvC sco (cellsFrom (s3.heap.objs.size + 1) sco.names (cloFrom X.env.cells sco.names [])) s3.heap.objs.size X.env = ce at I4 pg pt pe ⊢
  have cL : ce.locals = s3.heap.objs.size := by subst hce; rfl
  generalize hH3 : upd H2 D (.lst []) = H3 at I3 I4 pg pt pe w0 nfp f3 P3
  generalize hs4 : ({ s3 with heap := pushCells (s3.heap.push { cls := .type "dict", data := .dict #[] }) sco.names } : Shared) = s4 at I4 ⊢
  have st4 : s4.heap.IsListIter it a 0 := st3.at fun o e => by rw [← hs4]; exact pushCells_keeps _ _ _ _ (Heap.get?_push_of_some _ e)
  have stat : ∀ {τ' : L2.St} {H' : Hp} {s' : Shared}, Inv (X.blk s3 H3 sco ce [it]) [] τ' H' s' → H' it = none → FpOk (X.blk s3 H3 sco ce [it]) [] H' it := fun {τ' H' s'} I' hn =>
    ⟨hn, (I'.ok.exf it (List.mem_cons_self)).1, I'.ok.exfs it (List.mem_cons_self), .inl (List.mem_cons_self), fun x c e => (I'.ok.exf it (List.mem_cons_self)).2 x c e, fun p hp => absurd (show p ∈ ([] : List (Addr × Obj)) ++ [] from hp) (by simp)⟩
  have hotB : ∀ {τ' : L2.St} {H' : Hp} {s' : Shared}, Inv (X.blk s3 H3 sco ce [it]) [] τ' H' s' → HotAt X.A pp.1 s'.heap := fun {τ' H' s'} I' =>
    ⟨hh, pp.2, v1, I'.base.keep pp.1 pp.2 P3.1 P3.2.1 nst (fun hm => neI (by simpa using hm)), e1, c1⟩
  have loop : codeAny (model X.prog X.w) X.A (.compLoop (.ListComp elt [⟨tg, iter, ifs, 0⟩] sco pos) 0 (.ref it) (.ref D) ce) (compPost (model X.prog X.w) X.A X.xe none (EP X pz τ Q) (.ref D) s3.heap.objs.size) s4 := by
    refine compLoop_any (fun n s' => ∃ i H', Inv (X.blk s3 H3 sco ce [it]) [] (wipe τ (ow.map (·.2))) H' s' ∧ s'.heap.IsListIter it a i ∧ H' it = none ∧ W i n H') ?_ m0 ⟨0, H3, I4, st4, nfp, w0⟩
    rintro n s5 ⟨i, H5, I5, st5, n5, w5⟩
    rcases turn i n H5 w5 with ⟨stop, qq⟩ | ⟨go, Nx, hNx, step⟩
    · refine thnF (done_hot (Y := X.blk s3 H3 sco ce [it]) (E := fun _ _ => False) rfl rfl rfl I5 (stat I5 n5) st5 stop (hotB I5) neI) fun r s6 ⟨hr, I6⟩ => ?_
      subst hr
      have I7 : Inv X pz τ H5 s6 := I3.call' (ch := [it]) I6.os I6.base I6.hok I6.bare fun b hb => ⟨(f3 b hb).1.2.2.2.1, (f3 b hb).1.2.1, (f3 b hb).1.2.2.2.2.1, (f3 b hb).1.2.2.2.2.2⟩
      have nC : H5 s3.heap.objs.size = none := by
        have z : H5 ce.locals = none := I6.free
        rw [cL] at z
        exact z
      obtain ⟨m, hn, _⟩ := I6.loc
      have hn : s6.heap.Ns ce.locals m := hn
      rw [cL] at hn
      refine ⟨m, hn, fun h'' sb => ?_⟩
      obtain ⟨f0, f1, f2, f3, f4, f5⟩ := I3.fpOk (Nat.le_refl _) nC
      exact ⟨.ref D, H5, I7.turned (t' := s6.toks) (fun b o hb e => (sb.2 b hb).trans e) f0 f1 f3 f4 f5, rfl, qq⟩
    · refine thnF (turn_hot (x1 := 0) (Y := X.blk s3 H3 sco ce [it]) (E := fun _ _ => False) (tg := tg) rfl rfl rfl I5 (stat I5 n5) st5 go) fun r s6 ⟨u, hr, h6⟩ => ?_
      subst hr
      refine thnF h6 fun _ s7 ⟨x, H7, I7, r7, y7, st7, n7⟩ => ?_
      have ob7 : ∀ b ∈ [it], ∃ o, s7.heap.get? b = some o ∧ ∀ v, o.data ≠ .cell v := fun b hb => by
        have eb : b = it := by simpa using hb
        subst eb
        obtain ⟨o, e, c, d⟩ := st7
        exact ⟨o, e, fun v z => by rw [d] at z; cases z⟩
      have I7' := I7.pinned (fp := [it]) (fun b hb => by have eb : b = it := by simpa using hb
                                                         subst eb; exact stat I7 n7) ob7
      refine thnF (pg.run _ s7 _ H7 x u _ I7' r7 (step x H7 y7)) fun _ s8 ⟨τ8, H8, I8, hw8, q8⟩ => ?_
      refine thnF (pt.run _ s8 τ8 H8 _ I8 q8) fun b s9 ⟨H9, I9, q9⟩ => ?_
      have fin : ∀ {s' : Shared} {H' : Hp}, Inv (X.blk s3 H3 sco ce [it]) ([] ++ pinsAt [it] s7.heap) τ8 H' s' → Nx H' → ∃ m, m < n ∧ ∃ i H', Inv (X.blk s3 H3 sco ce [it]) [] (wipe τ (ow.map (·.2))) H' s' ∧ s'.heap.IsListIter it a i ∧ H' it = none ∧ W i m H' := fun {s' H'} I' nx => by
        obtain ⟨m', hm, w'⟩ := hNx H' nx
        have pin' : ∀ o, s7.heap.get? it = some o → s'.heap.get? it = some o ∧ H' it = none := fun o e =>
          let z := I'.pin (it, o) (List.mem_append_right _ (List.mem_append_right _ (mem_pinsAt (by simp) e)))
          ⟨z.1, z.2.1⟩
        have hlen : (wipe τ (ow.map (·.2))).length = τ8.length := by rw [← hw8, wipe_length]
        refine ⟨m', hm, i + 1, H', (I'.unpinned (pins := [])).weak hlen (fun j v e => ?_), st7.at fun o e => (pin' o e).1, ?_, w'⟩
        · rw [← hw8] at e
          exact (wipe_some e).1
        · obtain ⟨o, e, _⟩ := ob7 it (by simp)
          exact (pin' o e).2
      cases b with
      | false =>
        simp only [if_false, Bool.false_eq_true] at q9 ⊢
        exact fin I9 q9
      | true =>
        simp only [if_true] at q9 ⊢
        refine thnF (pe.run _ s9 τ8 H9 _ I9 q9) fun z s10 ⟨yv, H10, I10, r10, acc, hD10, hz10, nx⟩ => ?_
        exact app_ok (X := X.blk s3 H3 sco ce [it]) I10 hD10 hz10 r10 fun s11 I11 => fin I11 nx
  exact codeAny_compStart_list loop (wpAny_pyIter_listiter st4 loop)
end
end FL
set_option maxHeartbeats 4000000
/-! FL10: the def that tells an exception's class, called where the exception is handled. -/
namespace FL
open PySem PySem.Spec PyProof.Rows L2 HotX
open L2H (HotC RoomH Hot1 PinOk cxH inv_startH)
section
variable {X : Cx} {T : List (Addr × Str)} {W : Str → Hp → Prop} {e a b : Expr} {es : List Expr} {m ma mb : Env → R D} {pos p : Pos}
def sumHD : D → R D := intsOf fun ns => if ns.length ≤ 1000 ∧ ns.all (fun n => decide (0 ≤ n) && decide (n ≤ 1)) = true then .ok (.int ns.sum) else .no
theorem bt_ValueError : bootBuiltins "ValueError" = some (.type "ValueError") := by decide +kernel
theorem c_sumH (hc : HotC X) : Cal1 X T (.builtin "sum") sumHD := by
  refine ⟨_, call_sumH hc, fun W d x Hs H Q to is hp => ?_⟩
  obtain ⟨a, ns, rfl, h1, _, h2⟩ := ints_of to is hp
  by_cases hk : ns.length ≤ 1000 ∧ ns.all (fun n => decide (0 ≤ n) && decide (n ≤ 1)) = true
  · rw [if_pos hk] at h2
    refine ⟨a, ns, rfl, h1, hk.1, fun n hn => ?_, PostG.ret (rel := rIs X.K X.mg) h2 to rfl⟩
    have := List.all_eq_true.mp hk.2 n hn
    simpa using this
  · rw [if_neg hk] at h2
    exact h2.elim
def itemsL : D → R (List D)
  | .lst ds => .ok ds
  | _ => .no
@[simp] theorem itemsL_lst (ds : List D) : itemsL (.lst ds) = .ok ds := rfl
theorem pd_lcH {elt tg iter : Expr} {ifs : List Expr} {scope : Scope} {own : List (Str × Nat)} {pos : Pos} {t : Tg} {mt : Env → R Bool} {me : Env → R D} (hc : HotC X) (hN : X.N.Nodup) (hi : PDt X T W iter ma) (ok : BlkOk X.N X.env.scope scope own) (hsub : ∀ j ∈ t.slots, j ∈ own.map (·.2))
    (hg : ∀ (s : Shared) (H : Hp) (C : Addr) (cl : List (Str × Addr)) (fp : List Addr), PGD (X.blk s H scope (compEnvC scope cl C X.env) fp) T tg t) (ht : ∀ (s : Shared) (H : Hp) (C : Addr) (cl : List (Str × Addr)) (fp : List Addr), PTsD (X.blk s H scope (compEnvC scope cl C X.env) fp) T (fun _ _ => False) ifs mt)
    (he : ∀ (s : Shared) (H : Hp) (C : Addr) (cl : List (Str × Addr)) (fp : List Addr), PD (X.blk s H scope (compEnvC scope cl C X.env) fp) T (fun _ _ => False) elt me) (hs : ∀ x, foldedSetIterable iter X.env x = pure x := by intro _; rfl) :
    PD X T W (.ListComp elt [⟨tg, iter, ifs, 0⟩] scope pos) (mLc (fun ρ => (ma ρ).bind itemsL) t mt me (own.map (·.2))) := by
  obtain ⟨ta, pa, ea⟩ := hi
  refine ⟨_, pe_lcH hc hN pa ok (fun s H C cl fp => (hg s H C cl fp).canon) (fun s H C cl fp => (ht s H C cl fp).canon) (fun s H C cl fp => (he s H C cl fp).canon) hs, ev_lc (fun ρ Hs σ H Q rp hp => ea ρ Hs σ H _ rp (PostG.mono (PostG.bind hp) fun v H1 ⟨Hs1, d, st, is, hp1⟩ => ?_)) hsub⟩
  cases d with
  | lst ds =>
    obtain ⟨a, vs, rfl, q1, q2, hz⟩ := is.lst st.to
    exact ⟨a, rfl, ⟨vs, .of q1⟩, PostG.ret (rel := fun Hs H ds J => ItT X.K X.mg T J ds Hs H) hp1 st.to (itT_list q1 q2 hz)⟩
  | _ => exact hp1.elim

/-! ### isinstance(e, C), e the exception -/
theorem call_isP {pp : Addr × Obj} {D : Addr} (hp : pp ∈ X.pn) (C : ExcC X.K D) (h1 : pp.2.cls = .ref D) (h2 : pp.2.dict = none) (hf : ∃ vs, pp.2.data = .fields vs) : CallR X (.builtin "isinstance") (rIsE X.K D pp.1) := by
  intro pz s σ H xs us Q I r h
  obtain ⟨c, cv, b, rfl, hcv, e, q⟩ := h
  cases r with
  | cons rx rr =>
    cases rr with
    | cons rt rr =>
      cases rr
      cases rx
      have ec := hcv _ rt
      subst ec
      obtain ⟨hget, _⟩ := I.pin pp (List.mem_append_left _ hp)
      obtain ⟨vs, hv⟩ := hf
      have J : PySem.W.InstAt s.heap pp.1 pp.2 D none := by
        obtain ⟨pa, oc, od, oda, osl⟩ := pp
        dsimp only at h1 h2 hv
        subst h1 h2 hv
        exact ⟨hget, rfl, rfl, trivial⟩
      exact PySem.W.kia_one (PySem.W.handS_kitx_exc C.hg C.hk C.hs C.hd C.ha C.hn C.ht C.hm) I.kIn J e (fun z => nomatch z) fun tk => ⟨.bl b, H, I.kept (t' := tk) fun _ _ z => z, rfl, q⟩
/-- slot i is the exception at a -/
def mIsP (a : Addr) (i : Nat) (b : Bool) : Env → R D := fun ρ => match ρ[i]? with
  | some (.sh (.adr c)) => if c = a then .ok (.bl b) else .no
  | _ => .no
theorem ev_isP {i : Nat} {b : Bool} {c : V} {cv : Value} {pp : Addr × Obj} {D : Addr} (hcv : ∀ u, RelV c u → u = cv) (hk : PySem.W.kitOne X.K (.ref D) cv = some b) :
    ∀ ρ Hs σ H Q, Rp X.K X.mg T Hs H σ ρ → PostG T (rIs X.K X.mg) W (mIsP pp.1 i b ρ) Hs H Q → tCB (rIsE X.K D pp.1) (tCons (tVar i) (tCons (tC c) tNil)) σ H Q := by
  intro ρ Hs σ H Q rp hp
  unfold mIsP at hp
  split at hp
  · rename_i c' e
    by_cases hc : c' = pp.1
    · rw [if_pos hc] at hp
      subst hc
      obtain ⟨v, e1, e2⟩ := rp.ok i _ e
      cases e2
      exact ⟨_, e1, c, cv, b, rfl, hcv, hk, PostG.ret (rel := rIs X.K X.mg) hp rp.to rfl⟩
    · rw [if_neg hc] at hp
      exact hp.elim
  · exact hp.elim
theorem pd_isP {i : Nat} {x t : Str} {px pt : Pos} {pp : Addr × Obj} {D DC : Addr} {b : Bool} (hg : Gl X "isinstance") (hm : X.mg "isinstance" = none) (hp : pp ∈ X.pn) (C : ExcC X.K D) (h1 : pp.2.cls = .ref D) (h2 : pp.2.dict = none) (hf : ∃ vs, pp.2.data = .fields vs)
    (hgt : Gl X t) (hmt : X.mg t = some (.ref DC)) (hk : PySem.W.kitOne X.K (.ref D) (.ref DC) = some b) (hN : X.N[i]? = some x := by rfl) (hv : Vis X.env.scope x := by first | exact Or.inl rfl | exact Or.inr (Or.inl rfl) | exact Or.inr (Or.inr rfl)) (hdt : (t == ("__debug__" : Str)) = false := by decide)
    (hdx : (x == ("__debug__" : Str)) = false := by decide) (hcx : (x == ("__classdict__" : Str)) = false := by decide)
    (hs : starEach [.Name x px, .Name t pt] X.env = (false, eval (.Name x px) X.env) :: starEach [.Name t pt] X.env := by rfl) (hs2 : starEach [.Name t pt] X.env = (false, eval (.Name t pt) X.env) :: starEach [] X.env := by rfl) (hpl : (backTo pos (starEach [.Name t pt] X.env)).any (·.1) = false := by rfl) :
    PD X T W (.Call (.Name "isinstance" p) [.Name x px, .Name t pt] [] pos) (mIsP pp.1 i b) :=
  ⟨_, pe_callB (call_isP hp C h1 h2 hf) hg hm PyProof.Rows.boot_isinstance (pa_cons (pe_var (i := i) hN hv hdx hcx) (pa_cons (pe_glob (v := .ref DC) hgt hmt rfl hdt) pa_nil hs2) hs) (by decide) (by decide) hs hpl,
    ev_isP (c := .ref DC) (cv := .ref DC) (fun u r => by cases r; rfl) hk⟩
theorem pd_isPB {i : Nat} {x t : Str} {Ty : String} {px pt : Pos} {pp : Addr × Obj} {D : Addr} {b : Bool} (hg : Gl X "isinstance") (hm : X.mg "isinstance" = none) (hp : pp ∈ X.pn) (C : ExcC X.K D) (h1 : pp.2.cls = .ref D) (h2 : pp.2.dict = none) (hf : ∃ vs, pp.2.data = .fields vs)
    (hgt : Gl X t) (hmt : X.mg t = none) (hvt : bootBuiltins t = some (.type Ty)) (hk : PySem.W.kitOne X.K (.ref D) (.type Ty) = some b) (hN : X.N[i]? = some x := by rfl) (hv : Vis X.env.scope x := by first | exact Or.inl rfl | exact Or.inr (Or.inl rfl) | exact Or.inr (Or.inr rfl)) (hdt : (t == ("__debug__" : Str)) = false := by decide) (hnt : t ≠ "__name__" := by decide)
    (hdx : (x == ("__debug__" : Str)) = false := by decide) (hcx : (x == ("__classdict__" : Str)) = false := by decide)
    (hs : starEach [.Name x px, .Name t pt] X.env = (false, eval (.Name x px) X.env) :: starEach [.Name t pt] X.env := by rfl) (hs2 : starEach [.Name t pt] X.env = (false, eval (.Name t pt) X.env) :: starEach [] X.env := by rfl) (hpl : (backTo pos (starEach [.Name t pt] X.env)).any (·.1) = false := by rfl) :
    PD X T W (.Call (.Name "isinstance" p) [.Name x px, .Name t pt] [] pos) (mIsP pp.1 i b) :=
  ⟨_, pe_callB (call_isP hp C h1 h2 hf) hg hm PyProof.Rows.boot_isinstance (pa_cons (pe_var (i := i) hN hv hdx hcx) (pa_cons (pe_bltn (v := .ty Ty) hgt hmt hvt rfl hnt hdt) pa_nil hs2) hs) (by decide) (by decide) hs hpl,
    ev_isP (c := .ty Ty) (cv := .type Ty) (fun u r => by cases r; rfl) hk⟩
end

/-! ### the classes -/
/-- the own exception classes of the names cs, of which LookError is above -/
structure ExcW (K : PySem.W.Frag) (mg : Str → Option Value) (cs : List Str) : Prop where
  at_ : ∀ c ∈ cs, ∃ D, mg c = some (.ref D) ∧ ExcC K D ∧ PySem.W.kitOne K (.ref D) (.type "ValueError") = some true ∧ (∀ CS, mg "LookError" = some (.ref CS) → PySem.W.exmOne K (.ref D) (.ref CS) = some true)
    ∧ ∀ c' ∈ cs, ∀ D', mg c' = some (.ref D') → PySem.W.kitOne K (.ref D) (.ref D') = some (decide (c = c'))
  look : ∃ CS, mg "LookError" = some (.ref CS)

/-! ### the def -/
/-- what is known where the def's body runs: pp the exception of the class c, at D -/
structure CgH (X : Cx) (cs : List Str) (c : Str) (D : Addr) (pp : Addr × Obj) : Prop where
  nd : X.N.Nodup
  hot : HotC X
  hu : X.A.units + 64 < cLine
  hu5 : X.A.units + 65 < cLine
  hu0 : X.A.units < cLine
  pin : pp ∈ X.pn
  mem : c ∈ cs
  ec : ExcC X.K D
  gc : X.mg c = some (.ref D)
  cls : pp.2.cls = .ref D
  dct : pp.2.dict = none
  fld : ∃ vs, pp.2.data = .fields vs
/-- x(e), e the exception of the class c that is handled, gives g c -/
structure HotDef (P : Program) (w : World) (K : PySem.W.Frag) (mg : Str → Option Value) (base : Heap) (T : List (Addr × Str)) (x : Str) (k : Nat) (cs : List Str) (g : Str → R D) : Prop where
  ex : ∃ f, mg x = some (.ref f) ∧ PySem.W.keepIn K (.ref f) = true ∧ ∀ (A : Around) (outer : List PySem.Env) (s : Shared) (Hs H : Hp) (pp : Addr × Obj) (c : Str) (D : Addr) (Q : VK), c ∈ cs → RoomH k A → Hot1 A pp → PinOk outer H s pp → Env0 P w K mg base A outer s H →
    mg c = some (.ref D) → pp.2.cls = .ref D → pp.2.dict = none → At T Hs H → PostG T (rIs K mg) W0 (g c) Hs H Q → codeAny (model P w) A (.call (.ref f) ⟨[.ref pp.1], []⟩) (CR (L2N.CX P w) outer P w H s Q (fun _ _ _ => False)) s
theorem hot_of {P : Program} {w : World} {K : PySem.W.Frag} {mg : Str → Option Value} {base : Heap} {T : List (Addr × Str)} {x a : Str} {st : Stmt} {N : List Str} {k na : Nat} {cs : List Str} {g : Str → R D} {m : Addr → Str → Env → Oc}
    (F : FunG K mg x st) (S : FnScope N [a] (defScope st)) (hN : N.length = na) (hcs : ExcW K mg cs)
    (hb : ∀ (kV doc pm : Value) (an : Option Addr) (cdv ct : Value) (us : List Value), us.length = ([a] : List Str).length → bindArgs (PySem.W.fnOf x x (defArgs st) (defBody st) (defScope st) .none kV doc pm an cdv ct) ⟨us, []⟩ = pure (([a] : List Str).zip us))
    (hg : ∀ c ∈ cs, ∀ ad : Addr, ∃ d, g c = .ok d ∧ m ad c (.sh (.adr ad) :: List.replicate (na - 1) Sl.no) = .rt d)
    (hbody : ∀ (f : Addr) (cdv : Value) (A : Around) (outer : List PySem.Env) (s : Shared) (H : Hp) (pp : Addr × Obj) (c : Str) (D : Addr), CgH (cxH (L2N.CX P w) P w K mg base N x (defScope st) f cdv A outer s H (fun _ _ _ => False) pp) cs c D pp →
      PDSs (cxH (L2N.CX P w) P w K mg base N x (defScope st) f cdv A outer s H (fun _ _ _ => False) pp) T W0 (defBody st) (m pp.1 c)) :
    HotDef P w K mg base T x (k + 1) cs g := by
  subst hN
  obtain ⟨f, fd, F, hm⟩ := F.ex
  have kp := F.kp
  obtain ⟨oc, od, dV, kV, doc, pm, an, cdv, ct, osl, rfl, lk, hcd, hdv, hkv⟩ := F.ex
  refine ⟨f, hm, kp, fun A outer s Hs H pp c D Q hc hr hot hpin e0 gc h1 h2 to hp => ?_⟩
  have KX : K.In s.heap := e0.mod.kin.keeps fun b o e => (e0.bs b o e).1
  have lim : s.heap.NoLimit := e0.mod.nolimit.keeps fun b o e => (e0.bs b o e).1
  have bnd := F.bindsN (ps := [a]) hb s [.ref pp.1] KX rfl
  refine codeAny_call_function hr.depth (KX _ _ lk) rfl S.co S.gen rfl (PySem.W.codeRec_of KX hcd) (bnd _ _ _ _ ?_)
  have hkind : ∀ y ∈ ([a] : List Str).zip [Value.ref pp.1], (defScope st).names.lookup y.1 = some .local ∨ ((defScope st).names.lookup y.1 = some .cell ∧ ((cellsFrom (s.heap.objs.size + 1) (defScope st).names []).lookup y.1).isSome = true) := fun ⟨n, v⟩ hy => by
    rcases S.par n (List.of_mem_zip hy).1 with q | q
    · exact .inl q
    · exact .inr ⟨q, PySem.W.cellsFrom_some _ _ _ (.inl q)⟩
  refine wpAny_newFunctionEnv_cells S.kind hkind fun env he s1 y => ?_
  subst he
  refine ⟨lim.keeps y.toInCall.keep, codeAny_func ?_⟩
  have hrv : Vals [V.ref pp.1] [Value.ref pp.1] := .cons rfl .nil
  have I : Inv (cxH (L2N.CX P w) P w K mg base N x (defScope st) f cdv A outer s H (fun _ _ _ => False) pp) [] (L2.start N [.ref pp.1]) H s1 := inv_startH S hpin e0 rfl hrv y
  have hr' := hr.deeper (envOfC x (defScope st) s.heap.objs.size f cdv)
  have un := hr'.un
  obtain ⟨D', gD, eC, _⟩ := hcs.at_ c hc
  rw [gc] at gD
  cases gD
  obtain ⟨v1, e1, _⟩ := hot.2
  have cg : CgH (cxH (L2N.CX P w) P w K mg base N x (defScope st) f cdv A outer s H (fun _ _ _ => False) pp) cs c D pp := by
    refine ⟨S.nd, ⟨pp, hot, List.mem_cons_self⟩, ?_, ?_, ?_, List.mem_cons_self, hc, eC, gc, h1, h2, ⟨v1, e1⟩⟩
    · show (A.deeper (envOfC x (defScope st) s.heap.objs.size f cdv)).units + 64 < cLine; omega
    · show (A.deeper (envOfC x (defScope st) s.heap.objs.size f cdv)).units + 65 < cLine; omega
    · show (A.deeper (envOfC x (defScope st) s.heap.objs.size f cdv)).units < cLine; omega
  obtain ⟨t, ht, ev⟩ := hbody f cdv A outer s H pp c D cg
  obtain ⟨d, gd, hd⟩ := hg c hc pp.1
  rw [gd] at hp
  have hn : 1 ≤ N.length := by have := congrArg List.length S.pre; rw [List.length_take] at this; simp at this; omega
  have rp : Rp K mg T Hs H (L2.start N [.ref pp.1]) (.sh (.adr pp.1) :: List.replicate (N.length - 1) Sl.no) := start_rp (ds := [.adr pp.1]) (n := 1) to (IsL.one rfl) rfl hn
  refine wpAny_mono (ht.run [] s1 (L2.start N [.ref pp.1]) H { nx := fun _ _ => False, rt := Q, bk := fun _ _ => False, ct := fun _ _ => False } I (ev _ Hs H Hs H _ _ ⟨rp, .refl to, fun i es q e => ?_⟩ ?_)) (fun fl s' hs => ?_) fun _ _ z => z
  · cases i with
    | zero => cases e
    | succ i =>
      rw [List.getElem?_cons_succ, List.getElem?_replicate] at e
      split at e <;> cases e
  · rw [hd]
    exact fun v Hs' H' st is => hp v Hs' H' st is
  · cases fl with
    | ret u =>
      obtain ⟨v, σ', H', J, rv, q⟩ := hs
      exact ⟨v, H', J.os, J.bare, J.base, J.hok, rv, q⟩
    | next =>
      obtain ⟨_, _, _, q⟩ := hs
      exact q.elim
    | brk =>
      obtain ⟨_, _, _, q⟩ := hs
      exact q.elim
    | cont =>
      obtain ⟨_, _, _, q⟩ := hs
      exact q.elim
end FL
set_option maxHeartbeats 4000000
/-! FL11: what a deed tells, or the class of its refusal. -/
namespace FL
open PySem PySem.Spec PyProof.Rows L2 HotX LamX
open L2H (HotC RoomH Hot1 PinOk cxH inv_startH)
section
variable {X : Cx} {pins : List (Addr × Obj)} {σ : L2.St} {H : Hp} {s : Shared}
theorem lam_makeW {T : List (Addr × Str)} {c P : Addr} {prm : Arguments} {bdy : Expr} {sco : Scope} {ps0 : Pos} {E : Value → Shared → Prop} {Q : Value → Shared → Prop} (I : Inv X pins σ H s) (TB : TabB X.base X.mg c P) (gcode : X.env.code = .ref c)
    (gm : (P, X.env.qual ++ "<lambda>") ∈ T) (gu : ∀ p ∈ T, p.1 = P → p.2 = X.env.qual ++ "<lambda>") (gT : Tabs T H) (gdef : defaultsOf prm X.env = ([], [])) (gfree : ∀ y ∈ sco.names, y.2 = .free → ∃ c, X.env.cells.lookup y.1 = some c)
    (h : ∀ (f c' : Addr) (pw cw : Value) (H1 : Hp) (s' : Shared), Inv X pins σ H1 s' → ExtW H H1 → Tabs T H1 →
      s'.heap.get? f = some (PySem.W.kla_obj "<lambda>" (X.env.qual ++ "<lambda>") prm bdy sco (cloFrom X.env.cells sco.names []) pw c' cw) → H1 f = none → f ∉ frs X.stack → H1 c' = some (CodeO c' (X.env.qual ++ "<lambda>")) → Q (.ref f) s') :
    wpAny (model X.prog X.w) X.A (eval (.Lambda prm bdy sco ps0) X.env) Q E s := by
  obtain ⟨tz, gP, gt, ga⟩ := gT _ gm
  refine PySem.W.kla_eval gdef ?_
  have kP : s.heap.BuiltinsAt X.mg P := TB.bm.keeps I.bk
  have gP' : s.heap.get? P = some { cls := .none, data := .fields tz } := I.hok P _ gP
  have nfr : ∀ f, s.heap.objs.size ≤ f → f ∉ frs X.stack := fun f hf z => by
    rcases List.mem_cons.mp (I.stkSub _ z) with e | e
    · have h1 := I.lt
      rw [← e] at h1
      exact Nat.lt_irrefl _ (Nat.lt_of_lt_of_le h1 hf)
    · exact I.nofs hf e
  cases gc : codeAmong ps0 tz.toList with
  | none =>
    refine PySem.W.kla_makeFunction (mg := X.mg) (c := c) (P := P) (ps := tz) (closure_ok gfree) I.ok.glob (I.mod.glob.keeps I.bk) gcode (TB.code.keeps I.bk) gP' gt gc TB.gP kP fun c' cw hn tn gx gge glt grec gtb => ?_
    obtain ⟨cc2, oo, vs, t, k2, goc, gd, gv⟩ := grec
    cases k2
    have gsz : s.heap.objs.size ≤ hn.objs.size := Nat.le_trans gge (Nat.le_of_lt glt)
    have nc : H c' = none := I.hok.fresh gge
    have J1 := inv_table (t' := tn) (more := #[rawInt ps0.line, rawInt ps0.col, .ref c']) (h' := hn.push (PySem.W.kla_obj "<lambda>" (X.env.qual ++ "<lambda>") prm bdy sco (cloFrom X.env.cells sco.names []) ((X.mg "__name__").getD .none) c' cw)) I gP
      (fun b o hb e => Heap.get?_push_of_some _ (gx b o hb e)) (Heap.get?_push_of_some _ gtb) gge ⟨oo, vs, t, Heap.get?_push_of_some _ goc, gd, gv⟩
    have gE : ExtN H (upd (upd H P (.tbl (tz ++ #[rawInt ps0.line, rawInt ps0.col, .ref c']))) c' (CodeO c' (X.env.qual ++ "<lambda>"))) := fun b o e n => by
      rw [upd_ne (ne_of_none e nc), upd_ne (fun z => n tz (Option.some.inj (e.symm.trans (by rw [z]; exact gP))))]
      exact e
    have gW : ExtW H (upd (upd H P (.tbl (tz ++ #[rawInt ps0.line, rawInt ps0.col, .ref c']))) c' (CodeO c' (X.env.qual ++ "<lambda>"))) := fun b o e => by
      by_cases hb : b = P
      · subst hb
        rw [gP] at e
        cases e
        exact .inr ⟨tz, _, rfl, by rw [upd_ne (ne_of_none gP nc), upd_same]⟩
      · exact .inl (by rw [upd_ne (ne_of_none e nc), upd_ne hb]; exact e)
    have eK : (tz ++ #[rawInt ps0.line, rawInt ps0.col, .ref c']).toList = tz.toList ++ [rawInt ps0.line, rawInt ps0.col, .ref c'] := by simp
    refine h hn.objs.size c' ((X.mg "__name__").getD .none) cw _ _ J1 gW (fun p hp => ?_) (Heap.get?_push_size _ rfl) ?_ (nfr _ gsz) upd_same
    · by_cases hb : p.1 = P
      · rw [gu p hp hb, hb]
        refine ⟨_, by rw [upd_ne (ne_of_none gP nc), upd_same], by rw [eK]; exact PySem.TriplesOk_snoc _ _ _ _ gt, fun p' cu gcv => ?_⟩
        rw [eK] at gcv
        rcases among_app _ gt gcv with z | z
        · obtain ⟨c0, k1, k2⟩ := ga p' cu z
          exact ⟨c0, k1, gE _ _ k2 codeO_ne⟩
        · exact ⟨c', z, upd_same⟩
      · obtain ⟨ps', b1, b2, b3⟩ := gT p hp
        refine ⟨ps', by rw [upd_ne (ne_of_none b1 nc), upd_ne hb]; exact b1, b2, fun p' cu gcv => ?_⟩
        obtain ⟨c0, k1, k2⟩ := b3 p' cu gcv
        exact ⟨c0, k1, gE _ _ k2 codeO_ne⟩
    · have m1 : hn.objs.size ≠ c' := Nat.ne_of_gt glt
      have m2 : hn.objs.size ≠ P := Nat.ne_of_gt (Nat.lt_of_lt_of_le (Heap.lt_size gP') gsz)
      rw [upd_ne m1, upd_ne m2]
      exact I.hok.fresh gsz
  | some cu =>
    obtain ⟨c', e, gco⟩ := ga ps0 cu gc
    subst e
    refine PySem.W.kla_makeFunctionHit (mg := X.mg) (c := c) (P := P) (ps := tz) (closure_ok gfree) I.ok.glob (I.mod.glob.keeps I.bk) gcode (TB.code.keeps I.bk) gP' gt gc kP fun cw hn tn gx gsz => ?_
    have J1 : Inv X pins σ H { s with heap := hn.push (PySem.W.kla_obj "<lambda>" (X.env.qual ++ "<lambda>") prm bdy sco (cloFrom X.env.cells sco.names []) ((X.mg "__name__").getD .none) c' cw), toks := tn } := I.kept fun b o e => Heap.get?_push_of_some _ (gx b o e)
    exact h hn.objs.size c' ((X.mg "__name__").getD .none) cw H _ J1 (ExtW.refl H) gT (Heap.get?_push_size _ rfl) (I.hok.fresh gsz) (nfr _ gsz) gco
end
/-- the context of a lambda's body; its exceptions have no context -/
def lamN (X : Cx) (A : Around) (outer : List PySem.Env) (s : Shared) (H : Hp) (E : XK) (scope : Scope) (f c' : Addr) : Cx :=
  (lamCx X A outer s H E scope f c').tr [] fun e s' => wpAny (model X.prog X.w) (A.deeper (lamEnv X scope s.heap.objs.size f c')) (leaving (lamEnv X scope s.heap.objs.size f c') e) (fun _ s2 => L2N.CX X.prog X.w outer H s E e s2) (fun e' s2 => L2N.CX X.prog X.w outer H s E e' s2) s'
theorem lamN_cg {X : Cx} {A : Around} {outer : List PySem.Env} {s : Shared} {H : Hp} {E : XK} {scope : Scope} {f c' : Addr} {k : Nat} (nd : X.N.Nodup) (r : Room k (A.deeper (lamEnv X scope s.heap.objs.size f c'))) : Cg (lamN X A outer s H E scope f c') (Wof X.mg E) k := by
  have tk : L2N.Takes (lamN X A outer s H E scope f c') (fun cls d _ H => EW X.mg (Wof X.mg E) cls d H) := (L2N.takes_of rfl rfl rfl rfl).imp fun cls d σ H ⟨c, h1, h2, h3⟩ => by subst h2; exact h3 cls h1
  exact ⟨nd, rfl, r, L2N.passes_call (E := EW X.mg (Wof X.mg E)) tk fun cls d σ H h => h⟩
section
variable {X : Cx} {pins : List (Addr × Obj)} {σ : L2.St} {H HZ : Hp} {s s1 : Shared}
/-- the lambda in slot i called, in the def that got it -/
theorem pe_deed {Eg : XK} {Ng : List Str} {qg : Str} {sg : Scope} {g f c' : Addr} {cdg pm ctv : Value} {params : Arguments} {body : Expr} {scope : Scope} {k i : Nat} {a : Str} {pn : List (Addr × Obj)} {xe : Value → Shared → Prop} {Wx : WX} {E : XK} {tb : TE} {p1 p2 : Pos}
    (I : Inv X pins σ H s) (L : LamS X.env.scope scope) (hf : s.heap.get? f = some (PySem.W.kla_obj "<lambda>" (X.env.qual ++ "<lambda>") params body scope (cloFrom X.env.cells scope.names []) pm c' ctv)) (hfn : H f = none) (hfr : f ∉ frs X.stack)
    (hbind : bindArgs (PySem.W.kla_fn "<lambda>" (X.env.qual ++ "<lambda>") params body scope (cloFrom X.env.cells scope.names []) pm (.ref c') ctv) ⟨[], []⟩ = pure [])
    (tk : L2N.Takes ((cxOf (L2N.CX X.prog X.w) X.prog X.w X.K X.mg X.base Ng qg sg g cdg X.A X.stack s H Eg).tr pn xe) Wx) (hr : Room (k + 1) (X.A.deeper (envOfC qg sg s.heap.objs.size g cdg)))
    (hbody : ∀ (A : Around) (outer : List PySem.Env) (s : Shared) (H : Hp), Room k (A.deeper (lamEnv X scope s.heap.objs.size f c')) → PE (lamN X A outer s H E scope f c') body tb)
    (hN : Ng[i]? = some a) (hv : Vis sg a) (hd : (a == ("__debug__" : Str)) = false) (hcd : (a == ("__classdict__" : Str)) = false) :
    PE ((cxOf (L2N.CX X.prog X.w) X.prog X.w X.K X.mg X.base Ng qg sg g cdg X.A X.stack s H Eg).tr pn xe) (.Call (.Name a p1) [] [] p2)
      (fun τ HZ Q => (∀ cls d H', E cls d H' → Wx cls d τ H') ∧ τ[i]? = some (some (.ref f)) ∧ HZ c' = some (CodeO c' (X.env.qual ++ "<lambda>")) ∧ tb σ HZ Q) := by
  refine ⟨fun pz sZ τ HZ Q IZ ⟨hW, hs, hc, ht⟩ => ?_⟩
  refine wpAny_Call_Name_kw (thn ((pe_var (i := i) (pos := p1) hN hv hd hcd).run pz sZ τ HZ (fun v H1 => H1 = HZ ∧ v = .ref f) IZ ⟨.ref f, hs, rfl, rfl⟩) fun u s1 ⟨v, H1, I1, r1, eH, ev⟩ => ?_)
  subst ev eH
  obtain rfl : u = Value.ref f := r1
  have of1 := I1.base.keep f _ hf hfn hfr (fun z => nomatch (show f ∈ ([] : List Addr) from z))
  refine PySem.W.callWith_F0 ⟨_, _, _, _, of1⟩ ?_
  have un := I1.base
  obtain ⟨⟨oc, vs, t, hoc, hdc, hvc⟩, _, _⟩ := I1.hok c' _ hc
  have rc : codeAny (model X.prog X.w) (X.A.deeper (envOfC qg sg s.heap.objs.size g cdg)) (.call (.ref f) ⟨[], []⟩) (CR (L2N.CX X.prog X.w) (envOfC qg sg s.heap.objs.size g cdg :: X.stack) X.prog X.w H1 s1 Q E) s1 := by
    refine PySem.W.kla_callFunE hr.depth of1 rfl L.co L.gen rfl ⟨c', oc, vs, t, rfl, hoc, hdc, hvc⟩ ?_
    rw [hbind]
    refine wpAny_pure (wpAny_newFunctionEnv (fun y hy => (L.own y hy).2) (fun y hy => absurd hy (by simp)) (fun h2 hns sb => ⟨I1.nolimit.fresh _ sb, ?_⟩) L.kind)
    show codeAny _ _ (.expr body (lamEnv X scope s1.heap.objs.size f c')) _ _
    have kp : ∀ b o, s1.heap.get? b = some o → h2.get? b = some o := fun b o e => sb.extBut b o (Nat.ne_of_lt (Heap.lt_size e)) (Heap.get?_push_of_some _ e)
    have J0 : Inv (lamCx X (X.A.deeper (envOfC qg sg s.heap.objs.size g cdg)) (envOfC qg sg s.heap.objs.size g cdg :: X.stack) s1 H1 E scope f c') [] σ H1 { s1 with heap := h2, toks := s1.toks + ([] : List (Str × Value)).length } :=
      lam_start2 I L I1.env0 hr.hd un hns kp
    have J : Inv (lamN X (X.A.deeper (envOfC qg sg s.heap.objs.size g cdg)) (envOfC qg sg s.heap.objs.size g cdg :: X.stack) s1 H1 E scope f c') [] σ H1 { s1 with heap := h2, toks := s1.toks + ([] : List (Str × Value)).length } := J0.toTry _
    refine PySem.W.kla_codeExpr (wpAny_mono ((hbody _ _ s1 H1 (hr.deeper _)).run [] _ _ H1 Q J ht) (fun v s' hq => ?_) fun e s' hq => hq)
    obtain ⟨w', H', J', rv, q⟩ := hq
    exact ⟨w', H', J'.os, J'.bare, J'.base, J'.hok, rv, q⟩
  refine wpAny_call (codeAny_mono rc fun r s' hq => ?_)
  cases r with
  | error e => exact tk e s' (L2N.XE.of_call I1 hW hq)
  | ok fl =>
    cases fl with
    | ret u => exact I1.after hq
    | next => exact hq.elim
    | brk => exact hq.elim
    | cont => exact hq.elim
end
end FL
set_option maxHeartbeats 4000000
/-! FL12: _law_told(lambda: ..). -/
namespace FL
open PySem PySem.Spec PyProof.Rows L2 HotX LamX
open L2H (HotC RoomH Hot1 PinOk cxH inv_startH)
def mTold (cs : List Str) (g : Str → R D) (mb : Env → R D) : Env → R D := fun ρ => match mb ρ with
  | .ok d => .ok d
  | .er c => if c ∈ cs then (g c).strict else .no
  | .no => .no
theorem PostG.later {α β : Type} {T : List (Addr × Str)} {rel : Hp → Hp → α → β → Prop} {W : Str → Hp → Prop} {r : R α} {Hs H Hs' H' : Hp} {Q : β → Hp → Prop} (h : PostG T rel W r Hs H Q) (st : Step T Hs H Hs' H') : PostG T rel W r Hs' H' Q := by
  cases r with
  | ok a => exact fun b Hs2 H2 st2 k => h b Hs2 H2 (st.trans st2) k
  | er c => exact fun Hs2 H2 st2 => h Hs2 H2 (st.trans st2)
  | no => exact h
theorem room_hot {k : Nat} {A : Around} (r : Room k A) (v : Option Value) : RoomH k (A.mark v) := ⟨r.dp, r.un⟩
/-- w(e) in the suite -/
theorem pe_word {Z : Cx} {T : List (Addr × Str)} {w e : Str} {kw i : Nat} {cs : List Str} {g : Str → R D} {ad : Addr} {oe : Obj} {cls : Value} {d : Option Addr} {pn : List (Addr × Obj)} {p5 p6 p7 : Pos}
    (Hw : HotDef Z.prog Z.w Z.K Z.mg Z.base T w kw cs g) (hz : L2N.Zn cls d oe) (hf : ∃ vs, oe.data = .fields vs) (hr : Room kw Z.A) (hgw : Z.env.scope.names.lookup w = some .globalImplicit) (hN : Z.N[i]? = some e) (hle : Z.env.scope.names.lookup e = some .local)
    (hdw : (w == ("__debug__" : Str)) = false) (hde : (e == ("__debug__" : Str)) = false) (hce : (e == ("__classdict__" : Str)) = false) :
    PE (Z.suite ad ((ad, oe) :: pn)) (.Call (.Name w p5) [.Name e p6] [] p7) (fun τ HZ Q => ∃ c DA Hs, c ∈ cs ∧ Z.mg c = some (.ref DA) ∧ cls = .ref DA ∧ d = none ∧ τ[i]? = some (some (.ref ad)) ∧ At T Hs HZ ∧ PostG T (rIs Z.K Z.mg) W0 (g c) Hs HZ Q) := by
  obtain ⟨f, hm, kp, run⟩ := Hw.ex
  refine ⟨fun pz s τ H Q I ⟨c, DA, Hs, hc, gc, e1, e2, hs, to, hp⟩ => ?_⟩
  subst e1 e2
  have hg : Gl (Z.suite ad ((ad, oe) :: pn)) w := hgw
  refine wpAny_Call_Name_kw (ld_glob I hg hm ?_ hdw)
  have ha : PA (Z.suite ad ((ad, oe) :: pn)) [.Name e p6] (tCons (tVar i) tNil) := pa_cons (pe_var (X := Z.suite ad ((ad, oe) :: pn)) (i := i) hN (.inl hle) hde hce) pa_nil
  refine PySem.W.callWith_K (h₀ := Z.base) I.ok.mod.kin kp (thn (ha.run p7 pz s τ H (fun vs H1 => vs = [V.ref ad] ∧ H1 = H) I ⟨_, hs, rfl, rfl⟩) fun us s1 ⟨vs, H1, I1, r1, ev, eH⟩ => ?_)
  subst ev eH
  refine ⟨I1.kIn, ?_⟩
  cases r1 with
  | cons ru rn =>
    cases rn
    cases ru
    obtain ⟨vs, hv⟩ := hf
    have P1 := I1.pin (ad, oe) (List.mem_append_left _ List.mem_cons_self)
    have hpin : PinOk (Z.suite ad ((ad, oe) :: pn)).stack H1 s1 (ad, oe) := ⟨P1.1, P1.2.1, fun hm => (List.mem_cons.mp (I1.stkSub ad hm)).elim P1.2.2.1 P1.2.2.2.1, P1.2.2.2.2⟩
    refine wpAny_call (codeAny_mono (run _ _ s1 Hs H1 (ad, oe) c DA Q hc (room_hot hr _) ⟨rfl, vs, hv, hz.2.2 vs hv⟩ hpin I1.env0 gc hz.1 hz.2.1 to hp) fun r s' hq => ?_)
    cases r with
    | error e =>
      obtain ⟨_, _, _, _, _, _, _, _, _, _, _, _, z⟩ := hq
      exact z.elim
    | ok fl =>
      cases fl with
      | ret u => exact I1.after hq
      | next => exact hq.elim
      | brk => exact hq.elim
      | cont => exact hq.elim
theorem takesF {X : Cx} : L2N.Takes X (fun _ _ _ _ => False) := fun _ _ x => by
  obtain ⟨_, _, _, _, _, _, _, _, _, _, _, _, _, _, _, _, z⟩ := x
  exact z.elim
section
variable {X : Cx} {T : List (Addr × Str)} {W : Str → Hp → Prop}
theorem pd_told {x a e w : Str} {st : Stmt} {cs : List Str} {g : Str → R D} {kw kb j : Nat} {c0 P0 : Addr} {params : Arguments} {body : Expr} {scope : Scope} {lpos p pos : Pos} {mb : Env → R D} {p1 p2 p3 p4 p5 p6 p7 p8 p9 p10 : Pos}
    (F : FunG X.K X.mg x st) (S : FnScope [a, e] [a] (defScope st)) (hst : defBody st = [.Try [.Return (some (.Call (.Name a p1) [] [] p2)) p3] [.ExceptHandler (some (.Name "LookError" p4)) (some e) [.Return (some (.Call (.Name w p5) [.Name e p6] [] p7)) p8] p9] [] [] p10])
    (bb : ∀ (kV doc pm : Value) (an : Option Addr) (cdv ct : Value) (us : List Value), us.length = ([a] : List Str).length → bindArgs (PySem.W.fnOf x x (defArgs st) (defBody st) (defScope st) .none kV doc pm an cdv ct) ⟨us, []⟩ = pure (([a] : List Str).zip us))
    (hva : Vis (defScope st) a) (hle : (defScope st).names.lookup e = some .local) (hgl : (defScope st).names.lookup ("LookError" : Str) = some .globalImplicit) (hgw : (defScope st).names.lookup w = some .globalImplicit)
    (Hw : HotDef X.prog X.w X.K X.mg X.base T w kw cs g) (hcs : ExcW X.K X.mg cs) (cg : Cg X W j) (hk : kb + 2 ≤ j) (hkw : kw + 1 ≤ j)
    (hg : Gl X x) (TB : TabB X.base X.mg c0 P0) (hcode : X.env.code = .ref c0) (hmT : (P0, X.env.qual ++ "<lambda>") ∈ T) (hu : ∀ p ∈ T, p.1 = P0 → p.2 = X.env.qual ++ "<lambda>") (L : LamS X.env.scope scope)
    (hb : ∀ (A : Around) (outer : List PySem.Env) (s : Shared) (H : Hp) (E : XK) (f c' : Addr), Cg (lamN X A outer s H E scope f c') (Wof X.mg E) kb → PD (lamN X A outer s H E scope f c') T (Wof X.mg E) body mb)
    (hdef : defaultsOf params X.env = ([], []) := by rfl) (hbind : ∀ (q : Str) (cl : List (Str × Addr)) (pm cv ctv : Value), bindArgs (PySem.W.kla_fn "<lambda>" q params body scope cl pm cv ctv) ⟨[], []⟩ = pure [] := by intros; rfl)
    (hdx : (x == ("__debug__" : Str)) = false := by decide) (hda : (a == ("__debug__" : Str)) = false := by decide) (hca : (a == ("__classdict__" : Str)) = false := by decide)
    (hdw : (w == ("__debug__" : Str)) = false := by decide) (hde : (e == ("__debug__" : Str)) = false := by decide) (hce : (e == ("__classdict__" : Str)) = false := by decide) :
    PD X T W (.Call (.Name x p) [.Lambda params body scope lpos] [] pos) (mTold cs g mb) := by
  refine ⟨tD X.K X.mg T W (mTold cs g mb), ⟨fun pins s σ H Q I h => ?_⟩, fun ρ Hs σ H Q rp hp => ⟨ρ, Hs, rp, hp⟩⟩
  obtain ⟨ρ, Hs, rp, hp⟩ := h
  obtain ⟨f, fd, F, hm⟩ := F.ex
  have kp := F.kp
  have bnd := F.bindsN (ps := [a]) (fun kV doc pm an cdv ct us hl => bb kV doc pm an cdv ct us hl)
  obtain ⟨oc, od, dV, kV, doc, pm, an, cdv, ct, osl, rfl, lk, hcd, _, _⟩ := F.ex
  refine wpAny_Call_Name_kw (ld_glob I hg hm ?_ hdx)
  refine PySem.W.callWith_K (h₀ := X.base) I.ok.mod.kin kp ?_ (by rfl) (by rfl)
  show wpAny _ _ (spliced ((false, eval (.Lambda params body scope lpos) X.env) :: backTo pos (starEach [] X.env))) _ _ s
  refine Calls.spliced_cons (lam_makeW I TB hcode hmT hu rp.to.tab hdef (L.has I.ok) fun fl c' pm' ctv H1 s' I1 eW T1 hf hfn hfr hco => ?_)
  refine Calls.spliced_nil ⟨I1.kIn, ?_⟩
  have st1 : Step T Hs H Hs H1 := ⟨.refl _, eW, ⟨rp.to.sub.trans eW, T1, rp.to.sz⟩, fun _ _ z => z⟩
  have rp1 := rp.step st1
  have hp1 := hp.later st1
  obtain ⟨CS, gCS⟩ := hcs.look
  have rc : codeAny (model X.prog X.w) X.A (.call (.ref f) ⟨[.ref fl], []⟩) (CR (L2N.CX X.prog X.w) X.stack X.prog X.w H1 s' Q fun _ _ _ => False) s' := by
    have hroom : Room (j - 1 + 1) X.A := by have e : j - 1 + 1 = j := by omega
                                            rw [e]; exact cg.room
    refine LamX.run_ofS (N := [a, e]) (ps := [a]) (us := [.ref fl]) (vs := [.ref fl]) lk hcd S hroom I1.env0 (bnd s' [.ref fl] I1.kIn rfl) (.cons rfl .nil) rfl fun hr' => ?_
    rw [hst]
    have hgL : Gl (cxOf (L2N.CX X.prog X.w) X.prog X.w X.K X.mg X.base [a, e] x (defScope st) f cdv X.A X.stack s' H1 fun _ _ _ => False) "LookError" := hgl
    refine ⟨_, pss_one (L2N.ps_try_as (X := cxOf (L2N.CX X.prog X.w) X.prog X.w X.K X.mg X.base [a, e] x (defScope st) f cdv X.A X.stack s' H1 fun _ _ _ => False) (c := .ref CS) (i := 1)
      (tb := fun Wx DD τ HZ => ∃ Ech : XK, (∀ cls d H', Ech cls d H' → Wx cls d τ H') ∧ τ[0]? = some (some (.ref fl)) ∧ HZ c' = some (CodeO c' (X.env.qual ++ "<lambda>")) ∧ tD X.K X.mg T (Wof X.mg Ech) mb σ HZ DD.rt)
      (ts := fun ad cls d DD τ HZ => ∃ c DA Hs, c ∈ cs ∧ X.mg c = some (.ref DA) ∧ cls = .ref DA ∧ d = none ∧ τ[1]? = some (some (.ref ad)) ∧ At T Hs HZ ∧ PostG T (rIs X.K X.mg) W0 (g c) Hs HZ DD.rt)
      rfl rfl S.nd rfl hle ⟨hgL, by decide, .inl gCS⟩ takesF (fun Wx pn xe tk _ => ?_) (fun ad oe cls d pn hz hfl => ?_)), ?_⟩
    · refine ⟨fun pz sZ τ HZ DD IZ ⟨Ech, hW, h1, h2, h3⟩ => ?_⟩
      have hr2 : Room (kb + 1) (X.A.deeper (envOfC x (defScope st) s'.heap.objs.size f cdv)) := hr'.mono (by omega)
      have pa := pe_deed (E := Ech) (tb := tD X.K X.mg T (Wof X.mg Ech) mb) (i := 0) (Ng := [a, e]) (p1 := p1) (p2 := p2) I1 L hf hfn hfr (hbind _ _ _ _ _) tk hr2 (fun A outer s H hr3 => (hb A outer s H Ech fl c' (lamN_cg cg.nd hr3)).canon) rfl hva hda hca
      exact (pss_one (ps_ret (pos := p3) pa)).run pz sZ τ HZ DD IZ ⟨hW, h1, h2, h3⟩
    · have hr3 : Room kw (X.A.deeper (envOfC x (defScope st) s'.heap.objs.size f cdv)) := hr'.mono (by omega)
      exact pss_one (ps_ret (pe_word (Z := cxOf (L2N.CX X.prog X.w) X.prog X.w X.K X.mg X.base [a, e] x (defScope st) f cdv X.A X.stack s' H1 fun _ _ _ => False) (i := 1) Hw hz hfl hr3 hgw rfl hle hdw hde hce))
    · refine ⟨fun cls d H' => ∃ c ∈ cs, X.mg c = some cls ∧ d = none ∧ ∃ Hs', At T Hs' H' ∧ PostG T (rIs X.K X.mg) W0 (g c) Hs' H' Q, fun cls d H' ⟨c, hc, gc, hd, Hs', to', hp'⟩ => ?_, rfl, hco, ρ, Hs, rp1, ?_⟩
      · obtain ⟨DA, gD, _, _, hex, _⟩ := hcs.at_ c hc
        rw [gc] at gD
        cases gD
        exact ⟨true, hex CS gCS, fun _ ad na => ⟨c, DA, Hs', hc, gc, rfl, hd, rfl, to', hp'⟩, fun z => nomatch z⟩
      · unfold mTold at hp1
        cases q : mb ρ with
        | ok d => rw [q] at hp1; exact hp1
        | no => rw [q] at hp1; exact hp1
        | er c =>
          rw [q] at hp1
          simp only at hp1
          by_cases hc : c ∈ cs
          · rw [if_pos hc] at hp1
            refine fun Hs' H' st' cls gc => ⟨c, hc, gc, rfl, Hs', st'.to, ?_⟩
            have hp2 := hp1.later st'
            cases q2 : g c with
            | ok d => rw [q2] at hp2; exact hp2
            | er c2 => rw [q2] at hp2; exact hp2.elim
            | no => rw [q2] at hp2; exact hp2
          · rw [if_neg hc] at hp1
            exact hp1.elim
  refine wpAny_call (codeAny_mono rc fun r s2 hq => ?_)
  cases r with
  | error e =>
    obtain ⟨_, _, _, _, _, _, _, _, _, _, _, _, z⟩ := hq
    exact z.elim
  | ok fl =>
    cases fl with
    | ret u => exact I1.after hq
    | next => exact hq.elim
    | brk => exact hq.elim
    | cont => exact hq.elim
end
end FL
set_option maxHeartbeats 4000000
/-! FL13: tuple * int, text * int; a def held by a variable called. -/
namespace FL
open PySem PySem.Spec PyProof.Rows L2
theorem tuple_mul1 (l : Addr) (items : Array Value) (n : Nat) (dd : Option Addr) (sl : Array (Option Value)) (u : Tok) :
    Meets (Builtin.«tuple.__mul__» ⟨[.ref l, .int 1 u], []⟩) (fun _ R s => s.heap.get? l = some { cls := .type "tuple", dict := dd, data := .seq items n, slots := sl } ∧ R (.ok (.ret (Value.ref l))) s) :=
  .of_wp fun prog w A R s h => by
    obtain ⟨hp, g, d, tk, os⟩ := s
    obtain ⟨hl, h⟩ := h
    have f1 := AutoSeq1.idx_int
    have c1 : (items.isEmpty || (1 : Int) == 1) = true := by simp
    wp_walk using wpAny_loadPart' hl
    repeat (first
      | (refine wpAny_ite_true (decide_eq_true (by rw [c1])) ?_; wp_walk using wpAny_loadPart' hl)
      | (refine wpAny_ite_false (decide_eq_false (by decide)) ?_; wp_walk using wpAny_loadPart' hl))
    exact ⟨_, rfl, h⟩
section
variable {X : Cx} {T : List (Addr × Str)}
theorem op_rep1 : OpR X (binaryOp .Mult) (fun x y H Q => ∃ l xs, x = .ref l ∧ y = .int 1 ∧ SqT X.K H l xs ∧ Q (.ref l) H) := by
  intro pins s σ H x y v u Q I rx ry h
  obtain ⟨l, xs, rfl, rfl, hT, q⟩ := h
  cases rx
  obtain ⟨t, rfl⟩ := ry
  obtain ⟨its, r, ⟨⟨cls, dd, data, sl⟩, ho, hc, n, hd⟩, hs⟩ := I.tuple hT
  simp only at hc hd
  subst hc hd
  exact wpAny_binaryOp_repeat_ref (T := "tuple") (U := "int") (by decide) ⟨_, ho, rfl⟩ (fun s' => typeIs_int s' 1 t) noFill_tuple_mul F.fills_int_mul F.slot_int_rmul repeat_tuple F.slot_int_index.lookup
    (call_meets F.slot_int_rmul (typeIs_int s 1 t) F.entry_int_rmul (F.args_int_rmul_2 _ _) (int_rmul_tuple 1 t l its.toArray n dd sl)
      ⟨ho, rfl, ⟨_, ho, rfl⟩, call_meets F.slot_tuple_mul ⟨_, ho, rfl⟩ F.entry_tuple_mul (F.args_tuple_mul_2 _ _) (tuple_mul1 l its.toArray n dd sl t) ⟨ho, .ref l, H, I, rfl, q⟩⟩)
theorem rep_size {α : Type} (a : Array α) : ∀ (n : Nat) (b : Array α), (List.foldl (· ++ ·) b (List.replicate n a)).size = b.size + a.size * n
  | 0, b => by simp
  | n + 1, b => by
    rw [List.replicate_succ, List.foldl_cons, rep_size a n, Array.size_append, Nat.mul_succ]
    omega
def repS (x : Str) (k : Int) : Str := if (k == 1 || x.length == 0) = true then x else ⟨(List.replicate k.toNat x.cps).foldl (· ++ ·) #[]⟩
theorem op_repS : OpR X (binaryOp .Mult) (fun x y H Q => ∃ z k, x = .str z ∧ y = .int k ∧ 1 ≤ k ∧ k ≤ 1000 ∧ z.length ≤ 1000 ∧ Q (.str (repS z k)) H) := by
  intro pins s σ H x y v u Q I rx ry h
  obtain ⟨z, k, rfl, rfl, h1, h2, hz, q⟩ := h
  obtain ⟨t, rfl⟩ := rx
  obtain ⟨t', rfl⟩ := ry
  have hm : z.length * k.toNat ≤ 1000 * 1000 := Nat.mul_le_mul hz (by omega)
  have n1 : ¬ k < 1 := by omega
  refine P.mul_str (by rw [decide_eq_false (by omega), decide_eq_false (by omega)] <;> rfl) (fun _ _ => ?_) (fun _ _ => ?_) ?_
  · have : (2 ^ 63 - 1) / k ≥ (2 ^ 63 - 1) / 1000 := by
      rw [ge_iff_le, Int.le_ediv_iff_mul_le (by omega)]
      have e : ((2 ^ 63 - 1) / 1000 : Int) = 9223372036854775 := by decide
      rw [e]
      have : (9223372036854775 : Int) * k ≤ 9223372036854775 * 1000 := Int.mul_le_mul_of_nonneg_left h2 (by omega)
      omega
    have e : ((2 ^ 63 - 1) / 1000 : Int) = 9223372036854775 := by decide
    omega
  · unfold Builtin.Str.tooLong
    exact decide_eq_false (by rw [sizeLine_eq]; omega)
  · rw [if_neg n1]
    unfold repS at q
    by_cases hk : (k == 1 || z.length == 0) = true
    · rw [if_pos hk] at q ⊢
      exact ⟨.str z, H, I, ⟨_, rfl⟩, q⟩
    · rw [if_neg hk] at q ⊢
      exact ⟨by show (List.foldl (· ++ ·) #[] (List.replicate k.toNat z.cps)).size ≤ sizeLine; rw [rep_size, sizeLine_eq]; have e0 : (#[] : Array Nat).size = 0 := rfl; have e1 : z.cps.size * k.toNat ≤ 1000 * 1000 := hm; omega, .str _, H, I.tok _, ⟨_, rfl⟩, q⟩
/-! ### times -/
def mulT : D → D → R D
  | .int i, .int j => if cMul i j then .ok (.int (i * j)) else .no
  | .lst xs, .int k => if xs.length * k.toNat ≤ sizeLine ∧ k.natAbs < 1000000 then .ok (.lst (List.replicate k.toNat xs).flatten) else .no
  | .tup xs, .int k => if xs ≠ [] ∧ 1 ≤ k ∧ k ≤ 1000 ∧ xs.length ≤ 1000 then .ok (.tup (List.replicate k.toNat xs).flatten) else .no
  | .str z, .int k => if 1 ≤ k ∧ k ≤ 1000 ∧ z.length ≤ 1000 then .ok (.str (repS z k)) else .no
  | _, _ => .no
theorem o_mulT : Op2 X T (binaryOp .Mult) mulT := by
  obtain ⟨r, hr, er⟩ := o_mul (X := X) (T := T)
  refine ⟨_, hr.or (op_rep1.or op_repS), fun W d e x y Hs H Q a hd he hp => ?_⟩
  have old : mulT d e = mulD d e → (r x y H Q ∨ (∃ l xs, x = .ref l ∧ y = .int 1 ∧ SqT X.K H l xs ∧ Q (.ref l) H) ∨ ∃ z k, x = .str z ∧ y = .int k ∧ 1 ≤ k ∧ k ≤ 1000 ∧ z.length ≤ 1000 ∧ Q (.str (repS z k)) H) := fun q => by
    rw [q] at hp
    exact .inl (er W d e x y Hs H Q a hd he hp)
  cases d with
  | tup xs =>
    cases e with
    | int k =>
      have hp : PostG T (rIs X.K X.mg) W (if xs ≠ [] ∧ 1 ≤ k ∧ k ≤ 1000 ∧ xs.length ≤ 1000 then .ok (.tup (List.replicate k.toNat xs).flatten) else .no) Hs H Q := hp
      by_cases hk : xs ≠ [] ∧ 1 ≤ k ∧ k ≤ 1000 ∧ xs.length ≤ 1000
      · by_cases h1 : k = 1
        · subst h1
          rw [if_pos hk] at hp
          obtain ⟨p, vs, rfl, p1, p2, p3, p4⟩ := hd.tup a
          cases he.flat (fun _ z => nomatch z)
          refine .inr (.inl ⟨p, vs, rfl, rfl, p1, PostG.ret (rel := rIs X.K X.mg) hp a ⟨p, vs, rfl, p2, ?_⟩⟩)
          have e1 : (List.replicate (1 : Int).toNat xs).flatten = xs := by
            show (List.replicate 1 xs).flatten = xs
            simp
          rw [e1]
          exact p3
        · refine old ?_
          show (if _ then _ else _) = (if _ then _ else _)
          rw [if_pos hk, if_pos ⟨hk.1, by omega, hk.2.2.1, hk.2.2.2⟩]
      · rw [if_neg hk] at hp
        exact hp.elim
    | _ => exact old rfl
  | str z =>
    cases e with
    | int k =>
      have hp : PostG T (rIs X.K X.mg) W (if 1 ≤ k ∧ k ≤ 1000 ∧ z.length ≤ 1000 then .ok (.str (repS z k)) else .no) Hs H Q := hp
      by_cases hk : 1 ≤ k ∧ k ≤ 1000 ∧ z.length ≤ 1000
      · rw [if_pos hk] at hp
        cases hd.flat (fun _ z => nomatch z)
        cases he.flat (fun _ z => nomatch z)
        exact .inr (.inr ⟨z, k, rfl, rfl, hk.1, hk.2.1, hk.2.2, PostG.ret (rel := rIs X.K X.mg) hp a rfl⟩)
      · rw [if_neg hk] at hp
        exact hp.elim
    | _ => exact old rfl
  | int i => cases e <;> exact old rfl
  | lst i => cases e <;> exact old rfl
  | _ => exact old rfl

/-! ### a def held by a variable -/
def mCallV (n i : Nat) (cands : List (Str × (List D → R D))) (r : Env → R (List D)) : Env → R D := fun ρ => match ρ[i]? with
  | some (.sh (.fn x)) => match cands.lookup x with
    | some F => (r ρ).bind fun ds => if ds.length = n then F ds else .no
    | none => .no
  | _ => .no
variable {W : Str → Hp → Prop} {e : Expr} {es : List Expr} {pos p : Pos}
theorem pd_callV {j n : Nat} {x : Str} {cands : List (Str × (List D → R D))} {r : Env → R (List D)} (i : Nat) (hS : ∀ z F, cands.lookup z = some F → ∃ k ps, k ≤ j ∧ ps.length = n ∧ Def X.prog X.w X.K X.mg X.base T z k ps F) (c : Cg X W j) (ha : PAD X T W (e :: es) r)
    (hN : X.N[i]? = some x := by rfl) (hv : Vis X.env.scope x := by first | exact Or.inl rfl | exact Or.inr (Or.inl rfl) | exact Or.inr (Or.inr rfl)) (hdb : (x == ("__debug__" : Str)) = false := by decide) (hcd : (x == ("__classdict__" : Str)) = false := by decide)
    (he : starEach (e :: es) X.env = (false, eval e X.env) :: starEach es X.env := by rfl) (hpl : (backTo pos (starEach es X.env)).any (·.1) = false := by rfl) :
    PD X T W (.Call (.Name x p) (e :: es) [] pos) (mCallV n i cands r) := by
  obtain ⟨ta, pa, ea⟩ := ha
  refine ⟨tD X.K X.mg T W (mCallV n i cands r), ⟨fun pins s σ H Q I h => ?_⟩, fun ρ Hs σ H Q rp hp => ⟨ρ, Hs, rp, hp⟩⟩
  obtain ⟨ρ, Hs, rp, hp⟩ := h
  unfold mCallV at hp
  split at hp
  · rename_i z ez
    split at hp
    · rename_i F eF
      obtain ⟨k, ps, hk, hn, G⟩ := hS z F eF
      subst hn
      obtain ⟨f, fd, G, hm, kp, hb⟩ := G.ex
      obtain ⟨v, e1, a, e2, e3⟩ := rp.ok i _ ez
      rw [hm] at e2
      cases e2
      subst e3
      refine (pe_callL (i := i) (p := p) (pos := pos) G (c.room.mono hk) hN hv kp hb .nil c.pass pa hdb hcd he hpl).run pins s σ H Q I ⟨e1, ea ρ Hs σ H _ rp (PostG.mono (PostG.bind hp) fun vs H1 ⟨Hs1, ds, st, is, hp1⟩ => ?_)⟩
      by_cases hl : ds.length = ps.length
      · rw [if_pos hl] at hp1
        rw [List.append_nil]
        refine ⟨Hs1, ds, st.to, is, hl, ?_⟩
        cases q : F ds with
        | ok d => rw [q] at hp1; exact hp1
        | er c => rw [q] at hp1; exact fun Hs' H' st' cls hc => ⟨c, hc, rfl, hp1 Hs' H' st'⟩
        | no => rw [q] at hp1; exact hp1
      · rw [if_neg hl] at hp1
        exact hp1.elim
    · exact hp.elim
  · exact hp.elim
end
end FL
set_option maxHeartbeats 4000000
/-! FL14: defs with lambdas. -/
namespace FL
open PySem PySem.Spec PyProof.Rows L2 LamX
/-- a def by its body, its code object known -/
theorem fn_okC {P : Program} {w : World} {K : PySem.W.Frag} {mg : Str → Option Value} {base : Heap} {T : List (Addr × Str)} {x qual : Str} {params : Arguments} {body : List Stmt} {scope : Scope} {kws : List (Str × V)} {f : Addr} {fd : FuncData} {N ps : List Str} {k : Nat} {m : Env → Oc}
    {c0 : Addr} (F : FunD K x qual params body scope [] kws f fd) (hc0 : fd.code = .ref c0) (S : FnScope N ps scope)
    (hbody : ∀ (A : Around) (outer : List PySem.Env) (s : Shared) (H : Hp) (E : XK), Cg (cxOf (L2N.CX P w) P w K mg base N qual scope f (.ref c0) A outer s H E) (Wof mg E) k → L2N.Takes (cxOf (L2N.CX P w) P w K mg base N qual scope f (.ref c0) A outer s H E) (fun cls d _ H => EW mg (Wof mg E) cls d H) →
      PassesOwn (model P w) (A.deeper (envOfC qual scope s.heap.objs.size f (.ref c0))) (envOfC qual scope s.heap.objs.size f (.ref c0)) (cxOf (L2N.CX P w) P w K mg base N qual scope f (.ref c0) A outer s H E).xe →
      PDSs (cxOf (L2N.CX P w) P w K mg base N qual scope f (.ref c0) A outer s H E) T (Wof mg E) body m) :
    FnOk P w K mg base (L2N.CX P w) (k + 1) f fd ps (spD K mg T ps.length (runF N.length ps.length m)) := by
  have hpl : ps.length ≤ N.length := by have := congrArg List.length S.pre; rw [List.length_take] at this; omega
  obtain ⟨oc, od, dV, kV, doc, pm, an, cdv, ct, osl, rfl, lk, hcd, _, _⟩ := F.ex
  obtain rfl : cdv = .ref c0 := hc0
  refine fn_of lk hcd S spD_len fun A outer s H vs Q E hr h => ?_
  have tk : L2N.Takes (cxOf (L2N.CX P w) P w K mg base N qual scope f (.ref c0) A outer s H E) (fun cls d _ H => EW mg (Wof mg E) cls d H) := (L2N.takes_of rfl rfl rfl rfl).imp fun cls d σ H ⟨c, h1, h2, h3⟩ => by subst h2; exact h3 cls h1
  have cg : Cg (cxOf (L2N.CX P w) P w K mg base N qual scope f (.ref c0) A outer s H E) (Wof mg E) k := ⟨S.nd, rfl, hr, L2N.passes_call (E := EW mg (Wof mg E)) tk fun cls d σ H h => h⟩
  obtain ⟨t, ps', ev⟩ := hbody A outer s H E cg tk (passes_of rfl)
  refine ⟨t, ps', ?_⟩
  obtain ⟨Hs, ds, to, is, hl, hp⟩ := h
  have rp := start_rp (N := N) (K := K) (mg := mg) to is hl hpl
  refine ev _ Hs H Hs H _ _ ⟨rp, .refl to, fun i es p e => ?_⟩ ?_
  · exfalso
    by_cases hi : i < ds.length
    · rw [List.getElem?_append_left (by rw [List.length_map]; exact hi), List.getElem?_map, List.getElem?_eq_getElem hi] at e
      cases e
    · rw [List.getElem?_append_right (by rw [List.length_map]; omega), List.getElem?_replicate] at e
      split at e <;> cases e
  · unfold runF at hp
    rw [if_pos hl] at hp
    cases q : m (ds.map Sl.sh ++ List.replicate (N.length - ps.length) Sl.no) with
    | rt d => rw [q] at hp; exact fun v Hs' H' st is => hp v Hs' H' st is
    | nx ρ => rw [q] at hp; exact fun Hs' H' σ' fr => hp .non Hs' H' fr.st rfl
    | er c => rw [q] at hp; exact fun Hs' H' st => hp Hs' H' st
    | bk ρ => rw [q] at hp; exact hp.elim
    | ct ρ => rw [q] at hp; exact hp.elim
    | no => rw [q] at hp; exact hp.elim
theorem law_okC {P : Program} {w : World} {K : PySem.W.Frag} {mg : Str → Option Value} {base : Heap} {T : List (Addr × Str)} {x qual : Str} {params : Arguments} {body : List Stmt} {scope : Scope} {kws : List (Str × V)} {f : Addr} {fd : FuncData} {N ps : List Str} {k : Nat} {m : Env → Oc}
    {c0 : Addr} (F : FunD K x qual params body scope [] kws f fd) (hc0 : fd.code = .ref c0) (S : FnScope N ps scope) {na nb : Nat} (hN : N.length = na) (hP : ps.length = nb)
    (hbody : ∀ (A : Around) (outer : List PySem.Env) (s : Shared) (H : Hp) (E : XK), Cg (cxOf (L2N.CX P w) P w K mg base N qual scope f (.ref c0) A outer s H E) (Wof mg E) k → L2N.Takes (cxOf (L2N.CX P w) P w K mg base N qual scope f (.ref c0) A outer s H E) (fun cls d _ H => EW mg (Wof mg E) cls d H) →
      PassesOwn (model P w) (A.deeper (envOfC qual scope s.heap.objs.size f (.ref c0))) (envOfC qual scope s.heap.objs.size f (.ref c0)) (cxOf (L2N.CX P w) P w K mg base N qual scope f (.ref c0) A outer s H E).xe →
      PDSs (cxOf (L2N.CX P w) P w K mg base N qual scope f (.ref c0) A outer s H E) T (Wof mg E) body m) :
    FnOk P w K mg base (L2N.CX P w) (k + 1) f fd ps (spD K mg T nb (runF na nb m)) := by
  subst hN hP
  exact fn_okC F hc0 S hbody
theorem law_okD {P : Program} {w : World} {K : PySem.W.Frag} {mg : Str → Option Value} {base : Heap} {T : List (Addr × Str)} {x qual : Str} {params : Arguments} {body : List Stmt} {scope : Scope} {kws : List (Str × V)} {f : Addr} {fd : FuncData} {N ps : List Str} {k : Nat} {m : Env → Oc}
    (F : FunD K x qual params body scope [] kws f fd) (S : FnScope N ps scope) {na nb : Nat} (hN : N.length = na) (hP : ps.length = nb)
    (hbody : ∀ (cdv : Value) (A : Around) (outer : List PySem.Env) (s : Shared) (H : Hp) (E : XK), Cg (cxOf (L2N.CX P w) P w K mg base N qual scope f cdv A outer s H E) (Wof mg E) k → L2N.Takes (cxOf (L2N.CX P w) P w K mg base N qual scope f cdv A outer s H E) (fun cls d _ H => EW mg (Wof mg E) cls d H) →
      PassesOwn (model P w) (A.deeper (envOfC qual scope s.heap.objs.size f cdv)) (envOfC qual scope s.heap.objs.size f cdv) (cxOf (L2N.CX P w) P w K mg base N qual scope f cdv A outer s H E).xe →
      PDSs (cxOf (L2N.CX P w) P w K mg base N qual scope f cdv A outer s H E) T (Wof mg E) body m) :
    FnOk P w K mg base (L2N.CX P w) (k + 1) f fd ps (spD K mg T nb (runF na nb m)) := by
  subst hN hP
  exact fn_okD F S hbody
/-- where a def stands, and its code object -/
structure FunC (K : PySem.W.Frag) (mg : Str → Option Value) (x : Str) (st : Stmt) (c0 : Addr) : Prop where
  ex : ∃ f fd, FunD K x x (defArgs st) (defBody st) (defScope st) [] [] f fd ∧ mg x = some (.ref f) ∧ fd.code = .ref c0
/-- the code object's table -/
structure LamOk (base : Heap) (mg : Str → Option Value) (T : List (Addr × Str)) (qual : Str) (c0 P0 : Addr) : Prop where
  tb : TabB base mg c0 P0
  mem : (P0, (qual ++ ".<locals>.") ++ "<lambda>") ∈ T
  u : ∀ p ∈ T, p.1 = P0 → p.2 = (qual ++ ".<locals>.") ++ "<lambda>"
theorem def_ofC {P : Program} {w : World} {K : PySem.W.Frag} {mg : Str → Option Value} {base : Heap} {T : List (Addr × Str)} {x : Str} {st : Stmt} {N ps : List Str} {k na nb : Nat} {m : Env → Oc}
    {c0 : Addr} (F : FunC K mg x st c0) (S : FnScope N ps (defScope st)) (hN : N.length = na) (hP : ps.length = nb)
    (hb : ∀ (kV doc pm : Value) (an : Option Addr) (cdv ct : Value) (us : List Value), us.length = ps.length → bindArgs (PySem.W.fnOf x x (defArgs st) (defBody st) (defScope st) .none kV doc pm an cdv ct) ⟨us, []⟩ = pure (ps.zip us))
    (hbody : ∀ (f : Addr) (A : Around) (outer : List PySem.Env) (s : Shared) (H : Hp) (E : XK), Cg (cxOf (L2N.CX P w) P w K mg base N x (defScope st) f (.ref c0) A outer s H E) (Wof mg E) k → L2N.Takes (cxOf (L2N.CX P w) P w K mg base N x (defScope st) f (.ref c0) A outer s H E) (fun cls d _ H => EW mg (Wof mg E) cls d H) →
      PassesOwn (model P w) (A.deeper (envOfC x (defScope st) s.heap.objs.size f (.ref c0))) (envOfC x (defScope st) s.heap.objs.size f (.ref c0)) (cxOf (L2N.CX P w) P w K mg base N x (defScope st) f (.ref c0) A outer s H E).xe →
      PDSs (cxOf (L2N.CX P w) P w K mg base N x (defScope st) f (.ref c0) A outer s H E) T (Wof mg E) (defBody st) m) :
    Def P w K mg base T x (k + 1) ps (runF na nb m) := by
  subst hN hP
  obtain ⟨f, fd, F, hg, hc0⟩ := F.ex
  exact ⟨f, fd, fn_okC F hc0 S (hbody f), hg, F.kp, F.bindsN hb⟩
section
variable {X : Cx} {T : List (Addr × Str)} {W : Str → Hp → Prop} {a : Expr} {ma : Env → R D} {pos : Pos}
theorem ptd_isN {j pos'} (ha : PDt X T W a ma) : PTD X T W (.Compare a [.Is] [.Constant .none j pos'] pos) (mB (mIsN false ma)) := by
  obtain ⟨ta, pa, ea⟩ := ha
  refine ⟨_, pt_cmp (pc_isN pa) rfl, ev_B fun ρ Hs σ H Q rp hp => ea ρ Hs σ H _ rp (PostG.mono (PostG.bind hp) fun x H1 ⟨Hs1, d, st, is, hp1⟩ => ?_)⟩
  rw [isN_is is]
  rw [Bool.false_xor] at hp1
  exact PostG.ret (rel := rIs X.K X.mg) hp1 st.to rfl
theorem ptd_notN {j pos'} (ha : PDt X T W a ma) : PTD X T W (.Compare a [.IsNot] [.Constant .none j pos'] pos) (mB (mIsN true ma)) := by
  obtain ⟨ta, pa, ea⟩ := ha
  refine ⟨_, pt_cmp (pc_notN pa) rfl, ev_B fun ρ Hs σ H Q rp hp => ea ρ Hs σ H _ rp (PostG.mono (PostG.bind hp) fun x H1 ⟨Hs1, d, st, is, hp1⟩ => ?_)⟩
  rw [isN_is is]
  rw [Bool.true_xor] at hp1
  exact PostG.ret (rel := rIs X.K X.mg) hp1 st.to rfl
end
/-- the defs that a variable may hold -/
def Cands (P : Program) (w : World) (K : PySem.W.Frag) (mg : Str → Option Value) (base : Heap) (T : List (Addr × Str)) (j n : Nat) (cs : List (Str × (List D → R D))) : Prop :=
  ∀ z F, cs.lookup z = some F → ∃ k ps, k ≤ j ∧ ps.length = n ∧ Def P w K mg base T z k ps F
section
variable {P : Program} {w : World} {K : PySem.W.Frag} {mg : Str → Option Value} {base : Heap} {T : List (Addr × Str)} {j n : Nat}
theorem cands_nil : Cands P w K mg base T j n [] := fun z F h => by cases h
theorem cands_cons {x : Str} {F0 : List D → R D} {cs : List (Str × (List D → R D))} {k : Nat} {ps : List Str} (G : Def P w K mg base T x k ps F0) (hk : k ≤ j) (hp : ps.length = n) (h : Cands P w K mg base T j n cs) : Cands P w K mg base T j n ((x, F0) :: cs) := fun z F q => by
  rw [List.lookup_cons] at q
  split at q
  · rename_i e
    cases q
    have e : z = x := by simpa using e
    subst e
    exact ⟨k, ps, hk, hp, G⟩
  · exact h z F q
theorem cands_le {j' : Nat} {cs : List (Str × (List D → R D))} (h : Cands P w K mg base T j n cs) (hj : j ≤ j') : Cands P w K mg base T j' n cs := fun z F q => by
  obtain ⟨k, ps, h1, h2⟩ := h z F q
  exact ⟨k, ps, Nat.le_trans h1 hj, h2⟩
end
end FL
set_option maxHeartbeats 4000000
/-! FL15: from the head to the law. -/
namespace FL
open PySem PySem.Spec PyProof.Rows L2 LamX
/-- the exception classes, checked -/
def excCB (K : PySem.W.Frag) (D : Addr) : Bool :=
  He.eqO (PySem.W.findIn K (.ref D) "__getattribute__") (some (some (.builtin "BaseException.__getattribute__"))) && (He.eqO (PySem.W.findIn K (.ref D) "__getattr__") (some none) && (decide (PySem.W.subIn K (.ref D) (.type "BaseException") = some true) && (PySem.W.hasDictIn K D &&
  (He.eqO (PySem.W.findIn K (.ref D) "__class__") (some (some (.builtin "object.__class__"))) && (He.eqO (PySem.W.specialIn K (.builtin "object.__class__") "__get__") (some (some (.builtin "getset_descriptor.__get__"))) &&
  (decide (PySem.W.takesIn K (.builtin "object.__class__") = some true) && decide (PySem.W.mroIn K D (.type "object") = some true)))))))
theorem excC_of {K : PySem.W.Frag} {D : Addr} (h : excCB K D = true) : ExcC K D := by
  obtain ⟨h1, h⟩ := He.ba h
  obtain ⟨h2, h⟩ := He.ba h
  obtain ⟨h3, h⟩ := He.ba h
  obtain ⟨h4, h⟩ := He.ba h
  obtain ⟨h5, h⟩ := He.ba h
  obtain ⟨h6, h⟩ := He.ba h
  obtain ⟨h7, h8⟩ := He.ba h
  exact ⟨He.eqO_ok h1, He.eqO_ok h2, of_decide_eq_true h3, h4, He.eqO_ok h5, He.eqO_ok h6, of_decide_eq_true h7, of_decide_eq_true h8⟩
def excWB (cs : List Str) (K : PySem.W.Frag) : Bool := cs.all fun c => excCB K (He.ga K c) && (decide (PySem.W.kitOne K (.ref (He.ga K c)) (.type "ValueError") = some true) && (decide (PySem.W.exmOne K (.ref (He.ga K c)) (.ref (He.ga K "LookError")) = some true) &&
  cs.all fun c' => decide (PySem.W.kitOne K (.ref (He.ga K c)) (.ref (He.ga K c')) = some (decide (c = c')))))
theorem excW_of {K : PySem.W.Frag} {mg : Str → Option Value} {cs : List Str} (h : excWB cs K = true) (hg : ∀ c ∈ cs, mg c = some (.ref (He.ga K c))) (hl : mg "LookError" = some (.ref (He.ga K "LookError"))) : ExcW K mg cs := by
  refine ⟨fun c hc => ?_, _, hl⟩
  obtain ⟨h1, h2⟩ := He.ba (List.all_eq_true.mp h c hc)
  obtain ⟨h2, h3⟩ := He.ba h2
  obtain ⟨h3, h4⟩ := He.ba h3
  refine ⟨_, hg c hc, excC_of h1, of_decide_eq_true h2, fun CS e => ?_, fun c' hc' D' e => ?_⟩
  · rw [hl] at e
    cases e
    exact of_decide_eq_true h3
  · rw [hg c' hc'] at e
    cases e
    exact of_decide_eq_true (List.all_eq_true.mp h4 c' hc')
section
variable {K : PySem.W.Frag} {h : Heap} {mg : Str → Option Value} {fa : List He.Fa} {fn : List He.DefD}
/-- a def by its name -/
theorem funG_of (X : K.In h) (G : h.Ns mainGlobals mg) (c : He.SaysD fa fn K) {x : Str} {st : Stmt} (hd : (⟨(x, none), x, x, defArgs st, defBody st, defScope st, [], []⟩ : He.DefD) ∈ fn) (hf : He.Fa.glo x ∈ fa) : FunG K mg x st := by
  obtain ⟨fd, F⟩ := c.defs hd
  exact ⟨_, fd, F, He.glo_ok X G (c.facts hf)⟩
theorem excF_of (X : K.In h) (G : h.Ns mainGlobals mg) (c : He.SaysD fa fn K) {x : Str} (hf : He.Fa.glo x ∈ fa) (he : He.Fa.exc x ∈ fa) : ExcF K mg x := by
  obtain ⟨h1, h2, h3, h4⟩ := He.exc_ok (c.facts he)
  exact ⟨_, He.glo_ok X G (c.facts hf), h1, h2, h3, h4⟩
/-- the law's def: its code object -/
theorem funC_of (X : K.In h) (G : h.Ns mainGlobals mg) (c : He.SaysD fa fn K) {x : Str} {st : Stmt} (hd : (⟨(x, none), x, x, defArgs st, defBody st, defScope st, [], []⟩ : He.DefD) ∈ fn) (hf : He.Fa.glo x ∈ fa) : FunC K mg x st (He.cT K (x, none)).1 := by
  obtain ⟨fd, F⟩ := c.defs hd
  obtain ⟨oc, od, dV, kV, doc, pm, an, cdv, ct, osl, rfl, lk, hcd, hD, hK⟩ := id F.ex
  refine ⟨_, _, F, He.glo_ok X G (c.facts hf), ?_⟩
  cases cdv with
  | ref z =>
    have e := He.codeOf_eq (c := z) lk rfl
    show Value.ref z = .ref (He.codeOf K (x, none))
    rw [← e] <;> rfl
  | _ => cases hcd
end
/-- the script's bounds -/
def ScrOk (ns : List Int) : Prop := ns.length ≤ 63 ∧ ∀ z ∈ ns, Builtin.Int.intBits z ≤ 1048576
/-- the law's promise, from its walk and the plain law -/
theorem law_at {l : PySem.W.OpenLaw} {w : World} {K : PySem.W.Frag} {mg : Str → Option Value} {h : Heap} {st : Stmt} {x : Str} {k : Nat} {F : List D → R D} {ps : List (Str × Option Str)} {f : Addr} {fd : FuncData}
    (X : K.In h) (hd : ∀ p ∈ ps, PySem.W.codeHdIn K (He.cT K p).1 (He.cT K p).2 = true) (ho : ∀ p ∈ ps, K.lookup (He.cT K p).2 = none) (he : ∀ p ∈ ps, h.get? (He.cT K p).2 = some { cls := .none, data := .fields #[] })
    (FD : FunD K "law" "law" (defArgs st) (defBody st) (defScope st) [] [] f fd)
    (bb : ∀ (kV doc pm : Value) (an : Option Addr) (cdv ct : Value) (us : List Value), us.length = ([x] : List Str).length → bindArgs (PySem.W.fnOf "law" "law" (defArgs st) (defBody st) (defScope st) .none kV doc pm an cdv ct) ⟨us, []⟩ = pure (([x] : List Str).zip us))
    (hF : ∀ ns, ScrOk ns → F [.scr ns] = .ok (.bl true))
    (hok : ∀ base : Heap, K.In base → base.Ns mainGlobals mg → (∀ p ∈ ps, TabB base mg (He.cT K p).1 (He.cT K p).2) → FnOk l.prog w K mg base (L2N.CX l.prog w) k f fd [x] (spD K mg (ps.map fun p => ((He.cT K p).2, p.1 ++ ".<locals>." ++ "<lambda>")) 1 F)) :
    LawAtS l w K (L2N.CX l.prog w) k 63 x mg f h := by
  refine ⟨fd, ps.map (He.cT K), spD K mg (ps.map fun p => ((He.cT K p).2, p.1 ++ ".<locals>." ++ "<lambda>")) 1 F, fun p hp => ?_, fun p hp => ?_, fun p hp => ?_, fun s u => FD.bindsA (ps := [x]) bb s [u] rfl, fun H a ns hn hb hT hS => ?_, fun base KB NB TB => hok base KB NB fun p hp => TB _ (List.mem_map_of_mem hp)⟩
  · obtain ⟨q, hq, rfl⟩ := List.mem_map.mp hp
    exact he q hq
  · obtain ⟨q, hq, rfl⟩ := List.mem_map.mp hp
    exact ho q hq
  · obtain ⟨q, hq, rfl⟩ := List.mem_map.mp hp
    exact PySem.W.codeHd_of_K X (hd q hq)
  · have tabs : Tabs (ps.map fun p => ((He.cT K p).2, p.1 ++ ".<locals>." ++ "<lambda>")) H := fun p hp => by
      obtain ⟨q, hq, rfl⟩ := List.mem_map.mp hp
      exact TabS.nil (hT _ (List.mem_map_of_mem hq))
    have fin : ∀ Hs, ExtW Hs H → Sz Hs → SqL K Hs a (ns.map V.int) → spD K mg (ps.map fun p => ((He.cT K p).2, p.1 ++ ".<locals>." ++ "<lambda>")) 1 F [.ref a] H (fun v _ => v = .bl true) fun _ _ _ => False := fun Hs sub sz hS => by
      refine ⟨Hs, [.scr ns], ⟨sub, tabs, sz⟩, ⟨.ref a, [], rfl, ⟨a, rfl, hS⟩, rfl⟩, rfl, ?_⟩
      rw [hF ns ⟨hn, hb⟩]
      intro v Hs' H' st' is
      exact is
    have hl : (ns.map V.int).length ≤ sizeLine := by rw [List.length_map, sizeLine_eq]; omega
    have one : ∀ o, H a = some o → ExtW (upd (fun _ => none) a o) H := fun o e => .of fun b u q => by
      by_cases hb : b = a
      · subst hb
        rw [upd_same] at q
        cases q
        exact e
      · rw [upd_ne hb] at q
        cases q
    have nosz : Sz (fun _ => none) := fun b vs r => by
      rcases r with (r | ⟨o, r⟩) | (r | ⟨o, r⟩) <;> cases r
    rcases hS with (r | ⟨o, r⟩) | r
    · refine fin _ (one _ r) (fun b vs q => ?_) (.inl (.inl upd_same))
      by_cases hb : b = a
      · subst hb
        rcases q with (q | ⟨o, q⟩) | (q | ⟨o, q⟩) <;> rw [upd_same] at q <;> cases q
        exact hl
      · rcases q with (q | ⟨o, q⟩) | (q | ⟨o, q⟩) <;> rw [upd_ne hb] at q <;> cases q
    · refine fin _ (one _ r) (fun b vs q => ?_) (.inl (.inr ⟨o, upd_same⟩))
      by_cases hb : b = a
      · subst hb
        rcases q with (q | ⟨o, q⟩) | (q | ⟨o, q⟩) <;> rw [upd_same] at q <;> cases q
        exact hl
      · rcases q with (q | ⟨o, q⟩) | (q | ⟨o, q⟩) <;> rw [upd_ne hb] at q <;> cases q
    · exact fin _ (.of fun b u q => by cases q) nosz (.inr r)
end FL
set_option maxHeartbeats 4000000
/-! FL16: sum, sorted of a tuple of ints. -/
namespace PyProof.Rows
open PySem PySem.Spec
section
variable {prog : Program} {w : World} {A : Around} {E : Value → Shared → Prop} {s : Shared}
theorem collectT {l : Addr} {zs : List Value} {o : Obj} {n : Nat} {Q : List Value → Shared → Prop} (ho : s.heap.get? l = some o) (hc : o.cls = .type "tuple") (hd : o.data = .seq zs.toArray n)
    (h : Q zs { s with heap := (s.heap.push (seqObj "list" #[] 0)).update s.heap.objs.size (Obj.mapSeq (· ++ zs.toArray)) }) (hz : zs.length ≤ sizeLine) : wpAny (model prog w) A (collect (.ref l)) Q E s := by
  unfold collect
  refine wpAny_bind (wpAny_runValue (codeAny_builtin entry_proto_collect' ?_))
  show wpAny _ _ (do again (.builtin "list.__iadd__" ⟨[← newList [], Value.ref l], []⟩)) _ _ s
  refine wpAny_bind (wpAny_newList (wpAny_pure ⟨Code.quiet_builtin _ (by decide +kernel), codeAny_builtin entry_list_iadd' ?_⟩))
  show wpAny _ _ (Builtin.List.listExtendWith (Value.ref s.heap.objs.size) (.ref l) (.ref s.heap.objs.size)) _ _ { s with heap := s.heap.push (seqObj "list" #[] 0) }
  unfold Builtin.List.listExtendWith
  have ho2 : (s.heap.push (seqObj "list" #[] 0)).get? l = some o := Heap.get?_push_of_some _ ho
  refine wpAny_bind (wpAny_typeOf (T := "tuple") ⟨o, ho2, hc⟩ ?_)
  have ht : (Value.type "tuple" == Value.type "tuple") = true := by rfl
  rw [if_pos (by rw [ht]; simp)]
  refine wpAny_bind (listItems_at ho2 hd ?_)
  refine wpAny_bind (listItems_at (n := 0) (xs := #[]) (Heap.get?_push_size _ rfl) rfl ?_)
  rw [if_neg (by simp)]
  refine wpAny_bind (listUpdate_at (n := 0) (xs := #[]) (Heap.get?_push_size _ rfl) rfl ?_ (Nat.zero_le _) (by show (#[] ++ zs.toArray).size ≤ sizeLine + 1; simp only [Array.size_append, List.size_toArray, List.length_nil]; omega))
  refine wpAny_pure ?_
  show wpAny (model prog w) A (do
      let o ← load s.heap.objs.size
      match o.data with
      | .seq ys _ => pure ys.toList
      | _ => unsupported "internal:collect") Q E { s with heap := (s.heap.push (seqObj "list" #[] 0)).update s.heap.objs.size (Obj.mapSeq (· ++ zs.toArray)) }
  refine wpAny_bind (wpAny_load (get?_update_seq (Heap.get?_push_size _ rfl) _) ?_)
  show wpAny _ _ (pure ((#[] : Array Value) ++ zs.toArray).toList) Q E _
  rw [show ((#[] : Array Value) ++ zs.toArray).toList = zs by simp]
  exact wpAny_pure h
end
end PyProof.Rows
namespace SrtO
open PySem PySem.Spec PyProof.Rows
section
variable {prog : Program} {w : World} {A : Around} {E : Value → Shared → Prop} {s : Shared}
theorem sorted_tupO {l : Addr} {zs : List Value} {o : Obj} {n : Nat} {ltv : Value → Value → Bool} {Q : Value → Shared → Prop} (O : Swo ltv) (ho : s.heap.get? l = some o) (hc : o.cls = .type "tuple") (hd : o.data = .seq zs.toArray n) (hz : zs.length ≤ sizeLine)
    (hS : 2 ≤ zs.length → ∀ (h₁ : Heap) (a : Addr), h₁.get? a = some (seqObj "list" zs.toArray 0) → (∀ b o, s.heap.get? b = some o → b ≠ a ∧ h₁.get? b = some o) → SortableO prog w A.in1.in1 { s with heap := h₁ } a zs ltv)
    (h : ∀ out : List Value, Srtd ltv out → Stb ltv out zs → Q (.ref (s.heap.objs.size + 1)) { s with heap := sortedAll s.heap zs out.toArray }) : wpAny (model prog w) A (call (.builtin "sorted") [.ref l]) Q E s := by
  refine Calls.call_function_entry kind_sorted plain_sorted entry_sorted (args_sorted1 (.ref l)) ?_
  unfold Builtin.«sorted»
  refine wpAny_bind (m := checkCount "sorted" 1 1 _) (wpAny_pure ?_)
  refine wpAny_bind (collectT ho hc hd ?_ hz)
  refine wpAny_bind (wpAny_newList ?_ hz)
  have gsz : ((s.heap.push (seqObj "list" #[] 0)).update s.heap.objs.size (Obj.mapSeq (· ++ zs.toArray))).objs.size = s.heap.objs.size + 1 := by rw [Heap.size_update, size_push']
  have gL : (((s.heap.push (seqObj "list" #[] 0)).update s.heap.objs.size (Obj.mapSeq (· ++ zs.toArray))).push (seqObj "list" zs.toArray 0)).get? (s.heap.objs.size + 1) = some (seqObj "list" zs.toArray 0) := by rw [← gsz]; exact Heap.get?_push_size _ rfl
  have keep : ∀ b u, s.heap.get? b = some u → b ≠ s.heap.objs.size + 1 ∧ (((s.heap.push (seqObj "list" #[] 0)).update s.heap.objs.size (Obj.mapSeq (· ++ zs.toArray))).push (seqObj "list" zs.toArray 0)).get? b = some u := fun b u q => by
    have lt : b < s.heap.objs.size := Heap.lt_size q
    refine ⟨Nat.ne_of_lt (Nat.lt_succ_of_lt lt), Heap.get?_push_of_some _ ?_⟩
    rw [Heap.get?_update_ne _ _ _ _ (Nat.ne_of_lt lt)]
    exact Heap.get?_push_of_some _ q
  show wpAny _ _ _ _ _ { s with heap := ((s.heap.push (seqObj "list" #[] 0)).update s.heap.objs.size (Obj.mapSeq (· ++ zs.toArray))).push (seqObj "list" zs.toArray 0) }
  rw [gsz]
  refine wpAny_bind (wpAny_holding (wpAny_call_entry slot_list_sort ⟨_, gL, rfl⟩ entry_list_sort (list_sort_ord O gL hz (fun h2 => hS h2 _ _ gL keep) fun out h3 h4 => ⟨_, rfl, ?_⟩) (args_list_sort _)))
  exact wpAny_pure ⟨_, rfl, h out h3 h4⟩
end
end SrtO
namespace FL
open PySem PySem.Spec PyProof.Rows L2
section
variable {X : Cx} {T : List (Addr × Str)}
theorem call_sortT : CallR X (.builtin "sorted") (fun vs H Q => ∃ (a : Addr) (ns : List Int), vs = [V.ref a] ∧ SqT X.K H a (ns.map V.int) ∧ ∀ (ns' : List Int) (p : Addr), ns'.Perm ns → ns'.Pairwise (· ≤ ·) → H p = none → Q (.ref p) (upd H p (.lst (ns'.map V.int)))) := by
  intro pz s σ H vs us Q I r h
  obtain ⟨a, ns, rfl, hs, q⟩ := h
  obtain ⟨its, rv, ⟨o, ho, hc, n, hd⟩, hz⟩ := I.tuple hs
  rw [Vals.ref1 r]
  have hi := rv.ints
  have hz' : its.length ≤ sizeLine := by rw [← rv.length]; first | exact hz | (simp only [List.size_toArray] at hz; rw [rv.length]; exact hz)
  refine SrtO.sorted_tupO SrtO.swo_int ho hc hd hz' (fun h2 h₁ a' _ _ => SrtO.ints_sortable hi h2) fun out h1 h2 => ?_
  obtain ⟨k1, k2, k3⟩ := SrtO.ints_out hi h1 h2
  obtain ⟨ep, he'⟩ := PyProof.Rows.sortedAll_at s.heap its out.toArray
  have hlen : ((out.map SrtO.iv).map V.int).length ≤ sizeLine := by
    have := rv.length
    rw [List.length_map] at this
    rw [List.length_map, k2.length_eq]
    omega
  exact ⟨.ref _, upd H (s.heap.objs.size + 1) (.lst ((out.map SrtO.iv).map V.int)), I.laid (t' := s.toks) (fun _ _ => PyProof.Rows.sortedAll_old) (Nat.le_succ _) ⟨hlen, out, ep, vals_of_ints k1, he'⟩, rfl, q _ _ k2 k3 (I.hok.fresh (Nat.le_succ _))⟩
theorem call_sumT (hc : X.calm = true) : CallR X (.builtin "sum") (fun vs H Q => ∃ (a : Addr) (ns : List Int), vs = [V.ref a] ∧ SqT X.K H a (ns.map V.int) ∧ Q (.int ns.sum) H) := by
  intro pz s σ H vs us Q I r h
  obtain ⟨a, ns, rfl, hs, q⟩ := h
  obtain ⟨its, rv, pt, hz⟩ := I.tuple hs
  rw [Vals.ref1 r]
  have hi := rv.ints
  obtain ⟨xs, e⟩ := hi.allInts.items
  have hn : numsOf (intItems xs).toList = ns := by rw [← e]; exact hi.numsOf
  rw [nums_intItems] at hn
  have pt : s.heap.IsTuple a its.toArray := pt
  rw [e] at pt
  refine PySem.W.ktm_sumG (I.ok.hd hc) pt fun h' tk t' hk => ?_
  have z : preSum (numAt xs) xs.size = ns.sum := by rw [preSum_eq, List.take_of_length_le (by simp), hn]
  rw [z]
  exact ⟨.int _, H, I.kept hk, ⟨_, rfl⟩, q⟩
theorem CallR.or2 {f : Value} {r r' : List V → Hp → VK → Prop} (h : CallR X f r) (h' : CallR X f r') : CallR X f (fun xs H Q => r xs H Q ∨ r' xs H Q) := fun pz s σ H xs us Q I rv q => q.elim (h pz s σ H xs us Q I rv) (h' pz s σ H xs us Q I rv)
/-- of lists and of tuples -/
def intsLT (g : List Int → R D) : D → R D
  | .lst ds => match asInts ds with
    | some ns => g ns
    | none => .no
  | .tup ds => match asInts ds with
    | some ns => g ns
    | none => .no
  | _ => .no
@[simp] theorem intsLT_lst (g : List Int → R D) (ns : List Int) : intsLT g (.lst (ns.map D.int)) = g ns := by
  unfold intsLT
  simp only [asInts_map]
@[simp] theorem intsLT_tup (g : List Int → R D) (ns : List Int) : intsLT g (.tup (ns.map D.int)) = g ns := by
  unfold intsLT
  simp only [asInts_map]
theorem ints_tup {g : List Int → R D} {ds : List D} {x : V} {Hs H : Hp} {Q : VK} {W : Str → Hp → Prop} (to : At T Hs H) (is : IsT X.K X.mg Hs H (.tup ds) x) (hp : PostG T (rIs X.K X.mg) W (intsLT g (.tup ds)) Hs H Q) :
    ∃ a ns, x = .ref a ∧ SqT X.K H a (ns.map V.int) ∧ ns.length ≤ sizeLine ∧ PostG T (rIs X.K X.mg) W (g ns) Hs H Q := by
  unfold intsLT at hp
  cases e : asInts ds with
  | none => simp only [e] at hp; exact hp.elim
  | some ns =>
    simp only [e] at hp
    have e := asInts_eq e
    subst e
    obtain ⟨p, vs, rfl, p1, p2, p3, p4⟩ := is.tup to
    have e3 := p3.ints
    subst e3
    exact ⟨p, ns, rfl, p1, by rw [List.length_map] at p4; exact p4, hp⟩
def sumTD : D → R D := intsLT fun ns => .ok (.int ns.sum)
def sortTD : D → R D := intsLT fun ns => .ok (.lst ((sortI ns).map D.int))
theorem c_sumT (hc : X.calm = true) : Cal1 X T (.builtin "sum") sumTD := by
  refine ⟨_, CallR.or2 (cr_sum hc) (call_sumT hc), fun W d x Hs H Q to is hp => ?_⟩
  cases d with
  | tup ds =>
    obtain ⟨a, ns, rfl, h1, _, h2⟩ := ints_tup to is hp
    exact .inr ⟨a, ns, rfl, h1, PostG.ret (rel := rIs X.K X.mg) h2 to rfl⟩
  | lst ds =>
    obtain ⟨a, ns, rfl, h1, _, h2⟩ := ints_of (g := fun ns => .ok (.int ns.sum)) to is hp
    exact .inl ⟨a, ns, rfl, h1, PostG.ret (rel := rIs X.K X.mg) h2 to rfl⟩
  | _ => exact hp.elim
theorem c_sortT : Cal1 X T (.builtin "sorted") sortTD := by
  refine ⟨_, CallR.or2 cr_sortedI call_sortT, fun W d x Hs H Q to is hp => ?_⟩
  have fin : ∀ {ns ns' : List Int} {p : Addr}, PostG T (rIs X.K X.mg) W (.ok (.lst ((sortI ns).map D.int))) Hs H Q → ns.length ≤ sizeLine → ns'.Perm ns → ns'.Pairwise (· ≤ ·) → H p = none → Q (.ref p) (upd H p (.lst (ns'.map V.int))) := fun {ns ns' p} h2 hz k1 k2 hpn => by
    have e : ns' = sortI ns := sorted_uniq (k1.trans (sortI_perm ns).symm) k2 (sortI_sorted ns)
    subst e
    have st := Step.lst (vs := (sortI ns).map V.int) to hpn (by rw [List.length_map, (sortI_perm ns).length_eq]; exact hz)
    exact h2 _ _ _ st ⟨p, _, rfl, upd_same, IsL.of_ints⟩
  cases d with
  | tup ds =>
    obtain ⟨a, ns, rfl, h1, hz, h2⟩ := ints_tup to is hp
    exact .inr ⟨a, ns, rfl, h1, fun ns' p k1 k2 hpn => fin h2 hz k1 k2 hpn⟩
  | lst ds =>
    obtain ⟨a, ns, rfl, h1, hz, h2⟩ := ints_of (g := fun ns => .ok (.lst ((sortI ns).map D.int))) to is hp
    exact .inl ⟨a, ns, rfl, h1, fun ns' p k1 k2 hpn => fin h2 hz k1 k2 hpn⟩
  | _ => exact hp.elim
end
end FL
set_option maxHeartbeats 4000000
/-! FL17: list.count of data. -/
namespace FL
open PySem PySem.Spec PyProof.Rows L2
section
variable {X : Cx} {T : List (Addr × Str)} {W : Str → Hp → Prop} {e a b : Expr} {ma mb : Env → R D} {pos p : Pos}
def rCountD (K : PySem.W.Frag) : V → List V → Hp → VK → Prop := fun x xs H Q => ∃ (q : Addr) (y : V) (d : PyData) (ds : List PyData), x = V.ref q ∧ xs = [y] ∧ Dp K H (V.ref q) (.list ds) ∧ Dp K H y d ∧ SeqAt.shaped (.list ds) = true ∧ SeqAt.shaped d = true ∧ Q (.int ((ds.countP fun z => PyData.eqv z d : Nat) : Int)) H
theorem mt_countD (hu : X.A.units + 65 < cLine) : MtR X "list.count" (rCountD X.K) := by
  intro pz s σ H x xs v us Q I rx rxs h
  obtain ⟨q, y, d, ds, rfl, rfl, hl, hy, sl, sd, k⟩ := h
  cases rx
  cases rxs with
  | cons ry rt =>
    rename_i uy ut
    cases rt
    obtain ⟨bs, r1⟩ := Dp.reads I d y uy hy ry
    have hxs : PyData.canLayAll0 ds = true := SeqAt.canLay_of_shaped sl
    have room : X.A.units + 1 + min (PyData.depthAll ds) d.depth < cLine := room_in_shaped sd hu
    cases hl with
    | lst hs ha =>
      obtain ⟨its, rv, ⟨⟨cls, dd, data, sls⟩, n, ho, hc, hdn, hdt⟩, hlen⟩ := I.list hs
      simp only at hc hdt
      subst hc hdt
      obtain ⟨as, h4⟩ := Dp.readsAll I ds _ its ha rv
      have hmap : its.map (SeqAt.readOf s.heap) = ds := SeqAt.readsAll_map ds its as hxs h4
      refine call_meets PySem.F.slot_list_count ⟨_, ho, rfl⟩ PySem.F.entry_list_count (PySem.F.args_list_count_2 _ _)
        (SeqAt.list_countAt q its.toArray n dd sls uy (fun u => PyData.eqv (SeqAt.readOf s.heap u) d)) ⟨ho, SeqAt.items_eqAt (vs := its.toArray) (show ReadsAll s.heap its.toArray.toList ds as from h4) r1 hxs (SeqAt.canLay_of_shaped sd) room, ?_⟩
      have ec : its.toArray.toList.countP (fun u => PyData.eqv (SeqAt.readOf s.heap u) d) = ds.countP fun z => PyData.eqv z d := by
        rw [← hmap, List.countP_map]
        rfl
      refine ⟨.int ((ds.countP fun z => PyData.eqv z d : Nat) : Int), H, I.tok _, ⟨s.toks, ?_⟩, k⟩
      rw [ec]
def lctD (ds : List D) (x : D) : R D := if shD 60 x && shL 59 ds then .ok (.int ((ds.countP fun z => eqvD z x : Nat) : Int)) else .no
def mLct (ma mb : Env → R D) : Env → R D := fun ρ => (ma ρ).bind fun d => (asL d).bind fun ds => (mb ρ).bind fun y => lctD ds y
theorem count_toP {x : D} {n : Nat} : ∀ {ds : List D}, shL n ds = true → shD n x = true → (toPs ds).countP (fun z => PyData.eqv z (toP x)) = ds.countP fun z => eqvD z x
  | [], _, _ => rfl
  | d :: ds, h, hx => by
    obtain ⟨h1, h2⟩ := Bool.and_eq_true_iff.mp (show (shD n d && shL n ds) = true from h)
    show List.countP _ (toP d :: toPs ds) = _
    rw [List.countP_cons, List.countP_cons, count_toP h2 hx, eqv_toP d x n h1 hx]
theorem pd_lct {p2 p3 : Pos} (hu : X.A.units + 65 < cLine) (ha : PDt X T W a ma) (hb : PDt X T W b mb)
    (hbase : attributeBase a "count" X.env (eval a X.env) = eval a X.env := by rfl)
    (hfew : ((backTo p3 (starEach [b] X.env)).all (fun x => !x.1) && (backToKw p3 (keywordEach [] X.env)).all (fun x => x.1.isSome) && decide ([b].length + ([] : List Keyword).length + (if ([] : List Keyword).isEmpty then 0 else 1) < 30)) = true := by rfl)
    (hline : (p2.endLine == p3.line) = true := by rfl) (hst : starEach [b] X.env = (false, eval b X.env) :: starEach [] X.env := by rfl) (hplain : (backTo p3 (starEach [] X.env)).any (·.1) = false := by rfl) :
    PD X T W (.Call (.Attribute a "count" p2) [b] [] p3) (mLct ma mb) := by
  obtain ⟨ta, pa, ea⟩ := ha
  obtain ⟨tb, pb, eb⟩ := hb
  refine ⟨_, pe_bm PySem.F.plainAttrs_list PySem.F.slot_list_count PySem.F.type_list_count (mt_countD hu) pa (pa_cons pb pa_nil hst) hbase hfew hline hst hplain, fun ρ Hs σ H Q rp hp => ea ρ Hs σ H _ rp (PostG.mono (PostG.bind hp) fun v H1 ⟨Hs1, d, st, is, hp1⟩ => ?_)⟩
  cases d with
  | lst ds =>
    obtain ⟨q, vs, rfl, q1, q2, q3⟩ := is.lst st.to
    refine ⟨.inl ⟨rfl, _, .of q1⟩, eb ρ Hs1 σ H1 _ (rp.step st) (PostG.mono (PostG.bind hp1) fun u H2 ⟨Hs2, d2, st2, is2, hp2⟩ => ?_)⟩
    have hp2 : PostG T (rIs X.K X.mg) W (lctD ds d2) Hs2 H2 Q := hp2
    unfold lctD at hp2
    cases c : (shD 60 d2 && shL 59 ds) with
    | false => simp only [c] at hp2; exact hp2.elim
    | true =>
      simp only [c, if_true] at hp2
      obtain ⟨c1, c2⟩ := Bool.and_eq_true_iff.mp c
      have sh : shD 60 (.lst ds) = true := by unfold shD; exact Bool.and_eq_true_iff.mpr ⟨rfl, c2⟩
      have c2' := shL_up ds 59 60 (by omega) c2
      refine ⟨q, u, toP d2, toPs ds, rfl, rfl, dp_of (.lst ds) 60 _ sh ((is.step st2).full st2.to), dp_of d2 60 u c1 (is2.full st2.to), shaped_of sh, shaped_of c1, ?_⟩
      rw [count_toP c2' c1]
      exact PostG.ret (rel := rIs X.K X.mg) hp2 st2.to rfl
  | _ => exact hp1.elim
end
/-! ### several defs with lambdas -/
theorem nodup_inj {α β : Type} {f : α → β} : ∀ {xs : List α}, (xs.map f).Nodup → ∀ {a b : α}, a ∈ xs → b ∈ xs → f a = f b → a = b
  | [], _, _, _, h, _, _ => by cases h
  | x :: xs, nd, a, b, ha, hb, e => by
    rw [List.map_cons, List.nodup_cons] at nd
    rcases List.mem_cons.mp ha with h1 | h1 <;> rcases List.mem_cons.mp hb with h2 | h2
    · rw [h1, h2]
    · subst h1
      exact absurd (by rw [e]; exact List.mem_map_of_mem h2) nd.1
    · subst h2
      exact absurd (by rw [← e]; exact List.mem_map_of_mem h1) nd.1
    · exact nodup_inj nd.2 h1 h2 e
theorem lamOk_of {base : Heap} {mg : Str → Option Value} {K : PySem.W.Frag} {ps : List (Str × Option Str)} {x : Str} (nd : (ps.map fun p => (He.cT K p).2).Nodup) (hp : (x, none) ∈ ps) (TB : LamX.TabB base mg (He.cT K (x, none)).1 (He.cT K (x, none)).2) :
    LamOk base mg (ps.map fun p => ((He.cT K p).2, p.1 ++ ".<locals>." ++ "<lambda>")) x (He.cT K (x, none)).1 (He.cT K (x, none)).2 := by
  refine ⟨TB, List.mem_map.mpr ⟨(x, none), hp, rfl⟩, fun q hq e => ?_⟩
  obtain ⟨p, hp2, rfl⟩ := List.mem_map.mp hq
  have := nodup_inj nd hp2 hp e
  subst this
  rfl
end FL
set_option maxHeartbeats 4000000
/-! FL18: xs[i::-1], is True, max and min of a list of ints with a default. -/
namespace FL
open PySem PySem.Spec PyProof.Rows L2
section
variable {X : Cx} {T : List (Addr × Str)} {W : Str → Hp → Prop} {e a b : Expr} {es : List Expr} {m ma mb : Env → R D} {pos p : Pos}
/-! ### is True, is not True -/
def isBD (neg : Bool) : D → D → R D
  | .bl x, .bl y => .ok (.bl (xor neg (x == y)))
  | _, _ => .no
theorem o_isB : Op2 X T (compareOp .Is) (isBD false) := by
  refine ⟨_, op_isBl, fun W d e x y Hs H Q to hd he hp => ?_⟩
  cases d with
  | bl i =>
    cases e with
    | bl j =>
      cases hd.flat (fun _ z => nomatch z)
      cases he.flat (fun _ z => nomatch z)
      refine ⟨i, j, rfl, rfl, ?_⟩
      have e2 : decide (i = j) = xor false (i == j) := by cases i <;> cases j <;> rfl
      rw [e2]
      exact PostG.ret (rel := rIs X.K X.mg) hp to rfl
    | _ => exact hp.elim
  | _ => exact hp.elim
theorem o_notB : Op2 X T (compareOp .IsNot) (isBD true) := by
  refine ⟨_, op_notBl, fun W d e x y Hs H Q to hd he hp => ?_⟩
  cases d with
  | bl i =>
    cases e with
    | bl j =>
      cases hd.flat (fun _ z => nomatch z)
      cases he.flat (fun _ z => nomatch z)
      refine ⟨i, j, rfl, rfl, ?_⟩
      have e2 : (!decide (i = j)) = xor true (i == j) := by cases i <;> cases j <;> rfl
      rw [e2]
      exact PostG.ret (rel := rIs X.K X.mg) hp to rfl
    | _ => exact hp.elim
  | _ => exact hp.elim
/-! ### xs[i::-1] -/
/-- how many items xs[lo::-1] has, of n -/
def bkN (n : Nat) (lo : Option Int) : Nat := ((sliceBounds lo none (some (-1)) n).1 + 1).toNat
theorem bk_bounds (n : Nat) (lo : Option Int) : sliceBounds lo none (some (-1)) n = (((bkN n lo : Nat) : Int) - 1, -1, -1) ∧ bkN n lo ≤ n := by
  have h1 : ¬ ((-1 : Int) > 0) := by decide
  cases lo with
  | none =>
    have e : (sliceBounds none none (some (-1)) n).1 = (n : Int) - 1 := by rw [PySem.W.krv_bounds]
    refine ⟨?_, by unfold bkN; rw [e]; omega⟩
    rw [PySem.W.krv_bounds]
    unfold bkN
    rw [e]
    congr 1
    omega
  | some i =>
    have e : sliceBounds (some i) none (some (-1)) n = (max (-1) (min (if i < 0 then i + n else i) ((n : Int) - 1)), -1, -1) := by
      unfold sliceBounds
      simp [h1]
    refine ⟨?_, ?_⟩
    · rw [e]
      unfold bkN
      rw [e]
      congr 1
      show max (-1) (min (if i < 0 then i + n else i) ((n : Int) - 1)) = (((max (-1) (min (if i < 0 then i + n else i) ((n : Int) - 1)) + 1).toNat : Nat) : Int) - 1
      omega
    · unfold bkN
      rw [e]
      show (max (-1) (min (if i < 0 then i + n else i) ((n : Int) - 1)) + 1).toNat ≤ n
      omega
theorem bk_pick (items : Array Value) (lo : Option Int) : slicePick items lo none (some (-1)) = (items.toList.take (bkN items.size lo)).reverse.toArray := by
  obtain ⟨e, _⟩ := bk_bounds items.size lo
  unfold slicePick
  rw [e]
  show ((sliceRange (((bkN items.size lo : Nat) : Int) - 1) (-1) (-1)).filterMap (items[·]?)).toArray = _
  rw [PySem.W.krv_sliceRange, PySem.W.krv_range, List.filterMap_reverse]
  have h := pick_run items 0 (bkN items.size lo)
  have e2 : (List.range (bkN items.size lo)).map (0 + ·) = List.range (bkN items.size lo) := by
    rw [show ((0 + ·) : Nat → Nat) = id from funext fun k => Nat.zero_add k, List.map_id]
  rw [e2, List.drop_zero] at h
  rw [h]
def backD (d : D) (lo : Option Int) : R D := match d with
  | .lst ds => .ok (.lst (ds.take (bkN ds.length lo)).reverse)
  | _ => .no
def mBack (m : Env → R D) (ml : Env → R (Option Int)) : Env → R D := fun ρ => (m ρ).bind fun d => (ml ρ).bind fun lo => backD d lo
theorem pd_back {lo : Option Expr} {ml : Env → R (Option Int)} {k : Nat} {p1 p2 p3 : Pos} (ha : PDt X T W a ma) (hl : POD X T W lo ml) :
    PD X T W (.Subscript a (.Slice lo none (some (.UnaryOp .USub (.Constant (.int 1) k p1) p2)) p3) pos) (mBack ma ml) := by
  obtain ⟨ta, pa, ea⟩ := ha
  obtain ⟨tl, pl, el⟩ := hl
  refine ⟨tD X.K X.mg T W (mBack ma ml), ⟨fun pins s σ H Q I h => ?_⟩, fun ρ Hs σ H Q rp hp => ⟨ρ, Hs, rp, hp⟩⟩
  obtain ⟨ρ, Hs, rp, hp⟩ := h
  refine Subscript_ (thn (pa.run pins s σ H _ I (ea ρ Hs σ H _ rp (PostG.mono (PostG.bind hp) fun v H1 q => q))) fun v s1 ⟨x, H1, I1, r1, Hs1, d, st, is, hp1⟩ => ?_)
  have hst : PO X (some (.UnaryOp .USub (.Constant (.int 1) k p1) p2)) (tPart (tUn (rU fun i => .int (-i)) (tC (.int 1)))) := po_some (pe_un un_neg pe_int)
  refine wpAny_Slice (thn (pl.run pins s1 σ H1 _ I1 (el ρ Hs1 σ H1 _ (rp.step st) (PostG.mono (PostG.bind hp1) fun o H2 q => q))) fun vl s2 ⟨l, H2, I2, pl2, Hs2, o, st2, eo, hp2⟩ => ?_)
  have eo : o = l := eo
  subst eo
  refine thn (po_none.run pins s2 σ H2 (fun o H3 => o = none ∧ H3 = H2) I2 ⟨rfl, rfl⟩) fun vu s3 ⟨u, H3, I3, pu, eu, e3⟩ => ?_
  subst eu e3
  refine thn (hst.run pins s3 σ H3 (fun o H4 => o = some (-1) ∧ H4 = H3) I3 ⟨1, rfl, -1, rfl, rfl, rfl⟩) fun vs s4 ⟨o2, H4, I4, ps, eo2, e4⟩ => ?_
  subst eo2 e4
  cases d with
  | lst ds =>
    obtain ⟨a, xs, rfl, x1, x2, x3⟩ := (is.step st2).lst st2.to
    cases r1
    have I5 : Inv X pins σ H4 { s4 with heap := s4.heap.push { cls := .type "slice", data := .fields #[vl, vu, vs] } } := I4.kept (t' := s4.toks) fun b ob q => Heap.get?_push_of_some _ q
    obtain ⟨its, r, ht, hz⟩ := I5.list (.of x1)
    have hlen := r.length
    show wpAny (model X.prog X.w) X.A (subscriptTail _ (.Slice lo none (some (.UnaryOp .USub (.Constant (.int 1) k p1) p2)) p3) (.ref a) (.ref s4.heap.objs.size)) (EP X pins σ Q) X.xe { s4 with heap := s4.heap.push { cls := .type "slice", data := .fields #[vl, vu, vs] } }
    refine tail_any (ops := [.ref a, .ref s4.heap.objs.size]) ht.isList.typeIs (PySem.slot_list_getitem.lookup) ?_ (by with_unfolding_all rfl)
    refine wpAny_getItem_list_slice ht.isList (Heap.IsSliceOf.new _ vl vu vs) pl2 pu ps (by decide) ?_ (by rw [List.size_toArray]; omega)
    rw [bk_pick]
    have el : (xs.take (bkN ds.length o)).reverse.length ≤ sizeLine := by
      rw [List.length_reverse, List.length_take]; omega
    have en : its.toArray.size = ds.length := by rw [List.size_toArray, ← hlen, x2.length]
    have hp3 : PostG T (rIs X.K X.mg) W (.ok (.lst (ds.take (bkN ds.length o)).reverse)) Hs2 H4 Q := hp2
    have fr : H4 (s4.heap.push { cls := .type "slice", data := .fields #[vl, vu, vs] }).objs.size = none := I5.hok.fresh (Nat.le_refl _)
    have st3 := Step.lst (vs := (xs.take (bkN ds.length o)).reverse) st2.to fr el
    refine ⟨.ref _, _, I5.laid (t' := s4.toks) (o := .lst (xs.take (bkN ds.length o)).reverse) (fun b ob q => Heap.get?_push_of_some _ q) (Nat.le_refl _) ?_, rfl, hp3 _ _ _ st3 ⟨_, _, rfl, upd_same, IsL.mono st3.s _ _ (x2.take _).reverse⟩⟩
    refine ⟨el, (its.take (bkN ds.length o)).reverse, 0, (r.take _).reverse, ?_⟩
    rw [en]
    exact Heap.get?_push_size _ rfl
  | _ => exact hp2.elim
/-! ### max(xs, default=d) -/
def maxDef (ns : List Int) (d : Int) : Int := match ns with
  | [] => d
  | n :: r => maxI n r
def minDef (ns : List Int) (d : Int) : Int := match ns with
  | [] => d
  | n :: r => minI n r
theorem maxI_fold : ∀ (r : List Int) (n : Int), r.foldl max n = maxI n r
  | [], _ => rfl
  | m :: r, n => by
    rw [List.foldl_cons, maxI_fold r]
    show maxI (max n m) r = maxI (if n < m then m else n) r
    congr 1
    split <;> omega
theorem minI_fold : ∀ (r : List Int) (n : Int), r.foldl min n = minI n r
  | [], _ => rfl
  | m :: r, n => by
    rw [List.foldl_cons, minI_fold r]
    show minI (min n m) r = minI (if m < n then m else n) r
    congr 1
    split <;> omega
theorem alike_ints (ns : List Int) : PySem.W.AlikeAll (ns.map PyData.int) := by
  refine ⟨fun x hx y hy => ?_, fun x hx => ?_⟩
  · obtain ⟨i, _, rfl⟩ := List.mem_map.mp hx
    obtain ⟨j, _, rfl⟩ := List.mem_map.mp hy
    rfl
  · obtain ⟨i, _, rfl⟩ := List.mem_map.mp hx
    exact fun z => nomatch z
def rMxD (K : PySem.W.Frag) (f : List Int → Int → Int) : List V → List V → Hp → VK → Prop := fun vs zs H Q => ∃ (a : Addr) (ns : List Int) (k : Int), vs = [V.ref a] ∧ zs = [.int k] ∧ SqL K H a (ns.map V.int) ∧ Q (.int (f ns k)) H
theorem cr_maxD (hc : X.calm = true) (hu : X.A.units + 64 < cLine) : CallRK X (.builtin "max") [Str.ofString "default"] (rMxD X.K maxDef) := by
  intro pins s σ H vs zs us ws Q I r rz h
  obtain ⟨a, ns, k, rfl, rfl, hs, q⟩ := h
  obtain rfl := Vals.ref1 r
  obtain ⟨w1, rfl, e1⟩ := vals1 rz
  obtain ⟨tk, rfl⟩ : ∃ tk, w1 = Value.int k tk := e1
  obtain ⟨its, rv, hl, hz⟩ := I.list hs
  have hi := rv.ints
  have hd := depthInts ns
  refine PySem.W.max_list_default (I.ok.hd hc) hl.isList (hi.reads s.heap) (alike_ints ns) (by omega) (fun h0 h' tk' hk => ?_) (fun y ys i v h' tk' bs e hv rd hk => ?_)
  · cases ns with
    | nil => exact ⟨.int k, H, I.kept hk, ⟨_, rfl⟩, q⟩
    | cons n r => cases h0
  · cases ns with
    | nil => cases e
    | cons n r =>
      cases e
      rw [PySem.W.maxD_ints] at rd
      cases rd
      refine ⟨.int _, H, I.kept hk, ⟨_, rfl⟩, ?_⟩
      rw [maxI_fold]
      exact q
theorem cr_minD (hc : X.calm = true) (hu : X.A.units + 64 < cLine) : CallRK X (.builtin "min") [Str.ofString "default"] (rMxD X.K minDef) := by
  intro pins s σ H vs zs us ws Q I r rz h
  obtain ⟨a, ns, k, rfl, rfl, hs, q⟩ := h
  obtain rfl := Vals.ref1 r
  obtain ⟨w1, rfl, e1⟩ := vals1 rz
  obtain ⟨tk, rfl⟩ : ∃ tk, w1 = Value.int k tk := e1
  obtain ⟨its, rv, hl, hz⟩ := I.list hs
  have hi := rv.ints
  have hd := depthInts ns
  refine PySem.W.min_list_default (I.ok.hd hc) hl.isList (hi.reads s.heap) (alike_ints ns) (by omega) (fun h0 h' tk' hk => ?_) (fun y ys i v h' tk' bs e hv rd hk => ?_)
  · cases ns with
    | nil => exact ⟨.int k, H, I.kept hk, ⟨_, rfl⟩, q⟩
    | cons n r => cases h0
  · cases ns with
    | nil => cases e
    | cons n r =>
      cases e
      rw [PySem.W.minD_ints] at rd
      cases rd
      refine ⟨.int _, H, I.kept hk, ⟨_, rfl⟩, ?_⟩
      rw [minI_fold]
      exact q
def mxDD (f : List Int → Int → Int) (d e : D) : R D := match e with
  | .int k => intsOf (fun ns => .ok (.int (f ns k))) d
  | _ => .no
theorem pd_mxd {x : Str} {id : String} {f : List Int → Int → Int} {kp : Pos} (c : CallRK X (.builtin id) [Str.ofString "default"] (rMxD X.K f)) (hg : Gl X x) (hm : X.mg x = none) (hv : bootBuiltins x = some (.builtin id)) (ha : PDt X T W a ma) (hb : PDt X T W b mb) (hn : x ≠ "__name__" := by decide) (hdb : (x == ("__debug__" : Str)) = false := by decide)
    (he : backTo pos (starEach [a] X.env) = (false, eval a X.env) :: backTo pos (starEach [] X.env) := by rfl) (hpl : (backTo pos (starEach [a] X.env)).any (·.1) = false := by rfl)
    (hs : starEach [a] X.env = (false, eval a X.env) :: starEach [] X.env := by rfl)
    (hall : (backToKw pos (keywordEach [⟨some (Str.ofString "default"), b, kp⟩] X.env)).all (·.1.isSome) = true := by rfl) (hnone : (backToKw pos (keywordEach [⟨some (Str.ofString "default"), b, kp⟩] X.env)).any (·.1.isNone) = false := by rfl) (hks : (backToKw pos (keywordEach [⟨some (Str.ofString "default"), b, kp⟩] X.env)).filterMap (·.1) = [Str.ofString "default"] := by rfl) :
    PD X T W (.Call (.Name x p) [a] [⟨some (Str.ofString "default"), b, kp⟩] pos) (mBin (mxDD f) ma mb) := by
  obtain ⟨ta, pa, ea⟩ := ha
  obtain ⟨tb, pb, eb⟩ := hb
  refine ⟨_, pe_callBK c hg hm hv (pa_cons pa pa_nil hs) (pk_cons pb pk_nil) hn hdb he hpl hall hnone hks, fun ρ Hs σ H Q rp hp => ?_⟩
  refine ea ρ Hs σ H _ rp (PostG.mono (PostG.bind hp) fun x H1 ⟨Hs1, d, st, is, hp1⟩ => eb ρ Hs1 σ H1 _ (rp.step st) ?_)
  refine PostG.mono (PostG.bind hp1) fun y H2 ⟨Hs2, d2, st2, is2, hp2⟩ => ?_
  cases d2 with
  | int k =>
    cases is2.flat (fun _ z => nomatch z)
    obtain ⟨q, ns, rfl, h1, _, h2⟩ := ints_of st2.to (is.step st2) hp2
    exact ⟨q, ns, k, rfl, rfl, h1, PostG.ret (rel := rIs X.K X.mg) h2 st2.to rfl⟩
  | _ => exact hp2.elim
theorem pdss_no {sts : List Stmt} : PDSs X T W sts (fun _ => Oc.no) := ⟨fun _ _ _ => False, ⟨fun _ _ _ _ _ _ h => h.elim⟩, fun _ _ _ _ _ _ _ _ hp => hp.elim⟩
end
/-! ### tuples of ints that the module binds -/
def valsB : List Value → List Int → Bool
  | [], [] => true
  | .int i _ :: r, n :: ns => decide (i = n) && valsB r ns
  | _, _ => false
theorem valsB_ok : ∀ {vs : List Value} {ns : List Int}, valsB vs ns = true → Vals (ns.map V.int) vs
  | [], [], _ => .nil
  | .int i t :: r, n :: ns, h => by
    unfold valsB at h
    rw [Bool.and_eq_true, decide_eq_true_eq] at h
    obtain ⟨rfl, h2⟩ := h
    exact .cons ⟨t, rfl⟩ (valsB_ok h2)
  | [], _ :: _, h => by cases h
  | .int _ _ :: _, [], h => by cases h
  | .none :: _, [], h => by cases h
  | .none :: _, _ :: _, h => by cases h
def tupCB (K : PySem.W.Frag) (D : Addr) (ns : List Int) : Bool := match K.lookup D with
  | some o => decide (o.cls = .type "tuple") && (match o.data with
    | .seq its _ => decide (its.size ≤ sizeLine) && valsB its.toList ns
    | _ => false)
  | none => false
theorem tupC_of {K : PySem.W.Frag} {D : Addr} {ns : List Int} (h : tupCB K D ns = true) (H : Hp) : SqT K H D (ns.map V.int) := by
  unfold tupCB at h
  split at h
  · rename_i o e
    rw [Bool.and_eq_true, decide_eq_true_eq] at h
    obtain ⟨h1, h2⟩ := h
    split at h2
    · rename_i its n e2
      rw [Bool.and_eq_true, decide_eq_true_eq] at h2
      exact .inr ⟨o, its, n, e, h1, e2, h2.1, valsB_ok h2.2⟩
    · cases h2
  · cases h
end FL
set_option maxHeartbeats 4000000
/-! FM1: plain laws of the semantics. -/
namespace FL
open PySem PySem.Spec PyProof.Rows L2
theorem szl {n : Nat} (h : n ≤ 16000000) : n ≤ sizeLine := by rw [sizeLine_eq]; omega
theorem ok_ite {α : Type} (c : Prop) [Decidable c] (x y : α) : (if c then R.ok x else R.ok y) = R.ok (if c then x else y) := by split <;> rfl
theorem bl_ite (c : Prop) [Decidable c] (x y : Bool) : (if c then D.bl x else D.bl y) = D.bl (if c then x else y) := by split <;> rfl
theorem int_ite (c : Prop) [Decidable c] (x y : Int) : (if c then D.int x else D.int y) = D.int (if c then x else y) := by split <;> rfl
theorem and_ite (b x : Bool) : (if b = true then x else false) = (b && x) := by cases b <;> rfl
theorem or_ite (b x : Bool) : (if b = true then true else x) = (b || x) := by cases b <;> rfl
theorem mVar_0 {d : D} {r : List Sl} : mVar 0 (.sh d :: r) = .ok d := rfl
theorem mVarT_0 {d : D} {r : List Sl} : mVarT 0 (.sh d :: r) = .ok d := rfl
theorem mVarO_0 {d : List D} {r : List Sl} : mVarT 0 (.ow d :: r) = .ok (.lst d) := rfl
theorem mVar_1 {a0 : Sl} {d : D} {r : List Sl} : mVar 1 (a0 :: .sh d :: r) = .ok d := rfl
theorem mVarT_1 {a0 : Sl} {d : D} {r : List Sl} : mVarT 1 (a0 :: .sh d :: r) = .ok d := rfl
theorem mVarO_1 {a0 : Sl} {d : List D} {r : List Sl} : mVarT 1 (a0 :: .ow d :: r) = .ok (.lst d) := rfl
theorem mVar_2 {a0 a1 : Sl} {d : D} {r : List Sl} : mVar 2 (a0 :: a1 :: .sh d :: r) = .ok d := rfl
theorem mVarT_2 {a0 a1 : Sl} {d : D} {r : List Sl} : mVarT 2 (a0 :: a1 :: .sh d :: r) = .ok d := rfl
theorem mVarO_2 {a0 a1 : Sl} {d : List D} {r : List Sl} : mVarT 2 (a0 :: a1 :: .ow d :: r) = .ok (.lst d) := rfl
theorem mVar_3 {a0 a1 a2 : Sl} {d : D} {r : List Sl} : mVar 3 (a0 :: a1 :: a2 :: .sh d :: r) = .ok d := rfl
theorem mVarT_3 {a0 a1 a2 : Sl} {d : D} {r : List Sl} : mVarT 3 (a0 :: a1 :: a2 :: .sh d :: r) = .ok d := rfl
theorem mVarO_3 {a0 a1 a2 : Sl} {d : List D} {r : List Sl} : mVarT 3 (a0 :: a1 :: a2 :: .ow d :: r) = .ok (.lst d) := rfl
theorem mVar_4 {a0 a1 a2 a3 : Sl} {d : D} {r : List Sl} : mVar 4 (a0 :: a1 :: a2 :: a3 :: .sh d :: r) = .ok d := rfl
theorem mVarT_4 {a0 a1 a2 a3 : Sl} {d : D} {r : List Sl} : mVarT 4 (a0 :: a1 :: a2 :: a3 :: .sh d :: r) = .ok d := rfl
theorem mVarO_4 {a0 a1 a2 a3 : Sl} {d : List D} {r : List Sl} : mVarT 4 (a0 :: a1 :: a2 :: a3 :: .ow d :: r) = .ok (.lst d) := rfl
theorem mVar_5 {a0 a1 a2 a3 a4 : Sl} {d : D} {r : List Sl} : mVar 5 (a0 :: a1 :: a2 :: a3 :: a4 :: .sh d :: r) = .ok d := rfl
theorem mVarT_5 {a0 a1 a2 a3 a4 : Sl} {d : D} {r : List Sl} : mVarT 5 (a0 :: a1 :: a2 :: a3 :: a4 :: .sh d :: r) = .ok d := rfl
theorem mVarO_5 {a0 a1 a2 a3 a4 : Sl} {d : List D} {r : List Sl} : mVarT 5 (a0 :: a1 :: a2 :: a3 :: a4 :: .ow d :: r) = .ok (.lst d) := rfl
theorem mVar_6 {a0 a1 a2 a3 a4 a5 : Sl} {d : D} {r : List Sl} : mVar 6 (a0 :: a1 :: a2 :: a3 :: a4 :: a5 :: .sh d :: r) = .ok d := rfl
theorem mVarT_6 {a0 a1 a2 a3 a4 a5 : Sl} {d : D} {r : List Sl} : mVarT 6 (a0 :: a1 :: a2 :: a3 :: a4 :: a5 :: .sh d :: r) = .ok d := rfl
theorem mVarO_6 {a0 a1 a2 a3 a4 a5 : Sl} {d : List D} {r : List Sl} : mVarT 6 (a0 :: a1 :: a2 :: a3 :: a4 :: a5 :: .ow d :: r) = .ok (.lst d) := rfl
theorem mVar_7 {a0 a1 a2 a3 a4 a5 a6 : Sl} {d : D} {r : List Sl} : mVar 7 (a0 :: a1 :: a2 :: a3 :: a4 :: a5 :: a6 :: .sh d :: r) = .ok d := rfl
theorem mVarT_7 {a0 a1 a2 a3 a4 a5 a6 : Sl} {d : D} {r : List Sl} : mVarT 7 (a0 :: a1 :: a2 :: a3 :: a4 :: a5 :: a6 :: .sh d :: r) = .ok d := rfl
theorem mVarO_7 {a0 a1 a2 a3 a4 a5 a6 : Sl} {d : List D} {r : List Sl} : mVarT 7 (a0 :: a1 :: a2 :: a3 :: a4 :: a5 :: a6 :: .ow d :: r) = .ok (.lst d) := rfl
theorem mVar_8 {a0 a1 a2 a3 a4 a5 a6 a7 : Sl} {d : D} {r : List Sl} : mVar 8 (a0 :: a1 :: a2 :: a3 :: a4 :: a5 :: a6 :: a7 :: .sh d :: r) = .ok d := rfl
theorem mVarT_8 {a0 a1 a2 a3 a4 a5 a6 a7 : Sl} {d : D} {r : List Sl} : mVarT 8 (a0 :: a1 :: a2 :: a3 :: a4 :: a5 :: a6 :: a7 :: .sh d :: r) = .ok d := rfl
theorem mVarO_8 {a0 a1 a2 a3 a4 a5 a6 a7 : Sl} {d : List D} {r : List Sl} : mVarT 8 (a0 :: a1 :: a2 :: a3 :: a4 :: a5 :: a6 :: a7 :: .ow d :: r) = .ok (.lst d) := rfl
theorem mVar_9 {a0 a1 a2 a3 a4 a5 a6 a7 a8 : Sl} {d : D} {r : List Sl} : mVar 9 (a0 :: a1 :: a2 :: a3 :: a4 :: a5 :: a6 :: a7 :: a8 :: .sh d :: r) = .ok d := rfl
theorem mVarT_9 {a0 a1 a2 a3 a4 a5 a6 a7 a8 : Sl} {d : D} {r : List Sl} : mVarT 9 (a0 :: a1 :: a2 :: a3 :: a4 :: a5 :: a6 :: a7 :: a8 :: .sh d :: r) = .ok d := rfl
theorem mVarO_9 {a0 a1 a2 a3 a4 a5 a6 a7 a8 : Sl} {d : List D} {r : List Sl} : mVarT 9 (a0 :: a1 :: a2 :: a3 :: a4 :: a5 :: a6 :: a7 :: a8 :: .ow d :: r) = .ok (.lst d) := rfl
theorem mVar_10 {a0 a1 a2 a3 a4 a5 a6 a7 a8 a9 : Sl} {d : D} {r : List Sl} : mVar 10 (a0 :: a1 :: a2 :: a3 :: a4 :: a5 :: a6 :: a7 :: a8 :: a9 :: .sh d :: r) = .ok d := rfl
theorem mVarT_10 {a0 a1 a2 a3 a4 a5 a6 a7 a8 a9 : Sl} {d : D} {r : List Sl} : mVarT 10 (a0 :: a1 :: a2 :: a3 :: a4 :: a5 :: a6 :: a7 :: a8 :: a9 :: .sh d :: r) = .ok d := rfl
theorem mVarO_10 {a0 a1 a2 a3 a4 a5 a6 a7 a8 a9 : Sl} {d : List D} {r : List Sl} : mVarT 10 (a0 :: a1 :: a2 :: a3 :: a4 :: a5 :: a6 :: a7 :: a8 :: a9 :: .ow d :: r) = .ok (.lst d) := rfl
theorem mVar_11 {a0 a1 a2 a3 a4 a5 a6 a7 a8 a9 a10 : Sl} {d : D} {r : List Sl} : mVar 11 (a0 :: a1 :: a2 :: a3 :: a4 :: a5 :: a6 :: a7 :: a8 :: a9 :: a10 :: .sh d :: r) = .ok d := rfl
theorem mVarT_11 {a0 a1 a2 a3 a4 a5 a6 a7 a8 a9 a10 : Sl} {d : D} {r : List Sl} : mVarT 11 (a0 :: a1 :: a2 :: a3 :: a4 :: a5 :: a6 :: a7 :: a8 :: a9 :: a10 :: .sh d :: r) = .ok d := rfl
theorem mVarO_11 {a0 a1 a2 a3 a4 a5 a6 a7 a8 a9 a10 : Sl} {d : List D} {r : List Sl} : mVarT 11 (a0 :: a1 :: a2 :: a3 :: a4 :: a5 :: a6 :: a7 :: a8 :: a9 :: a10 :: .ow d :: r) = .ok (.lst d) := rfl
theorem mVar_12 {a0 a1 a2 a3 a4 a5 a6 a7 a8 a9 a10 a11 : Sl} {d : D} {r : List Sl} : mVar 12 (a0 :: a1 :: a2 :: a3 :: a4 :: a5 :: a6 :: a7 :: a8 :: a9 :: a10 :: a11 :: .sh d :: r) = .ok d := rfl
theorem mVarT_12 {a0 a1 a2 a3 a4 a5 a6 a7 a8 a9 a10 a11 : Sl} {d : D} {r : List Sl} : mVarT 12 (a0 :: a1 :: a2 :: a3 :: a4 :: a5 :: a6 :: a7 :: a8 :: a9 :: a10 :: a11 :: .sh d :: r) = .ok d := rfl
theorem mVarO_12 {a0 a1 a2 a3 a4 a5 a6 a7 a8 a9 a10 a11 : Sl} {d : List D} {r : List Sl} : mVarT 12 (a0 :: a1 :: a2 :: a3 :: a4 :: a5 :: a6 :: a7 :: a8 :: a9 :: a10 :: a11 :: .ow d :: r) = .ok (.lst d) := rfl
theorem mVar_13 {a0 a1 a2 a3 a4 a5 a6 a7 a8 a9 a10 a11 a12 : Sl} {d : D} {r : List Sl} : mVar 13 (a0 :: a1 :: a2 :: a3 :: a4 :: a5 :: a6 :: a7 :: a8 :: a9 :: a10 :: a11 :: a12 :: .sh d :: r) = .ok d := rfl
theorem mVarT_13 {a0 a1 a2 a3 a4 a5 a6 a7 a8 a9 a10 a11 a12 : Sl} {d : D} {r : List Sl} : mVarT 13 (a0 :: a1 :: a2 :: a3 :: a4 :: a5 :: a6 :: a7 :: a8 :: a9 :: a10 :: a11 :: a12 :: .sh d :: r) = .ok d := rfl
theorem mVarO_13 {a0 a1 a2 a3 a4 a5 a6 a7 a8 a9 a10 a11 a12 : Sl} {d : List D} {r : List Sl} : mVarT 13 (a0 :: a1 :: a2 :: a3 :: a4 :: a5 :: a6 :: a7 :: a8 :: a9 :: a10 :: a11 :: a12 :: .ow d :: r) = .ok (.lst d) := rfl
theorem mVar_14 {a0 a1 a2 a3 a4 a5 a6 a7 a8 a9 a10 a11 a12 a13 : Sl} {d : D} {r : List Sl} : mVar 14 (a0 :: a1 :: a2 :: a3 :: a4 :: a5 :: a6 :: a7 :: a8 :: a9 :: a10 :: a11 :: a12 :: a13 :: .sh d :: r) = .ok d := rfl
theorem mVarT_14 {a0 a1 a2 a3 a4 a5 a6 a7 a8 a9 a10 a11 a12 a13 : Sl} {d : D} {r : List Sl} : mVarT 14 (a0 :: a1 :: a2 :: a3 :: a4 :: a5 :: a6 :: a7 :: a8 :: a9 :: a10 :: a11 :: a12 :: a13 :: .sh d :: r) = .ok d := rfl
theorem mVarO_14 {a0 a1 a2 a3 a4 a5 a6 a7 a8 a9 a10 a11 a12 a13 : Sl} {d : List D} {r : List Sl} : mVarT 14 (a0 :: a1 :: a2 :: a3 :: a4 :: a5 :: a6 :: a7 :: a8 :: a9 :: a10 :: a11 :: a12 :: a13 :: .ow d :: r) = .ok (.lst d) := rfl
theorem mVar_15 {a0 a1 a2 a3 a4 a5 a6 a7 a8 a9 a10 a11 a12 a13 a14 : Sl} {d : D} {r : List Sl} : mVar 15 (a0 :: a1 :: a2 :: a3 :: a4 :: a5 :: a6 :: a7 :: a8 :: a9 :: a10 :: a11 :: a12 :: a13 :: a14 :: .sh d :: r) = .ok d := rfl
theorem mVarT_15 {a0 a1 a2 a3 a4 a5 a6 a7 a8 a9 a10 a11 a12 a13 a14 : Sl} {d : D} {r : List Sl} : mVarT 15 (a0 :: a1 :: a2 :: a3 :: a4 :: a5 :: a6 :: a7 :: a8 :: a9 :: a10 :: a11 :: a12 :: a13 :: a14 :: .sh d :: r) = .ok d := rfl
theorem mVarO_15 {a0 a1 a2 a3 a4 a5 a6 a7 a8 a9 a10 a11 a12 a13 a14 : Sl} {d : List D} {r : List Sl} : mVarT 15 (a0 :: a1 :: a2 :: a3 :: a4 :: a5 :: a6 :: a7 :: a8 :: a9 :: a10 :: a11 :: a12 :: a13 :: a14 :: .ow d :: r) = .ok (.lst d) := rfl
theorem mVar_16 {a0 a1 a2 a3 a4 a5 a6 a7 a8 a9 a10 a11 a12 a13 a14 a15 : Sl} {d : D} {r : List Sl} : mVar 16 (a0 :: a1 :: a2 :: a3 :: a4 :: a5 :: a6 :: a7 :: a8 :: a9 :: a10 :: a11 :: a12 :: a13 :: a14 :: a15 :: .sh d :: r) = .ok d := rfl
theorem mVarT_16 {a0 a1 a2 a3 a4 a5 a6 a7 a8 a9 a10 a11 a12 a13 a14 a15 : Sl} {d : D} {r : List Sl} : mVarT 16 (a0 :: a1 :: a2 :: a3 :: a4 :: a5 :: a6 :: a7 :: a8 :: a9 :: a10 :: a11 :: a12 :: a13 :: a14 :: a15 :: .sh d :: r) = .ok d := rfl
theorem mVarO_16 {a0 a1 a2 a3 a4 a5 a6 a7 a8 a9 a10 a11 a12 a13 a14 a15 : Sl} {d : List D} {r : List Sl} : mVarT 16 (a0 :: a1 :: a2 :: a3 :: a4 :: a5 :: a6 :: a7 :: a8 :: a9 :: a10 :: a11 :: a12 :: a13 :: a14 :: a15 :: .ow d :: r) = .ok (.lst d) := rfl
theorem mVar_17 {a0 a1 a2 a3 a4 a5 a6 a7 a8 a9 a10 a11 a12 a13 a14 a15 a16 : Sl} {d : D} {r : List Sl} : mVar 17 (a0 :: a1 :: a2 :: a3 :: a4 :: a5 :: a6 :: a7 :: a8 :: a9 :: a10 :: a11 :: a12 :: a13 :: a14 :: a15 :: a16 :: .sh d :: r) = .ok d := rfl
theorem mVarT_17 {a0 a1 a2 a3 a4 a5 a6 a7 a8 a9 a10 a11 a12 a13 a14 a15 a16 : Sl} {d : D} {r : List Sl} : mVarT 17 (a0 :: a1 :: a2 :: a3 :: a4 :: a5 :: a6 :: a7 :: a8 :: a9 :: a10 :: a11 :: a12 :: a13 :: a14 :: a15 :: a16 :: .sh d :: r) = .ok d := rfl
theorem mVarO_17 {a0 a1 a2 a3 a4 a5 a6 a7 a8 a9 a10 a11 a12 a13 a14 a15 a16 : Sl} {d : List D} {r : List Sl} : mVarT 17 (a0 :: a1 :: a2 :: a3 :: a4 :: a5 :: a6 :: a7 :: a8 :: a9 :: a10 :: a11 :: a12 :: a13 :: a14 :: a15 :: a16 :: .ow d :: r) = .ok (.lst d) := rfl
theorem mVar_18 {a0 a1 a2 a3 a4 a5 a6 a7 a8 a9 a10 a11 a12 a13 a14 a15 a16 a17 : Sl} {d : D} {r : List Sl} : mVar 18 (a0 :: a1 :: a2 :: a3 :: a4 :: a5 :: a6 :: a7 :: a8 :: a9 :: a10 :: a11 :: a12 :: a13 :: a14 :: a15 :: a16 :: a17 :: .sh d :: r) = .ok d := rfl
theorem mVarT_18 {a0 a1 a2 a3 a4 a5 a6 a7 a8 a9 a10 a11 a12 a13 a14 a15 a16 a17 : Sl} {d : D} {r : List Sl} : mVarT 18 (a0 :: a1 :: a2 :: a3 :: a4 :: a5 :: a6 :: a7 :: a8 :: a9 :: a10 :: a11 :: a12 :: a13 :: a14 :: a15 :: a16 :: a17 :: .sh d :: r) = .ok d := rfl
theorem mVarO_18 {a0 a1 a2 a3 a4 a5 a6 a7 a8 a9 a10 a11 a12 a13 a14 a15 a16 a17 : Sl} {d : List D} {r : List Sl} : mVarT 18 (a0 :: a1 :: a2 :: a3 :: a4 :: a5 :: a6 :: a7 :: a8 :: a9 :: a10 :: a11 :: a12 :: a13 :: a14 :: a15 :: a16 :: a17 :: .ow d :: r) = .ok (.lst d) := rfl
theorem mVar_19 {a0 a1 a2 a3 a4 a5 a6 a7 a8 a9 a10 a11 a12 a13 a14 a15 a16 a17 a18 : Sl} {d : D} {r : List Sl} : mVar 19 (a0 :: a1 :: a2 :: a3 :: a4 :: a5 :: a6 :: a7 :: a8 :: a9 :: a10 :: a11 :: a12 :: a13 :: a14 :: a15 :: a16 :: a17 :: a18 :: .sh d :: r) = .ok d := rfl
theorem mVarT_19 {a0 a1 a2 a3 a4 a5 a6 a7 a8 a9 a10 a11 a12 a13 a14 a15 a16 a17 a18 : Sl} {d : D} {r : List Sl} : mVarT 19 (a0 :: a1 :: a2 :: a3 :: a4 :: a5 :: a6 :: a7 :: a8 :: a9 :: a10 :: a11 :: a12 :: a13 :: a14 :: a15 :: a16 :: a17 :: a18 :: .sh d :: r) = .ok d := rfl
theorem mVarO_19 {a0 a1 a2 a3 a4 a5 a6 a7 a8 a9 a10 a11 a12 a13 a14 a15 a16 a17 a18 : Sl} {d : List D} {r : List Sl} : mVarT 19 (a0 :: a1 :: a2 :: a3 :: a4 :: a5 :: a6 :: a7 :: a8 :: a9 :: a10 :: a11 :: a12 :: a13 :: a14 :: a15 :: a16 :: a17 :: a18 :: .ow d :: r) = .ok (.lst d) := rfl
theorem mVar_20 {a0 a1 a2 a3 a4 a5 a6 a7 a8 a9 a10 a11 a12 a13 a14 a15 a16 a17 a18 a19 : Sl} {d : D} {r : List Sl} : mVar 20 (a0 :: a1 :: a2 :: a3 :: a4 :: a5 :: a6 :: a7 :: a8 :: a9 :: a10 :: a11 :: a12 :: a13 :: a14 :: a15 :: a16 :: a17 :: a18 :: a19 :: .sh d :: r) = .ok d := rfl
theorem mVarT_20 {a0 a1 a2 a3 a4 a5 a6 a7 a8 a9 a10 a11 a12 a13 a14 a15 a16 a17 a18 a19 : Sl} {d : D} {r : List Sl} : mVarT 20 (a0 :: a1 :: a2 :: a3 :: a4 :: a5 :: a6 :: a7 :: a8 :: a9 :: a10 :: a11 :: a12 :: a13 :: a14 :: a15 :: a16 :: a17 :: a18 :: a19 :: .sh d :: r) = .ok d := rfl
theorem mVarO_20 {a0 a1 a2 a3 a4 a5 a6 a7 a8 a9 a10 a11 a12 a13 a14 a15 a16 a17 a18 a19 : Sl} {d : List D} {r : List Sl} : mVarT 20 (a0 :: a1 :: a2 :: a3 :: a4 :: a5 :: a6 :: a7 :: a8 :: a9 :: a10 :: a11 :: a12 :: a13 :: a14 :: a15 :: a16 :: a17 :: a18 :: a19 :: .ow d :: r) = .ok (.lst d) := rfl
theorem mVar_21 {a0 a1 a2 a3 a4 a5 a6 a7 a8 a9 a10 a11 a12 a13 a14 a15 a16 a17 a18 a19 a20 : Sl} {d : D} {r : List Sl} : mVar 21 (a0 :: a1 :: a2 :: a3 :: a4 :: a5 :: a6 :: a7 :: a8 :: a9 :: a10 :: a11 :: a12 :: a13 :: a14 :: a15 :: a16 :: a17 :: a18 :: a19 :: a20 :: .sh d :: r) = .ok d := rfl
theorem mVarT_21 {a0 a1 a2 a3 a4 a5 a6 a7 a8 a9 a10 a11 a12 a13 a14 a15 a16 a17 a18 a19 a20 : Sl} {d : D} {r : List Sl} : mVarT 21 (a0 :: a1 :: a2 :: a3 :: a4 :: a5 :: a6 :: a7 :: a8 :: a9 :: a10 :: a11 :: a12 :: a13 :: a14 :: a15 :: a16 :: a17 :: a18 :: a19 :: a20 :: .sh d :: r) = .ok d := rfl
theorem mVarO_21 {a0 a1 a2 a3 a4 a5 a6 a7 a8 a9 a10 a11 a12 a13 a14 a15 a16 a17 a18 a19 a20 : Sl} {d : List D} {r : List Sl} : mVarT 21 (a0 :: a1 :: a2 :: a3 :: a4 :: a5 :: a6 :: a7 :: a8 :: a9 :: a10 :: a11 :: a12 :: a13 :: a14 :: a15 :: a16 :: a17 :: a18 :: a19 :: a20 :: .ow d :: r) = .ok (.lst d) := rfl
theorem mVar_22 {a0 a1 a2 a3 a4 a5 a6 a7 a8 a9 a10 a11 a12 a13 a14 a15 a16 a17 a18 a19 a20 a21 : Sl} {d : D} {r : List Sl} : mVar 22 (a0 :: a1 :: a2 :: a3 :: a4 :: a5 :: a6 :: a7 :: a8 :: a9 :: a10 :: a11 :: a12 :: a13 :: a14 :: a15 :: a16 :: a17 :: a18 :: a19 :: a20 :: a21 :: .sh d :: r) = .ok d := rfl
theorem mVarT_22 {a0 a1 a2 a3 a4 a5 a6 a7 a8 a9 a10 a11 a12 a13 a14 a15 a16 a17 a18 a19 a20 a21 : Sl} {d : D} {r : List Sl} : mVarT 22 (a0 :: a1 :: a2 :: a3 :: a4 :: a5 :: a6 :: a7 :: a8 :: a9 :: a10 :: a11 :: a12 :: a13 :: a14 :: a15 :: a16 :: a17 :: a18 :: a19 :: a20 :: a21 :: .sh d :: r) = .ok d := rfl
theorem mVarO_22 {a0 a1 a2 a3 a4 a5 a6 a7 a8 a9 a10 a11 a12 a13 a14 a15 a16 a17 a18 a19 a20 a21 : Sl} {d : List D} {r : List Sl} : mVarT 22 (a0 :: a1 :: a2 :: a3 :: a4 :: a5 :: a6 :: a7 :: a8 :: a9 :: a10 :: a11 :: a12 :: a13 :: a14 :: a15 :: a16 :: a17 :: a18 :: a19 :: a20 :: a21 :: .ow d :: r) = .ok (.lst d) := rfl
theorem mVar_23 {a0 a1 a2 a3 a4 a5 a6 a7 a8 a9 a10 a11 a12 a13 a14 a15 a16 a17 a18 a19 a20 a21 a22 : Sl} {d : D} {r : List Sl} : mVar 23 (a0 :: a1 :: a2 :: a3 :: a4 :: a5 :: a6 :: a7 :: a8 :: a9 :: a10 :: a11 :: a12 :: a13 :: a14 :: a15 :: a16 :: a17 :: a18 :: a19 :: a20 :: a21 :: a22 :: .sh d :: r) = .ok d := rfl
theorem mVarT_23 {a0 a1 a2 a3 a4 a5 a6 a7 a8 a9 a10 a11 a12 a13 a14 a15 a16 a17 a18 a19 a20 a21 a22 : Sl} {d : D} {r : List Sl} : mVarT 23 (a0 :: a1 :: a2 :: a3 :: a4 :: a5 :: a6 :: a7 :: a8 :: a9 :: a10 :: a11 :: a12 :: a13 :: a14 :: a15 :: a16 :: a17 :: a18 :: a19 :: a20 :: a21 :: a22 :: .sh d :: r) = .ok d := rfl
theorem mVarO_23 {a0 a1 a2 a3 a4 a5 a6 a7 a8 a9 a10 a11 a12 a13 a14 a15 a16 a17 a18 a19 a20 a21 a22 : Sl} {d : List D} {r : List Sl} : mVarT 23 (a0 :: a1 :: a2 :: a3 :: a4 :: a5 :: a6 :: a7 :: a8 :: a9 :: a10 :: a11 :: a12 :: a13 :: a14 :: a15 :: a16 :: a17 :: a18 :: a19 :: a20 :: a21 :: a22 :: .ow d :: r) = .ok (.lst d) := rfl
theorem mVar_24 {a0 a1 a2 a3 a4 a5 a6 a7 a8 a9 a10 a11 a12 a13 a14 a15 a16 a17 a18 a19 a20 a21 a22 a23 : Sl} {d : D} {r : List Sl} : mVar 24 (a0 :: a1 :: a2 :: a3 :: a4 :: a5 :: a6 :: a7 :: a8 :: a9 :: a10 :: a11 :: a12 :: a13 :: a14 :: a15 :: a16 :: a17 :: a18 :: a19 :: a20 :: a21 :: a22 :: a23 :: .sh d :: r) = .ok d := rfl
theorem mVarT_24 {a0 a1 a2 a3 a4 a5 a6 a7 a8 a9 a10 a11 a12 a13 a14 a15 a16 a17 a18 a19 a20 a21 a22 a23 : Sl} {d : D} {r : List Sl} : mVarT 24 (a0 :: a1 :: a2 :: a3 :: a4 :: a5 :: a6 :: a7 :: a8 :: a9 :: a10 :: a11 :: a12 :: a13 :: a14 :: a15 :: a16 :: a17 :: a18 :: a19 :: a20 :: a21 :: a22 :: a23 :: .sh d :: r) = .ok d := rfl
theorem mVarO_24 {a0 a1 a2 a3 a4 a5 a6 a7 a8 a9 a10 a11 a12 a13 a14 a15 a16 a17 a18 a19 a20 a21 a22 a23 : Sl} {d : List D} {r : List Sl} : mVarT 24 (a0 :: a1 :: a2 :: a3 :: a4 :: a5 :: a6 :: a7 :: a8 :: a9 :: a10 :: a11 :: a12 :: a13 :: a14 :: a15 :: a16 :: a17 :: a18 :: a19 :: a20 :: a21 :: a22 :: a23 :: .ow d :: r) = .ok (.lst d) := rfl
theorem sz_0 : (0 ≤ sizeLine) = True := eq_true (szl (by omega))
theorem sz_1 : (1 ≤ sizeLine) = True := eq_true (szl (by omega))
theorem sz_2 : (2 ≤ sizeLine) = True := eq_true (szl (by omega))
theorem sz_3 : (3 ≤ sizeLine) = True := eq_true (szl (by omega))
theorem sz_4 : (4 ≤ sizeLine) = True := eq_true (szl (by omega))
theorem sz_5 : (5 ≤ sizeLine) = True := eq_true (szl (by omega))
theorem sz_6 : (6 ≤ sizeLine) = True := eq_true (szl (by omega))
theorem sz_7 : (7 ≤ sizeLine) = True := eq_true (szl (by omega))
theorem sz_8 : (8 ≤ sizeLine) = True := eq_true (szl (by omega))
theorem sz_9 : (9 ≤ sizeLine) = True := eq_true (szl (by omega))
theorem sz_10 : (10 ≤ sizeLine) = True := eq_true (szl (by omega))
theorem sz_11 : (11 ≤ sizeLine) = True := eq_true (szl (by omega))
theorem sz_12 : (12 ≤ sizeLine) = True := eq_true (szl (by omega))
theorem sz_13 : (13 ≤ sizeLine) = True := eq_true (szl (by omega))
theorem sz_14 : (14 ≤ sizeLine) = True := eq_true (szl (by omega))
theorem sz_15 : (15 ≤ sizeLine) = True := eq_true (szl (by omega))
theorem sz_16 : (16 ≤ sizeLine) = True := eq_true (szl (by omega))
theorem sz_17 : (17 ≤ sizeLine) = True := eq_true (szl (by omega))
theorem sz_18 : (18 ≤ sizeLine) = True := eq_true (szl (by omega))
theorem sz_19 : (19 ≤ sizeLine) = True := eq_true (szl (by omega))
theorem sz_20 : (20 ≤ sizeLine) = True := eq_true (szl (by omega))
theorem sz_21 : (21 ≤ sizeLine) = True := eq_true (szl (by omega))
theorem sz_22 : (22 ≤ sizeLine) = True := eq_true (szl (by omega))
theorem sz_23 : (23 ≤ sizeLine) = True := eq_true (szl (by omega))
theorem sz_24 : (24 ≤ sizeLine) = True := eq_true (szl (by omega))
theorem sz_25 : (25 ≤ sizeLine) = True := eq_true (szl (by omega))
theorem sz_26 : (26 ≤ sizeLine) = True := eq_true (szl (by omega))
theorem sz_27 : (27 ≤ sizeLine) = True := eq_true (szl (by omega))
theorem sz_28 : (28 ≤ sizeLine) = True := eq_true (szl (by omega))
theorem sz_29 : (29 ≤ sizeLine) = True := eq_true (szl (by omega))
theorem sz_30 : (30 ≤ sizeLine) = True := eq_true (szl (by omega))
theorem sz_31 : (31 ≤ sizeLine) = True := eq_true (szl (by omega))
theorem sz_32 : (32 ≤ sizeLine) = True := eq_true (szl (by omega))
theorem sz_33 : (33 ≤ sizeLine) = True := eq_true (szl (by omega))
theorem sz_34 : (34 ≤ sizeLine) = True := eq_true (szl (by omega))
theorem sz_35 : (35 ≤ sizeLine) = True := eq_true (szl (by omega))
theorem sz_36 : (36 ≤ sizeLine) = True := eq_true (szl (by omega))
theorem sz_37 : (37 ≤ sizeLine) = True := eq_true (szl (by omega))
theorem sz_38 : (38 ≤ sizeLine) = True := eq_true (szl (by omega))
theorem sz_39 : (39 ≤ sizeLine) = True := eq_true (szl (by omega))
theorem sz_40 : (40 ≤ sizeLine) = True := eq_true (szl (by omega))
/-! ### comprehensions -/
theorem lcGo_map {α : Type} {f : α → D} {g : D → R (List D)} {h : α → List D} : ∀ {xs : List α}, (∀ x ∈ xs, g (f x) = .ok (h x)) → lcGo g (xs.map f) = .ok (xs.flatMap h)
  | [], _ => rfl
  | x :: xs, e => by
    rw [List.map_cons]
    show ((g (f x)).bind fun o => (lcGo g (xs.map f)).bind fun r => .ok (o ++ r)) = _
    rw [e x List.mem_cons_self, lcGo_map fun y hy => e y (List.mem_cons_of_mem _ hy)]
    simp
theorem flatMap_one {α β : Type} (f : α → β) : ∀ xs : List α, (xs.flatMap fun x => [f x]) = xs.map f
  | [] => rfl
  | x :: xs => by rw [List.flatMap_cons, flatMap_one f xs]; rfl
theorem flatMap_if {α β : Type} (p : α → Bool) (f : α → β) : ∀ xs : List α, (xs.flatMap fun x => if p x = true then [f x] else []) = (xs.filter p).map f
  | [] => rfl
  | x :: xs => by
    rw [List.flatMap_cons, flatMap_if p f xs, List.filter_cons]
    cases p x <;> simp
theorem mLc_all {α : Type} {mi : Env → R (List D)} {t : Tg} {mt : Env → R Bool} {me : Env → R D} {vs : List Nat} {ρ : Env} (f : α → D) (h : α → D) (xs : List α) (hi : mi ρ = .ok (xs.map f)) (e : ∀ x ∈ xs, lcTurn t mt me (wipeE ρ vs) (f x) = .ok [h x]) :
    mLc mi t mt me vs ρ = .ok (.lst (xs.map h)) := by
  unfold mLc
  rw [hi, R.bind_ok, lcGo_map e, R.bind_ok, flatMap_one]
theorem mLc_if {α : Type} {mi : Env → R (List D)} {t : Tg} {mt : Env → R Bool} {me : Env → R D} {vs : List Nat} {ρ : Env} (f : α → D) (p : α → Bool) (h : α → D) (xs : List α) (hi : mi ρ = .ok (xs.map f)) (e : ∀ x ∈ xs, lcTurn t mt me (wipeE ρ vs) (f x) = .ok (if p x = true then [h x] else [])) :
    mLc mi t mt me vs ρ = .ok (.lst ((xs.filter p).map h)) := by
  unfold mLc
  rw [hi, R.bind_ok, lcGo_map e, R.bind_ok, flatMap_if]
/-! ### loops -/
theorem forGo_inv {α : Type} {t : Tg} {f : Env → Oc} (enc : α → D) (I : List α → Env → Prop) : ∀ (rest done : List α) (ρ : Env), I done ρ → (∀ dn x rs ρ, dn ++ x :: rs = done ++ rest → I dn ρ → ∃ ρ', t.oc (enc x) ρ f = .nx ρ' ∧ I (dn ++ [x]) ρ') →
    ∃ ρ', forGo t f (rest.map enc) ρ = .nx ρ' ∧ I (done ++ rest) ρ'
  | [], done, ρ, h0, _ => ⟨ρ, rfl, by rw [List.append_nil]; exact h0⟩
  | x :: rest, done, ρ, h0, st => by
    obtain ⟨ρ1, e1, h1⟩ := st done x rest ρ rfl h0
    obtain ⟨ρ2, e2, h2⟩ := forGo_inv enc I rest (done ++ [x]) ρ1 h1 fun dn y rs ρ e i => st dn y rs ρ (by rw [e]; simp) i
    refine ⟨ρ2, ?_, by rw [List.append_assoc] at h2; exact h2⟩
    rw [List.map_cons]
    show (t.oc (enc x) ρ fun ρ' => (f ρ').loop (forGo t f (rest.map enc))) = _
    unfold Tg.oc at e1 ⊢
    cases q : t.put (enc x) ρ with
    | none => rw [q] at e1; cases e1
    | some ρ' =>
      rw [q] at e1
      have e1 : f ρ' = .nx ρ1 := e1
      show (f ρ').loop (forGo t f (rest.map enc)) = _
      rw [e1]
      exact e2
/-! ### data -/
/-- a word -/
abbrev wD (w : List Int) : D := .tup (w.map D.int)
@[simp] theorem asInts_ints (ns : List Int) : asInts (ns.map D.int) = some ns := asInts_map ns
theorem cut_tail {α : Type} (xs : List α) : cutD xs (some 1) none = xs.tail := by
  cases xs with
  | nil => rfl
  | cons x xs =>
    unfold cutD
    have e1 : HT.sIx (x :: xs).length 0 (some 1) = 1 := by
      rw [show (some (1 : Int)) = some ((1 : Nat) : Int) from rfl, HT.sIx_nat, List.length_cons]
      omega
    have e2 : HT.sIx (x :: xs).length (x :: xs).length none = (x :: xs).length := rfl
    rw [e1, e2]
    simp
end FL
set_option maxHeartbeats 4000000
/-! FM2: plain tools for all laws. -/
namespace FL
open PySem PySem.Spec PyProof.Rows L2
local macro_rules | `(tactic| simp_arith only [$ls,*]) => `(tactic| simp only [R.bind_ok, R.bind_er, R.bind_no, R.out_ok, R.out_er, R.out_no, R.strict_ok, R.strict_er, R.strict_no, Oc.seq_nx, Oc.seq_rt, Oc.seq_er, Oc.seq_no, Oc.loop_nx, Oc.loop_rt, sIf, sRet, sSet, sAsg, sDrop, mVar_0, mVarT_0, mVarO_0, mVar_1, mVarT_1, mVarO_1, mVar_2, mVarT_2, mVarO_2, mVar_3, mVarT_3, mVarO_3, mVar_4, mVarT_4, mVarO_4, mVar_5, mVarT_5, mVarO_5, mVar_6, mVarT_6, mVarO_6, mVar_7, mVarT_7, mVarO_7, mVar_8, mVarT_8, mVarO_8, mVar_9, mVarT_9, mVarO_9, mVar_10, mVarT_10, mVarO_10, mVar_11, mVarT_11, mVarO_11, mVar_12, mVarT_12, mVarO_12, mVar_13, mVarT_13, mVarO_13, mVar_14, mVarT_14, mVarO_14, mVar_15, mVarT_15, mVarO_15, mVar_16, mVarT_16, mVarO_16, mVar_17, mVarT_17, mVarO_17, mVar_18, mVarT_18, mVarO_18, mVar_19, mVarT_19, mVarO_19, mVar_20, mVarT_20, mVarO_20, mVar_21, mVarT_21, mVarO_21, mVar_22, mVarT_22, mVarO_22, mVar_23, mVarT_23, mVarO_23, mVar_24, mVarT_24, mVarO_24, mC, mNil, mCons, mTup, mLst, mBin, mUn, mCall, mB, asB_bl, mNot, mAnd, mOr, vB, mIf, mIsN, isN, mYes, mChain, Tg.oc, Tg.put, setAll, List.getElem?_cons_zero, List.getElem?_cons_succ, List.set_cons_zero, List.set_cons_succ, List.map_cons, List.map_nil, List.length_cons, List.length_nil, List.replicate_succ, List.replicate_zero, List.cons_append, List.nil_append, List.append_nil, Nat.reduceAdd, Nat.reduceSub, Nat.succ_eq_add_one, if_true, if_false, ite_true, ite_false, Bool.false_eq_true, Bool.not_true, Bool.not_false, Bool.xor_false, Bool.false_xor, Bool.true_xor, sz_0, sz_1, sz_2, sz_3, sz_4, sz_5, sz_6, sz_7, sz_8, sz_9, sz_10, sz_11, sz_12, sz_13, sz_14, sz_15, sz_16, sz_17, sz_18, sz_19, sz_20, sz_21, sz_22, sz_23, sz_24, sz_25, sz_26, sz_27, sz_28, sz_29, sz_30, sz_31, sz_32, sz_33, sz_34, sz_35, sz_36, sz_37, sz_38, sz_39, sz_40, ok_ite, bl_ite, and_ite, or_ite, Bool.or_false, Bool.false_or, Bool.true_or, Bool.or_true, Bool.and_true, Bool.true_and, Bool.and_false, Bool.false_and, lcTurn, wipeE, itemsD_lst, itemsD_tup, ↓reduceIte, reduceCtorEq, sApp, sExt, sOwn, sPar, ownAt, frzE, $ls,*])
theorem all_bl {α : Type} (p : α → Bool) (xs : List α) : allD (.lst (xs.map fun x => D.bl (p x))) = .ok (.bl (xs.all p)) := by
  have e : (xs.map fun x => D.bl (p x)) = (xs.map p).map D.bl := by rw [List.map_map]; rfl
  rw [e]
  show blsOf _ (.lst ((xs.map p).map D.bl)) = _
  rw [blsOf_map]
  simp [List.all_map]
theorem eqD_int (neg : Bool) (i j : Int) : eqD neg (.int i) (.int j) = .ok (.bl (xor neg (i == j))) := by
  show (if shD 60 (.int i) && shD 60 (.int j) then R.ok (D.bl (xor neg (eqvD (.int i) (.int j)))) else .no) = _
  simp [shD, eqvD]
theorem isi_int (i : Int) : isiD "int" (.int i) = .ok (.bl true) := by rfl
theorem isi_intb (i : Bool) : isiD "int" (.bl i) = .ok (.bl true) := by rfl
theorem isi_bool (i : Int) : isiD "bool" (.int i) = .ok (.bl false) := by rfl
theorem isi_boolb (i : Bool) : isiD "bool" (.bl i) = .ok (.bl true) := by rfl
theorem isi_tup (ds : List D) : isiD "tuple" (.tup ds) = .ok (.bl true) := by rfl
theorem isi_tup_l (ds : List D) : isiD "tuple" (.lst ds) = .ok (.bl false) := by rfl
theorem isi_tup_s (ds : Str) : isiD "tuple" (.str ds) = .ok (.bl false) := by rfl
theorem isi_tup_n : isiD "tuple" .non = .ok (.bl false) := by rfl
theorem leD_int (i j : Int) : leD (.int i) (.int j) = .ok (.bl (decide (i ≤ j))) := rfl
theorem ltD_int (i j : Int) : ltD (.int i) (.int j) = .ok (.bl (decide (i < j))) := rfl
theorem gtD_int (i j : Int) : gtD (.int i) (.int j) = .ok (.bl (decide (j < i))) := rfl
theorem atI_nat {α : Type} (xs : List α) (i : Nat) : atI xs ((i : Nat) : Int) = xs[i]? := by
  unfold atI ixN
  rw [if_pos (by omega)]
  by_cases h : i < xs.length
  · rw [if_pos (by omega)]
    simp
  · rw [if_neg (by omega), List.getElem?_eq_none (by omega)]
    rfl
theorem idx_lst (ds : List D) (i : Nat) (d : D) (h : ds[i]? = some d) : idxD (.lst ds) (.int (i : Nat)) = .ok d := by
  show (match atI ds ((i : Nat) : Int) with | some d => R.ok d | none => .no) = _
  rw [atI_nat, h]
theorem idx_tup (ds : List D) (i : Nat) (d : D) (h : ds[i]? = some d) : idxD (.tup ds) (.int (i : Nat)) = .ok d := by
  show (match atI ds ((i : Nat) : Int) with | some d => R.ok d | none => .no) = _
  rw [atI_nat, h]
theorem idx_tup0 (a : D) (ds : List D) : idxD (.tup (a :: ds)) (.int 0) = .ok a := idx_tup _ 0 a rfl
theorem idx_tup1 (a b : D) (ds : List D) : idxD (.tup (a :: b :: ds)) (.int 1) = .ok b := idx_tup _ 1 b rfl
theorem idx_tup2 (a b c : D) (ds : List D) : idxD (.tup (a :: b :: c :: ds)) (.int 2) = .ok c := idx_tup _ 2 c rfl
theorem idx_lst0 (a : D) (ds : List D) : idxD (.lst (a :: ds)) (.int 0) = .ok a := idx_lst _ 0 a rfl
theorem int_bl (b : Bool) : intD (.bl b) = .ok (.int (if b = true then 1 else 0)) := rfl
theorem minLD_map {α : Type} (f : α → Int) (x : α) (xs : List α) : minLD (.lst ((x :: xs).map fun v => D.int (f v))) = .ok (.int (minI (f x) (xs.map f))) := by
  have e : ((x :: xs).map fun v => D.int (f v)) = ((x :: xs).map f).map D.int := by rw [List.map_map]; rfl
  rw [e]
  unfold minLD
  rw [intsOf_map]
  rfl
theorem zip_ints : ∀ (a b : List Int), (a.map D.int).zip (b.map D.int) = (a.zip b).map fun p => (D.int p.1, D.int p.2)
  | [], b => by simp
  | a :: r, [] => by simp
  | a :: r, b :: s => by simp [zip_ints r s]
theorem zip_ww (a b : List Int) : zipD (wD a) (wD b) = .ok ((a.zip b).map fun p => .tup [.int p.1, .int p.2]) := by
  show R.ok (((a.map D.int).zip (b.map D.int)).map fun p => D.tup [p.1, p.2]) = _
  rw [zip_ints, List.map_map]
  rfl
theorem sum_map {α : Type} (f : α → Int) (xs : List α) : sumTD (.lst (xs.map fun x => D.int (f x))) = .ok (.int (xs.map f).sum) := by
  have e : (xs.map fun x => D.int (f x)) = (xs.map f).map D.int := by rw [List.map_map]; rfl
  rw [e]
  unfold sumTD
  rw [intsLT_lst]
/-- of at most so many bits -/
def Sm (b : Nat) (i : Int) : Prop := i.natAbs < 2 ^ b
theorem Sm.log {b : Nat} {i : Int} (h : Sm b i) (hb : 0 < b) : i.natAbs.log2 < b := by
  by_cases h0 : i.natAbs = 0
  · rw [h0]; simpa using hb
  · exact (Nat.log2_lt h0).mpr h
theorem Sm.mul {a b : Nat} {i j : Int} (h : Sm a i) (q : Sm b j) : Sm (a + b) (i * j) := by
  unfold Sm at *
  rw [Int.natAbs_mul, Nat.pow_add]
  exact Nat.mul_lt_mul'' h q
theorem Sm.add {a : Nat} {i j : Int} (h : Sm a i) (q : Sm a j) : Sm (a + 1) (i + j) := by
  unfold Sm at *
  have := Int.natAbs_add_le i j
  rw [Nat.pow_succ]
  omega
theorem Sm.up {a b : Nat} {i : Int} (h : Sm a i) (q : a ≤ b) : Sm b i := Nat.lt_of_lt_of_le h (Nat.pow_le_pow_right (by omega) q)
theorem Sm.of {b : Nat} {i : Int} (h : 0 ≤ i) (q : i < ((2 ^ b : Nat) : Int)) : Sm b i := by
  unfold Sm
  omega
theorem Sm.lit {b : Nat} {i : Int} (h : decide (i.natAbs < 2 ^ b) = true) : Sm b i := of_decide_eq_true (p := i.natAbs < 2 ^ b) h
theorem mulT_int {a b : Nat} {i j : Int} (h : Sm a i) (q : Sm b j) (ha : 0 < a) (hb : 0 < b) (hab : a + b ≤ 100000000) : mulT (.int i) (.int j) = .ok (.int (i * j)) := by
  show (if cMul i j = true then R.ok (D.int (i * j)) else .no) = _
  have h1 := h.log ha
  have h2 := q.log hb
  rw [if_pos (show cMul i j = true from decide_eq_true (by omega))]
theorem addD_int (i j : Int) : addD (.int i) (.int j) = .ok (.int (i + j)) := rfl
theorem modD_int {i j : Int} (h : j ≠ 0) : modD (.int i) (.int j) = .ok (.int (i.fmod j)) := by
  show (if cMod i j = true then R.ok (D.int (i.fmod j)) else .no) = _
  rw [if_pos (show cMod i j = true from decide_eq_true h)]
theorem divD_int {i j : Int} (h : 0 < j ∧ j.natAbs.log2 < 9000) : divD (.int i) (.int j) = .ok (.int (i / j)) := by
  show (if cDiv i j = true then R.ok (D.int (i / j)) else .no) = _
  rw [if_pos (show cDiv i j = true from decide_eq_true h)]
theorem divD_lit {i j : Int} (h : decide (0 < j ∧ j.natAbs.log2 < 9000) = true) : divD (.int i) (.int j) = .ok (.int (i / j)) := divD_int (of_decide_eq_true h)
theorem modD_lit {i j : Int} (h : decide (j ≠ 0) = true) : modD (.int i) (.int j) = .ok (.int (i.fmod j)) := modD_int (of_decide_eq_true h)
theorem fmod_rng {i j : Int} (h : 0 < j) : 0 ≤ i.fmod j ∧ i.fmod j < j := by
  rw [Int.fmod_eq_emod_of_nonneg _ (Int.le_of_lt h)]
  exact ⟨Int.emod_nonneg _ (by omega), Int.emod_lt_of_pos _ h⟩
def dm1 : Int := 340282366920938463463374607431768211507
def dr1 (c k : Int) : Int := (c * 6364136223846793005 + (k + 1) * 1442695040888963407).fmod 340282366920938463463374607431768211507
def dr2 (c k : Int) : Int := (dr1 c k * dr1 c k).fmod 340282366920938463463374607431768211297
def drawnI (c k : Int) : Int := (((dr2 c k).fmod 18446744073709551557 + 1) * (dr2 c k / 18446744073709551557 + 1) * dr2 c k).fmod 340282366920938463463374607431768211507
theorem drawn_rng (c k : Int) : 0 ≤ drawnI c k ∧ drawnI c k < dm1 := fmod_rng (by decide)
theorem eqD_scr (ns : List Int) : eqD false (.scr ns) (.lst []) = .ok (.bl ns.isEmpty) := by
  show R.ok (D.bl (xor false ns.isEmpty)) = _
  simp
theorem bits_sm {z : Int} (h : Builtin.Int.intBits z ≤ 1048576) : Sm 1048576 z := by
  unfold Sm
  by_cases h0 : z.natAbs = 0
  · rw [h0]; exact Nat.pow_pos (by omega)
  · have hz : ¬ ((z == 0) = true) := fun e => h0 (by rw [eq_of_beq e]; rfl)
    unfold Builtin.Int.intBits at h
    rw [if_neg hz] at h
    exact (Nat.log2_lt h0).mp (Nat.lt_of_succ_le h)
def lets (l : Nat) : List Int := (List.range l).map fun (i : Nat) => (i : Int)
theorem addD_lst {xs ys : List D} (h : xs.length + ys.length ≤ 16000000) : addD (.lst xs) (.lst ys) = .ok (.lst (xs ++ ys)) := if_pos (szl h)
theorem addD_tup {xs ys : List D} (h : xs.length + ys.length ≤ 16000000) : addD (.tup xs) (.tup ys) = .ok (.tup (xs ++ ys)) := if_pos (szl h)
theorem rg1_nat (l : Nat) (h : l ≤ 1000000) : rg1D (.int (l : Int)) = .ok ((List.range l).map fun (i : Nat) => D.int (i : Int)) := by
  show (if _ then _ else _) = _
  rw [if_pos (by omega)]
  unfold rgD
  simp
theorem wD_snoc (w : List Int) (a : Int) : D.tup (w.map D.int ++ [D.int a]) = wD (w ++ [a]) := by rw [wD, List.map_append]; rfl
theorem lex_irr : ∀ w : List Int, HT.lexLt w w = false
  | [] => rfl
  | a :: r => by rw [HT.lexLt_cons, if_pos rfl, lex_irr r]
theorem lex_trans : ∀ {a b c : List Int}, HT.lexLt a b = true → HT.lexLt b c = true → HT.lexLt a c = true
  | [], [], _, h, _ => by cases h
  | [], _ :: _, [], _, q => by cases q
  | [], _ :: _, _ :: _, _, _ => rfl
  | _ :: _, [], _, h, _ => by cases h
  | _ :: _, _ :: _, [], _, q => by cases q
  | x :: a, y :: b, z :: c, h, q => by
    rw [HT.lexLt_cons] at h q ⊢
    by_cases e1 : x = y
    · subst e1
      rw [if_pos rfl] at h
      by_cases e2 : x = z
      · subst e2
        rw [if_pos rfl] at q ⊢
        exact lex_trans h q
      · rw [if_neg e2] at q ⊢
        exact q
    · rw [if_neg e1] at h
      have h := of_decide_eq_true h
      by_cases e2 : y = z
      · subst e2
        rw [if_neg e1]
        exact decide_eq_true h
      · rw [if_neg e2] at q
        have q := of_decide_eq_true q
        rw [if_neg (by omega)]
        exact decide_eq_true (by omega)
theorem lex_ext : ∀ {a b : List Int} (x y : Int), a.length = b.length → HT.lexLt a b = true → HT.lexLt (a ++ [x]) (b ++ [y]) = true
  | [], [], _, _, _, h => by cases h
  | [], _ :: _, _, _, e, _ => by simp at e
  | _ :: _, [], _, _, e, _ => by simp at e
  | p :: a, q :: b, x, y, e, h => by
    rw [List.cons_append, List.cons_append, HT.lexLt_cons]
    rw [HT.lexLt_cons] at h
    by_cases e1 : p = q
    · rw [if_pos e1] at h ⊢
      exact lex_ext x y (by simpa using e) h
    · rw [if_neg e1] at h ⊢
      exact h
theorem lex_last : ∀ (w : List Int) {x y : Int}, x < y → HT.lexLt (w ++ [x]) (w ++ [y]) = true
  | [], x, y, h => by
    show (if x = y then _ else decide (x < y)) = true
    rw [if_neg (by omega)]
    exact decide_eq_true h
  | a :: w, x, y, h => by
    rw [List.cons_append, List.cons_append, HT.lexLt_cons, if_pos rfl]
    exact lex_last w h
theorem range_up (l : Nat) : (List.range l).Pairwise (· < ·) := List.pairwise_lt_range
theorem shL_ints (n : Nat) : ∀ ns : List Int, shL n (ns.map D.int) = true
  | [] => rfl
  | a :: r => by
    show (shD n (.int a) && shL n (r.map D.int)) = true
    rw [shL_ints n r]; rfl
theorem shD_w {n : Nat} (h : 0 < n) (w : List Int) : shD n (wD w) = true := by
  show (decide (0 < n) && shL (n - 1) (w.map D.int)) = true
  rw [shL_ints, decide_eq_true h]; rfl
theorem shD_li {n : Nat} (h : 0 < n) (w : List Int) : shD n (.lst (w.map D.int)) = true := by
  show (decide (0 < n) && shL (n - 1) (w.map D.int)) = true
  rw [shL_ints, decide_eq_true h]; rfl
theorem shL_ws {n : Nat} (h : 0 < n) : ∀ ws : List (List Int), shL n (ws.map wD) = true
  | [] => rfl
  | a :: r => by
    show (shD n (wD a) && shL n (r.map wD)) = true
    rw [shL_ws h r, shD_w h]; rfl
theorem shD_ws {n : Nat} (h : 1 < n) (ws : List (List Int)) : shD n (.lst (ws.map wD)) = true := by
  show (decide (0 < n) && shL (n - 1) (ws.map wD)) = true
  rw [shL_ws (by omega), decide_eq_true (by omega)]; rfl
theorem eqD_li (neg : Bool) (a b : List Int) : eqD neg (.lst (a.map D.int)) (.lst (b.map D.int)) = .ok (.bl (xor neg (eqvD (.lst (a.map D.int)) (.lst (b.map D.int))))) := by
  show (if shD 60 (.lst (a.map D.int)) && shD 60 (.lst (b.map D.int)) then R.ok (D.bl _) else .no) = _
  rw [shD_li (by omega), shD_li (by omega)]; rfl
theorem eqD_nil (ws : List (List Int)) : eqD false (.lst (ws.map wD)) (.lst []) = .ok (.bl ws.isEmpty) := by
  show (if shD 60 (.lst (ws.map wD)) && shD 60 (.lst []) then R.ok (D.bl (xor false (eqvD (.lst (ws.map wD)) (.lst [])))) else .no) = _
  rw [shD_ws (by omega), show shD 60 (.lst []) = true from rfl, Bool.false_xor]
  cases ws <;> rfl
theorem zipIdx_sub {α : Type} (ws : List α) (p : α × Nat → Bool) : ((ws.zipIdx.filter p).map (·.1)).Sublist ws := by
  have h : ((ws.zipIdx.filter p).map (·.1)).Sublist (ws.zipIdx.map (·.1)) := List.Sublist.map _ List.filter_sublist
  rw [List.zipIdx_map_fst] at h
  exact h
theorem mul_rng {n : Nat} (h : n ≤ 100000) : Sm 2000000 ((n : Nat) : Int) := by
  have e : ((2 ^ 17 : Nat) : Int) = 131072 := rfl
  exact (Sm.of (b := 17) (by omega) (by omega)).up (by omega)
theorem dm_sm {m : Int} (h : 0 ≤ m ∧ m < dm1) : Sm 2000000 m := (Sm.of (b := 129) h.1 (Int.lt_trans h.2 (by decide +kernel))).up (by omega)
theorem subD_int (i j : Int) : subD (.int i) (.int j) = .ok (.int (i - j)) := rfl
theorem idx_mod {ds : List D} {i : Int} (h : 0 < ds.length) : ∃ j, j < ds.length ∧ i.fmod (ds.length : Int) = (j : Nat) := by
  obtain ⟨m1, m2⟩ := fmod_rng (i := i) (j := (ds.length : Int)) (by omega)
  obtain ⟨j, hj⟩ := Int.eq_ofNat_of_zero_le m1
  exact ⟨j, by omega, hj⟩
theorem tints_w (w : List Int) (h : w.length < 60) : tintsD (wD w) = .ok w := by
  unfold tintsD
  simp only [wD, asInts_ints]
  rw [if_pos h]
theorem sumT_w (w : List Int) : sumTD (wD w) = .ok (.int w.sum) := by
  unfold sumTD
  rw [wD, intsLT_tup]
theorem sortT_w (w : List Int) : sortTD (wD w) = .ok (.lst ((sortI w).map D.int)) := by
  unfold sortTD
  rw [wD, intsLT_tup]
theorem lst_w (w : List Int) : lstD (wD w) = .ok (.lst (w.map D.int)) := rfl
theorem absD_int (i : Int) : absD (.int i) = .ok (.int (if i < 0 then -i else i)) := rfl
theorem whGo_succ (mt : Env → R Bool) (f : Env → Oc) (n : Nat) (ρ : Env) : whGo mt f (n + 1) ρ = (mt ρ).out fun b => if b = true then (f ρ).loop (whGo mt f n) else .nx ρ := rfl
theorem fmod_nat (a b : Nat) : ((a : Nat) : Int).fmod ((b : Nat) : Int) = ((a % b : Nat) : Int) := by
  rw [Int.fmod_eq_emod_of_nonneg _ (by omega)]
  exact (Int.natCast_emod a b).symm
/-- Euclid's turns: the test other > 0, the body one, other = other, one % other -/
theorem euclid {x y : Sl} {mt : Env → R Bool} {f : Env → Oc} (hmt : ∀ a b : Nat, mt [x, y, .sh (.int (a : Int)), .sh (.int (b : Int))] = .ok (decide (0 < b)))
    (hf : ∀ a b : Nat, 0 < b → f [x, y, .sh (.int (a : Int)), .sh (.int (b : Int))] = .nx [x, y, .sh (.int (b : Int)), .sh (.int ((a % b : Nat) : Int))]) :
    ∀ (k a b fu : Nat), b < 2 ^ k → 2 * k + 1 ≤ fu → whGo mt f fu [x, y, .sh (.int (a : Int)), .sh (.int (b : Int))] = .nx [x, y, .sh (.int ((Nat.gcd a b : Nat) : Int)), .sh (.int 0)] := by
  intro k
  induction k with
  | zero =>
    intro a b fu hb hfu
    have hb : b = 0 := by simpa using hb
    subst hb
    obtain ⟨fu, rfl⟩ : ∃ m, fu = m + 1 := ⟨fu - 1, by omega⟩
    rw [whGo_succ, hmt a 0, R.out_ok]
    simp
  | succ k ih =>
    intro a b fu hb hfu
    obtain ⟨fu, rfl⟩ : ∃ m, fu = m + 1 := ⟨fu - 1, by omega⟩
    rw [whGo_succ, hmt a b, R.out_ok]
    by_cases h0 : 0 < b
    · rw [if_pos (decide_eq_true h0), hf a b h0, Oc.loop_nx]
      obtain ⟨fu, rfl⟩ : ∃ m, fu = m + 1 := ⟨fu - 1, by omega⟩
      rw [whGo_succ, hmt b (a % b), R.out_ok]
      have hlt : a % b < b := Nat.mod_lt _ h0
      have g1 : Nat.gcd a b = Nat.gcd b (a % b) := by rw [Nat.gcd_comm a b, Nat.gcd_rec b a, Nat.gcd_comm]
      by_cases h1 : 0 < a % b
      · rw [if_pos (decide_eq_true h1), hf b (a % b) h1, Oc.loop_nx]
        have half : b % (a % b) < 2 ^ k := by
          rw [Nat.pow_succ] at hb
          have h2 : b % (a % b) < a % b := Nat.mod_lt _ h1
          by_cases hc : 2 * (a % b) ≤ b
          · omega
          · have e : b % (a % b) = b - a % b := by
              rw [Nat.mod_eq_sub_mod (Nat.le_of_lt hlt)]
              exact Nat.mod_eq_of_lt (by omega)
            omega
        have g2 : Nat.gcd b (a % b) = Nat.gcd (a % b) (b % (a % b)) := by rw [Nat.gcd_comm b, Nat.gcd_rec (a % b) b, Nat.gcd_comm]
        rw [ih (a % b) (b % (a % b)) fu half (by omega), g1, g2]
      · have e : a % b = 0 := by omega
        rw [if_neg (by simp [e]), g1, e, Nat.gcd_zero_right]
        rfl
    · have e : b = 0 := by omega
      subst e
      simp
/-- the fraction of two whole numbers -/
def frD (a : Int) (b : Nat) : D := .tup [.int (a / (Nat.gcd a.natAbs b : Nat)), .int ((b : Int) / (Nat.gcd a.natAbs b : Nat))]
theorem abs_nat (a : Int) : (if a < 0 then -a else a) = ((a.natAbs : Nat) : Int) := by split <;> omega
theorem fraction_sem {a : Int} {b : Nat} (hb : 0 < b) (hz : b < 2 ^ 8000) {fu : Env → Nat} (hfu : ∀ ρ, fu ρ = bigFu) :
    runF 4 2 (fun ρ => ((sPar 2 3 (mUn absD (mVar 0)) (mVar 1)) ρ).seq (fun ρ => ((sWhile fu (mB (mBin gtD (mVar 3) (mC (.int 0)))) (sPar 2 3 (mVar 3) (mBin modD (mVar 2) (mVar 3)))) ρ).seq (sRet (mTup (mCons (mBin divD (mVar 0) (mVar 2)) (mCons (mBin divD (mVar 1) (mVar 2)) mNil)))))) [.int a, .int (b : Int)] = .ok (frD a b) := by
  have g0 : 0 < Nat.gcd a.natAbs b := Nat.gcd_pos_of_pos_right _ hb
  have gl : Nat.gcd a.natAbs b ≤ b := Nat.gcd_le_right _ hb
  have E := euclid (x := .sh (.int a)) (y := .sh (.int (b : Int))) (mt := mB (mBin gtD (mVar 3) (mC (.int 0)))) (f := sPar 2 3 (mVar 3) (mBin modD (mVar 2) (mVar 3)))
    (fun p q => by simp_arith only [gtD_int]; congr 1; simp) (fun p q hq => by simp_arith only [sPar, modD_int (show ((q : Nat) : Int) ≠ 0 by omega), fmod_nat]) 8000 a.natAbs b bigFu hz (by decide)
  have d1 : ∀ i : Int, divD (.int i) (.int ((Nat.gcd a.natAbs b : Nat) : Int)) = .ok (.int (i / (Nat.gcd a.natAbs b : Nat))) := fun i => divD_int ⟨by omega, by
    have e : ((Nat.gcd a.natAbs b : Nat) : Int).natAbs = Nat.gcd a.natAbs b := by omega
    rw [e]
    have : (Nat.gcd a.natAbs b).log2 < 8000 := (Nat.log2_lt (by omega)).mpr (Nat.lt_of_le_of_lt gl hz)
    omega⟩
  simp_arith only [runF, sPar, absD_int, abs_nat, sWhile, hfu, E, d1]
  rfl
def incr (L : List Int) : Bool := (L.zip L.tail).all fun p => decide (p.1 < p.2)
theorem zip_tailI (L : List Int) : zipD (.tup (L.map D.int)) (.tup (L.map D.int).tail) = .ok ((L.zip L.tail).map fun p => .tup [.int p.1, .int p.2]) := by
  show R.ok (((L.map D.int).zip (L.map D.int).tail).map fun p => D.tup [p.1, p.2]) = _
  rw [← List.map_tail, List.zip_map, List.map_map]
  rfl
theorem eqvL_ints : ∀ a b : List Int, eqvL (a.map D.int) (b.map D.int) = (a == b)
  | [], [] => rfl
  | [], _ :: _ => rfl
  | _ :: _, [] => rfl
  | x :: a, y :: b => by
    show ((x == y) && eqvL (a.map D.int) (b.map D.int)) = _
    rw [eqvL_ints a b]
    rfl
theorem shL_ls {n : Nat} (h : 0 < n) : ∀ xs : List (List Int), shL n (xs.map fun x => D.lst (x.map D.int)) = true
  | [] => rfl
  | a :: r => by
    show (shD n (.lst (a.map D.int)) && shL n (r.map fun x => D.lst (x.map D.int))) = true
    rw [shL_ls h r, shD_li h]; rfl
theorem idx_w {w : List Int} {i : Int} (h : 0 ≤ i ∧ i < (w.length : Int)) : idxD (wD w) (.int i) = .ok (.int (w.getD i.toNat 0)) := by
  obtain ⟨j, rfl⟩ := Int.eq_ofNat_of_zero_le h.1
  have hj : j < w.length := by omega
  refine idx_tup _ j _ ?_
  rw [List.getElem?_map, List.getElem?_eq_getElem hj]
  show some (D.int w[j]) = some (D.int (w.getD ((j : Nat) : Int).toNat 0))
  rw [Int.toNat_natCast, List.getD_eq_getElem?_getD, List.getElem?_eq_getElem hj]
  rfl
theorem isi_list (ds : List D) : isiD "list" (.lst ds) = .ok (.bl true) := by rfl
theorem isi_list_n : isiD "list" .non = .ok (.bl false) := by rfl
theorem isi_list_t (ds : List D) : isiD "list" (.tup ds) = .ok (.bl false) := by rfl
theorem isi_int_s (x : Str) : isiD "int" (.str x) = .ok (.bl false) := by rfl
theorem incr_of : ∀ {L : List Int}, L.Pairwise (· < ·) → incr L = true
  | [], _ => rfl
  | [a], _ => rfl
  | a :: b :: r, h => by
    obtain ⟨h1, h2⟩ := List.pairwise_cons.mp h
    have ih := incr_of h2
    unfold incr at ih ⊢
    simp only [List.tail_cons, List.zip_cons_cons, List.all_cons, Bool.and_eq_true, decide_eq_true_eq] at ih ⊢
    exact ⟨h1 b List.mem_cons_self, ih⟩
theorem of_incr : ∀ {L : List Int}, incr L = true → L.Pairwise (· < ·)
  | [], _ => List.Pairwise.nil
  | [a], _ => by simp
  | a :: b :: r, h => by
    have h' : a < b ∧ incr (b :: r) = true := by
      unfold incr at h ⊢
      simp only [List.tail_cons, List.zip_cons_cons, List.all_cons, Bool.and_eq_true, decide_eq_true_eq] at h ⊢
      exact h
    have ih := of_incr h'.2
    refine List.pairwise_cons.mpr ⟨fun u hu => ?_, ih⟩
    rcases List.mem_cons.mp hu with e | hu
    · rw [e]; exact h'.1
    · exact Int.lt_trans h'.1 ((List.pairwise_cons.mp ih).1 u hu)
theorem lets_up (n : Nat) : (lets n).Pairwise (· < ·) := by
  unfold lets
  exact List.Pairwise.map _ (fun i j (h : i < j) => by show ((i : Nat) : Int) < (j : Nat); omega) (range_up n)
theorem forGo_find {α : Type} {t : Tg} {f : Env → Oc} (enc : α → D) (p : α → Bool) (I : Env → Prop) (r : D) : ∀ (xs : List α) (ρ : Env), I ρ → (∀ x ∈ xs, ∀ ρ, I ρ → ∃ ρ', I ρ' ∧ t.oc (enc x) ρ f = if p x = true then .rt r else .nx ρ') →
    ∃ ρ', I ρ' ∧ forGo t f (xs.map enc) ρ = if xs.any p = true then .rt r else .nx ρ'
  | [], ρ, h0, _ => ⟨ρ, h0, rfl⟩
  | x :: xs, ρ, h0, st => by
    obtain ⟨ρ1, h1, e1⟩ := st x List.mem_cons_self ρ h0
    obtain ⟨ρ2, h2, e2⟩ := forGo_find enc p I r xs ρ1 h1 fun y hy => st y (List.mem_cons_of_mem _ hy)
    refine ⟨ρ2, h2, ?_⟩
    rw [List.map_cons]
    show (t.oc (enc x) ρ fun ρ' => (f ρ').loop (forGo t f (xs.map enc))) = _
    unfold Tg.oc at e1 ⊢
    cases q : t.put (enc x) ρ with
    | none =>
      rw [q] at e1
      exfalso
      by_cases hp : p x = true
      · rw [if_pos hp] at e1; cases e1
      · rw [if_neg hp] at e1; cases e1
    | some ρ' =>
      rw [q] at e1
      have e1 : f ρ' = if p x = true then .rt r else .nx ρ1 := e1
      show (f ρ').loop (forGo t f (xs.map enc)) = _
      rw [e1, List.any_cons]
      by_cases hp : p x = true
      · rw [if_pos hp, hp]; rfl
      · have hp : p x = false := Bool.eq_false_iff.mpr hp
        rw [hp]
        show forGo t f (xs.map enc) ρ1 = _
        rw [e2]; rfl
theorem lt8000 {b : Nat} (h : b ≤ 1000000) : b < 2 ^ 8000 := Nat.lt_of_le_of_lt h (Nat.lt_of_lt_of_le (show 1000000 < 2 ^ 20 by decide) (Nat.pow_le_pow_right (by omega) (by omega)))
theorem isN_lst (ds : List D) : isiD "tuple" (.lst ds) = .ok (.bl false) := by rfl
theorem seq_eq {f g : Env → Oc} {ρ ρ' : Env} (h : f ρ = .nx ρ') : (f ρ).seq g = g ρ' := by rw [h]; rfl
theorem eqD_str {x : Str} (h : shD 60 (.str x) = true) (neg : Bool) : eqD neg (.str x) (.str x) = .ok (.bl (xor neg true)) := by
  show (if shD 60 (.str x) && shD 60 (.str x) then R.ok (D.bl (xor neg (x == x))) else .no) = _
  rw [h, beq_self_eq_true]; rfl
theorem neg1 : negD (.int 1) = .ok (.int (-1)) := rfl
theorem addD_lst_eq (xs ys : List D) : addD (.lst xs) (.lst ys) = if xs.length + ys.length ≤ sizeLine then .ok (.lst (xs ++ ys)) else .no := rfl
theorem cut_one {α : Type} (xs : List α) : cutD xs none (some 1) = xs.take 1 := by
  unfold cutD
  have e1 : HT.sIx xs.length 0 none = 0 := rfl
  have e2 : HT.sIx xs.length xs.length (some 1) = min 1 xs.length := by
    rw [show (some (1 : Int)) = some ((1 : Nat) : Int) from rfl, HT.sIx_nat]
  rw [e1, e2, List.drop_zero, Nat.sub_zero]
  cases xs with
  | nil => rfl
  | cons x xs => simp
theorem forGo_all {t : Tg} {f : Env → Oc} (I : Env → Prop) : ∀ (xs : List D) (ρ : Env), I ρ → (∀ x ∈ xs, ∀ ρ, I ρ → ∃ ρ', I ρ' ∧ t.oc x ρ f = .nx ρ') → ∃ ρ', I ρ' ∧ forGo t f xs ρ = .nx ρ' := fun xs ρ h0 st => by
  obtain ⟨ρ', h1, e⟩ := forGo_find (t := t) (f := f) id (fun _ => false) I .non xs ρ h0 (fun x hx ρ hI => by
    obtain ⟨ρ', h, e⟩ := st x hx ρ hI
    exact ⟨ρ', h, by rw [id, e]; rfl⟩)
  rw [List.map_id] at e
  refine ⟨ρ', h1, e.trans ?_⟩
  have : (xs.any fun _ => false) = false := by simp
  rw [this]; rfl
theorem mem_sort {ns : List Int} {k : Int} : k ∈ sortI ns ↔ k ∈ ns := (sortI_perm ns).mem_iff
theorem nodup_dst : ∀ ns : List Int, (dst ns).Nodup
  | [] => by unfold dst; exact List.nodup_nil
  | n :: r => by
    unfold dst
    by_cases h : n ∈ r
    · rw [if_pos h]; exact nodup_dst r
    · rw [if_neg h]
      exact List.nodup_cons.mpr ⟨fun z => h ((mem_dst n r).mp z), nodup_dst r⟩
theorem sort_set_incr (ns : List Int) : (sortI (dst ns)).Pairwise (· < ·) := by
  have h1 := sortI_sorted (dst ns)
  have h2 : (sortI (dst ns)).Nodup := (sortI_perm (dst ns)).nodup_iff.mpr (nodup_dst ns)
  have h3 : (sortI (dst ns)).Pairwise fun a b => a ≤ b ∧ a ≠ b := List.Pairwise.and h1 h2
  exact h3.imp fun ⟨a, b⟩ => by omega
theorem eqD_w' (neg : Bool) (w : List Int) : eqD neg (wD w) (wD w) = .ok (.bl (xor neg true)) := by
  show (if shD 60 (wD w) && shD 60 (wD w) then R.ok (D.bl (xor neg (eqvD (wD w) (wD w)))) else .no) = _
  rw [shD_w (by omega)]
  show R.ok (D.bl (xor neg (eqvL (w.map D.int) (w.map D.int)))) = _
  rw [eqvL_ints, beq_self_eq_true]
theorem isi_boolD (b : Bool) : isiD "bool" (.bl b) = .ok (.bl true) := by rfl
theorem eqD_bl (neg a b : Bool) : eqD neg (.bl a) (.bl b) = .ok (.bl (xor neg (a == b))) := by rfl
theorem pow20 : powD (.int 2) (.int 20) = .ok (.int 1048576) := by rfl
theorem pow24 : powD (.int 2) (.int 24) = .ok (.int 16777216) := by rfl
theorem pow50 : powD (.int 2) (.int 50) = .ok (.int 1125899906842624) := by rfl
/-! ### slices, lists of ints -/
theorem szlt {n : Nat} (h : n < 16000000) : (n < sizeLine) = True := by rw [sizeLine_eq]; simp; omega
theorem szle {n : Nat} (h : n ≤ 16000000) : (n ≤ sizeLine) = True := eq_true (szl h)
theorem cut_to {α : Type} (xs : List α) (k : Nat) : cutD xs none (some (k : Int)) = xs.take k := by
  unfold cutD
  rw [HT.sIx_nat, HT.sIx_none, List.drop_zero, Nat.sub_zero]
  by_cases h : k ≤ xs.length
  · rw [Nat.min_eq_left h]
  · rw [Nat.min_eq_right (by omega), List.take_of_length_le (Nat.le_refl _), List.take_of_length_le (by omega)]
theorem cut_from {α : Type} (xs : List α) (k : Nat) : cutD xs (some (k : Int)) none = xs.drop k := by
  unfold cutD
  rw [HT.sIx_nat, HT.sIx_none]
  by_cases h : k ≤ xs.length
  · rw [Nat.min_eq_left h, List.take_of_length_le (by rw [List.length_drop]; omega)]
  · rw [Nat.min_eq_right (by omega), List.drop_of_length_le (Nat.le_refl _), List.drop_of_length_le (by omega)]
    simp
theorem sIx_m1 (n d : Nat) : HT.sIx n d (some (-1)) = n - 1 := by
  show (if (-1 : Int) < 0 then ((-1 : Int) + (n : Int)).toNat else min (-1 : Int).toNat n) = _
  rw [if_pos (by decide)]
  omega
theorem cut_last {α : Type} (xs : List α) : cutD xs (some (-1)) none = xs.drop (xs.length - 1) := by
  unfold cutD
  rw [sIx_m1, HT.sIx_none, List.take_of_length_le (by rw [List.length_drop]; omega)]
theorem cut_mid {α : Type} (xs : List α) : cutD xs (some 1) (some (-1)) = (xs.drop 1).take (xs.length - 2) := by
  unfold cutD
  rw [sIx_m1, show (some (1 : Int)) = some ((1 : Nat) : Int) from rfl, HT.sIx_nat]
  cases xs with
  | nil => rfl
  | cons x xs =>
    rw [List.length_cons]
    have e : min 1 (xs.length + 1) = 1 := by omega
    rw [e]
    congr 1
theorem bkN_none (n : Nat) : bkN n none = n := by
  unfold bkN
  rw [PySem.W.krv_bounds]
  show (((n : Int) - 1) + 1).toNat = n
  omega
theorem back_all (ds : List D) : backD (.lst ds) none = .ok (.lst ds.reverse) := by
  show R.ok (D.lst (ds.take (bkN ds.length none)).reverse) = _
  rw [bkN_none, List.take_length]
/-- lists of ints, lists of these -/
abbrev iD (p : List Int) : D := .lst (p.map D.int)
abbrev ggD (g : List (List Int)) : D := .lst (g.map iD)
theorem eqD_i (neg : Bool) (a b : List Int) : eqD neg (iD a) (iD b) = .ok (.bl (xor neg (a == b))) := by
  rw [eqD_li]
  show R.ok (D.bl (xor neg (eqvL (a.map D.int) (b.map D.int)))) = _
  rw [eqvL_ints]
theorem zip_ii (a b : List Int) : zipD (iD a) (iD b) = .ok ((a.zip b).map fun p => .tup [.int p.1, .int p.2]) := zip_ww a b
theorem tail_i (a : List Int) : (a.map D.int).tail = a.tail.map D.int := by rw [List.map_tail]
theorem all_true {α : Type} (xs : List α) : allD (.lst (xs.map fun _ => D.bl true)) = .ok (.bl true) := by
  rw [all_bl (fun _ => true)]
  simp
theorem any_bl {α : Type} (p : α → Bool) (xs : List α) : anyD (.lst (xs.map fun x => D.bl (p x))) = .ok (.bl (xs.any p)) := by
  have e : (xs.map fun x => D.bl (p x)) = (xs.map p).map D.bl := by rw [List.map_map]; rfl
  rw [e]
  show blsOf _ (.lst ((xs.map p).map D.bl)) = _
  rw [blsOf_map]
  simp [List.any_map]
theorem sum_i (w : List Int) : sumTD (iD w) = .ok (.int w.sum) := by
  unfold sumTD
  rw [intsLT_lst]
theorem sort_i (w : List Int) : sortTD (iD w) = .ok (iD (sortI w)) := by
  unfold sortTD
  rw [intsLT_lst]
theorem lrD_nat (n : Nat) (h : n ≤ 1000000) : lrD (.int (n : Int)) = .ok (iD (lets n)) := by
  unfold lrD lets
  rw [rg1_nat n h, R.bind_ok, iD, List.map_map]
  rfl
theorem geD_int (i j : Int) : geD (.int i) (.int j) = .ok (.bl (decide (j ≤ i))) := rfl
theorem idx_i {p : List Int} {i : Nat} (h : i < p.length) : idxD (iD p) (.int (i : Int)) = .ok (.int (p.getD i 0)) := by
  refine idx_lst _ i _ ?_
  rw [List.getElem?_map, List.getD_eq_getElem?_getD, List.getElem?_eq_getElem h]
  rfl
theorem idx_z {p : List Int} {i : Int} (h : 0 ≤ i ∧ i < p.length) : idxD (iD p) (.int i) = .ok (.int (p.getD i.toNat 0)) := by
  have e : i = ((i.toNat : Nat) : Int) := by omega
  rw [e]
  exact idx_i (by omega)
theorem idx_m1 (ds : List D) (d : D) : idxD (.lst (ds ++ [d])) (.int (-1)) = .ok d := by
  show (match atI (ds ++ [d]) (-1) with | some d => R.ok d | none => .no) = _
  have e : atI (ds ++ [d]) (-1) = some d := by
    unfold atI ixN
    rw [if_neg (by decide), if_pos (by rw [List.length_append]; simp; omega)]
    show (ds ++ [d])[(-1 + ((ds ++ [d]).length : Int)).toNat]? = _
    rw [List.length_append]
    have e2 : (-1 + (((ds.length + [d].length : Nat)) : Int)).toNat = ds.length := by simp; omega
    rw [e2]
    simp
  rw [e]
theorem enum_r (r : List Int) : enumD (iD r) = .ok ((List.range r.length).map fun i => .tup [.int (i : Nat), .int (r.getD i 0)]) := by
  show R.ok (enumL (r.map D.int)) = _
  congr 1
  refine List.ext_getElem? fun i => ?_
  unfold enumL
  rw [List.getElem?_zipWith, List.getElem?_map, List.getElem?_map, List.length_map]
  by_cases h : i < r.length
  · rw [List.getElem?_range h, List.getElem?_eq_getElem h]
    simp [List.getElem?_eq_getElem h]
  · have e1 : (List.range r.length)[i]? = none := List.getElem?_eq_none (by rw [List.length_range]; omega)
    rw [e1]
    rfl
theorem range_at {n x : Nat} {dn rs : List Nat} (h : dn ++ x :: rs = List.range n) : x = dn.length ∧ dn.length < n := by
  have hl := congrArg List.length h
  rw [List.length_append, List.length_cons, List.length_range] at hl
  have e : (List.range n)[dn.length]? = some x := by rw [← h]; simp
  rw [List.getElem?_range (by omega)] at e
  exact ⟨(Option.some.inj e).symm, by omega⟩
theorem map_getD {r : List Int} : (List.range r.length).map (fun i => r.getD i 0) = r := by
  refine List.ext_getElem? fun i => ?_
  rw [List.getElem?_map]
  by_cases h : i < r.length
  · rw [List.getElem?_range h, List.getElem?_eq_getElem h]
    simp [List.getElem?_eq_getElem h]
  · rw [List.getElem?_eq_none (l := r) (by omega), List.getElem?_eq_none (by rw [List.length_range]; omega)]
    rfl
theorem fmod_lit {i : Int} {n : Nat} (h : 0 < n) : ∃ j : Nat, j < n ∧ i.fmod (n : Int) = (j : Int) := by
  obtain ⟨h1, h2⟩ := fmod_rng (i := i) (j := (n : Int)) (by omega)
  exact ⟨(i.fmod n).toNat, by omega, by omega⟩
theorem maxI_eq {n : Int} {r : List Int} {m : Int} (h1 : n ≤ m) (h2 : ∀ y ∈ r, y ≤ m) (h3 : m ∈ n :: r) : maxI n r = m := by
  obtain ⟨k1, k2, k3⟩ := maxI_le r n
  refine Int.le_antisymm ?_ ?_
  · rcases List.mem_cons.mp k3 with e | e
    · rw [e]; exact h1
    · exact h2 _ e
  · rcases List.mem_cons.mp h3 with e | e
    · rw [e]; exact k1
    · exact k2 _ e
theorem maxLD_i {r : List Int} {m : Int} (h2 : ∀ y ∈ r, y ≤ m) (h3 : m ∈ r) : maxLD (iD r) = .ok (.int m) := by
  unfold maxLD
  rw [intsOf_map]
  cases r with
  | nil => cases h3
  | cons n r =>
    show R.ok (D.int (maxI n r)) = _
    rw [maxI_eq (h2 n List.mem_cons_self) (fun y hy => h2 y (List.mem_cons_of_mem _ hy)) h3]
theorem minI_eq {n : Int} {r : List Int} {m : Int} (h1 : m ≤ n) (h2 : ∀ y ∈ r, m ≤ y) (h3 : m ∈ n :: r) : minI n r = m := by
  obtain ⟨k1, k2, k3⟩ := minI_le r n
  refine Int.le_antisymm ?_ ?_
  · rcases List.mem_cons.mp h3 with e | e
    · rw [e]; exact k1
    · exact k2 _ e
  · rcases List.mem_cons.mp k3 with e | e
    · rw [e]; exact h1
    · exact h2 _ e
theorem minLD_i {r : List Int} {m : Int} (h2 : ∀ y ∈ r, m ≤ y) (h3 : m ∈ r) : minLD (iD r) = .ok (.int m) := by
  unfold minLD
  rw [intsOf_map]
  cases r with
  | nil => cases h3
  | cons n r =>
    show R.ok (D.int (minI n r)) = _
    rw [minI_eq (h2 n List.mem_cons_self) (fun y hy => h2 y (List.mem_cons_of_mem _ hy)) h3]
theorem max_ex : ∀ {r : List Int}, r ≠ [] → ∃ m ∈ r, ∀ y ∈ r, y ≤ m
  | [], h => absurd rfl h
  | n :: r, _ => by
    obtain ⟨k1, k2, k3⟩ := maxI_le r n
    exact ⟨maxI n r, k3, fun y hy => by
      rcases List.mem_cons.mp hy with e | e
      · rw [e]; exact k1
      · exact k2 _ e⟩
theorem lst_i (w : List Int) : lstD (iD w) = .ok (iD w) := rfl
theorem up_sorted {p : List Int} (h : p.Pairwise (· < ·)) : p.Pairwise (· ≤ ·) := h.imp fun h => Int.le_of_lt h
theorem forGo_findI {α : Type} {t : Tg} {f : Env → Oc} (enc : α → D) (p : α → Bool) (I : List α → Env → Prop) (r : D) : ∀ (rest done : List α) (ρ : Env), I done ρ → (∀ dn x rs ρ, dn ++ x :: rs = done ++ rest → I dn ρ → (p x = true → t.oc (enc x) ρ f = .rt r) ∧ (p x = false → ∃ ρ', t.oc (enc x) ρ f = .nx ρ' ∧ I (dn ++ [x]) ρ')) →
    (rest.any p = true ∧ forGo t f (rest.map enc) ρ = .rt r) ∨ (rest.any p = false ∧ ∃ ρ', forGo t f (rest.map enc) ρ = .nx ρ' ∧ I (done ++ rest) ρ')
  | [], done, ρ, h0, _ => .inr ⟨rfl, ρ, rfl, by rw [List.append_nil]; exact h0⟩
  | x :: rest, done, ρ, h0, st => by
    obtain ⟨h1, h2⟩ := st done x rest ρ rfl h0
    rw [List.map_cons, List.any_cons]
    have un : forGo t f (enc x :: rest.map enc) ρ = t.oc (enc x) ρ fun ρ' => (f ρ').loop (forGo t f (rest.map enc)) := rfl
    rw [un]
    cases hp : p x with
    | true =>
      have e := h1 hp
      refine .inl ⟨rfl, ?_⟩
      unfold Tg.oc at e ⊢
      cases q : t.put (enc x) ρ with
      | none => rw [q] at e; cases e
      | some ρ' =>
        rw [q] at e
        have e : f ρ' = .rt r := e
        show (f ρ').loop (forGo t f (rest.map enc)) = _
        rw [e]
        rfl
    | false =>
      obtain ⟨ρ1, e, i1⟩ := h2 hp
      have e2 : (t.oc (enc x) ρ fun ρ' => (f ρ').loop (forGo t f (rest.map enc))) = forGo t f (rest.map enc) ρ1 := by
        unfold Tg.oc at e ⊢
        cases q : t.put (enc x) ρ with
        | none => rw [q] at e; cases e
        | some ρ' =>
          rw [q] at e
          have e : f ρ' = .nx ρ1 := e
          show (f ρ').loop (forGo t f (rest.map enc)) = _
          rw [e]
          rfl
      rw [e2]
      rcases forGo_findI enc p I r rest (done ++ [x]) ρ1 i1 (fun dn y rs ρ e i => st dn y rs ρ (by rw [e]; simp) i) with ⟨k1, k2⟩ | ⟨k1, ρ', k2, k3⟩
      · exact .inl ⟨k1, k2⟩
      · exact .inr ⟨k1, ρ', k2, by rw [List.append_assoc] at k3; exact k3⟩
theorem rev_at {n x : Nat} {dn rs : List Nat} (h : dn ++ x :: rs = (List.range n).reverse) : x = n - 1 - dn.length ∧ dn.length < n := by
  have hl := congrArg List.length h
  rw [List.length_append, List.length_cons, List.length_reverse, List.length_range] at hl
  have e : (List.range n).reverse[dn.length]? = some x := by rw [← h]; simp
  rw [List.getElem?_reverse (by rw [List.length_range]; omega), List.length_range, List.getElem?_range (by omega)] at e
  exact ⟨(Option.some.inj e).symm, by omega⟩
theorem all_and {α : Type} (p q : α → Bool) : ∀ xs : List α, (xs.all fun x => p x && q x) = (xs.all p && xs.all q)
  | [] => rfl
  | x :: xs => by
    rw [List.all_cons, List.all_cons, List.all_cons, all_and p q xs]
    cases p x <;> cases q x <;> simp
theorem zip_tail_mem {p : List Int} {q : Int × Int} (h : q ∈ p.zip p.tail) : q.1 ∈ p ∧ q.2 ∈ p := by
  obtain ⟨h1, h2⟩ := List.of_mem_zip (a := q.1) (b := q.2) h
  exact ⟨h1, List.mem_of_mem_tail h2⟩
/-- equal text lists -/
theorem eqD_self {d : D} (h : shD 60 d = true) (h2 : eqvD d d = true) (h3 : ∀ ns, d ≠ .scr ns) (neg : Bool) : eqD neg d d = .ok (.bl (xor neg true)) := by
  have e : eqD neg d d = if shD 60 d && shD 60 d then .ok (.bl (xor neg (eqvD d d))) else .no := by
    cases d <;> first | rfl | exact absurd rfl (h3 _)
  rw [e, h, h2]
  rfl
/-- the turns of a law -/
theorem turns_n {ns : List Int} {most : Nat} (hm : most ≤ 60) : ∃ q : Nat, q ≤ max 1 most ∧ (((lenD (.scr ns)).bind fun y => min2D (.int (most : Int)) y).bind fun y => max2D (.int 1) y) = .ok (.int (q : Int)) := by
  refine ⟨(if (if (ns.length : Int) < (most : Int) then (ns.length : Int) else (most : Int)) > 1 then (if (ns.length : Int) < (most : Int) then (ns.length : Int) else (most : Int)) else 1).toNat, ?_, ?_⟩
  · split <;> split <;> omega
  · simp only [R.bind_ok, lenD, max2D, min2D, intsD, if_true]
    congr 2
    split <;> split <;> omega
/-! ### fractions -/
theorem frac_less {a c : Int} {b d : Nat} (hb : 0 < b) (hd : 0 < d) : ((a / ((Nat.gcd a.natAbs b : Nat) : Int)) * ((d : Int) / ((Nat.gcd c.natAbs d : Nat) : Int)) < (c / ((Nat.gcd c.natAbs d : Nat) : Int)) * ((b : Int) / ((Nat.gcd a.natAbs b : Nat) : Int))) ↔ a * (d : Int) < c * (b : Int) := by
  have hg : 0 < Nat.gcd a.natAbs b := Nat.gcd_pos_of_pos_right _ hb
  have hh : 0 < Nat.gcd c.natAbs d := Nat.gcd_pos_of_pos_right _ hd
  have d1 : ((Nat.gcd a.natAbs b : Nat) : Int) ∣ a := Int.ofNat_dvd_left.mpr (Nat.gcd_dvd_left _ _)
  have d2 : ((Nat.gcd a.natAbs b : Nat) : Int) ∣ (b : Int) := Int.natCast_dvd_natCast.mpr (Nat.gcd_dvd_right _ _)
  have d3 : ((Nat.gcd c.natAbs d : Nat) : Int) ∣ c := Int.ofNat_dvd_left.mpr (Nat.gcd_dvd_left _ _)
  have d4 : ((Nat.gcd c.natAbs d : Nat) : Int) ∣ (d : Int) := Int.natCast_dvd_natCast.mpr (Nat.gcd_dvd_right _ _)
  generalize Nat.gcd a.natAbs b = g at *
  generalize Nat.gcd c.natAbs d = h at *
  obtain ⟨a', ea⟩ := d1
  obtain ⟨b', eb⟩ := d2
  obtain ⟨c', ec⟩ := d3
  obtain ⟨d', ed⟩ := d4
  rw [ea, eb, ec, ed]
  rw [Int.mul_ediv_cancel_left _ (by omega), Int.mul_ediv_cancel_left _ (by omega), Int.mul_ediv_cancel_left _ (by omega), Int.mul_ediv_cancel_left _ (by omega)]
  have e1 : (g : Int) * a' * ((h : Int) * d') = ((g : Int) * (h : Int)) * (a' * d') := by
    rw [Int.mul_assoc, Int.mul_assoc, Int.mul_left_comm a']
  have e2 : (h : Int) * c' * ((g : Int) * b') = ((g : Int) * (h : Int)) * (c' * b') := by
    rw [Int.mul_assoc, Int.mul_left_comm c', Int.mul_left_comm (h : Int), Int.mul_assoc]
  rw [e1, e2]
  have hp : (0 : Int) < (g : Int) * (h : Int) := Int.mul_pos (by omega) (by omega)
  exact ⟨fun h => Int.mul_lt_mul_of_pos_left h hp, fun h => Int.lt_of_mul_lt_mul_left h (Int.le_of_lt hp)⟩
theorem frac_zero {a : Int} {b : Nat} (hb : 0 < b) : a / ((Nat.gcd a.natAbs b : Nat) : Int) = 0 ↔ a = 0 := by
  have hg : 0 < Nat.gcd a.natAbs b := Nat.gcd_pos_of_pos_right _ hb
  have d1 : ((Nat.gcd a.natAbs b : Nat) : Int) ∣ a := Int.ofNat_dvd_left.mpr (Nat.gcd_dvd_left _ _)
  generalize Nat.gcd a.natAbs b = g at *
  obtain ⟨a', ea⟩ := d1
  rw [ea, Int.mul_ediv_cancel_left _ (by omega)]
  exact ⟨fun h => by rw [h, Int.mul_zero], fun h => by
    rcases Int.mul_eq_zero.mp h with h | h
    · omega
    · exact h⟩
theorem frD_zero {b : Nat} (hb : 0 < b) : frD 0 b = .tup [.int 0, .int 1] := by
  unfold frD
  have e : Nat.gcd (0 : Int).natAbs b = b := by simp
  rw [e, Int.zero_ediv, Int.ediv_self (by omega)]
theorem eqD_pair (neg : Bool) (a b c d : Int) : eqD neg (.tup [.int a, .int b]) (.tup [.int c, .int d]) = .ok (.bl (xor neg (a == c && b == d))) := by
  show (if shD 60 (.tup [.int a, .int b]) && shD 60 (.tup [.int c, .int d]) then R.ok (D.bl (xor neg (eqvD (.tup [.int a, .int b]) (.tup [.int c, .int d])))) else .no) = _
  rw [if_pos (show (shD 60 (.tup [.int a, .int b]) && shD 60 (.tup [.int c, .int d])) = true from rfl)]
  congr 3
  show (a == c && (b == d && true)) = _
  rw [Bool.and_true]
theorem eqD_frs (neg : Bool) (a : Int) (b : Nat) : eqD neg (frD a b) (frD a b) = .ok (.bl (xor neg true)) := by
  show eqD neg (.tup [.int _, .int _]) (.tup [.int _, .int _]) = _
  rw [eqD_pair, beq_self_eq_true, beq_self_eq_true]
  rfl
theorem eqD_fr01 (neg : Bool) {a : Int} {b : Nat} (hb : 0 < b) : eqD neg (frD a b) (.tup [.int 0, .int 1]) = .ok (.bl (xor neg (a == 0))) := by
  by_cases h : a = 0
  · subst h
    rw [frD_zero hb, eqD_pair]
    rfl
  · show eqD neg (.tup [.int _, .int _]) (.tup [.int _, .int _]) = _
    rw [eqD_pair]
    have e1 : (a / ((Nat.gcd a.natAbs b : Nat) : Int) == 0) = false := by
      rw [beq_eq_false_iff_ne]
      exact fun z => h ((frac_zero hb).mp z)
    have e2 : (a == 0) = false := by simpa using h
    rw [e1, e2, Bool.false_and]
theorem div_sm {a : Int} {b : Nat} {k : Nat} (h : Sm k a) : Sm k (a / (b : Int)) := by
  unfold Sm at *
  exact Nat.lt_of_le_of_lt (Int.natAbs_ediv_le_natAbs _ _) h
theorem sm7 {i : Int} (h : 0 ≤ i ∧ i < 128) : Sm 7 i := .of h.1 (by
  have : ((2 ^ 7 : Nat) : Int) = 128 := rfl
  omega)
theorem sm20 {i : Int} (h : -1048576 < i ∧ i < 1048576) : Sm 20 i := by
  unfold Sm
  have : (2 : Nat) ^ 20 = 1048576 := rfl
  omega
theorem filter_not_len {α : Type} (p : α → Bool) : ∀ l : List α, (l.filter p).length + (l.filter fun x => !p x).length = l.length
  | [] => rfl
  | a :: l => by
    have ih := filter_not_len p l
    rw [List.filter_cons, List.filter_cons, List.length_cons]
    cases p a
    · rw [if_neg Bool.false_ne_true, if_pos (show (!false) = true from rfl), List.length_cons]; omega
    · rw [if_pos rfl, if_neg (by simp), List.length_cons]; omega
end FL
set_option maxHeartbeats 4000000
namespace FL
open PySem PySem.Spec PyProof.Rows L2
def topS (i : Nat) : Stmt := PySem.Challenge.pw_fewlooks_k60_whole_sums.main.body.getD i (.Pass ⟨0, 0, 0, 0⟩)

/-- what the top has left -/
structure Tp (K : PySem.W.Frag) (mg : Str → Option Value) : Prop where
  f_fraction : FunG K mg "fraction" (topS 10)
  f_need_table : FunG K mg "need_table" (topS 13)
  f_parity : FunG K mg "parity" (topS 14)
  f_unlike : FunG K mg "unlike" (topS 15)
  f_far_sum : FunG K mg "far_sum" (topS 16)
  f_mask_of : FunG K mg "mask_of" (topS 17)
  f_by_threes : FunG K mg "by_threes" (topS 18)
  f__law_cell : FunG K mg "_law_cell" (topS 20)
  f__law_drawn : FunG K mg "_law_drawn" (topS 21)
  f__law_word : FunG K mg "_law_word" (topS 22)
  f__law_told : FunG K mg "_law_told" (topS 23)
  f__law_made : FunG K mg "_law_made" (topS 24)
  f__law_less : FunG K mg "_law_less" (topS 25)
  f__law_digits : FunG K mg "_law_digits" (topS 26)
  f__law_bit : FunG K mg "_law_bit" (topS 27)
  f__law_third : FunG K mg "_law_third" (topS 28)
  f__law_table : FunG K mg "_law_table" (topS 29)
  n_ValueError : mg "ValueError" = none
  n_abs : mg "abs" = none
  n_all : mg "all" = none
  n_bool : mg "bool" = none
  n_enumerate : mg "enumerate" = none
  n_int : mg "int" = none
  n_isinstance : mg "isinstance" = none
  n_len : mg "len" = none
  n_list : mg "list" = none
  n_max : mg "max" = none
  n_min : mg "min" = none
  n_range : mg "range" = none
  n_sum : mg "sum" = none
  n_tuple : mg "tuple" = none
  n_zip : mg "zip" = none
  e_BadTable : ExcF K mg "BadTable"
  exw : ExcW K mg ["BadKind", "BadWord", "BadTest", "BadRow", "BadTable", "BadWeb", "NoFar"]
  c_SIZES : ∃ a : Addr, mg "SIZES" = some (.ref a) ∧ ∀ H : Hp, SqT K H a (([2, 4, 8, 16, 32, 64] : List Int).map V.int)
section
variable {P : Program} {w : World} {K : PySem.W.Frag} {mg : Str → Option Value} {base : Heap} {T : List (Addr × Str)}
def fu_fraction : FL.Env → Nat := fun _ => bigFu
abbrev s_fraction : Stmt := topS 10
def b1_fraction : FL.Env → Oc := (sPar 2 3 (mVar 3) (mBin modD (mVar 2) (mVar 3)))
def m_fraction : FL.Env → Oc := (fun ρ => ((sPar 2 3 (mUn absD (mVar 0)) (mVar 1)) ρ).seq (fun ρ => ((sWhile fu_fraction (mB (mBin gtD (mVar 3) (mC (.int 0)))) b1_fraction) ρ).seq (sRet (mTup (mCons (mBin divD (mVar 0) (mVar 2)) (mCons (mBin divD (mVar 1) (mVar 2)) mNil))))))
def F_fraction : List D → R D := runF 4 2 m_fraction
theorem sc_fraction : FnScope ["top", "under", "one", "other"] ["top", "under"] (defScope s_fraction) := ⟨rfl, rfl, rfl, by decide +kernel, rfl, by decide +kernel, by decide +kernel⟩
theorem bb_fraction : ∀ (kV doc pm : Value) (an : Option Addr) (cdv ct : Value) (us : List Value), us.length = (["top", "under"] : List Str).length → bindArgs (PySem.W.fnOf "fraction" "fraction" (defArgs s_fraction) (defBody s_fraction) (defScope s_fraction) .none kV doc pm an cdv ct) ⟨us, []⟩ = pure ((["top", "under"] : List Str).zip us) :=
  fun _ _ _ _ _ _ us hl => match us, hl with | [_, _], _ => rfl
theorem ok_fraction (t : Tp K mg) : Def P w K mg base T "fraction" 1 ["top", "under"] F_fraction := by
  show Def P w K mg base T "fraction" 1 ["top", "under"] (runF 4 2 m_fraction)
  refine def_of (k := 0) (m := m_fraction) t.f_fraction sc_fraction rfl rfl bb_fraction ?_
  intro f cdv A outer s H E c tk po
  · refine (pdss_cons ?_ ?_)
    · refine (pds_par 2 3 ?_ (pd_var 1) c.calm c.nd)
      · exact (pd_b1 c_abs rfl t.n_abs bt_abs (PD.t (pd_var 0)))
    · refine (pdss_cons ?_ ?_)
      · refine (pds_while fu_fraction ?_ ?_ po)
        · exact (ptd_cmp o_gt (PD.t (pd_var 3)) (PD.t pd_int))
        · refine (pdss_one ?_)
          · refine (pds_par 2 3 (pd_var 3) ?_ c.calm c.nd)
            · exact (pd_bin o_mod (PD.t (pd_var 2)) (PD.t (pd_var 3)))
      · refine (pdss_one ?_)
        · refine (pds_ret ?_)
          · refine (pd_tup ?_)
            · refine (pad_cons ?_ ?_)
              · exact (pd_bin o_div (PD.t (pd_var 0)) (PD.t (pd_var 2)))
              · refine (pad_cons ?_ pad_nil)
                · exact (pd_bin o_div (PD.t (pd_var 1)) (PD.t (pd_var 2)))
abbrev s_need_table : Stmt := topS 13
def m_need_table : FL.Env → Oc := (fun ρ => ((sIf (mOr (mNot (mB (mUn (isiD "list") (mVar 0)))) (mB (mBin (inD true) (mUn lenD (mVar 0)) (mC (.tup ([(2 : Int), (4 : Int), (8 : Int), (16 : Int), (32 : Int), (64 : Int)].map D.int)))))) (fun _ => Oc.er "BadTable") Oc.nx) ρ).seq (sIf (mNot (mB (mUn allD (mLc (fun ρ => ((mVar 0) ρ).bind itemsD) (.one 1) mYes (vB (mAnd (mB (mUn (isiD "int") (mVar 1))) (mAnd (mB (vB (mNot (mB (mUn (isiD "bool") (mVar 1)))))) (mB (mBin (inD false) (mVar 1) (mTup (mCons (mC (.int 0)) (mCons (mC (.int 1)) mNil)))))))) [1])))) (fun _ => Oc.er "BadTable") Oc.nx))
def F_need_table : List D → R D := runF 2 1 m_need_table
theorem sc_need_table : FnScope ["table", "one"] ["table"] (defScope s_need_table) := ⟨rfl, rfl, rfl, by decide +kernel, rfl, by decide +kernel, by decide +kernel⟩
theorem bb_need_table : ∀ (kV doc pm : Value) (an : Option Addr) (cdv ct : Value) (us : List Value), us.length = (["table"] : List Str).length → bindArgs (PySem.W.fnOf "need_table" "need_table" (defArgs s_need_table) (defBody s_need_table) (defScope s_need_table) .none kV doc pm an cdv ct) ⟨us, []⟩ = pure ((["table"] : List Str).zip us) :=
  fun _ _ _ _ _ _ us hl => match us, hl with | [_], _ => rfl
theorem ok_need_table (t : Tp K mg) : Def P w K mg base T "need_table" 1 ["table"] F_need_table := by
  show Def P w K mg base T "need_table" 1 ["table"] (runF 2 1 m_need_table)
  refine def_of (k := 0) (m := m_need_table) t.f_need_table sc_need_table rfl rfl bb_need_table ?_
  intro f cdv A outer s H E c tk po
  · refine (pdss_cons ?_ ?_)
    · refine (pds_if ?_ ?_ pdss_nil)
      · refine (PWD.p ?_)
        · refine (pwd_or ?_ ?_)
          · refine (ptd_not ?_)
            · refine (ptd_val ?_)
              · exact (pd_isi (Ty := "list") rfl t.n_isinstance (PD.t (pd_var 0)) rfl t.n_list bt_list)
          · refine (pwd_or1 ?_)
            · refine (ptd_cmp (o_nin c.hu5) ?_ ?_)
              · refine (PD.t ?_)
                · exact (pd_b1 c_len rfl t.n_len bt_len (PD.t (pd_var 0)))
              · exact (PD.t (pd_gtup rfl t.c_SIZES.choose_spec.1 t.c_SIZES.choose_spec.2))
      · exact (pdss_one (pds_raise t.e_BadTable c.calm tk rfl))
    · refine (pdss_one ?_)
      · refine (pds_if ?_ ?_ pdss_nil)
        · refine (ptd_not ?_)
          · refine (ptd_val ?_)
            · refine (pd_b1 (c_all c.calm) rfl t.n_all bt_all ?_)
              · refine (PD.t ?_)
                · refine (pd_lc (own := [("one", 1)]) (t := (.one 1)) (mt := mYes) (me := (vB (mAnd (mB (mUn (isiD "int") (mVar 1))) (mAnd (mB (vB (mNot (mB (mUn (isiD "bool") (mVar 1)))))) (mB (mBin (inD false) (mVar 1) (mTup (mCons (mC (.int 0)) (mCons (mC (.int 1)) mNil))))))))) c.calm c.nd ?_ (blkOk_by (by kernel_rfl)) (by decide) ?_ ?_ ?_)
                  · exact (PDI.t (pdi_seq (pd_var 0)))
                  · exact fun _ _ _ _ _ => (pgd_name 1 (Cg.blk c _ _ _ _ _).nd)
                  · exact fun _ _ _ _ _ => pts0
                  · intro _ _ _ _ _
                    refine (FL.pd_and ?_ ?_)
                    · exact (pd_isi (Ty := "int") rfl t.n_isinstance (PD.t (pd_var 1)) rfl t.n_int bt_int)
                    · refine (FL.pd_and ?_ ?_)
                      · refine (FL.pd_not ?_)
                        · exact (pd_isi (Ty := "bool") rfl t.n_isinstance (PD.t (pd_var 1)) rfl t.n_bool bt_bool)
                      · refine (pd_one ?_)
                        · refine (pd_cmp (o_in (Cg.blk c _ _ _ _ _).hu5) ?_ ?_)
                          · exact (PD.t (pd_var 1))
                          · refine (PD.t ?_)
                            · exact (pd_tup (pad_cons pd_int (pad_cons pd_int pad_nil)))
        · exact (pdss_one (pds_raise t.e_BadTable c.calm tk rfl))
def fu_parity : FL.Env → Nat := fun _ => bigFu
abbrev s_parity : Stmt := topS 14
def b1_parity : FL.Env → Oc := (fun ρ => ((sSet 1 (mBin modD (mBin addD (mVar 1) (mVar 0)) (mC (.int 2)))) ρ).seq (sSet 0 (mBin divD (mVar 0) (mC (.int 2)))))
def m_parity : FL.Env → Oc := (fun ρ => ((sSet 1 (mC (.int 0))) ρ).seq (fun ρ => ((sWhile fu_parity (mB (mBin gtD (mVar 0) (mC (.int 0)))) b1_parity) ρ).seq (sRet (mVar 1))))
def F_parity : List D → R D := runF 2 1 m_parity
theorem sc_parity : FnScope ["number", "found"] ["number"] (defScope s_parity) := ⟨rfl, rfl, rfl, by decide +kernel, rfl, by decide +kernel, by decide +kernel⟩
theorem bb_parity : ∀ (kV doc pm : Value) (an : Option Addr) (cdv ct : Value) (us : List Value), us.length = (["number"] : List Str).length → bindArgs (PySem.W.fnOf "parity" "parity" (defArgs s_parity) (defBody s_parity) (defScope s_parity) .none kV doc pm an cdv ct) ⟨us, []⟩ = pure ((["number"] : List Str).zip us) :=
  fun _ _ _ _ _ _ us hl => match us, hl with | [_], _ => rfl
theorem ok_parity (t : Tp K mg) : Def P w K mg base T "parity" 1 ["number"] F_parity := by
  show Def P w K mg base T "parity" 1 ["number"] (runF 2 1 m_parity)
  refine def_of (k := 0) (m := m_parity) t.f_parity sc_parity rfl rfl bb_parity ?_
  intro f cdv A outer s H E c tk po
  · refine (pdss_cons (pds_set 1 pd_int c.nd) ?_)
    · refine (pdss_cons ?_ ?_)
      · refine (pds_while fu_parity ?_ ?_ po)
        · exact (ptd_cmp o_gt (PD.t (pd_var 0)) (PD.t pd_int))
        · refine (pdss_cons ?_ ?_)
          · refine (pds_set 1 ?_ c.nd)
            · refine (pd_bin o_mod ?_ (PD.t pd_int))
              · refine (PD.t ?_)
                · exact (pd_bin o_add (PD.t (pd_var 1)) (PD.t (pd_var 0)))
          · refine (pdss_one ?_)
            · refine (pds_set 0 ?_ c.nd)
              · exact (pd_bin o_div (PD.t (pd_var 0)) (PD.t pd_int))
      · exact (pdss_one (pds_ret (pd_var 1)))
abbrev s_unlike : Stmt := topS 15
def m_unlike : FL.Env → Oc := (sRet (mUn lenD (mLc (fun ρ => ((mVar 0) ρ).bind enumD) (.many [2, 3]) (mB (mBin (eqD true) (mVar 3) (mCall 1 F_parity (mCons (mBin bandD (mVar 2) (mVar 1)) mNil)))) (mVar 2) [2, 3])))
def F_unlike : List D → R D := runF 4 2 m_unlike
theorem sc_unlike : FnScope ["table", "mask", "x", "bit"] ["table", "mask"] (defScope s_unlike) := ⟨rfl, rfl, rfl, by decide +kernel, rfl, by decide +kernel, by decide +kernel⟩
theorem bb_unlike : ∀ (kV doc pm : Value) (an : Option Addr) (cdv ct : Value) (us : List Value), us.length = (["table", "mask"] : List Str).length → bindArgs (PySem.W.fnOf "unlike" "unlike" (defArgs s_unlike) (defBody s_unlike) (defScope s_unlike) .none kV doc pm an cdv ct) ⟨us, []⟩ = pure ((["table", "mask"] : List Str).zip us) :=
  fun _ _ _ _ _ _ us hl => match us, hl with | [_, _], _ => rfl
theorem ok_unlike (t : Tp K mg) : Def P w K mg base T "unlike" 2 ["table", "mask"] F_unlike := by
  have G_parity := ok_parity (P := P) (w := w) (base := base) (T := T) t
  show Def P w K mg base T "unlike" 2 ["table", "mask"] (runF 4 2 m_unlike)
  refine def_of (k := 1) (m := m_unlike) t.f_unlike sc_unlike rfl rfl bb_unlike ?_
  intro f cdv A outer s H E c tk po
  · refine (pdss_one ?_)
    · refine (pds_ret ?_)
      · refine (pd_b1 c_len rfl t.n_len bt_len ?_)
        · refine (PD.t ?_)
          · refine (pd_lc (own := [("x", 2), ("bit", 3)]) (t := (.many [2, 3])) (mt := (mB (mBin (eqD true) (mVar 3) (mCall 1 F_parity (mCons (mBin bandD (mVar 2) (mVar 1)) mNil))))) (me := (mVar 2)) c.calm c.nd ?_ (blkOk_by (by kernel_rfl)) (by decide) ?_ ?_ ?_)
            · exact (PDI.t (pdi_enum rfl t.n_enumerate (pd_var 0)))
            · exact fun _ _ _ _ _ => (pgd_tup (pgsd_cons 2 (pgsd_cons 3 pgsd_nil (Cg.blk c _ _ _ _ _).nd) (Cg.blk c _ _ _ _ _).nd) (Cg.blk c _ _ _ _ _).calm)
            · intro _ _ _ _ _
              refine (pts1 ?_)
              · refine (ptd_cmp (o_ne (Cg.blk c _ _ _ _ _).hu) ?_ ?_)
                · exact (PD.t (pd_var 3))
                · refine (PD.t ?_)
                  · refine (pd_callD G_parity (Cg.blk c _ _ _ _ _) (by decide) (by exact rfl) rfl ?_)
                    · refine (pad_cons ?_ pad_nil)
                      · exact (pd_bin o_band (PD.t (pd_var 2)) (PD.t (pd_var 1)))
            · exact fun _ _ _ _ _ => (pd_var 2)
abbrev s_far_sum : Stmt := topS 16
def m_far_sum : FL.Env → Oc := (fun ρ => ((sDrop (mCall 1 F_need_table (mCons (mVar 0) mNil))) ρ).seq (sRet (mUn minLD (mLc (fun ρ => ((mUn lenD (mVar 0)) ρ).bind rg1D) (.one 1) mYes (mCall 2 F_unlike (mCons (mVar 0) (mCons (mVar 1) mNil))) [1]))))
def F_far_sum : List D → R D := runF 2 1 m_far_sum
theorem sc_far_sum : FnScope ["table", "mask"] ["table"] (defScope s_far_sum) := ⟨rfl, rfl, rfl, by decide +kernel, rfl, by decide +kernel, by decide +kernel⟩
theorem bb_far_sum : ∀ (kV doc pm : Value) (an : Option Addr) (cdv ct : Value) (us : List Value), us.length = (["table"] : List Str).length → bindArgs (PySem.W.fnOf "far_sum" "far_sum" (defArgs s_far_sum) (defBody s_far_sum) (defScope s_far_sum) .none kV doc pm an cdv ct) ⟨us, []⟩ = pure ((["table"] : List Str).zip us) :=
  fun _ _ _ _ _ _ us hl => match us, hl with | [_], _ => rfl
theorem ok_far_sum (t : Tp K mg) : Def P w K mg base T "far_sum" 3 ["table"] F_far_sum := by
  have G_need_table := ok_need_table (P := P) (w := w) (base := base) (T := T) t
  have G_unlike := ok_unlike (P := P) (w := w) (base := base) (T := T) t
  show Def P w K mg base T "far_sum" 3 ["table"] (runF 2 1 m_far_sum)
  refine def_of (k := 2) (m := m_far_sum) t.f_far_sum sc_far_sum rfl rfl bb_far_sum ?_
  intro f cdv A outer s H E c tk po
  · refine (pdss_cons ?_ ?_)
    · refine (pds_expr ?_)
      · exact (pd_callD G_need_table c (by decide) (by exact rfl) rfl (pad_cons (pd_var 0) pad_nil))
    · refine (pdss_one ?_)
      · refine (pds_ret ?_)
        · refine (pd_b1 (c_min c.calm) rfl t.n_min bt_min ?_)
          · refine (PD.t ?_)
            · refine (pd_lc (own := [("mask", 1)]) (t := (.one 1)) (mt := mYes) (me := (mCall 2 F_unlike (mCons (mVar 0) (mCons (mVar 1) mNil)))) c.calm c.nd ?_ (blkOk_by (by kernel_rfl)) (by decide) ?_ ?_ ?_)
              · refine (PDI.t ?_)
                · refine (pdi_range1 rfl t.n_range ?_)
                  · refine (PD.t ?_)
                    · exact (pd_b1 c_len rfl t.n_len bt_len (PD.t (pd_var 0)))
              · exact fun _ _ _ _ _ => (pgd_name 1 (Cg.blk c _ _ _ _ _).nd)
              · exact fun _ _ _ _ _ => pts0
              · intro _ _ _ _ _
                refine (pd_callD G_unlike (Cg.blk c _ _ _ _ _) (by decide) (by exact rfl) rfl ?_)
                · exact (pad_cons (pd_var 0) (pad_cons (pd_var 1) pad_nil))
abbrev s_mask_of : Stmt := topS 17
def m_mask_of : FL.Env → Oc := (fun ρ => ((sDrop (mCall 1 F_need_table (mCons (mVar 0) mNil))) ρ).seq (fun ρ => ((sSet 1 (mLc (fun ρ => ((mUn lenD (mVar 0)) ρ).bind rg1D) (.one 2) mYes (mCall 2 F_unlike (mCons (mVar 0) (mCons (mVar 2) mNil))) [2])) ρ).seq (sRet (mLix (mVar 1) (mUn minLD (mVar 1))))))
def F_mask_of : List D → R D := runF 3 1 m_mask_of
theorem sc_mask_of : FnScope ["table", "counts", "mask"] ["table"] (defScope s_mask_of) := ⟨rfl, rfl, rfl, by decide +kernel, rfl, by decide +kernel, by decide +kernel⟩
theorem bb_mask_of : ∀ (kV doc pm : Value) (an : Option Addr) (cdv ct : Value) (us : List Value), us.length = (["table"] : List Str).length → bindArgs (PySem.W.fnOf "mask_of" "mask_of" (defArgs s_mask_of) (defBody s_mask_of) (defScope s_mask_of) .none kV doc pm an cdv ct) ⟨us, []⟩ = pure ((["table"] : List Str).zip us) :=
  fun _ _ _ _ _ _ us hl => match us, hl with | [_], _ => rfl
theorem ok_mask_of (t : Tp K mg) : Def P w K mg base T "mask_of" 3 ["table"] F_mask_of := by
  have G_need_table := ok_need_table (P := P) (w := w) (base := base) (T := T) t
  have G_unlike := ok_unlike (P := P) (w := w) (base := base) (T := T) t
  show Def P w K mg base T "mask_of" 3 ["table"] (runF 3 1 m_mask_of)
  refine def_of (k := 2) (m := m_mask_of) t.f_mask_of sc_mask_of rfl rfl bb_mask_of ?_
  intro f cdv A outer s H E c tk po
  · refine (pdss_cons ?_ ?_)
    · refine (pds_expr ?_)
      · exact (pd_callD G_need_table c (by decide) (by exact rfl) rfl (pad_cons (pd_var 0) pad_nil))
    · refine (pdss_cons ?_ ?_)
      · refine (pds_setLc 1 (own := [("mask", 2)]) (t := (.one 2)) (mt := mYes) (me := (mCall 2 F_unlike (mCons (mVar 0) (mCons (mVar 2) mNil)))) c.calm c.nd ?_ (blkOk_by (by kernel_rfl)) (by decide) ?_ ?_ ?_)
        · refine (PDI.t ?_)
          · refine (pdi_range1 rfl t.n_range ?_)
            · refine (PD.t ?_)
              · exact (pd_b1 c_len rfl t.n_len bt_len (PD.t (pd_var 0)))
        · exact fun _ _ _ _ _ => (pgd_name 2 (Cg.blk c _ _ _ _ _).nd)
        · exact fun _ _ _ _ _ => pts0
        · intro _ _ _ _ _
          refine (pd_callD G_unlike (Cg.blk c _ _ _ _ _) (by decide) (by exact rfl) rfl ?_)
          · exact (pad_cons (pd_var 0) (pad_cons (pd_var 2) pad_nil))
      · refine (pdss_one ?_)
        · refine (pds_ret ?_)
          · refine (pd_lix c.hu5 ?_ ?_)
            · exact (PD.t (pd_var 1))
            · refine (PD.t ?_)
              · exact (pd_b1 (c_min c.calm) rfl t.n_min bt_min (PD.t (pd_var 1)))
abbrev s_by_threes : Stmt := topS 18
def b1_by_threes : FL.Env → Oc := (sSet 1 (mBin addD (mVar 1) (mUn lenD (mLc (fun ρ => ((mVar 0) ρ).bind enumD) (.many [4, 5]) (mB (mBin (eqD false) (mBin modD (mBin addD (mBin addD (mVar 3) (mVar 5)) (mBin idxD (mVar 0) (mBin bxorD (mVar 2) (mVar 4)))) (mC (.int 2))) (mC (.int 1)))) (mVar 4) [4, 5]))))
def m_by_threes : FL.Env → Oc := (fun ρ => ((sDrop (mCall 1 F_need_table (mCons (mVar 0) mNil))) ρ).seq (fun ρ => ((sSet 1 (mC (.int 0))) ρ).seq (fun ρ => ((sFor (fun ρ => ((mVar 0) ρ).bind enumD) (.many [2, 3]) b1_by_threes) ρ).seq (sRet (mCall 2 F_fraction (mCons (mVar 1) (mCons (mBin mulT (mUn lenD (mVar 0)) (mUn lenD (mVar 0))) mNil)))))))
def F_by_threes : List D → R D := runF 6 1 m_by_threes
theorem sc_by_threes : FnScope ["table", "caught", "x", "one", "y", "other"] ["table"] (defScope s_by_threes) := ⟨rfl, rfl, rfl, by decide +kernel, rfl, by decide +kernel, by decide +kernel⟩
theorem bb_by_threes : ∀ (kV doc pm : Value) (an : Option Addr) (cdv ct : Value) (us : List Value), us.length = (["table"] : List Str).length → bindArgs (PySem.W.fnOf "by_threes" "by_threes" (defArgs s_by_threes) (defBody s_by_threes) (defScope s_by_threes) .none kV doc pm an cdv ct) ⟨us, []⟩ = pure ((["table"] : List Str).zip us) :=
  fun _ _ _ _ _ _ us hl => match us, hl with | [_], _ => rfl
theorem ok_by_threes (t : Tp K mg) : Def P w K mg base T "by_threes" 2 ["table"] F_by_threes := by
  have G_fraction := ok_fraction (P := P) (w := w) (base := base) (T := T) t
  have G_need_table := ok_need_table (P := P) (w := w) (base := base) (T := T) t
  show Def P w K mg base T "by_threes" 2 ["table"] (runF 6 1 m_by_threes)
  refine def_of (k := 1) (m := m_by_threes) t.f_by_threes sc_by_threes rfl rfl bb_by_threes ?_
  intro f cdv A outer s H E c tk po
  · refine (pdss_cons ?_ ?_)
    · refine (pds_expr ?_)
      · exact (pd_callD G_need_table c (by decide) (by exact rfl) rfl (pad_cons (pd_var 0) pad_nil))
    · refine (pdss_cons (pds_set 1 pd_int c.nd) ?_)
      · refine (pdss_cons ?_ ?_)
        · refine (pds_for ?_ ?_ ?_ po c.calm)
          · exact (pdi_enum rfl t.n_enumerate (pd_var 0))
          · exact (pgf_tup (pgsf_cons 2 (pgsf_cons 3 pgsf_nil c.nd) c.nd) c.calm)
          · refine (pdss_one ?_)
            · refine (pds_set 1 ?_ c.nd)
              · refine (pd_bin o_add ?_ ?_)
                · exact (PD.t (pd_var 1))
                · refine (PD.t ?_)
                  · refine (pd_b1 c_len rfl t.n_len bt_len ?_)
                    · refine (PD.t ?_)
                      · refine (pd_lc (own := [("y", 4), ("other", 5)]) (t := (.many [4, 5])) (mt := (mB (mBin (eqD false) (mBin modD (mBin addD (mBin addD (mVar 3) (mVar 5)) (mBin idxD (mVar 0) (mBin bxorD (mVar 2) (mVar 4)))) (mC (.int 2))) (mC (.int 1))))) (me := (mVar 4)) c.calm c.nd ?_ (blkOk_by (by kernel_rfl)) (by decide) ?_ ?_ ?_)
                        · exact (PDI.t (pdi_enum rfl t.n_enumerate (pd_var 0)))
                        · exact fun _ _ _ _ _ => (pgd_tup (pgsd_cons 4 (pgsd_cons 5 pgsd_nil (Cg.blk c _ _ _ _ _).nd) (Cg.blk c _ _ _ _ _).nd) (Cg.blk c _ _ _ _ _).calm)
                        · intro _ _ _ _ _
                          refine (pts1 ?_)
                          · refine (ptd_cmp (o_eq (Cg.blk c _ _ _ _ _).hu) ?_ (PD.t pd_int))
                            · refine (PD.t ?_)
                              · refine (pd_bin o_mod ?_ (PD.t pd_int))
                                · refine (PD.t ?_)
                                  · refine (pd_bin o_add ?_ ?_)
                                    · refine (PD.t ?_)
                                      · exact (pd_bin o_add (PD.t (pd_var 3)) (PD.t (pd_var 5)))
                                    · refine (PD.t ?_)
                                      · refine (pd_idx ?_ ?_)
                                        · exact (PD.t (pd_var 0))
                                        · refine (PD.t ?_)
                                          · exact (pd_bin o_bxor (PD.t (pd_var 2)) (PD.t (pd_var 4)))
                        · exact fun _ _ _ _ _ => (pd_var 4)
        · refine (pdss_one ?_)
          · refine (pds_ret ?_)
            · refine (pd_callD G_fraction c (by decide) (by exact rfl) rfl ?_)
              · refine (pad_cons (pd_var 1) ?_)
                · refine (pad_cons ?_ pad_nil)
                  · refine (pd_bin o_mulT ?_ ?_)
                    · refine (PD.t ?_)
                      · exact (pd_b1 c_len rfl t.n_len bt_len (PD.t (pd_var 0)))
                    · refine (PD.t ?_)
                      · exact (pd_b1 c_len rfl t.n_len bt_len (PD.t (pd_var 0)))
abbrev s__law_cell : Stmt := topS 20
def m__law_cell : FL.Env → Oc := (fun ρ => ((sIf (mB (mBin (eqD false) (mVar 0) (mLst mNil))) (sRet (mBin mulT (mVar 1) (mC (.int 7919)))) Oc.nx) ρ).seq (sRet (mBin addD (mBin idxD (mVar 0) (mBin modD (mVar 1) (mUn lenD (mVar 0)))) (mBin mulT (mBin divD (mVar 1) (mUn lenD (mVar 0))) (mC (.int 104729))))))
def F__law_cell : List D → R D := runF 2 2 m__law_cell
theorem sc__law_cell : FnScope ["_law_script", "_law_k"] ["_law_script", "_law_k"] (defScope s__law_cell) := ⟨rfl, rfl, rfl, by decide +kernel, rfl, by decide +kernel, by decide +kernel⟩
theorem bb__law_cell : ∀ (kV doc pm : Value) (an : Option Addr) (cdv ct : Value) (us : List Value), us.length = (["_law_script", "_law_k"] : List Str).length → bindArgs (PySem.W.fnOf "_law_cell" "_law_cell" (defArgs s__law_cell) (defBody s__law_cell) (defScope s__law_cell) .none kV doc pm an cdv ct) ⟨us, []⟩ = pure ((["_law_script", "_law_k"] : List Str).zip us) :=
  fun _ _ _ _ _ _ us hl => match us, hl with | [_, _], _ => rfl
theorem ok__law_cell (t : Tp K mg) : Def P w K mg base T "_law_cell" 1 ["_law_script", "_law_k"] F__law_cell := by
  show Def P w K mg base T "_law_cell" 1 ["_law_script", "_law_k"] (runF 2 2 m__law_cell)
  refine def_of (k := 0) (m := m__law_cell) t.f__law_cell sc__law_cell rfl rfl bb__law_cell ?_
  intro f cdv A outer s H E c tk po
  · refine (pdss_cons ?_ ?_)
    · refine (pds_if ?_ ?_ pdss_nil)
      · exact (ptd_cmp (o_eq c.hu) (PD.t (pd_var 0)) (PD.t (pd_lst pad_nil)))
      · refine (pdss_one ?_)
        · refine (pds_ret ?_)
          · exact (pd_bin o_mulT (PD.t (pd_var 1)) (PD.t pd_int))
    · refine (pdss_one ?_)
      · refine (pds_ret ?_)
        · refine (pd_bin o_add ?_ ?_)
          · refine (PD.t ?_)
            · refine (pd_idx ?_ ?_)
              · exact (PD.t (pd_var 0))
              · refine (PD.t ?_)
                · refine (pd_bin o_mod ?_ ?_)
                  · exact (PD.t (pd_var 1))
                  · refine (PD.t ?_)
                    · exact (pd_b1 c_len rfl t.n_len bt_len (PD.t (pd_var 0)))
          · refine (PD.t ?_)
            · refine (pd_bin o_mulT ?_ (PD.t pd_int))
              · refine (PD.t ?_)
                · refine (pd_bin o_div ?_ ?_)
                  · exact (PD.t (pd_var 1))
                  · refine (PD.t ?_)
                    · exact (pd_b1 c_len rfl t.n_len bt_len (PD.t (pd_var 0)))
abbrev s__law_drawn : Stmt := topS 21
def m__law_drawn : FL.Env → Oc := (fun ρ => ((sSet 2 (mBin modD (mBin addD (mBin mulT (mVar 0) (mC (.int 6364136223846793005))) (mBin mulT (mBin addD (mVar 1) (mC (.int 1))) (mC (.int 1442695040888963407)))) (mC (.int 340282366920938463463374607431768211507)))) ρ).seq (fun ρ => ((sSet 2 (mBin modD (mBin mulT (mVar 2) (mVar 2)) (mC (.int 340282366920938463463374607431768211297)))) ρ).seq (fun ρ => ((sSet 2 (mBin mulT (mBin mulT (mBin addD (mBin modD (mVar 2) (mC (.int 18446744073709551557))) (mC (.int 1))) (mBin addD (mBin divD (mVar 2) (mC (.int 18446744073709551557))) (mC (.int 1)))) (mVar 2))) ρ).seq (sRet (mBin modD (mVar 2) (mC (.int 340282366920938463463374607431768211507)))))))
def F__law_drawn : List D → R D := runF 3 2 m__law_drawn
theorem sc__law_drawn : FnScope ["_law_cell_here", "_law_k", "_law_more"] ["_law_cell_here", "_law_k"] (defScope s__law_drawn) := ⟨rfl, rfl, rfl, by decide +kernel, rfl, by decide +kernel, by decide +kernel⟩
theorem bb__law_drawn : ∀ (kV doc pm : Value) (an : Option Addr) (cdv ct : Value) (us : List Value), us.length = (["_law_cell_here", "_law_k"] : List Str).length → bindArgs (PySem.W.fnOf "_law_drawn" "_law_drawn" (defArgs s__law_drawn) (defBody s__law_drawn) (defScope s__law_drawn) .none kV doc pm an cdv ct) ⟨us, []⟩ = pure ((["_law_cell_here", "_law_k"] : List Str).zip us) :=
  fun _ _ _ _ _ _ us hl => match us, hl with | [_, _], _ => rfl
theorem ok__law_drawn (t : Tp K mg) : Def P w K mg base T "_law_drawn" 1 ["_law_cell_here", "_law_k"] F__law_drawn := by
  show Def P w K mg base T "_law_drawn" 1 ["_law_cell_here", "_law_k"] (runF 3 2 m__law_drawn)
  refine def_of (k := 0) (m := m__law_drawn) t.f__law_drawn sc__law_drawn rfl rfl bb__law_drawn ?_
  intro f cdv A outer s H E c tk po
  · refine (pdss_cons ?_ ?_)
    · refine (pds_set 2 ?_ c.nd)
      · refine (pd_bin o_mod ?_ (PD.t pd_int))
        · refine (PD.t ?_)
          · refine (pd_bin o_add ?_ ?_)
            · refine (PD.t ?_)
              · exact (pd_bin o_mulT (PD.t (pd_var 0)) (PD.t pd_int))
            · refine (PD.t ?_)
              · refine (pd_bin o_mulT ?_ (PD.t pd_int))
                · refine (PD.t ?_)
                  · exact (pd_bin o_add (PD.t (pd_var 1)) (PD.t pd_int))
    · refine (pdss_cons ?_ ?_)
      · refine (pds_set 2 ?_ c.nd)
        · refine (pd_bin o_mod ?_ (PD.t pd_int))
          · refine (PD.t ?_)
            · exact (pd_bin o_mulT (PD.t (pd_var 2)) (PD.t (pd_var 2)))
      · refine (pdss_cons ?_ ?_)
        · refine (pds_set 2 ?_ c.nd)
          · refine (pd_bin o_mulT ?_ ?_)
            · refine (PD.t ?_)
              · refine (pd_bin o_mulT ?_ ?_)
                · refine (PD.t ?_)
                  · refine (pd_bin o_add ?_ (PD.t pd_int))
                    · refine (PD.t ?_)
                      · exact (pd_bin o_mod (PD.t (pd_var 2)) (PD.t pd_int))
                · refine (PD.t ?_)
                  · refine (pd_bin o_add ?_ (PD.t pd_int))
                    · refine (PD.t ?_)
                      · exact (pd_bin o_div (PD.t (pd_var 2)) (PD.t pd_int))
            · exact (PD.t (pd_var 2))
        · refine (pdss_one ?_)
          · refine (pds_ret ?_)
            · exact (pd_bin o_mod (PD.t (pd_var 2)) (PD.t pd_int))
abbrev s__law_word : Stmt := topS 22
def m__law_word (ad : Addr) (c0 : Str) : FL.Env → Oc := (fun ρ => ((sSet 1 (mLst (mCons (mIsP ad 0 (decide (c0 = "BadKind"))) (mCons (mIsP ad 0 (decide (c0 = "BadWord"))) (mCons (mIsP ad 0 (decide (c0 = "BadTest"))) mNil))))) ρ).seq (fun ρ => ((sSet 1 (mBin addD (mVar 1) (mLst (mCons (mIsP ad 0 (decide (c0 = "BadRow"))) mNil)))) ρ).seq (fun ρ => ((sSet 1 (mBin addD (mVar 1) (mLst (mCons (mIsP ad 0 (decide (c0 = "BadTable"))) (mCons (mIsP ad 0 (decide (c0 = "BadWeb"))) (mCons (mIsP ad 0 (decide (c0 = "NoFar"))) mNil)))))) ρ).seq (fun ρ => ((sIf (mOr (mB (mBin (eqD true) (mUn sumHD (mLc (fun ρ => ((mVar 1) ρ).bind itemsL) (.one 2) mYes (mUn intD (mVar 2)) [2])) (mC (.int 1)))) (mNot (mB (mIsP ad 0 true)))) (sRet (mC (.str "other"))) Oc.nx) ρ).seq (sRet (mBin idxD (mLst (mCons (mC (.str "BadKind")) (mCons (mC (.str "BadWord")) (mCons (mC (.str "BadTest")) (mCons (mC (.str "BadRow")) (mCons (mC (.str "BadTable")) (mCons (mC (.str "BadWeb")) (mCons (mC (.str "NoFar")) mNil)))))))) (mLix (mVar 1) (mC (.bl true)))))))))
theorem sc__law_word : FnScope ["_law_e", "_law_flags", "_law_flag"] ["_law_e"] (defScope s__law_word) := ⟨rfl, rfl, rfl, by decide +kernel, rfl, by decide +kernel, by decide +kernel⟩
theorem bb__law_word : ∀ (kV doc pm : Value) (an : Option Addr) (cdv ct : Value) (us : List Value), us.length = (["_law_e"] : List Str).length → bindArgs (PySem.W.fnOf "_law_word" "_law_word" (defArgs s__law_word) (defBody s__law_word) (defScope s__law_word) .none kV doc pm an cdv ct) ⟨us, []⟩ = pure ((["_law_e"] : List Str).zip us) :=
  fun _ _ _ _ _ _ us hl => match us, hl with | [_], _ => rfl
def csW : List Str := ["BadKind", "BadWord", "BadTest", "BadRow", "BadTable", "BadWeb", "NoFar"]
def gW : Str → R D := fun c => .ok (.str c)
theorem ev__law_word : ∀ c ∈ csW, ∀ ad : Addr, ∃ d, gW c = .ok d ∧ m__law_word ad c (.sh (.adr ad) :: List.replicate (3 - 1) Sl.no) = .rt d := by
  intro c hc ad
  refine ⟨_, rfl, ?_⟩
  have key : ∀ b ρ, mIsP ad 0 b (.sh (.adr ad) :: ρ) = .ok (.bl b) := fun b ρ => if_pos rfl
  unfold m__law_word
  simp only [csW, List.mem_cons, List.not_mem_nil, or_false] at hc
  have hl : ∀ n : Nat, n ≤ 64 → (n ≤ sizeLine) = True := fun n h => by rw [sizeLine_eq]; simp; omega
  have h1 := hl 1 (by omega)
  have h2 := hl 2 (by omega)
  have h3 := hl 3 (by omega)
  have h4 := hl 4 (by omega)
  have e2 : List.replicate 2 Sl.no = [Sl.no, Sl.no] := rfl
  have hA : ∀ xs ys : List D, (xs.length + ys.length ≤ sizeLine) = True → addD (.lst xs) (.lst ys) = .ok (.lst (xs ++ ys)) := fun xs ys h => if_pos (of_eq_true h)
  have h5 := hl 5 (by omega)
  have h6 := hl 6 (by omega)
  have h7 := hl 7 (by omega)
  have h9 := hl 9 (by omega)
  have e3 : List.replicate 3 Sl.no = [Sl.no, Sl.no, Sl.no] := rfl
  simp only [sSet, sRet, sIf, mBin, mLst, mCons, mNil, key, R.bind_ok, R.out_ok, Oc.seq_nx, List.set, e2, e3, mVar, List.getElem?_cons_zero, List.getElem?_cons_succ, List.length_cons, List.length_nil, Nat.reduceAdd, Nat.reduceSub, h1, h2, h3, h4, h5, h6, h7, h9, hA, List.cons_append, List.nil_append, if_true, mOr, mNot, mB]
  rcases hc with rfl | rfl | rfl | rfl | rfl | rfl | rfl
  all_goals rfl
theorem ok__law_word (t : Tp K mg) : HotDef P w K mg base T "_law_word" 1 csW gW := by
  refine hot_of (na := 3) (m := m__law_word) t.f__law_word sc__law_word rfl t.exw bb__law_word ev__law_word ?_
  intro f cdv A outer s H pp c0 DD c
  obtain ⟨D', gD, eC, kV, hex, kO⟩ := t.exw.at_ c0 c.mem
  have gD' := c.gc
  have gD2 := gD.symm.trans gD'
  cases gD2
  obtain ⟨D_BadKind, g_BadKind, _⟩ := t.exw.at_ "BadKind" (by decide +kernel)
  have k_BadKind := kO "BadKind" (by decide +kernel) D_BadKind g_BadKind
  obtain ⟨D_BadWord, g_BadWord, _⟩ := t.exw.at_ "BadWord" (by decide +kernel)
  have k_BadWord := kO "BadWord" (by decide +kernel) D_BadWord g_BadWord
  obtain ⟨D_BadTest, g_BadTest, _⟩ := t.exw.at_ "BadTest" (by decide +kernel)
  have k_BadTest := kO "BadTest" (by decide +kernel) D_BadTest g_BadTest
  obtain ⟨D_BadRow, g_BadRow, _⟩ := t.exw.at_ "BadRow" (by decide +kernel)
  have k_BadRow := kO "BadRow" (by decide +kernel) D_BadRow g_BadRow
  obtain ⟨D_BadTable, g_BadTable, _⟩ := t.exw.at_ "BadTable" (by decide +kernel)
  have k_BadTable := kO "BadTable" (by decide +kernel) D_BadTable g_BadTable
  obtain ⟨D_BadWeb, g_BadWeb, _⟩ := t.exw.at_ "BadWeb" (by decide +kernel)
  have k_BadWeb := kO "BadWeb" (by decide +kernel) D_BadWeb g_BadWeb
  obtain ⟨D_NoFar, g_NoFar, _⟩ := t.exw.at_ "NoFar" (by decide +kernel)
  have k_NoFar := kO "NoFar" (by decide +kernel) D_NoFar g_NoFar
  · refine (pdss_cons ?_ ?_)
    · refine (pds_set 1 ?_ c.nd)
      · refine (pd_lst ?_)
        · refine (pad_cons (pd_isP (i := 0) (b := decide (c0 = "BadKind")) rfl t.n_isinstance c.pin c.ec c.cls c.dct c.fld rfl g_BadKind k_BadKind) ?_)
          · exact (pad_cons (pd_isP (i := 0) (b := decide (c0 = "BadWord")) rfl t.n_isinstance c.pin c.ec c.cls c.dct c.fld rfl g_BadWord k_BadWord) (pad_cons (pd_isP (i := 0) (b := decide (c0 = "BadTest")) rfl t.n_isinstance c.pin c.ec c.cls c.dct c.fld rfl g_BadTest k_BadTest) pad_nil))
    · refine (pdss_cons ?_ ?_)
      · refine (pds_set 1 ?_ c.nd)
        · refine (pd_bin o_add ?_ ?_)
          · exact (PD.t (pd_var 1))
          · refine (PD.t ?_)
            · exact (pd_lst (pad_cons (pd_isP (i := 0) (b := decide (c0 = "BadRow")) rfl t.n_isinstance c.pin c.ec c.cls c.dct c.fld rfl g_BadRow k_BadRow) pad_nil))
      · refine (pdss_cons ?_ ?_)
        · refine (pds_set 1 ?_ c.nd)
          · refine (pd_bin o_add ?_ ?_)
            · exact (PD.t (pd_var 1))
            · refine (PD.t ?_)
              · refine (pd_lst ?_)
                · refine (pad_cons (pd_isP (i := 0) (b := decide (c0 = "BadTable")) rfl t.n_isinstance c.pin c.ec c.cls c.dct c.fld rfl g_BadTable k_BadTable) ?_)
                  · exact (pad_cons (pd_isP (i := 0) (b := decide (c0 = "BadWeb")) rfl t.n_isinstance c.pin c.ec c.cls c.dct c.fld rfl g_BadWeb k_BadWeb) (pad_cons (pd_isP (i := 0) (b := decide (c0 = "NoFar")) rfl t.n_isinstance c.pin c.ec c.cls c.dct c.fld rfl g_NoFar k_NoFar) pad_nil))
        · refine (pdss_cons ?_ ?_)
          · refine (pds_if ?_ ?_ pdss_nil)
            · refine (PWD.p ?_)
              · refine (pwd_or ?_ ?_)
                · refine (ptd_cmp (o_ne c.hu) ?_ (PD.t pd_int))
                  · refine (PD.t ?_)
                    · refine (pd_b1 (c_sumH c.hot) rfl t.n_sum bt_sum ?_)
                      · refine (PD.t ?_)
                        · refine (pd_lcH (own := [("_law_flag", 2)]) (t := (.one 2)) (mt := mYes) (me := (mUn intD (mVar 2))) c.hot c.nd ?_ (blkOk_by (by kernel_rfl)) (by decide) ?_ ?_ ?_)
                          · exact (PD.t (pd_var 1))
                          · exact fun _ _ _ _ _ => (pgd_name 2 c.nd)
                          · exact fun _ _ _ _ _ => pts0
                          · exact fun _ _ _ _ _ => (pd_t1 c_int rfl t.n_int bt_int (PD.t (pd_var 2)))
                · refine (pwd_or1 ?_)
                  · exact (ptd_not (ptd_val (pd_isPB (i := 0) (b := true) (Ty := "ValueError") rfl t.n_isinstance c.pin c.ec c.cls c.dct c.fld rfl t.n_ValueError bt_ValueError kV)))
            · exact (pdss_one (pds_ret pd_str))
          · refine (pdss_one ?_)
            · refine (pds_ret ?_)
              · refine (pd_idx ?_ ?_)
                · refine (PD.t ?_)
                  · refine (pd_lst ?_)
                    · refine (pad_cons pd_str ?_)
                      · refine (pad_cons pd_str ?_)
                        · refine (pad_cons pd_str ?_)
                          · refine (pad_cons pd_str ?_)
                            · exact (pad_cons pd_str (pad_cons pd_str (pad_cons pd_str pad_nil)))
                · refine (PD.t ?_)
                  · exact (pd_lix c.hu5 (PD.t (pd_var 1)) (PD.t pd_bl))
abbrev s__law_told : Stmt := topS 23
theorem sc__law_told : FnScope ["_law_deed", "_law_e"] ["_law_deed"] (defScope s__law_told) := ⟨rfl, rfl, rfl, by decide +kernel, rfl, by decide +kernel, by decide +kernel⟩
theorem bb__law_told : ∀ (kV doc pm : Value) (an : Option Addr) (cdv ct : Value) (us : List Value), us.length = (["_law_deed"] : List Str).length → bindArgs (PySem.W.fnOf "_law_told" "_law_told" (defArgs s__law_told) (defBody s__law_told) (defScope s__law_told) .none kV doc pm an cdv ct) ⟨us, []⟩ = pure ((["_law_deed"] : List Str).zip us) :=
  fun _ _ _ _ _ _ us hl => match us, hl with | [_], _ => rfl
def fu__law_made : FL.Env → Nat := fun _ => bigFu
abbrev s__law_made : Stmt := topS 24
def b1__law_made : FL.Env → Oc := (sPar 2 3 (mVar 3) (mBin modD (mVar 2) (mVar 3)))
def m__law_made : FL.Env → Oc := (fun ρ => ((sPar 2 3 (mUn absD (mVar 0)) (mVar 1)) ρ).seq (fun ρ => ((sWhile fu__law_made (mB (mBin gtD (mVar 3) (mC (.int 0)))) b1__law_made) ρ).seq (sRet (mTup (mCons (mBin divD (mVar 0) (mVar 2)) (mCons (mBin divD (mVar 1) (mVar 2)) mNil))))))
def F__law_made : List D → R D := runF 4 2 m__law_made
theorem sc__law_made : FnScope ["_law_top", "_law_under", "_law_one", "_law_other"] ["_law_top", "_law_under"] (defScope s__law_made) := ⟨rfl, rfl, rfl, by decide +kernel, rfl, by decide +kernel, by decide +kernel⟩
theorem bb__law_made : ∀ (kV doc pm : Value) (an : Option Addr) (cdv ct : Value) (us : List Value), us.length = (["_law_top", "_law_under"] : List Str).length → bindArgs (PySem.W.fnOf "_law_made" "_law_made" (defArgs s__law_made) (defBody s__law_made) (defScope s__law_made) .none kV doc pm an cdv ct) ⟨us, []⟩ = pure ((["_law_top", "_law_under"] : List Str).zip us) :=
  fun _ _ _ _ _ _ us hl => match us, hl with | [_, _], _ => rfl
theorem ok__law_made (t : Tp K mg) : Def P w K mg base T "_law_made" 1 ["_law_top", "_law_under"] F__law_made := by
  show Def P w K mg base T "_law_made" 1 ["_law_top", "_law_under"] (runF 4 2 m__law_made)
  refine def_of (k := 0) (m := m__law_made) t.f__law_made sc__law_made rfl rfl bb__law_made ?_
  intro f cdv A outer s H E c tk po
  · refine (pdss_cons ?_ ?_)
    · refine (pds_par 2 3 ?_ (pd_var 1) c.calm c.nd)
      · exact (pd_b1 c_abs rfl t.n_abs bt_abs (PD.t (pd_var 0)))
    · refine (pdss_cons ?_ ?_)
      · refine (pds_while fu__law_made ?_ ?_ po)
        · exact (ptd_cmp o_gt (PD.t (pd_var 3)) (PD.t pd_int))
        · refine (pdss_one ?_)
          · refine (pds_par 2 3 (pd_var 3) ?_ c.calm c.nd)
            · exact (pd_bin o_mod (PD.t (pd_var 2)) (PD.t (pd_var 3)))
      · refine (pdss_one ?_)
        · refine (pds_ret ?_)
          · refine (pd_tup ?_)
            · refine (pad_cons ?_ ?_)
              · exact (pd_bin o_div (PD.t (pd_var 0)) (PD.t (pd_var 2)))
              · refine (pad_cons ?_ pad_nil)
                · exact (pd_bin o_div (PD.t (pd_var 1)) (PD.t (pd_var 2)))
abbrev s__law_less : Stmt := topS 25
def m__law_less : FL.Env → Oc := (sRet (mBin ltD (mBin mulT (mBin idxD (mVar 0) (mC (.int 0))) (mBin idxD (mVar 1) (mC (.int 1)))) (mBin mulT (mBin idxD (mVar 1) (mC (.int 0))) (mBin idxD (mVar 0) (mC (.int 1))))))
def F__law_less : List D → R D := runF 2 2 m__law_less
theorem sc__law_less : FnScope ["_law_one", "_law_other"] ["_law_one", "_law_other"] (defScope s__law_less) := ⟨rfl, rfl, rfl, by decide +kernel, rfl, by decide +kernel, by decide +kernel⟩
theorem bb__law_less : ∀ (kV doc pm : Value) (an : Option Addr) (cdv ct : Value) (us : List Value), us.length = (["_law_one", "_law_other"] : List Str).length → bindArgs (PySem.W.fnOf "_law_less" "_law_less" (defArgs s__law_less) (defBody s__law_less) (defScope s__law_less) .none kV doc pm an cdv ct) ⟨us, []⟩ = pure ((["_law_one", "_law_other"] : List Str).zip us) :=
  fun _ _ _ _ _ _ us hl => match us, hl with | [_, _], _ => rfl
theorem ok__law_less (t : Tp K mg) : Def P w K mg base T "_law_less" 1 ["_law_one", "_law_other"] F__law_less := by
  show Def P w K mg base T "_law_less" 1 ["_law_one", "_law_other"] (runF 2 2 m__law_less)
  refine def_of (k := 0) (m := m__law_less) t.f__law_less sc__law_less rfl rfl bb__law_less ?_
  intro f cdv A outer s H E c tk po
  · refine (pdss_one ?_)
    · refine (pds_ret ?_)
      · refine (pd_cmp (o_lt c.hu0) ?_ ?_)
        · refine (PD.t ?_)
          · refine (pd_bin o_mulT ?_ ?_)
            · refine (PD.t ?_)
              · exact (pd_idx (PD.t (pd_var 0)) (PD.t pd_int))
            · refine (PD.t ?_)
              · exact (pd_idx (PD.t (pd_var 1)) (PD.t pd_int))
        · refine (PD.t ?_)
          · refine (pd_bin o_mulT ?_ ?_)
            · refine (PD.t ?_)
              · exact (pd_idx (PD.t (pd_var 1)) (PD.t pd_int))
            · refine (PD.t ?_)
              · exact (pd_idx (PD.t (pd_var 0)) (PD.t pd_int))
abbrev s__law_digits : Stmt := topS 26
def m__law_digits : FL.Env → Oc := (sRet (mLc (fun ρ => ((mVar 1) ρ).bind rg1D) (.one 2) mYes (mBin modD (mBin divD (mVar 0) (mBin shlD (mC (.int 1)) (mVar 2))) (mC (.int 2))) [2]))
def F__law_digits : List D → R D := runF 3 2 m__law_digits
theorem sc__law_digits : FnScope ["_law_number", "_law_many", "_law_j"] ["_law_number", "_law_many"] (defScope s__law_digits) := ⟨rfl, rfl, rfl, by decide +kernel, rfl, by decide +kernel, by decide +kernel⟩
theorem bb__law_digits : ∀ (kV doc pm : Value) (an : Option Addr) (cdv ct : Value) (us : List Value), us.length = (["_law_number", "_law_many"] : List Str).length → bindArgs (PySem.W.fnOf "_law_digits" "_law_digits" (defArgs s__law_digits) (defBody s__law_digits) (defScope s__law_digits) .none kV doc pm an cdv ct) ⟨us, []⟩ = pure ((["_law_number", "_law_many"] : List Str).zip us) :=
  fun _ _ _ _ _ _ us hl => match us, hl with | [_, _], _ => rfl
theorem ok__law_digits (t : Tp K mg) : Def P w K mg base T "_law_digits" 1 ["_law_number", "_law_many"] F__law_digits := by
  show Def P w K mg base T "_law_digits" 1 ["_law_number", "_law_many"] (runF 3 2 m__law_digits)
  refine def_of (k := 0) (m := m__law_digits) t.f__law_digits sc__law_digits rfl rfl bb__law_digits ?_
  intro f cdv A outer s H E c tk po
  · refine (pdss_one ?_)
    · refine (pds_ret ?_)
      · refine (pd_lc (own := [("_law_j", 2)]) (t := (.one 2)) (mt := mYes) (me := (mBin modD (mBin divD (mVar 0) (mBin shlD (mC (.int 1)) (mVar 2))) (mC (.int 2)))) c.calm c.nd ?_ (blkOk_by (by kernel_rfl)) (by decide) ?_ ?_ ?_)
        · refine (PDI.t ?_)
          · exact (pdi_range1 rfl t.n_range (PD.t (pd_var 1)))
        · exact fun _ _ _ _ _ => (pgd_name 2 (Cg.blk c _ _ _ _ _).nd)
        · exact fun _ _ _ _ _ => pts0
        · intro _ _ _ _ _
          refine (pd_bin o_mod ?_ (PD.t pd_int))
          · refine (PD.t ?_)
            · refine (pd_bin o_div ?_ ?_)
              · exact (PD.t (pd_var 0))
              · refine (PD.t ?_)
                · exact (pd_bin o_shl (PD.t pd_int) (PD.t (pd_var 2)))
abbrev s__law_bit : Stmt := topS 27
def m__law_bit : FL.Env → Oc := (sRet (mBin modD (mUn sumTD (mLc (fun ρ => ((mCall 2 F__law_digits (mCons (mVar 0) (mCons (mC (.int 6)) mNil))) ρ).bind fun x => ((mCall 2 F__law_digits (mCons (mVar 1) (mCons (mC (.int 6)) mNil))) ρ).bind fun y => zipD x y) (.many [2, 3]) mYes (mBin mulT (mVar 2) (mVar 3)) [2, 3])) (mC (.int 2))))
def F__law_bit : List D → R D := runF 4 2 m__law_bit
theorem sc__law_bit : FnScope ["_law_mask", "_law_x", "_law_a", "_law_b"] ["_law_mask", "_law_x"] (defScope s__law_bit) := ⟨rfl, rfl, rfl, by decide +kernel, rfl, by decide +kernel, by decide +kernel⟩
theorem bb__law_bit : ∀ (kV doc pm : Value) (an : Option Addr) (cdv ct : Value) (us : List Value), us.length = (["_law_mask", "_law_x"] : List Str).length → bindArgs (PySem.W.fnOf "_law_bit" "_law_bit" (defArgs s__law_bit) (defBody s__law_bit) (defScope s__law_bit) .none kV doc pm an cdv ct) ⟨us, []⟩ = pure ((["_law_mask", "_law_x"] : List Str).zip us) :=
  fun _ _ _ _ _ _ us hl => match us, hl with | [_, _], _ => rfl
theorem ok__law_bit (t : Tp K mg) : Def P w K mg base T "_law_bit" 2 ["_law_mask", "_law_x"] F__law_bit := by
  have G__law_digits := ok__law_digits (P := P) (w := w) (base := base) (T := T) t
  show Def P w K mg base T "_law_bit" 2 ["_law_mask", "_law_x"] (runF 4 2 m__law_bit)
  refine def_of (k := 1) (m := m__law_bit) t.f__law_bit sc__law_bit rfl rfl bb__law_bit ?_
  intro f cdv A outer s H E c tk po
  · refine (pdss_one ?_)
    · refine (pds_ret ?_)
      · refine (pd_bin o_mod ?_ (PD.t pd_int))
        · refine (PD.t ?_)
          · refine (pd_b1 (c_sumT c.calm) rfl t.n_sum bt_sum ?_)
            · refine (PD.t ?_)
              · refine (pd_lc (own := [("_law_a", 2), ("_law_b", 3)]) (t := (.many [2, 3])) (mt := mYes) (me := (mBin mulT (mVar 2) (mVar 3))) c.calm c.nd ?_ (blkOk_by (by kernel_rfl)) (by decide) ?_ ?_ ?_)
                · refine (PDI.t ?_)
                  · refine (pdi_zip rfl t.n_zip ?_ ?_)
                    · exact (pd_callD G__law_digits c (by decide) (by exact rfl) rfl (pad_cons (pd_var 0) (pad_cons pd_int pad_nil)))
                    · exact (pd_callD G__law_digits c (by decide) (by exact rfl) rfl (pad_cons (pd_var 1) (pad_cons pd_int pad_nil)))
                · exact fun _ _ _ _ _ => (pgd_tup (pgsd_cons 2 (pgsd_cons 3 pgsd_nil (Cg.blk c _ _ _ _ _).nd) (Cg.blk c _ _ _ _ _).nd) (Cg.blk c _ _ _ _ _).calm)
                · exact fun _ _ _ _ _ => pts0
                · exact fun _ _ _ _ _ => (pd_bin o_mulT (PD.t (pd_var 2)) (PD.t (pd_var 3)))
abbrev s__law_third : Stmt := topS 28
def m__law_third : FL.Env → Oc := (fun ρ => ((sSet 2 (mLc (fun ρ => ((mCall 2 F__law_digits (mCons (mVar 0) (mCons (mC (.int 6)) mNil))) ρ).bind fun x => ((mCall 2 F__law_digits (mCons (mVar 1) (mCons (mC (.int 6)) mNil))) ρ).bind fun y => zipD x y) (.many [3, 4]) mYes (mBin modD (mBin addD (mVar 3) (mVar 4)) (mC (.int 2))) [3, 4])) ρ).seq (sRet (mUn sumTD (mLc (fun ρ => ((mVar 2) ρ).bind enumD) (.many [5, 6]) mYes (mBin mulT (mVar 6) (mBin shlD (mC (.int 1)) (mVar 5))) [5, 6]))))
def F__law_third : List D → R D := runF 7 2 m__law_third
theorem sc__law_third : FnScope ["_law_x", "_law_y", "_law_digits_here", "_law_a", "_law_b", "_law_j", "_law_digit"] ["_law_x", "_law_y"] (defScope s__law_third) := ⟨rfl, rfl, rfl, by decide +kernel, rfl, by decide +kernel, by decide +kernel⟩
theorem bb__law_third : ∀ (kV doc pm : Value) (an : Option Addr) (cdv ct : Value) (us : List Value), us.length = (["_law_x", "_law_y"] : List Str).length → bindArgs (PySem.W.fnOf "_law_third" "_law_third" (defArgs s__law_third) (defBody s__law_third) (defScope s__law_third) .none kV doc pm an cdv ct) ⟨us, []⟩ = pure ((["_law_x", "_law_y"] : List Str).zip us) :=
  fun _ _ _ _ _ _ us hl => match us, hl with | [_, _], _ => rfl
theorem ok__law_third (t : Tp K mg) : Def P w K mg base T "_law_third" 2 ["_law_x", "_law_y"] F__law_third := by
  have G__law_digits := ok__law_digits (P := P) (w := w) (base := base) (T := T) t
  show Def P w K mg base T "_law_third" 2 ["_law_x", "_law_y"] (runF 7 2 m__law_third)
  refine def_of (k := 1) (m := m__law_third) t.f__law_third sc__law_third rfl rfl bb__law_third ?_
  intro f cdv A outer s H E c tk po
  · refine (pdss_cons ?_ ?_)
    · refine (pds_setLc 2 (own := [("_law_a", 3), ("_law_b", 4)]) (t := (.many [3, 4])) (mt := mYes) (me := (mBin modD (mBin addD (mVar 3) (mVar 4)) (mC (.int 2)))) c.calm c.nd ?_ (blkOk_by (by kernel_rfl)) (by decide) ?_ ?_ ?_)
      · refine (PDI.t ?_)
        · refine (pdi_zip rfl t.n_zip ?_ ?_)
          · exact (pd_callD G__law_digits c (by decide) (by exact rfl) rfl (pad_cons (pd_var 0) (pad_cons pd_int pad_nil)))
          · exact (pd_callD G__law_digits c (by decide) (by exact rfl) rfl (pad_cons (pd_var 1) (pad_cons pd_int pad_nil)))
      · exact fun _ _ _ _ _ => (pgd_tup (pgsd_cons 3 (pgsd_cons 4 pgsd_nil (Cg.blk c _ _ _ _ _).nd) (Cg.blk c _ _ _ _ _).nd) (Cg.blk c _ _ _ _ _).calm)
      · exact fun _ _ _ _ _ => pts0
      · intro _ _ _ _ _
        refine (pd_bin o_mod ?_ (PD.t pd_int))
        · refine (PD.t ?_)
          · exact (pd_bin o_add (PD.t (pd_var 3)) (PD.t (pd_var 4)))
    · refine (pdss_one ?_)
      · refine (pds_ret ?_)
        · refine (pd_b1 (c_sumT c.calm) rfl t.n_sum bt_sum ?_)
          · refine (PD.t ?_)
            · refine (pd_lc (own := [("_law_j", 5), ("_law_digit", 6)]) (t := (.many [5, 6])) (mt := mYes) (me := (mBin mulT (mVar 6) (mBin shlD (mC (.int 1)) (mVar 5)))) c.calm c.nd ?_ (blkOk_by (by kernel_rfl)) (by decide) ?_ ?_ ?_)
              · exact (PDI.t (pdi_enum rfl t.n_enumerate (pd_var 2)))
              · exact fun _ _ _ _ _ => (pgd_tup (pgsd_cons 5 (pgsd_cons 6 pgsd_nil (Cg.blk c _ _ _ _ _).nd) (Cg.blk c _ _ _ _ _).nd) (Cg.blk c _ _ _ _ _).calm)
              · exact fun _ _ _ _ _ => pts0
              · intro _ _ _ _ _
                refine (pd_bin o_mulT ?_ ?_)
                · exact (PD.t (pd_var 6))
                · refine (PD.t ?_)
                  · exact (pd_bin o_shl (PD.t pd_int) (PD.t (pd_var 5)))
abbrev s__law_table : Stmt := topS 29
def b1__law_table : FL.Env → Oc := (fun ρ => ((sSet 6 (mCall 2 F__law_drawn (mCons (mVar 0) (mCons (mVar 5) mNil)))) ρ).seq (fun ρ => ((sSet 7 (mCall 2 F__law_bit (mCons (mVar 2) (mCons (mVar 5) mNil)))) ρ).seq (sApp 4 (mBin idxD (mLst (mCons (mBin modD (mVar 6) (mC (.int 2))) (mCons (mVar 7) (mCons (mBin modD (mBin addD (mVar 7) (mUn intD (mBin (eqD false) (mBin modD (mVar 6) (mC (.int 7))) (mC (.int 0))))) (mC (.int 2))) (mCons (mC (.int 1)) (mCons (mBin subD (mC (.int 1)) (mVar 7)) mNil)))))) (mVar 3)))))
def m__law_table : FL.Env → Oc := (fun ρ => ((sSet 1 (mBin idxD (mLst (mCons (mC (.int 2)) (mCons (mC (.int 4)) (mCons (mC (.int 8)) (mCons (mC (.int 16)) (mCons (mC (.int 8)) (mCons (mC (.int 16)) (mCons (mC (.int 32)) (mCons (mC (.int 64)) mNil))))))))) (mBin modD (mVar 0) (mC (.int 8))))) ρ).seq (fun ρ => ((sSet 2 (mBin modD (mBin divD (mVar 0) (mC (.int 8))) (mVar 1))) ρ).seq (fun ρ => ((sSet 3 (mBin modD (mBin divD (mVar 0) (mC (.int 512))) (mC (.int 5)))) ρ).seq (fun ρ => ((sOwn 4 mNil) ρ).seq (fun ρ => ((sFor (fun ρ => ((mVar 1) ρ).bind rg1D) (.one 5) b1__law_table) ρ).seq (fun ρ => (sRet (mVar 4)) (frzE 4 ρ)))))))
def F__law_table : List D → R D := runF 8 1 m__law_table
theorem sc__law_table : FnScope ["_law_more", "_law_size", "_law_mask", "_law_way", "_law_found", "_law_x", "_law_here", "_law_bit_here"] ["_law_more"] (defScope s__law_table) := ⟨rfl, rfl, rfl, by decide +kernel, rfl, by decide +kernel, by decide +kernel⟩
theorem bb__law_table : ∀ (kV doc pm : Value) (an : Option Addr) (cdv ct : Value) (us : List Value), us.length = (["_law_more"] : List Str).length → bindArgs (PySem.W.fnOf "_law_table" "_law_table" (defArgs s__law_table) (defBody s__law_table) (defScope s__law_table) .none kV doc pm an cdv ct) ⟨us, []⟩ = pure ((["_law_more"] : List Str).zip us) :=
  fun _ _ _ _ _ _ us hl => match us, hl with | [_], _ => rfl
theorem ok__law_table (t : Tp K mg) : Def P w K mg base T "_law_table" 3 ["_law_more"] F__law_table := by
  have G__law_bit := ok__law_bit (P := P) (w := w) (base := base) (T := T) t
  have G__law_drawn := ok__law_drawn (P := P) (w := w) (base := base) (T := T) t
  show Def P w K mg base T "_law_table" 3 ["_law_more"] (runF 8 1 m__law_table)
  refine def_of (k := 2) (m := m__law_table) t.f__law_table sc__law_table rfl rfl bb__law_table ?_
  intro f cdv A outer s H E c tk po
  · refine (pdss_cons ?_ ?_)
    · refine (pds_set 1 ?_ c.nd)
      · refine (pd_idx ?_ ?_)
        · refine (PD.t ?_)
          · refine (pd_lst ?_)
            · refine (pad_cons pd_int ?_)
              · refine (pad_cons pd_int ?_)
                · refine (pad_cons pd_int ?_)
                  · refine (pad_cons pd_int ?_)
                    · refine (pad_cons pd_int ?_)
                      · exact (pad_cons pd_int (pad_cons pd_int (pad_cons pd_int pad_nil)))
        · refine (PD.t ?_)
          · exact (pd_bin o_mod (PD.t (pd_var 0)) (PD.t pd_int))
    · refine (pdss_cons ?_ ?_)
      · refine (pds_set 2 ?_ c.nd)
        · refine (pd_bin o_mod ?_ ?_)
          · refine (PD.t ?_)
            · exact (pd_bin o_div (PD.t (pd_var 0)) (PD.t pd_int))
          · exact (PD.t (pd_var 1))
      · refine (pdss_cons ?_ ?_)
        · refine (pds_set 3 ?_ c.nd)
          · refine (pd_bin o_mod ?_ (PD.t pd_int))
            · refine (PD.t ?_)
              · exact (pd_bin o_div (PD.t (pd_var 0)) (PD.t pd_int))
        · refine (pdss_cons (pds_own 4 pad_nil c.nd) ?_)
          · refine (pdss_cons ?_ ?_)
            · refine (pds_for ?_ (pgf_name 5 c.nd) ?_ po c.calm)
              · exact (pdi_range1 rfl t.n_range (PD.t (pd_var 1)))
              · refine (pdss_cons ?_ ?_)
                · refine (pds_set 6 ?_ c.nd)
                  · refine (pd_callD G__law_drawn c (by decide) (by exact rfl) rfl ?_)
                    · exact (pad_cons (pd_var 0) (pad_cons (pd_var 5) pad_nil))
                · refine (pdss_cons ?_ ?_)
                  · refine (pds_set 7 ?_ c.nd)
                    · refine (pd_callD G__law_bit c (by decide) (by exact rfl) rfl ?_)
                      · exact (pad_cons (pd_var 2) (pad_cons (pd_var 5) pad_nil))
                  · refine (pdss_one ?_)
                    · refine (pds_app 4 ?_)
                      · refine (pd_idx ?_ ?_)
                        · refine (PD.t ?_)
                          · refine (pd_lst ?_)
                            · refine (pad_cons ?_ ?_)
                              · exact (pd_bin o_mod (PD.t (pd_var 6)) (PD.t pd_int))
                              · refine (pad_cons (pd_var 7) ?_)
                                · refine (pad_cons ?_ ?_)
                                  · refine (pd_bin o_mod ?_ (PD.t pd_int))
                                    · refine (PD.t ?_)
                                      · refine (pd_bin o_add ?_ ?_)
                                        · exact (PD.t (pd_var 7))
                                        · refine (PD.t ?_)
                                          · refine (pd_t1 c_int rfl t.n_int bt_int ?_)
                                            · refine (PD.t ?_)
                                              · refine (pd_cmp (o_eq c.hu) ?_ (PD.t pd_int))
                                                · refine (PD.t ?_)
                                                  · exact (pd_bin o_mod (PD.t (pd_var 6)) (PD.t pd_int))
                                  · refine (pad_cons pd_int ?_)
                                    · refine (pad_cons ?_ pad_nil)
                                      · exact (pd_bin o_sub (PD.t pd_int) (PD.t (pd_var 7)))
                        · exact (PD.t (pd_var 3))
            · refine (pdss_frz 4 ?_)
              · exact (pdss_one (pds_ret (pd_var 4)))
abbrev s_law : Stmt := topS 30
def t1_law : FL.Env → Oc := (sSet 2 (mCall 2 F__law_drawn (mCons (mCall 2 F__law_cell (mCons (mVar 0) (mCons (mVar 1) mNil))) (mCons (mVar 1) mNil))))
def t2_law : FL.Env → Oc := (sSet 3 (mCall 1 F__law_table (mCons (mVar 2) mNil)))
def t3_law : FL.Env → Oc := (sSet 4 (mUn lenD (mVar 3)))
def t4_law : FL.Env → Oc := (sSet 5 (mLc (fun ρ => ((mVar 4) ρ).bind rg1D) (.one 12) mYes (mUn lenD (mLc (fun ρ => ((mVar 4) ρ).bind rg1D) (.one 11) (mB (mBin (eqD true) (mBin idxD (mVar 3) (mVar 11)) (mCall 2 F__law_bit (mCons (mVar 12) (mCons (mVar 11) mNil))))) (mVar 11) [11])) [12]))
def t5_law : FL.Env → Oc := (sSet 6 (mUn lstD (mVar 3)))
def t6_law : FL.Env → Oc := (sOwn 7 (mCons (mTold csW gW (mCall 1 F_far_sum (mCons (mVar 6) mNil))) mNil))
def t7_law : FL.Env → Oc := (sApp 7 (mTold csW gW (mCall 1 F_mask_of (mCons (mVar 6) mNil))))
def t8_law : FL.Env → Oc := (sRet (mC (.bl false)))
def t9_law : FL.Env → Oc := (sIf (mB (mBin (eqD true) (mVarT 7) (mLst (mCons (mUn minLD (mVar 5)) (mCons (mLix (mVar 5) (mUn minLD (mVar 5))) mNil))))) t8_law Oc.nx)
def t10_law : FL.Env → Oc := (sSet 8 (mTold csW gW (mCall 1 F_by_threes (mCons (mVar 6) mNil))))
def t11_law : FL.Env → Oc := (sRet (mC (.bl false)))
def t12_law : FL.Env → Oc := (sIf (mOr (mNot (mB (mUn (isiD "tuple") (mVar 8)))) (mOr (mB (mBin (eqD true) (mVar 6) (mVar 3))) (mB (mCall 2 F__law_less (mCons (mVar 8) (mCons (mCall 2 F__law_made (mCons (mUn minLD (mVar 5)) (mCons (mVar 4) mNil))) mNil)))))) t11_law Oc.nx)
def t13_law : FL.Env → Oc := (sRet (mC (.bl false)))
def t14_law : FL.Env → Oc := (sIf (mB (mBin (eqD true) (mBin (eqD false) (mUn minLD (mVar 5)) (mC (.int 0))) (mBin (eqD false) (mVar 8) (mTup (mCons (mC (.int 0)) (mCons (mC (.int 1)) mNil)))))) t13_law Oc.nx)
def t15_law : FL.Env → Oc := (sSet 10 (mC (.int 0)))
def t16_law : FL.Env → Oc := (sSet 13 (mLc (fun ρ => ((mVar 4) ρ).bind rg1D) (.one 15) mYes (mBin addD (mBin addD (mBin idxD (mVar 3) (mVar 11)) (mBin idxD (mVar 3) (mVar 15))) (mBin idxD (mVar 3) (mCall 2 F__law_third (mCons (mVar 11) (mCons (mVar 15) mNil))))) [15]))
def t17_law : FL.Env → Oc := (sSet 10 (mBin addD (mVar 10) (mUn lenD (mLc (fun ρ => ((mVar 13) ρ).bind itemsD) (.one 16) (mB (mBin (eqD false) (mBin modD (mVar 16) (mC (.int 2))) (mC (.int 1)))) (mVar 16) [16]))))
def b18_law : FL.Env → Oc := (fun ρ => (t16_law ρ).seq t17_law)
def t18_law : FL.Env → Oc := (sFor (fun ρ => ((mVar 4) ρ).bind rg1D) (.one 11) b18_law)
def t19_law : FL.Env → Oc := (sRet (mC (.bl false)))
def t20_law : FL.Env → Oc := (sIf (mB (mBin (eqD true) (mVar 8) (mCall 2 F__law_made (mCons (mVar 10) (mCons (mBin mulT (mVar 4) (mVar 4)) mNil))))) t19_law Oc.nx)
def t21_law : FL.Env → Oc := (sIf (mB (mBin ltD (mVar 4) (mC (.int 33)))) (fun ρ => (t15_law ρ).seq (fun ρ => (t18_law ρ).seq t20_law)) Oc.nx)
def t22_law : FL.Env → Oc := (sSet 9 (mBin idxD (mLst (mCons (mLst mNil) (mCons (mLst (mCons (mC (.int 0)) mNil)) (mCons (mLst (mCons (mC (.int 0)) (mCons (mC (.int 1)) (mCons (mC (.int 1)) mNil)))) (mCons (mLst (mCons (mC (.int 0)) (mCons (mC (.int 2)) mNil))) (mCons (mBin mulT (mLst (mCons (mC (.int 0)) mNil)) (mC (.int 128))) (mCons (mC .non) (mCons (mLst (mCons (mC (.bl true)) (mCons (mC (.bl false)) mNil))) (mCons (mLst (mCons (mC (.str "0")) (mCons (mC (.str "1")) mNil))) (mCons (mTup (mCons (mC (.int 0)) (mCons (mC (.int 1)) mNil))) mNil)))))))))) (mBin modD (mBin divD (mVar 2) (mBin powD (mC (.int 2)) (mC (.int 20)))) (mC (.int 9)))))
def t23_law : FL.Env → Oc := (sRet (mC (.bl false)))
def t24_law : FL.Env → Oc := (sIf (mB (mBin (eqD true) (mLc (fun ρ => ((mLst (mCons (mC (.fn "far_sum")) (mCons (mC (.fn "mask_of")) (mCons (mC (.fn "by_threes")) mNil)))) ρ).bind itemsD) (.one 14) mYes (mTold csW gW (mCallV 1 14 [("far_sum", F_far_sum), ("mask_of", F_mask_of), ("by_threes", F_by_threes)] (mCons (mVar 9) mNil))) [14]) (mBin mulT (mLst (mCons (mC (.str "BadTable")) mNil)) (mC (.int 3))))) t23_law Oc.nx)
def b26_law : FL.Env → Oc := (fun ρ => (t1_law ρ).seq (fun ρ => (t2_law ρ).seq (fun ρ => (t3_law ρ).seq (fun ρ => (t4_law ρ).seq (fun ρ => (t5_law ρ).seq (fun ρ => (t6_law ρ).seq (fun ρ => (t7_law ρ).seq (fun ρ => (t9_law ρ).seq (fun ρ => (t10_law ρ).seq (fun ρ => (t12_law ρ).seq (fun ρ => (t14_law ρ).seq (fun ρ => (t21_law ρ).seq (fun ρ => (t22_law ρ).seq t24_law)))))))))))))
def t25_law : FL.Env → Oc := (sFor (fun ρ => ((mBin max2D (mC (.int 1)) (mBin min2D (mC (.int 3)) (mUn lenD (mVar 0)))) ρ).bind rg1D) (.one 1) b26_law)
def t26_law : FL.Env → Oc := (sRet (mC (.bl true)))
def m_law : FL.Env → Oc := (fun ρ => (t25_law ρ).seq t26_law)
def F_law : List D → R D := runF 17 1 m_law
theorem sc_law : FnScope ["_law_script", "_law_k", "_law_more", "_law_table_here", "_law_size", "_law_counts", "_law_handed", "_law_told_here", "_law_found", "_law_odd", "_law_caught", "_law_x", "_law_mask", "_law_bits", "_law_deed", "_law_y", "_law_bit_here"] ["_law_script"] (defScope s_law) := ⟨rfl, rfl, rfl, by decide +kernel, rfl, by decide +kernel, by decide +kernel⟩
theorem bb_law : ∀ (kV doc pm : Value) (an : Option Addr) (cdv ct : Value) (us : List Value), us.length = (["_law_script"] : List Str).length → bindArgs (PySem.W.fnOf "law" "law" (defArgs s_law) (defBody s_law) (defScope s_law) .none kV doc pm an cdv ct) ⟨us, []⟩ = pure ((["_law_script"] : List Str).zip us) :=
  fun _ _ _ _ _ _ us hl => match us, hl with | [_], _ => rfl
theorem ok_law (t : Tp K mg) {fa : Addr} {fd : FuncData} (F : FunD K "law" "law" (defArgs s_law) (defBody s_law) (defScope s_law) [] [] fa fd) {c0 P0 : Addr} (hc0 : fd.code = .ref c0) (la : LamOk base mg T "law" c0 P0) : FnOk P w K mg base (L2N.CX P w) 6 fa fd ["_law_script"] (spD K mg T 1 F_law) := by
  have G__law_bit := ok__law_bit (P := P) (w := w) (base := base) (T := T) t
  have G__law_cell := ok__law_cell (P := P) (w := w) (base := base) (T := T) t
  have G__law_drawn := ok__law_drawn (P := P) (w := w) (base := base) (T := T) t
  have G__law_less := ok__law_less (P := P) (w := w) (base := base) (T := T) t
  have G__law_made := ok__law_made (P := P) (w := w) (base := base) (T := T) t
  have G__law_table := ok__law_table (P := P) (w := w) (base := base) (T := T) t
  have G__law_third := ok__law_third (P := P) (w := w) (base := base) (T := T) t
  have G_by_threes := ok_by_threes (P := P) (w := w) (base := base) (T := T) t
  have G_far_sum := ok_far_sum (P := P) (w := w) (base := base) (T := T) t
  have G_mask_of := ok_mask_of (P := P) (w := w) (base := base) (T := T) t
  have cand1 : Cands P w K mg base T 3 1 [("far_sum", F_far_sum), ("mask_of", F_mask_of), ("by_threes", F_by_threes)] := (cands_cons G_far_sum (by decide) rfl (cands_cons G_mask_of (by decide) rfl (cands_cons G_by_threes (by decide) rfl cands_nil)))
  show FnOk P w K mg base (L2N.CX P w) 6 fa fd ["_law_script"] (spD K mg T 1 (runF 17 1 m_law))
  refine law_okC (k := 5) (m := m_law) F hc0 sc_law rfl rfl ?_
  intro A outer s H E c tk po
  · refine (pdss_cons ?_ ?_)
    · refine (pds_for ?_ (pgf_name 1 c.nd) ?_ po c.calm)
      · refine (pdi_range1 rfl t.n_range ?_)
        · refine (PD.t ?_)
          · refine (pd_b2 (c_max2 c.calm) rfl t.n_max bt_max (PD.t pd_int) ?_)
            · refine (PD.t ?_)
              · refine (pd_b2 (c_min2 c.calm) rfl t.n_min bt_min (PD.t pd_int) ?_)
                · refine (PD.t ?_)
                  · exact (pd_b1 c_len rfl t.n_len bt_len (PD.t (pd_var 0)))
      · refine (pdss_cons ?_ ?_)
        · refine (pds_set 2 ?_ c.nd)
          · refine (pd_callD G__law_drawn c (by decide) (by exact rfl) rfl ?_)
            · refine (pad_cons ?_ ?_)
              · refine (pd_callD G__law_cell c (by decide) (by exact rfl) rfl ?_)
                · exact (pad_cons (pd_var 0) (pad_cons (pd_var 1) pad_nil))
              · exact (pad_cons (pd_var 1) pad_nil)
        · refine (pdss_cons ?_ ?_)
          · refine (pds_set 3 ?_ c.nd)
            · exact (pd_callD G__law_table c (by decide) (by exact rfl) rfl (pad_cons (pd_var 2) pad_nil))
          · refine (pdss_cons ?_ ?_)
            · refine (pds_set 4 ?_ c.nd)
              · exact (pd_b1 c_len rfl t.n_len bt_len (PD.t (pd_var 3)))
            · refine (pdss_cons ?_ ?_)
              · refine (pds_setLc 5 (own := [("_law_mask", 12)]) (t := (.one 12)) (mt := mYes) (me := (mUn lenD (mLc (fun ρ => ((mVar 4) ρ).bind rg1D) (.one 11) (mB (mBin (eqD true) (mBin idxD (mVar 3) (mVar 11)) (mCall 2 F__law_bit (mCons (mVar 12) (mCons (mVar 11) mNil))))) (mVar 11) [11]))) c.calm c.nd ?_ (blkOk_by (by kernel_rfl)) (by decide) ?_ ?_ ?_)
                · refine (PDI.t ?_)
                  · exact (pdi_range1 rfl t.n_range (PD.t (pd_var 4)))
                · exact fun _ _ _ _ _ => (pgd_name 12 (Cg.blk c _ _ _ _ _).nd)
                · exact fun _ _ _ _ _ => pts0
                · intro _ _ _ _ _
                  refine (pd_b1 c_len rfl t.n_len bt_len ?_)
                  · refine (PD.t ?_)
                    · refine (pd_lc (own := [("_law_x", 11)]) (t := (.one 11)) (mt := (mB (mBin (eqD true) (mBin idxD (mVar 3) (mVar 11)) (mCall 2 F__law_bit (mCons (mVar 12) (mCons (mVar 11) mNil)))))) (me := (mVar 11)) (Cg.blk c _ _ _ _ _).calm (Cg.blk c _ _ _ _ _).nd ?_ (blkOk_by (by kernel_rfl)) (by decide) ?_ ?_ ?_)
                      · refine (PDI.t ?_)
                        · exact (pdi_range1 rfl t.n_range (PD.t (pd_var 4)))
                      · exact fun _ _ _ _ _ => (pgd_name 11 (Cg.blk (Cg.blk c _ _ _ _ _) _ _ _ _ _).nd)
                      · intro _ _ _ _ _
                        refine (pts1 ?_)
                        · refine (ptd_cmp (o_ne (Cg.blk (Cg.blk c _ _ _ _ _) _ _ _ _ _).hu) ?_ ?_)
                          · refine (PD.t ?_)
                            · exact (pd_idx (PD.t (pd_var 3)) (PD.t (pd_var 11)))
                          · refine (PD.t ?_)
                            · refine (pd_callD G__law_bit (Cg.blk (Cg.blk c _ _ _ _ _) _ _ _ _ _) (by decide) (by exact rfl) rfl ?_)
                              · exact (pad_cons (pd_var 12) (pad_cons (pd_var 11) pad_nil))
                      · exact fun _ _ _ _ _ => (pd_var 11)
              · refine (pdss_cons ?_ ?_)
                · refine (pds_set 6 ?_ c.nd)
                  · exact (pd_t1 c_list rfl t.n_list bt_list (PD.t (pd_var 3)))
                · refine (pdss_cons ?_ ?_)
                  · refine (pds_own 7 ?_ c.nd)
                    · refine (pad_cons ?_ pad_nil)
                      · refine (pd_told (mb := (mCall 1 F_far_sum (mCons (mVar 6) mNil))) (st := s__law_told) t.f__law_told sc__law_told rfl bb__law_told (by first | exact Or.inl rfl | exact Or.inr (Or.inl rfl)) rfl rfl rfl (ok__law_word t) t.exw c (show 3 + 2 ≤ _ by decide) (by decide) (by exact rfl) la.tb rfl la.mem la.u (LamX.lamS_by (by kernel_rfl)) ?_)
                        · intro A2 outer2 s2 H2 E2 f2 c2 cg1
                          exact (pd_callD G_far_sum cg1 (by decide) (by exact rfl) rfl (pad_cons (pd_var 6) pad_nil))
                  · refine (pdss_cons ?_ ?_)
                    · refine (pds_app 7 ?_)
                      · refine (pd_told (mb := (mCall 1 F_mask_of (mCons (mVar 6) mNil))) (st := s__law_told) t.f__law_told sc__law_told rfl bb__law_told (by first | exact Or.inl rfl | exact Or.inr (Or.inl rfl)) rfl rfl rfl (ok__law_word t) t.exw c (show 3 + 2 ≤ _ by decide) (by decide) (by exact rfl) la.tb rfl la.mem la.u (LamX.lamS_by (by kernel_rfl)) ?_)
                        · intro A2 outer2 s2 H2 E2 f2 c2 cg2
                          exact (pd_callD G_mask_of cg2 (by decide) (by exact rfl) rfl (pad_cons (pd_var 6) pad_nil))
                    · refine (pdss_cons ?_ ?_)
                      · refine (pds_if ?_ ?_ pdss_nil)
                        · refine (ptd_cmp (o_ne c.hu) (pdt_var 7) ?_)
                          · refine (PD.t ?_)
                            · refine (pd_lst ?_)
                              · refine (pad_cons ?_ ?_)
                                · exact (pd_b1 (c_min c.calm) rfl t.n_min bt_min (PD.t (pd_var 5)))
                                · refine (pad_cons ?_ pad_nil)
                                  · refine (pd_lix c.hu5 ?_ ?_)
                                    · exact (PD.t (pd_var 5))
                                    · refine (PD.t ?_)
                                      · exact (pd_b1 (c_min c.calm) rfl t.n_min bt_min (PD.t (pd_var 5)))
                        · exact (pdss_one (pds_ret pd_bl))
                      · refine (pdss_cons ?_ ?_)
                        · refine (pds_set 8 ?_ c.nd)
                          · refine (pd_told (mb := (mCall 1 F_by_threes (mCons (mVar 6) mNil))) (st := s__law_told) t.f__law_told sc__law_told rfl bb__law_told (by first | exact Or.inl rfl | exact Or.inr (Or.inl rfl)) rfl rfl rfl (ok__law_word t) t.exw c (show 3 + 2 ≤ _ by decide) (by decide) (by exact rfl) la.tb rfl la.mem la.u (LamX.lamS_by (by kernel_rfl)) ?_)
                            · intro A2 outer2 s2 H2 E2 f2 c2 cg3
                              exact (pd_callD G_by_threes cg3 (by decide) (by exact rfl) rfl (pad_cons (pd_var 6) pad_nil))
                        · refine (pdss_cons ?_ ?_)
                          · refine (pds_if ?_ ?_ pdss_nil)
                            · refine (PWD.p ?_)
                              · refine (pwd_or ?_ ?_)
                                · refine (ptd_not ?_)
                                  · refine (ptd_val ?_)
                                    · exact (pd_isi (Ty := "tuple") rfl t.n_isinstance (PD.t (pd_var 8)) rfl t.n_tuple bt_tuple)
                                · refine (pwd_or ?_ ?_)
                                  · exact (ptd_cmp (o_ne c.hu) (PD.t (pd_var 6)) (PD.t (pd_var 3)))
                                  · refine (pwd_or1 ?_)
                                    · refine (ptd_val ?_)
                                      · refine (pd_callD G__law_less c (by decide) (by exact rfl) rfl ?_)
                                        · refine (pad_cons (pd_var 8) ?_)
                                          · refine (pad_cons ?_ pad_nil)
                                            · refine (pd_callD G__law_made c (by decide) (by exact rfl) rfl ?_)
                                              · refine (pad_cons ?_ ?_)
                                                · exact (pd_b1 (c_min c.calm) rfl t.n_min bt_min (PD.t (pd_var 5)))
                                                · exact (pad_cons (pd_var 4) pad_nil)
                            · exact (pdss_one (pds_ret pd_bl))
                          · refine (pdss_cons ?_ ?_)
                            · refine (pds_if ?_ ?_ pdss_nil)
                              · refine (ptd_cmp (o_ne c.hu) ?_ ?_)
                                · refine (PD.t ?_)
                                  · refine (pd_cmp (o_eq c.hu) ?_ (PD.t pd_int))
                                    · refine (PD.t ?_)
                                      · exact (pd_b1 (c_min c.calm) rfl t.n_min bt_min (PD.t (pd_var 5)))
                                · refine (PD.t ?_)
                                  · refine (pd_cmp (o_eq c.hu) ?_ ?_)
                                    · exact (PD.t (pd_var 8))
                                    · refine (PD.t ?_)
                                      · exact (pd_tup (pad_cons pd_int (pad_cons pd_int pad_nil)))
                              · exact (pdss_one (pds_ret pd_bl))
                            · refine (pdss_cons ?_ ?_)
                              · refine (pds_if ?_ ?_ pdss_nil)
                                · exact (ptd_cmp (o_lt c.hu0) (PD.t (pd_var 4)) (PD.t pd_int))
                                · refine (pdss_cons (pds_set 10 pd_int c.nd) ?_)
                                  · refine (pdss_cons ?_ ?_)
                                    · refine (pds_for ?_ (pgf_name 11 c.nd) ?_ po c.calm)
                                      · exact (pdi_range1 rfl t.n_range (PD.t (pd_var 4)))
                                      · refine (pdss_cons ?_ ?_)
                                        · refine (pds_setLc 13 (own := [("_law_y", 15)]) (t := (.one 15)) (mt := mYes) (me := (mBin addD (mBin addD (mBin idxD (mVar 3) (mVar 11)) (mBin idxD (mVar 3) (mVar 15))) (mBin idxD (mVar 3) (mCall 2 F__law_third (mCons (mVar 11) (mCons (mVar 15) mNil)))))) c.calm c.nd ?_ (blkOk_by (by kernel_rfl)) (by decide) ?_ ?_ ?_)
                                          · refine (PDI.t ?_)
                                            · exact (pdi_range1 rfl t.n_range (PD.t (pd_var 4)))
                                          · exact fun _ _ _ _ _ => (pgd_name 15 (Cg.blk c _ _ _ _ _).nd)
                                          · exact fun _ _ _ _ _ => pts0
                                          · intro _ _ _ _ _
                                            refine (pd_bin o_add ?_ ?_)
                                            · refine (PD.t ?_)
                                              · refine (pd_bin o_add ?_ ?_)
                                                · refine (PD.t ?_)
                                                  · exact (pd_idx (PD.t (pd_var 3)) (PD.t (pd_var 11)))
                                                · refine (PD.t ?_)
                                                  · exact (pd_idx (PD.t (pd_var 3)) (PD.t (pd_var 15)))
                                            · refine (PD.t ?_)
                                              · refine (pd_idx ?_ ?_)
                                                · exact (PD.t (pd_var 3))
                                                · refine (PD.t ?_)
                                                  · refine (pd_callD G__law_third (Cg.blk c _ _ _ _ _) (by decide) (by exact rfl) rfl ?_)
                                                    · exact (pad_cons (pd_var 11) (pad_cons (pd_var 15) pad_nil))
                                        · refine (pdss_one ?_)
                                          · refine (pds_set 10 ?_ c.nd)
                                            · refine (pd_bin o_add ?_ ?_)
                                              · exact (PD.t (pd_var 10))
                                              · refine (PD.t ?_)
                                                · refine (pd_b1 c_len rfl t.n_len bt_len ?_)
                                                  · refine (PD.t ?_)
                                                    · refine (pd_lc (own := [("_law_bit_here", 16)]) (t := (.one 16)) (mt := (mB (mBin (eqD false) (mBin modD (mVar 16) (mC (.int 2))) (mC (.int 1))))) (me := (mVar 16)) c.calm c.nd ?_ (blkOk_by (by kernel_rfl)) (by decide) ?_ ?_ ?_)
                                                      · exact (PDI.t (pdi_seq (pd_var 13)))
                                                      · exact fun _ _ _ _ _ => (pgd_name 16 (Cg.blk c _ _ _ _ _).nd)
                                                      · intro _ _ _ _ _
                                                        refine (pts1 ?_)
                                                        · refine (ptd_cmp (o_eq (Cg.blk c _ _ _ _ _).hu) ?_ (PD.t pd_int))
                                                          · refine (PD.t ?_)
                                                            · exact (pd_bin o_mod (PD.t (pd_var 16)) (PD.t pd_int))
                                                      · exact fun _ _ _ _ _ => (pd_var 16)
                                    · refine (pdss_one ?_)
                                      · refine (pds_if ?_ ?_ pdss_nil)
                                        · refine (ptd_cmp (o_ne c.hu) ?_ ?_)
                                          · exact (PD.t (pd_var 8))
                                          · refine (PD.t ?_)
                                            · refine (pd_callD G__law_made c (by decide) (by exact rfl) rfl ?_)
                                              · refine (pad_cons (pd_var 10) ?_)
                                                · refine (pad_cons ?_ pad_nil)
                                                  · exact (pd_bin o_mulT (PD.t (pd_var 4)) (PD.t (pd_var 4)))
                                        · exact (pdss_one (pds_ret pd_bl))
                              · refine (pdss_cons ?_ ?_)
                                · refine (pds_set 9 ?_ c.nd)
                                  · refine (pd_idx ?_ ?_)
                                    · refine (PD.t ?_)
                                      · refine (pd_lst ?_)
                                        · refine (pad_cons (pd_lst pad_nil) ?_)
                                          · refine (pad_cons ?_ ?_)
                                            · exact (pd_lst (pad_cons pd_int pad_nil))
                                            · refine (pad_cons ?_ ?_)
                                              · refine (pd_lst ?_)
                                                · exact (pad_cons pd_int (pad_cons pd_int (pad_cons pd_int pad_nil)))
                                              · refine (pad_cons ?_ ?_)
                                                · exact (pd_lst (pad_cons pd_int (pad_cons pd_int pad_nil)))
                                                · refine (pad_cons ?_ ?_)
                                                  · refine (pd_bin o_mulT ?_ (PD.t pd_int))
                                                    · exact (PD.t (pd_lst (pad_cons pd_int pad_nil)))
                                                  · refine (pad_cons pd_non ?_)
                                                    · refine (pad_cons ?_ ?_)
                                                      · exact (pd_lst (pad_cons pd_bl (pad_cons pd_bl pad_nil)))
                                                      · refine (pad_cons ?_ ?_)
                                                        · exact (pd_lst (pad_cons pd_str (pad_cons pd_str pad_nil)))
                                                        · refine (pad_cons ?_ pad_nil)
                                                          · exact (pd_tup (pad_cons pd_int (pad_cons pd_int pad_nil)))
                                    · refine (PD.t ?_)
                                      · refine (pd_bin o_mod ?_ (PD.t pd_int))
                                        · refine (PD.t ?_)
                                          · refine (pd_bin o_div ?_ ?_)
                                            · exact (PD.t (pd_var 2))
                                            · exact (PD.t (pd_bin o_pow (PD.t pd_int) (PD.t pd_int)))
                                · refine (pdss_one ?_)
                                  · refine (pds_if ?_ ?_ pdss_nil)
                                    · refine (ptd_cmp (o_ne c.hu) ?_ ?_)
                                      · refine (PD.t ?_)
                                        · refine (pd_lc (own := [("_law_deed", 14)]) (t := (.one 14)) (mt := mYes) (me := (mTold csW gW (mCallV 1 14 [("far_sum", F_far_sum), ("mask_of", F_mask_of), ("by_threes", F_by_threes)] (mCons (mVar 9) mNil)))) c.calm c.nd ?_ (blkOk_by (by kernel_rfl)) (by decide) ?_ ?_ ?_)
                                          · refine (PDI.t ?_)
                                            · refine (pdi_seq ?_)
                                              · refine (pd_lst ?_)
                                                · refine (pad_cons (pd_fnD G_far_sum (by exact rfl)) ?_)
                                                  · exact (pad_cons (pd_fnD G_mask_of (by exact rfl)) (pad_cons (pd_fnD G_by_threes (by exact rfl)) pad_nil))
                                          · exact fun _ _ _ _ _ => (pgd_name 14 (Cg.blk c _ _ _ _ _).nd)
                                          · exact fun _ _ _ _ _ => pts0
                                          · intro _ _ _ _ _
                                            refine (pd_told (mb := (mCallV 1 14 [("far_sum", F_far_sum), ("mask_of", F_mask_of), ("by_threes", F_by_threes)] (mCons (mVar 9) mNil))) (st := s__law_told) t.f__law_told sc__law_told rfl bb__law_told (by first | exact Or.inl rfl | exact Or.inr (Or.inl rfl)) rfl rfl rfl (ok__law_word t) t.exw (Cg.blk c _ _ _ _ _) (show 3 + 2 ≤ _ by decide) (by decide) (by exact rfl) la.tb rfl la.mem la.u (LamX.lamS_by (by kernel_rfl)) ?_)
                                            · intro A2 outer2 s2 H2 E2 f2 c2 cg4
                                              exact (pd_callV (n := 1) (cands := [("far_sum", F_far_sum), ("mask_of", F_mask_of), ("by_threes", F_by_threes)]) 14 (cands_le cand1 (by decide)) cg4 (pad_cons (pd_var 9) pad_nil))
                                      · refine (PD.t ?_)
                                        · refine (pd_bin o_mulT ?_ (PD.t pd_int))
                                          · exact (PD.t (pd_lst (pad_cons pd_str pad_nil)))
                                    · exact (pdss_one (pds_ret pd_bl))
    · exact (pdss_one (pds_ret pd_bl))
end
end FL
set_option maxHeartbeats 4000000
namespace FL
open PySem PySem.Spec PyProof.Rows L2
local macro_rules | `(tactic| simp_arith only [$ls,*]) => `(tactic| simp only [R.bind_ok, R.bind_er, R.bind_no, R.out_ok, R.out_er, R.out_no, R.strict_ok, R.strict_er, R.strict_no, Oc.seq_nx, Oc.seq_rt, Oc.seq_er, Oc.seq_no, Oc.loop_nx, Oc.loop_rt, sIf, sRet, sSet, sAsg, sDrop, mVar_0, mVarT_0, mVarO_0, mVar_1, mVarT_1, mVarO_1, mVar_2, mVarT_2, mVarO_2, mVar_3, mVarT_3, mVarO_3, mVar_4, mVarT_4, mVarO_4, mVar_5, mVarT_5, mVarO_5, mVar_6, mVarT_6, mVarO_6, mVar_7, mVarT_7, mVarO_7, mVar_8, mVarT_8, mVarO_8, mVar_9, mVarT_9, mVarO_9, mVar_10, mVarT_10, mVarO_10, mVar_11, mVarT_11, mVarO_11, mVar_12, mVarT_12, mVarO_12, mVar_13, mVarT_13, mVarO_13, mVar_14, mVarT_14, mVarO_14, mVar_15, mVarT_15, mVarO_15, mVar_16, mVarT_16, mVarO_16, mVar_17, mVarT_17, mVarO_17, mVar_18, mVarT_18, mVarO_18, mVar_19, mVarT_19, mVarO_19, mVar_20, mVarT_20, mVarO_20, mVar_21, mVarT_21, mVarO_21, mVar_22, mVarT_22, mVarO_22, mVar_23, mVarT_23, mVarO_23, mVar_24, mVarT_24, mVarO_24, mC, mNil, mCons, mTup, mLst, mBin, mUn, mCall, mB, asB_bl, mNot, mAnd, mOr, vB, mIf, mIsN, isN, mYes, mChain, Tg.oc, Tg.put, setAll, List.getElem?_cons_zero, List.getElem?_cons_succ, List.set_cons_zero, List.set_cons_succ, List.map_cons, List.map_nil, List.length_cons, List.length_nil, List.replicate_succ, List.replicate_zero, List.cons_append, List.nil_append, List.append_nil, Nat.reduceAdd, Nat.reduceSub, Nat.succ_eq_add_one, if_true, if_false, ite_true, ite_false, Bool.false_eq_true, Bool.not_true, Bool.not_false, Bool.xor_false, Bool.false_xor, Bool.true_xor, sz_0, sz_1, sz_2, sz_3, sz_4, sz_5, sz_6, sz_7, sz_8, sz_9, sz_10, sz_11, sz_12, sz_13, sz_14, sz_15, sz_16, sz_17, sz_18, sz_19, sz_20, sz_21, sz_22, sz_23, sz_24, sz_25, sz_26, sz_27, sz_28, sz_29, sz_30, sz_31, sz_32, sz_33, sz_34, sz_35, sz_36, sz_37, sz_38, sz_39, sz_40, ok_ite, bl_ite, and_ite, or_ite, Bool.or_false, Bool.false_or, Bool.true_or, Bool.or_true, Bool.and_true, Bool.true_and, Bool.and_false, Bool.false_and, lcTurn, wipeE, itemsD_lst, itemsD_tup, ↓reduceIte, reduceCtorEq, sApp, sExt, sOwn, sPar, ownAt, frzE, $ls,*])
theorem drawn_ok {c k : Int} (hc : Sm 2000000 c) (hk : Sm 2000000 k) : F__law_drawn [.int c, .int k] = .ok (.int (drawnI c k)) := by
  show runF 3 2 m__law_drawn [.int c, .int k] = _
  have k1 : Sm 2000001 (k + 1) := hk.add (Sm.lit (i := 1) (b := 1) (by decide) |>.up (by omega))
  have e1 : mulT (.int c) (.int 6364136223846793005) = _ := mulT_int hc (b := 64) (Sm.lit (by decide +kernel)) (by omega) (by omega) (by omega)
  have e2 : mulT (.int (k + 1)) (.int 1442695040888963407) = _ := mulT_int k1 (b := 64) (Sm.lit (by decide +kernel)) (by omega) (by omega) (by omega)
  have r1b : Sm 129 (dr1 c k) := by
    obtain ⟨h1, h2⟩ := fmod_rng (i := c * 6364136223846793005 + (k + 1) * 1442695040888963407) (j := 340282366920938463463374607431768211507) (by decide)
    exact .of h1 (Int.lt_trans h2 (by decide +kernel))
  obtain ⟨a1, a2⟩ := fmod_rng (i := dr1 c k * dr1 c k) (j := 340282366920938463463374607431768211297) (by decide)
  have r2b : Sm 129 (dr2 c k) := .of a1 (Int.lt_trans a2 (by decide +kernel))
  have b1 : Sm 66 ((dr2 c k).fmod 18446744073709551557 + 1) := by
    obtain ⟨h1, h2⟩ := fmod_rng (i := dr2 c k) (j := 18446744073709551557) (by decide)
    exact .of (by omega) (Int.lt_of_lt_of_le (Int.add_lt_add_right h2 1) (by decide +kernel))
  have b2 : Sm 130 (dr2 c k / 18446744073709551557 + 1) := by
    have q1 : 0 ≤ dr2 c k / 18446744073709551557 := Int.ediv_nonneg a1 (by decide)
    have q2 : dr2 c k / 18446744073709551557 ≤ dr2 c k := Int.ediv_le_self _ a1
    have a2 : dr2 c k < 340282366920938463463374607431768211297 := a2
    refine .of (by omega) (Int.lt_of_lt_of_le (b := 340282366920938463463374607431768211297 + 1) (by omega) (by decide +kernel))
  simp_arith only [runF, m__law_drawn, addD_int, e1, e2, modD_lit (j := 340282366920938463463374607431768211507) (by decide +kernel)]
  rw [show (c * 6364136223846793005 + (k + 1) * 1442695040888963407).fmod 340282366920938463463374607431768211507 = dr1 c k from rfl]
  simp_arith only [mulT_int r1b r1b (by omega) (by omega) (by omega), modD_lit (j := 340282366920938463463374607431768211297) (by decide +kernel)]
  rw [show (dr1 c k * dr1 c k).fmod 340282366920938463463374607431768211297 = dr2 c k from rfl]
  simp_arith only [modD_lit (j := 18446744073709551557) (by decide +kernel), divD_lit (j := 18446744073709551557) (by decide +kernel), addD_int, mulT_int b1 b2 (by omega) (by omega) (by omega), mulT_int (b1.mul b2) r2b (by omega) (by omega) (by omega), modD_lit (j := 340282366920938463463374607431768211507) (by decide +kernel)]
  rfl
theorem cell_ok {ns : List Int} {k : Int} (h : ScrOk ns) (hk : 0 ≤ k ∧ k < 64) : ∃ c, F__law_cell [.scr ns, .int k] = .ok (.int c) ∧ Sm 2000000 c := by
  have hk6 : Sm 6 k := .of hk.1 (by have : ((2 ^ 6 : Nat) : Int) = 64 := rfl
                                    omega)
  have kk : Sm 23 (k * 7919) := (hk6.mul (Sm.lit (b := 17) (i := 7919) (by decide)))
  cases e : ns with
  | nil =>
    subst e
    refine ⟨k * 7919, ?_, kk.up (by omega)⟩
    show runF 2 2 m__law_cell [.scr [], .int k] = _
    simp_arith only [runF, m__law_cell, Nat.zero_le, eqD_scr, List.isEmpty_nil, mulT_int hk6 (Sm.lit (b := 17) (i := 7919) (by decide)) (by omega) (by omega) (by omega)]
  | cons n0 r =>
    rw [← e]
    have hne : ns.isEmpty = false := by rw [e]; rfl
    have hlen : 1 ≤ ns.length ∧ ns.length ≤ 63 := ⟨by rw [e, List.length_cons]; omega, h.1⟩
    have hpos : (0 : Int) < (ns.length : Int) := by omega
    obtain ⟨m1, m2⟩ := fmod_rng (i := k) hpos
    obtain ⟨j, hj⟩ := Int.eq_ofNat_of_zero_le m1
    have hjl : j < ns.length := by omega
    have hg : idxD (.scr ns) (.int (k.fmod ns.length)) = .ok (.int (ns.getD j 0)) := by
      rw [hj]
      show (match atI ns ((j : Nat) : Int) with | some d => R.ok (D.int d) | none => .no) = _
      rw [atI_nat, List.getElem?_eq_getElem hjl, List.getD_eq_getElem?_getD, List.getElem?_eq_getElem hjl]
      rfl
    have hz : Sm 1048576 (ns.getD j 0) := by
      refine bits_sm (h.2 _ ?_)
      rw [List.getD_eq_getElem?_getD, List.getElem?_eq_getElem hjl]
      exact List.getElem_mem hjl
    have q1 : 0 ≤ k / (ns.length : Int) := Int.ediv_nonneg hk.1 (by omega)
    have q2 : k / (ns.length : Int) ≤ k := Int.ediv_le_self _ hk.1
    have q6 : Sm 6 (k / (ns.length : Int)) := .of q1 (by have : ((2 ^ 6 : Nat) : Int) = 64 := rfl
                                                         omega)
    have hd : divD (.int k) (.int (ns.length : Int)) = .ok (.int (k / (ns.length : Int))) := divD_int ⟨hpos, by
      have : (ns.length : Int).natAbs = ns.length := by omega
      rw [this]
      have : ns.length.log2 < 6 := (Nat.log2_lt (by omega)).mpr (by omega)
      omega⟩
    have qm : Sm 23 (k / (ns.length : Int) * 104729) := q6.mul (Sm.lit (b := 17) (i := 104729) (by decide))
    refine ⟨ns.getD j 0 + k / (ns.length : Int) * 104729, ?_, (hz.add (qm.up (by omega))).up (by omega)⟩
    show runF 2 2 m__law_cell [.scr ns, .int k] = _
    simp_arith only [runF, m__law_cell, Nat.zero_le, eqD_scr, hne, lenD, modD_int (show (ns.length : Int) ≠ 0 by omega), hg, hd, mulT_int q6 (Sm.lit (b := 17) (i := 104729) (by decide)) (by omega) (by omega) (by omega), addD_int]
end FL
set_option maxHeartbeats 4000000
namespace FL
open PySem PySem.Spec PyProof.Rows L2
local macro_rules | `(tactic| simp_arith only [$ls,*]) => `(tactic| simp only [R.bind_ok, R.bind_er, R.bind_no, R.out_ok, R.out_er, R.out_no, R.strict_ok, R.strict_er, R.strict_no, Oc.seq_nx, Oc.seq_rt, Oc.seq_er, Oc.seq_no, Oc.loop_nx, Oc.loop_rt, sIf, sRet, sSet, sAsg, sDrop, mVar_0, mVarT_0, mVarO_0, mVar_1, mVarT_1, mVarO_1, mVar_2, mVarT_2, mVarO_2, mVar_3, mVarT_3, mVarO_3, mVar_4, mVarT_4, mVarO_4, mVar_5, mVarT_5, mVarO_5, mVar_6, mVarT_6, mVarO_6, mVar_7, mVarT_7, mVarO_7, mVar_8, mVarT_8, mVarO_8, mVar_9, mVarT_9, mVarO_9, mVar_10, mVarT_10, mVarO_10, mVar_11, mVarT_11, mVarO_11, mVar_12, mVarT_12, mVarO_12, mVar_13, mVarT_13, mVarO_13, mVar_14, mVarT_14, mVarO_14, mVar_15, mVarT_15, mVarO_15, mVar_16, mVarT_16, mVarO_16, mVar_17, mVarT_17, mVarO_17, mVar_18, mVarT_18, mVarO_18, mVar_19, mVarT_19, mVarO_19, mVar_20, mVarT_20, mVarO_20, mVar_21, mVarT_21, mVarO_21, mVar_22, mVarT_22, mVarO_22, mVar_23, mVarT_23, mVarO_23, mVar_24, mVarT_24, mVarO_24, mC, mNil, mCons, mTup, mLst, mBin, mUn, mCall, mB, asB_bl, mNot, mAnd, mOr, vB, mIf, mIsN, isN, mYes, mChain, Tg.oc, Tg.put, setAll, List.getElem?_cons_zero, List.getElem?_cons_succ, List.set_cons_zero, List.set_cons_succ, List.map_cons, List.map_nil, List.length_cons, List.length_nil, List.replicate_succ, List.replicate_zero, List.cons_append, List.nil_append, List.append_nil, Nat.reduceAdd, Nat.reduceSub, Nat.succ_eq_add_one, if_true, if_false, ite_true, ite_false, Bool.false_eq_true, Bool.not_true, Bool.not_false, Bool.xor_false, Bool.false_xor, Bool.true_xor, sz_0, sz_1, sz_2, sz_3, sz_4, sz_5, sz_6, sz_7, sz_8, sz_9, sz_10, sz_11, sz_12, sz_13, sz_14, sz_15, sz_16, sz_17, sz_18, sz_19, sz_20, sz_21, sz_22, sz_23, sz_24, sz_25, sz_26, sz_27, sz_28, sz_29, sz_30, sz_31, sz_32, sz_33, sz_34, sz_35, sz_36, sz_37, sz_38, sz_39, sz_40, ok_ite, bl_ite, and_ite, or_ite, Bool.or_false, Bool.false_or, Bool.true_or, Bool.or_true, Bool.and_true, Bool.true_and, Bool.and_false, Bool.false_and, lcTurn, wipeE, itemsD_lst, itemsD_tup, ↓reduceIte, reduceCtorEq, sApp, sExt, sOwn, sPar, ownAt, frzE, $ls,*])
theorem fraction_ok {a : Int} {b : Nat} (hb : 0 < b) (hz : b < 2 ^ 8000) : F_fraction [.int a, .int (b : Int)] = .ok (frD a b) := fraction_sem hb hz (fu := fu_fraction) fun _ => rfl
theorem law_made_ok {a : Int} {b : Nat} (hb : 0 < b) (hz : b < 2 ^ 8000) : F__law_made [.int a, .int (b : Int)] = .ok (frD a b) := fraction_sem hb hz (fu := fu__law_made) fun _ => rfl
theorem law_less_ok {a c : Int} {b d : Nat} (hb : 0 < b) (hd : 0 < d) (sa : Sm 10000000 a) (sb : Sm 10000000 (b : Int)) (sc : Sm 10000000 c) (sd : Sm 10000000 (d : Int)) : F__law_less [frD a b, frD c d] = .ok (.bl (decide (a * (d : Int) < c * (b : Int)))) := by
  show runF 2 2 m__law_less [frD a b, frD c d] = _
  have m1 := mulT_int (div_sm (b := Nat.gcd a.natAbs b) sa) (div_sm (b := Nat.gcd c.natAbs d) sd) (by omega) (by omega) (by omega)
  have m2 := mulT_int (div_sm (b := Nat.gcd c.natAbs d) sc) (div_sm (b := Nat.gcd a.natAbs b) sb) (by omega) (by omega) (by omega)
  have e := frac_less (a := a) (c := c) hb hd
  simp_arith only [runF, m__law_less, frD, idx_tup0, idx_tup1, m1, m2, ltD_int]
  congr 2
  exact decide_eq_decide.mpr e
end FL
set_option maxHeartbeats 4000000
namespace FL
open PySem PySem.Spec PyProof.Rows L2
/-! ### binary digits -/
def dg (x j : Nat) : Nat := x / 2 ^ j % 2
def dot (m x : Nat) : Nat := (dg m 0 * dg x 0 + (dg m 1 * dg x 1 + (dg m 2 * dg x 2 + (dg m 3 * dg x 3 + (dg m 4 * dg x 4 + dg m 5 * dg x 5))))) % 2
def xr (x y : Nat) : Nat := (dg x 0 + dg y 0) % 2 * 1 + ((dg x 1 + dg y 1) % 2 * 2 + ((dg x 2 + dg y 2) % 2 * 4 + ((dg x 3 + dg y 3) % 2 * 8 + ((dg x 4 + dg y 4) % 2 * 16 + (dg x 5 + dg y 5) % 2 * 32))))
def parG : Nat → Nat → Nat → Nat
  | 0, f, _ => f
  | d + 1, f, n => parG d ((f + n) % 2) (n / 2)
theorem dg_lt (x j : Nat) : dg x j < 2 := Nat.mod_lt _ (by omega)
theorem dot_lt (m x : Nat) : dot m x < 2 := Nat.mod_lt _ (by omega)
theorem xr_lt (x y : Nat) : xr x y < 64 := by
  unfold xr
  omega
theorem par_dot : ∀ x, x < 64 → ∀ m, m < 64 → parG 6 0 (x &&& m) = dot m x ∧ x &&& m < 64 := by decide +kernel
theorem xor_xr : ∀ x : Nat, x < 64 → ∀ y : Nat, y < 64 → Builtin.bitXor (x : Int) (y : Int) = ((xr x y : Nat) : Int) := by decide +kernel
theorem xr_pow : ∀ n, n < 7 → ∀ x, x < 2 ^ n → ∀ y, y < 2 ^ n → xr x y < 2 ^ n := by decide +kernel
theorem dot_up : ∀ n, n < 6 → ∀ a, a < 2 ^ n → ∀ x, x < 2 ^ n → dot a (x + 2 ^ n) = dot a x ∧ dot (a + 2 ^ n) x = dot a x ∧ dot (a + 2 ^ n) (x + 2 ^ n) + dot a x = 1 := by decide +kernel
theorem xr_up : ∀ n, n < 6 → ∀ x, x < 2 ^ n → ∀ y, y < 2 ^ n → xr x (y + 2 ^ n) = xr x y + 2 ^ n ∧ xr (x + 2 ^ n) y = xr x y + 2 ^ n ∧ xr (x + 2 ^ n) (y + 2 ^ n) = xr x y := by decide +kernel
theorem dg_xr : ∀ x, x < 64 → ∀ y, y < 64 → ∀ j, j < 6 → dg (xr x y) j = (dg x j + dg y j) % 2 := by decide +kernel
theorem bit_dist : ∀ p, p < 2 → ∀ u, u < 2 → ∀ v, v < 2 → (p * ((u + v) % 2)) % 2 = (p * u + p * v) % 2 := by decide
theorem dot_xr {a x y : Nat} (hx : x < 64) (hy : y < 64) : (dot a x + dot a y + dot a (xr x y)) % 2 = 0 := by
  have e := fun j hj => dg_xr x hx y hy j hj
  have b := fun j => bit_dist (dg a j) (dg_lt a j) (dg x j) (dg_lt x j) (dg y j) (dg_lt y j)
  unfold dot
  rw [e 0 (by omega), e 1 (by omega), e 2 (by omega), e 3 (by omega), e 4 (by omega), e 5 (by omega)]
  have b0 := b 0
  have b1 := b 1
  have b2 := b 2
  have b3 := b 3
  have b4 := b 4
  have b5 := b 5
  generalize dg a 0 * ((dg x 0 + dg y 0) % 2) = s0 at *
  generalize dg a 1 * ((dg x 1 + dg y 1) % 2) = s1 at *
  generalize dg a 2 * ((dg x 2 + dg y 2) % 2) = s2 at *
  generalize dg a 3 * ((dg x 3 + dg y 3) % 2) = s3 at *
  generalize dg a 4 * ((dg x 4 + dg y 4) % 2) = s4 at *
  generalize dg a 5 * ((dg x 5 + dg y 5) % 2) = s5 at *
  generalize dg a 0 * dg x 0 = t0 at *
  generalize dg a 1 * dg x 1 = t1 at *
  generalize dg a 2 * dg x 2 = t2 at *
  generalize dg a 3 * dg x 3 = t3 at *
  generalize dg a 4 * dg x 4 = t4 at *
  generalize dg a 5 * dg x 5 = t5 at *
  generalize dg a 0 * dg y 0 = r0 at *
  generalize dg a 1 * dg y 1 = r1 at *
  generalize dg a 2 * dg y 2 = r2 at *
  generalize dg a 3 * dg y 3 = r3 at *
  generalize dg a 4 * dg y 4 = r4 at *
  generalize dg a 5 * dg y 5 = r5 at *
  clear e b
  omega
/-! ### functions of so many bits as trees -/
inductive T : Nat → Type where
  | lf (v : Int) : T 0
  | nd {n : Nat} (a b : T n) : T (n + 1)
namespace T
def add : {n : Nat} → T n → T n → T n
  | _, .lf a, .lf b => .lf (a + b)
  | _, .nd a b, .nd c d => .nd (add a c) (add b d)
def sub : {n : Nat} → T n → T n → T n
  | _, .lf a, .lf b => .lf (a - b)
  | _, .nd a b, .nd c d => .nd (sub a c) (sub b d)
def mul : {n : Nat} → T n → T n → T n
  | _, .lf a, .lf b => .lf (a * b)
  | _, .nd a b, .nd c d => .nd (mul a c) (mul b d)
def sum : {n : Nat} → T n → Int
  | _, .lf a => a
  | _, .nd a b => sum a + sum b
def wh : {n : Nat} → T n → T n
  | _, .lf a => .lf a
  | _, .nd a b => .nd (add (wh a) (wh b)) (sub (wh a) (wh b))
def conv : {n : Nat} → T n → T n → T n
  | _, .lf a, .lf b => .lf (a * b)
  | _, .nd a b, .nd c d => .nd (add (conv a c) (conv b d)) (add (conv a d) (conv b c))
def All (p : Int → Prop) : {n : Nat} → T n → Prop
  | _, .lf a => p a
  | _, .nd a b => All p a ∧ All p b
theorem add4 : ∀ {n : Nat} (a b c d : T n), add (add a b) (add c d) = add (add a c) (add b d)
  | _, .lf a, .lf b, .lf c, .lf d => by simp only [add]; congr 1; omega
  | _, .nd a a', .nd b b', .nd c c', .nd d d' => by simp only [add]; rw [add4 a b c d, add4 a' b' c' d']
theorem sub4 : ∀ {n : Nat} (a b c d : T n), sub (add a b) (add c d) = add (sub a c) (sub b d)
  | _, .lf a, .lf b, .lf c, .lf d => by simp only [add, sub]; congr 1; omega
  | _, .nd a a', .nd b b', .nd c c', .nd d d' => by simp only [add, sub]; rw [sub4 a b c d, sub4 a' b' c' d']
theorem wh_add : ∀ {n : Nat} (a b : T n), wh (add a b) = add (wh a) (wh b)
  | _, .lf a, .lf b => rfl
  | _, .nd a a', .nd b b' => by
    simp only [add, wh]
    rw [wh_add a b, wh_add a' b', add4, sub4]
theorem mul_pp : ∀ {n : Nat} (p p' q q' : T n), add (add (mul p q) (mul p' q')) (add (mul p q') (mul p' q)) = mul (add p p') (add q q')
  | _, .lf a, .lf b, .lf c, .lf d => by simp only [add, mul]; congr 1; rw [Int.add_mul, Int.mul_add, Int.mul_add]; omega
  | _, .nd a a', .nd b b', .nd c c', .nd d d' => by simp only [add, mul]; rw [mul_pp a b c d, mul_pp a' b' c' d']
theorem mul_mm : ∀ {n : Nat} (p p' q q' : T n), sub (add (mul p q) (mul p' q')) (add (mul p q') (mul p' q)) = mul (sub p p') (sub q q')
  | _, .lf a, .lf b, .lf c, .lf d => by simp only [add, sub, mul]; congr 1; rw [Int.sub_mul, Int.mul_sub, Int.mul_sub]; omega
  | _, .nd a a', .nd b b', .nd c c', .nd d d' => by simp only [add, sub, mul]; rw [mul_mm a b c d, mul_mm a' b' c' d']
theorem wh_conv : ∀ {n : Nat} (f g : T n), wh (conv f g) = mul (wh f) (wh g)
  | _, .lf a, .lf b => rfl
  | _, .nd a a', .nd b b' => by
    simp only [conv, wh, mul]
    rw [wh_add, wh_add, wh_conv a b, wh_conv a' b', wh_conv a b', wh_conv a' b, mul_pp, mul_mm]
theorem sum_par : ∀ {n : Nat} (a b c d : T n), sum (mul (add a b) (add c d)) + sum (mul (sub a b) (sub c d)) = 2 * (sum (mul a c) + sum (mul b d))
  | _, .lf a, .lf b, .lf c, .lf d => by simp only [add, sub, mul, sum]; rw [Int.add_mul, Int.mul_add, Int.mul_add, Int.sub_mul, Int.mul_sub, Int.mul_sub]; omega
  | _, .nd a a', .nd b b', .nd c c', .nd d d' => by
    simp only [add, sub, mul, sum]
    have h1 := sum_par a b c d
    have h2 := sum_par a' b' c' d'
    omega
theorem planch : ∀ {n : Nat} (f g : T n), sum (mul (wh f) (wh g)) = ((2 ^ n : Nat) : Int) * sum (mul f g)
  | _, .lf a, .lf b => by simp only [wh, mul, sum]; simp
  | n + 1, .nd a a', .nd b b' => by
    have h := sum_par (wh a) (wh a') (wh b) (wh b')
    simp only [wh, mul, sum]
    rw [h, planch a b, planch a' b', Nat.pow_succ, Int.natCast_mul, Int.mul_add, Int.mul_add]
    have e : ((2 : Nat) : Int) = 2 := rfl
    rw [e, Int.mul_comm ((2 ^ n : Nat) : Int) 2, Int.mul_assoc, Int.mul_assoc]
theorem sum_mul_add : ∀ {n : Nat} (a b c : T n), sum (mul a (add b c)) = sum (mul a b) + sum (mul a c)
  | _, .lf a, .lf b, .lf c => by simp only [add, mul, sum]; rw [Int.mul_add]
  | _, .nd a a', .nd b b', .nd c c' => by
    simp only [add, mul, sum]
    rw [sum_mul_add a b c, sum_mul_add a' b' c']
    omega
theorem sq_nn (a : Int) : 0 ≤ a * a := by
  rcases Int.le_total 0 a with h | h
  · exact Int.mul_nonneg h h
  · rw [← Int.neg_mul_neg]; exact Int.mul_nonneg (by omega) (by omega)
theorem cube_le {m : Int} : ∀ {n : Nat} (v : T n), All (· ≤ m) v → sum (mul v (mul v v)) ≤ m * sum (mul v v)
  | _, .lf a, h => by
    simp only [mul, sum]
    exact Int.mul_le_mul_of_nonneg_right h (sq_nn a)
  | _, .nd a b, h => by
    simp only [mul, sum]
    rw [Int.mul_add]
    exact Int.add_le_add (cube_le a h.1) (cube_le b h.2)
end T
/-! ### sums over so many bits -/
def sm : Nat → (Nat → Int) → Int
  | 0, g => g 0
  | n + 1, g => sm n g + sm n fun x => g (x + 2 ^ n)
def tr : (n : Nat) → (Nat → Int) → T n
  | 0, g => .lf (g 0)
  | n + 1, g => .nd (tr n g) (tr n fun x => g (x + 2 ^ n))
theorem sm_congr : ∀ {n : Nat} {f g : Nat → Int}, (∀ x, x < 2 ^ n → f x = g x) → sm n f = sm n g
  | 0, f, g, h => h 0 (by decide)
  | n + 1, f, g, h => by
    have e : 2 ^ (n + 1) = 2 ^ n * 2 := Nat.pow_succ ..
    show sm n f + sm n _ = sm n g + sm n _
    rw [sm_congr (f := f) (g := g) fun x hx => h x (by omega), sm_congr (f := fun x => f (x + 2 ^ n)) (g := fun x => g (x + 2 ^ n)) fun x hx => h (x + 2 ^ n) (by omega)]
theorem tr_congr : ∀ {n : Nat} {f g : Nat → Int}, (∀ x, x < 2 ^ n → f x = g x) → tr n f = tr n g
  | 0, f, g, h => by show T.lf _ = T.lf _; rw [h 0 (by decide)]
  | n + 1, f, g, h => by
    have e : 2 ^ (n + 1) = 2 ^ n * 2 := Nat.pow_succ ..
    show T.nd _ _ = T.nd _ _
    rw [tr_congr (f := f) (g := g) fun x hx => h x (by omega), tr_congr (f := fun x => f (x + 2 ^ n)) (g := fun x => g (x + 2 ^ n)) fun x hx => h (x + 2 ^ n) (by omega)]
theorem sm_add : ∀ {n : Nat} (f g : Nat → Int), sm n (fun x => f x + g x) = sm n f + sm n g
  | 0, _, _ => rfl
  | n + 1, f, g => by
    show sm n (fun x => f x + g x) + sm n (fun x => f (x + 2 ^ n) + g (x + 2 ^ n)) = (sm n f + _) + (sm n g + _)
    rw [sm_add f g, sm_add (fun x => f (x + 2 ^ n)) (fun x => g (x + 2 ^ n))]
    omega
theorem sm_sub : ∀ {n : Nat} (f g : Nat → Int), sm n (fun x => f x - g x) = sm n f - sm n g
  | 0, _, _ => rfl
  | n + 1, f, g => by
    show sm n (fun x => f x - g x) + sm n (fun x => f (x + 2 ^ n) - g (x + 2 ^ n)) = (sm n f + _) - (sm n g + _)
    rw [sm_sub f g, sm_sub (fun x => f (x + 2 ^ n)) (fun x => g (x + 2 ^ n))]
    omega
theorem sm_mul : ∀ {n : Nat} (c : Int) (f : Nat → Int), sm n (fun x => c * f x) = c * sm n f
  | 0, _, _ => rfl
  | n + 1, c, f => by
    show sm n (fun x => c * f x) + sm n (fun x => c * f (x + 2 ^ n)) = c * (sm n f + _)
    rw [sm_mul c f, sm_mul c fun x => f (x + 2 ^ n), Int.mul_add]
theorem sm_const : ∀ (n : Nat) (c : Int), sm n (fun _ => c) = ((2 ^ n : Nat) : Int) * c
  | 0, c => by show c = _; simp
  | n + 1, c => by
    show sm n (fun _ => c) + sm n (fun _ => c) = _
    rw [sm_const n c, Nat.pow_succ, Int.natCast_mul, ← Int.mul_add]
    have e : ((2 : Nat) : Int) = 2 := rfl
    rw [e, Int.mul_assoc]
    congr 1
    omega
theorem sum_tr : ∀ (n : Nat) (g : Nat → Int), (tr n g).sum = sm n g
  | 0, _ => rfl
  | n + 1, g => by
    show (tr n g).sum + (tr n _).sum = _
    rw [sum_tr n g, sum_tr n]
    rfl
theorem add_tr : ∀ (n : Nat) (f g : Nat → Int), (tr n f).add (tr n g) = tr n fun x => f x + g x
  | 0, _, _ => rfl
  | n + 1, f, g => by
    show T.nd ((tr n f).add (tr n g)) ((tr n _).add (tr n _)) = _
    rw [add_tr n f g, add_tr n]
    rfl
theorem sub_tr : ∀ (n : Nat) (f g : Nat → Int), (tr n f).sub (tr n g) = tr n fun x => f x - g x
  | 0, _, _ => rfl
  | n + 1, f, g => by
    show T.nd ((tr n f).sub (tr n g)) ((tr n _).sub (tr n _)) = _
    rw [sub_tr n f g, sub_tr n]
    rfl
theorem mul_tr : ∀ (n : Nat) (f g : Nat → Int), (tr n f).mul (tr n g) = tr n fun x => f x * g x
  | 0, _, _ => rfl
  | n + 1, f, g => by
    show T.nd ((tr n f).mul (tr n g)) ((tr n _).mul (tr n _)) = _
    rw [mul_tr n f g, mul_tr n]
    rfl
theorem all_tr {p : Int → Prop} : ∀ {n : Nat} {g : Nat → Int}, (∀ x, x < 2 ^ n → p (g x)) → (tr n g).All p
  | 0, _, h => h 0 (by decide)
  | n + 1, g, h => by
    have e : 2 ^ (n + 1) = 2 ^ n * 2 := Nat.pow_succ ..
    exact ⟨all_tr fun x hx => h x (by omega), all_tr fun x hx => h (x + 2 ^ n) (by omega)⟩
def chi (a x : Nat) : Int := 1 - 2 * (dot a x : Int)
theorem wh_tr : ∀ (n : Nat) (f : Nat → Int), n ≤ 6 → (tr n f).wh = tr n fun a => sm n fun x => f x * chi a x
  | 0, f, _ => by
    show T.lf (f 0) = T.lf (f 0 * chi 0 0)
    have : chi 0 0 = 1 := by decide
    rw [this, Int.mul_one]
  | n + 1, f, hn => by
    show T.nd (((tr n f).wh).add ((tr n fun x => f (x + 2 ^ n)).wh)) (((tr n f).wh).sub ((tr n fun x => f (x + 2 ^ n)).wh)) = T.nd (tr n _) (tr n _)
    rw [wh_tr n f (by omega), wh_tr n (fun x => f (x + 2 ^ n)) (by omega), add_tr, sub_tr]
    congr 1
    · refine tr_congr fun a ha => ?_
      show _ = sm n (fun x => f x * chi a x) + sm n (fun x => f (x + 2 ^ n) * chi a (x + 2 ^ n))
      congr 1
      refine sm_congr fun x hx => ?_
      obtain ⟨h1, h2, h3⟩ := dot_up n (by omega) a ha x hx
      unfold chi
      rw [h1]
    · refine tr_congr fun a ha => ?_
      show _ = sm n (fun x => f x * chi (a + 2 ^ n) x) + sm n (fun x => f (x + 2 ^ n) * chi (a + 2 ^ n) (x + 2 ^ n))
      rw [Int.sub_eq_add_neg, ← Int.neg_one_mul, ← sm_mul]
      congr 1
      · refine sm_congr fun x hx => ?_
        obtain ⟨h1, h2, h3⟩ := dot_up n (by omega) a ha x hx
        unfold chi
        rw [h2]
      · refine sm_congr fun x hx => ?_
        obtain ⟨h1, h2, h3⟩ := dot_up n (by omega) a ha x hx
        have e : chi (a + 2 ^ n) (x + 2 ^ n) = - chi a x := by unfold chi; omega
        rw [e, Int.mul_neg, Int.neg_one_mul]
theorem conv_tr : ∀ (n : Nat) (f g h : Nat → Int), n ≤ 6 → ((tr n f).mul ((tr n g).conv (tr n h))).sum = sm n fun x => sm n fun y => f x * (g y * h (xr x y))
  | 0, f, g, h, _ => by
    show f 0 * (g 0 * h 0) = f 0 * (g 0 * h (xr 0 0))
    rfl
  | n + 1, f, g, h, hn => by
    have i1 := conv_tr n f g h (by omega)
    have i2 := conv_tr n f (fun x => g (x + 2 ^ n)) (fun x => h (x + 2 ^ n)) (by omega)
    have i3 := conv_tr n (fun x => f (x + 2 ^ n)) g (fun x => h (x + 2 ^ n)) (by omega)
    have i4 := conv_tr n (fun x => f (x + 2 ^ n)) (fun x => g (x + 2 ^ n)) h (by omega)
    show ((tr n f).mul (((tr n g).conv (tr n h)).add ((tr n fun x => g (x + 2 ^ n)).conv (tr n fun x => h (x + 2 ^ n))))).sum + ((tr n fun x => f (x + 2 ^ n)).mul (((tr n g).conv (tr n fun x => h (x + 2 ^ n))).add ((tr n fun x => g (x + 2 ^ n)).conv (tr n h)))).sum = _
    rw [T.sum_mul_add, T.sum_mul_add, i1, i2, i3, i4, ← sm_add, ← sm_add]
    show _ = sm n (fun x => sm n (fun y => f x * (g y * h (xr x y))) + sm n (fun y => f x * (g (y + 2 ^ n) * h (xr x (y + 2 ^ n))))) + sm n (fun x => sm n (fun y => f (x + 2 ^ n) * (g y * h (xr (x + 2 ^ n) y))) + sm n (fun y => f (x + 2 ^ n) * (g (y + 2 ^ n) * h (xr (x + 2 ^ n) (y + 2 ^ n)))))
    congr 1
    · refine sm_congr fun x hx => ?_
      congr 1
      refine sm_congr fun y hy => ?_
      rw [(xr_up n (by omega) x hx y hy).1]
    · refine sm_congr fun x hx => ?_
      congr 1
      · refine sm_congr fun y hy => ?_
        rw [(xr_up n (by omega) x hx y hy).2.1]
      · refine sm_congr fun y hy => ?_
        rw [(xr_up n (by omega) x hx y hy).2.2]
/-! ### threes tell far tables -/
def dC (n : Nat) (f : Nat → Int) (a : Nat) : Int := sm n fun x => if f x = (dot a x : Int) then 0 else 1
def rejC (n : Nat) (f : Nat → Int) : Int := sm n fun x => sm n fun y => (f x + f y + f (xr x y)) % 2
theorem blr {n : Nat} (hn : n ≤ 6) {f : Nat → Int} (hf : ∀ x, x < 2 ^ n → f x = 0 ∨ f x = 1) {d : Int} (hd : ∀ a, a < 2 ^ n → d ≤ dC n f a) : d * ((2 ^ n : Nat) : Int) ≤ rejC n f := by
  have hN : (0 : Int) < ((2 ^ n : Nat) : Int) := by have : 0 < 2 ^ n := Nat.pow_pos (by omega)
                                                    omega
  -- the signs
  have hw := wh_tr n (fun x => 1 - 2 * f x) hn
  have ew : ∀ a, a < 2 ^ n → sm n (fun x => (1 - 2 * f x) * chi a x) = ((2 ^ n : Nat) : Int) - 2 * dC n f a := fun a ha => by
    have e1 : sm n (fun x => (1 - 2 * f x) * chi a x) = sm n fun x => 1 - 2 * (if f x = (dot a x : Int) then 0 else 1) := by
      refine sm_congr fun x hx => ?_
      have hb := hf x hx
      have hl := dot_lt a x
      unfold chi
      rcases (show dot a x = 0 ∨ dot a x = 1 by omega) with h0 | h0 <;> rcases hb with h1 | h1 <;> rw [h0, h1] <;> rfl
    rw [e1, sm_sub, sm_const, sm_mul, Int.mul_one]
    rfl
  have hw : (tr n fun x => 1 - 2 * f x).wh = tr n fun a => ((2 ^ n : Nat) : Int) - 2 * dC n f a := hw.trans (tr_congr ew)
  have hb : T.All (· ≤ ((2 ^ n : Nat) : Int) - 2 * d) (tr n fun x => 1 - 2 * f x).wh := by
    rw [hw]
    refine all_tr fun a ha => ?_
    have := hd a ha
    omega
  have h3 := T.cube_le _ hb
  have pars := T.planch (tr n fun x => 1 - 2 * f x) (tr n fun x => 1 - 2 * f x)
  have hsq : ((tr n fun x => 1 - 2 * f x).mul (tr n fun x => 1 - 2 * f x)).sum = ((2 ^ n : Nat) : Int) := by
    rw [mul_tr, sum_tr]
    have : sm n (fun x => (1 - 2 * f x) * (1 - 2 * f x)) = sm n fun _ => 1 := by
      refine sm_congr fun x hx => ?_
      rcases hf x hx with h1 | h1 <;> rw [h1] <;> rfl
    rw [this, sm_const, Int.mul_one]
  rw [hsq] at pars
  have pl := T.planch (tr n fun x => 1 - 2 * f x) ((tr n fun x => 1 - 2 * f x).conv (tr n fun x => 1 - 2 * f x))
  rw [T.wh_conv, conv_tr n _ _ _ hn] at pl
  have et : sm n (fun x => sm n fun y => (1 - 2 * f x) * ((1 - 2 * f y) * (1 - 2 * f (xr x y)))) = ((2 ^ n : Nat) : Int) * ((2 ^ n : Nat) : Int) - 2 * rejC n f := by
    have e1 : sm n (fun x => sm n fun y => (1 - 2 * f x) * ((1 - 2 * f y) * (1 - 2 * f (xr x y)))) = sm n fun x => ((2 ^ n : Nat) : Int) - 2 * sm n fun y => (f x + f y + f (xr x y)) % 2 := by
      refine sm_congr fun x hx => ?_
      have e2 : sm n (fun y => (1 - 2 * f x) * ((1 - 2 * f y) * (1 - 2 * f (xr x y)))) = sm n fun y => 1 - 2 * ((f x + f y + f (xr x y)) % 2) := by
        refine sm_congr fun y hy => ?_
        have hz := xr_pow n (by omega) x hx y hy
        rcases hf x hx with h1 | h1 <;> rcases hf y hy with h2 | h2 <;> rcases hf _ hz with h3 | h3 <;> rw [h1, h2, h3] <;> rfl
      rw [e2, sm_sub, sm_const, sm_mul, Int.mul_one]
    rw [e1, sm_sub, sm_const, sm_mul]
    rfl
  rw [et] at pl
  rw [pl, pars] at h3
  generalize ((2 ^ n : Nat) : Int) = N at *
  generalize rejC n f = R at *
  -- N * (N * N - 2 * R) ≤ (N - 2 * d) * (N * N)
  have h4 : N * (N * N - 2 * R) ≤ N * ((N - 2 * d) * N) := by
    have : (N - 2 * d) * (N * N) = N * ((N - 2 * d) * N) := by rw [Int.mul_left_comm]
    omega
  have h5 := Int.le_of_mul_le_mul_left h4 hN
  rw [Int.sub_mul, Int.mul_assoc] at h5
  omega
theorem lin_rej {n : Nat} (hn : n ≤ 6) {f : Nat → Int} {a : Nat} (h : ∀ x, x < 2 ^ n → f x = (dot a x : Int)) : rejC n f = 0 := by
  have h64 : 2 ^ n ≤ 64 := Nat.pow_le_pow_right (by omega) hn
  have : rejC n f = sm n fun _ => sm n fun _ => 0 := by
    refine sm_congr fun x hx => sm_congr fun y hy => ?_
    have hz := xr_pow n (by omega) x hx y hy
    have := dot_xr (a := a) (x := x) (y := y) (by omega) (by omega)
    rw [h x hx, h y hy, h _ hz]
    omega
  rw [this, sm_const, sm_const]
  simp
/-! ### sums by lists -/
theorem list_sm : ∀ (n : Nat) (g : Nat → Int), ((List.range (2 ^ n)).map g).sum = sm n g
  | 0, g => by simp [sm]
  | n + 1, g => by
    have e : 2 ^ (n + 1) = 2 ^ n + 2 ^ n := by rw [Nat.pow_succ]; omega
    rw [e, List.range_add, List.map_append, List.sum_append, List.map_map, list_sm n g]
    show sm n g + ((List.range (2 ^ n)).map fun x => g (2 ^ n + x)).sum = sm n g + sm n fun x => g (x + 2 ^ n)
    congr 1
    rw [← list_sm n]
    congr 2
    funext x
    rw [Nat.add_comm]
theorem filter_sum {α : Type} (p : α → Bool) : ∀ l : List α, ((l.filter p).length : Int) = (l.map fun x => if p x = true then (1 : Int) else 0).sum
  | [] => rfl
  | a :: l => by
    rw [List.filter_cons, List.map_cons, List.sum_cons, ← filter_sum p l]
    cases p a
    · rw [if_neg Bool.false_ne_true, if_neg Bool.false_ne_true]; omega
    · rw [if_pos rfl, if_pos rfl, List.length_cons]; omega
end FL
set_option maxHeartbeats 4000000
namespace FL
open PySem PySem.Spec PyProof.Rows L2
local macro_rules | `(tactic| simp_arith only [$ls,*]) => `(tactic| simp only [R.bind_ok, R.bind_er, R.bind_no, R.out_ok, R.out_er, R.out_no, R.strict_ok, R.strict_er, R.strict_no, Oc.seq_nx, Oc.seq_rt, Oc.seq_er, Oc.seq_no, Oc.loop_nx, Oc.loop_rt, sIf, sRet, sSet, sAsg, sDrop, mVar_0, mVarT_0, mVarO_0, mVar_1, mVarT_1, mVarO_1, mVar_2, mVarT_2, mVarO_2, mVar_3, mVarT_3, mVarO_3, mVar_4, mVarT_4, mVarO_4, mVar_5, mVarT_5, mVarO_5, mVar_6, mVarT_6, mVarO_6, mVar_7, mVarT_7, mVarO_7, mVar_8, mVarT_8, mVarO_8, mVar_9, mVarT_9, mVarO_9, mVar_10, mVarT_10, mVarO_10, mVar_11, mVarT_11, mVarO_11, mVar_12, mVarT_12, mVarO_12, mVar_13, mVarT_13, mVarO_13, mVar_14, mVarT_14, mVarO_14, mVar_15, mVarT_15, mVarO_15, mVar_16, mVarT_16, mVarO_16, mVar_17, mVarT_17, mVarO_17, mVar_18, mVarT_18, mVarO_18, mVar_19, mVarT_19, mVarO_19, mVar_20, mVarT_20, mVarO_20, mVar_21, mVarT_21, mVarO_21, mVar_22, mVarT_22, mVarO_22, mVar_23, mVarT_23, mVarO_23, mVar_24, mVarT_24, mVarO_24, mC, mNil, mCons, mTup, mLst, mBin, mUn, mCall, mB, asB_bl, mNot, mAnd, mOr, vB, mIf, mIsN, isN, mYes, mChain, Tg.oc, Tg.put, setAll, List.getElem?_cons_zero, List.getElem?_cons_succ, List.set_cons_zero, List.set_cons_succ, List.map_cons, List.map_nil, List.length_cons, List.length_nil, List.replicate_succ, List.replicate_zero, List.cons_append, List.nil_append, List.append_nil, Nat.reduceAdd, Nat.reduceSub, Nat.succ_eq_add_one, if_true, if_false, ite_true, ite_false, Bool.false_eq_true, Bool.not_true, Bool.not_false, Bool.xor_false, Bool.false_xor, Bool.true_xor, sz_0, sz_1, sz_2, sz_3, sz_4, sz_5, sz_6, sz_7, sz_8, sz_9, sz_10, sz_11, sz_12, sz_13, sz_14, sz_15, sz_16, sz_17, sz_18, sz_19, sz_20, sz_21, sz_22, sz_23, sz_24, sz_25, sz_26, sz_27, sz_28, sz_29, sz_30, sz_31, sz_32, sz_33, sz_34, sz_35, sz_36, sz_37, sz_38, sz_39, sz_40, ok_ite, bl_ite, and_ite, or_ite, Bool.or_false, Bool.false_or, Bool.true_or, Bool.or_true, Bool.and_true, Bool.true_and, Bool.and_false, Bool.false_and, lcTurn, wipeE, itemsD_lst, itemsD_tup, ↓reduceIte, reduceCtorEq, sApp, sExt, sOwn, sPar, ownAt, frzE, $ls,*])
/-! ### tables -/
structure TabOk (t : List Int) (n : Nat) : Prop where
  len : t.length = 2 ^ n
  n1 : 1 ≤ n
  n6 : n ≤ 6
  bit : ∀ b ∈ t, b = 0 ∨ b = 1
theorem TabOk.le {t : List Int} {n : Nat} (h : TabOk t n) : 2 ≤ t.length ∧ t.length ≤ 64 := by
  have h1 : 2 ^ 1 ≤ 2 ^ n := Nat.pow_le_pow_right (by omega) h.n1
  have h2 : 2 ^ n ≤ 2 ^ 6 := Nat.pow_le_pow_right (by omega) h.n6
  have := h.len
  omega
theorem TabOk.sizes {t : List Int} {n : Nat} (h : TabOk t n) : t.length = 2 ∨ t.length = 4 ∨ t.length = 8 ∨ t.length = 16 ∨ t.length = 32 ∨ t.length = 64 := by
  have h1 := h.n1
  have h2 := h.n6
  rw [h.len]
  rcases (show n = 1 ∨ n = 2 ∨ n = 3 ∨ n = 4 ∨ n = 5 ∨ n = 6 by omega) with rfl | rfl | rfl | rfl | rfl | rfl <;> decide
theorem TabOk.at_ {t : List Int} {n : Nat} (h : TabOk t n) {x : Nat} (hx : x < t.length) : t.getD x 0 = 0 ∨ t.getD x 0 = 1 := by
  rw [List.getD_eq_getElem?_getD, List.getElem?_eq_getElem hx]
  exact h.bit _ (List.getElem_mem hx)
theorem in_sizes {k : Nat} (h : k = 2 ∨ k = 4 ∨ k = 8 ∨ k = 16 ∨ k = 32 ∨ k = 64) : inD true (.int (k : Int)) (.tup ([(2 : Int), (4 : Int), (8 : Int), (16 : Int), (32 : Int), (64 : Int)].map D.int)) = .ok (.bl false) := by
  rcases h with rfl | rfl | rfl | rfl | rfl | rfl <;> rfl
theorem in_bit {b : Int} (h : b = 0 ∨ b = 1) : inD false (.int b) (.tup [.int 0, .int 1]) = .ok (.bl true) := by
  rcases h with rfl | rfl <;> rfl
theorem need_table_ok {t : List Int} {n : Nat} (h : TabOk t n) : F_need_table [iD t] = .ok .non := by
  show runF 2 1 m_need_table [iD t] = _
  have hs := in_sizes h.sizes
  unfold runF m_need_table
  rw [if_pos (show [iD t].length = 1 from rfl)]
  rw [(seq_eq (ρ := [iD t].map Sl.sh ++ List.replicate (2 - 1) Sl.no) (ρ' := [.sh (iD t), .no]) (by
    generalize hz : ([(2 : Int), (4 : Int), (8 : Int), (16 : Int), (32 : Int), (64 : Int)].map D.int) = Z at hs ⊢
    simp_arith only [isi_list, lenD, List.length_map, hs]))]
  simp_arith only []
  rw [mLc_all D.int (fun _ => D.bl true) t (by simp_arith only []) (fun i hi => by simp_arith only [isi_int, isi_bool, in_bit (h.bit i hi)])]
  simp_arith only [all_true]
theorem need_table_nolist {d : D} (h : isiD "list" d = .ok (.bl false)) : F_need_table [d] = .er "BadTable" := by
  show runF 2 1 m_need_table [d] = _
  simp_arith only [runF, m_need_table, h]
theorem need_table_len {ds : List D} (h : inD true (.int (ds.length : Nat)) (.tup ([(2 : Int), (4 : Int), (8 : Int), (16 : Int), (32 : Int), (64 : Int)].map D.int)) = .ok (.bl true)) : F_need_table [.lst ds] = .er "BadTable" := by
  show runF 2 1 m_need_table [.lst ds] = _
  generalize hz : ([(2 : Int), (4 : Int), (8 : Int), (16 : Int), (32 : Int), (64 : Int)].map D.int) = Z at h
  unfold runF m_need_table
  rw [hz]
  simp_arith only [isi_list, lenD, h]
theorem need_table_item {ds : List D} {f : D → Bool} (hl : inD true (.int (ds.length : Nat)) (.tup ([(2 : Int), (4 : Int), (8 : Int), (16 : Int), (32 : Int), (64 : Int)].map D.int)) = .ok (.bl false))
    (hf : ∀ d ∈ ds, ∃ b, isiD "int" d = .ok (.bl b) ∧ (b = false → f d = false) ∧ (b = true → ∃ c, isiD "bool" d = .ok (.bl c) ∧ (c = true → f d = false) ∧ (c = false → inD false d (.tup [.int 0, .int 1]) = .ok (.bl (f d))))) (hb : ds.all f = false) : F_need_table [.lst ds] = .er "BadTable" := by
  show runF 2 1 m_need_table [.lst ds] = _
  unfold runF m_need_table
  rw [if_pos (show [D.lst ds].length = 1 from rfl)]
  rw [(seq_eq (ρ := [D.lst ds].map Sl.sh ++ List.replicate (2 - 1) Sl.no) (ρ' := [.sh (.lst ds), .no]) (by
    generalize hz : ([(2 : Int), (4 : Int), (8 : Int), (16 : Int), (32 : Int), (64 : Int)].map D.int) = Z at hl ⊢
    simp_arith only [isi_list, lenD, hl]))]
  simp_arith only []
  rw [mLc_all id (fun d => D.bl (f d)) ds (by simp_arith only [List.map_id]) (fun d hd => by
    obtain ⟨b, e1, e2, e3⟩ := hf d hd
    cases b with
    | false => simp_arith only [id, e1, e2 rfl]
    | true =>
      obtain ⟨c, e4, e5, e6⟩ := e3 rfl
      cases c with
      | true => simp_arith only [id, e1, e4, e5 rfl]
      | false => simp_arith only [id, e1, e4, e6 rfl])]
  simp_arith only [all_bl, hb]
def oddTabs : List D := [.lst [], .lst [.int 0], .lst [.int 0, .int 1, .int 1], .lst [.int 0, .int 2], .lst (List.replicate 128 [D.int 0]).flatten, .non, .lst [.bl true, .bl false], .lst [.str "0", .str "1"], .tup [.int 0, .int 1]]
theorem odd_tabs : ∀ d ∈ oddTabs, F_need_table [d] = .er "BadTable" := by
  intro d hd
  unfold oddTabs at hd
  simp only [List.mem_cons, List.not_mem_nil, or_false] at hd
  rcases hd with rfl | rfl | rfl | rfl | rfl | rfl | rfl | rfl | rfl
  · exact need_table_len rfl
  · exact need_table_len rfl
  · exact need_table_len rfl
  · exact need_table_item (f := fun d => match d with | .int 0 => true | _ => false) rfl (fun d hd => by
      have : d = .int 0 ∨ d = .int 2 := by simpa using hd
      rcases this with rfl | rfl
      · exact ⟨true, rfl, (fun h => by cases h), fun _ => ⟨false, rfl, (fun h => by cases h), fun _ => rfl⟩⟩
      · exact ⟨true, rfl, (fun h => by cases h), fun _ => ⟨false, rfl, (fun h => by cases h), fun _ => rfl⟩⟩) rfl
  · have hl : (List.replicate 128 [D.int 0]).flatten.length = 128 := by rw [len_rep]; rfl
    refine need_table_len ?_
    rw [hl]
    rfl
  · exact need_table_nolist rfl
  · exact need_table_item (f := fun _ => false) rfl (fun d hd => by
      have : d = .bl true ∨ d = .bl false := by simpa using hd
      rcases this with rfl | rfl
      · exact ⟨true, rfl, (fun h => by cases h), fun _ => ⟨true, rfl, (fun _ => rfl), fun h => by cases h⟩⟩
      · exact ⟨true, rfl, (fun h => by cases h), fun _ => ⟨true, rfl, (fun _ => rfl), fun h => by cases h⟩⟩) rfl
  · exact need_table_item (f := fun _ => false) rfl (fun d hd => by
      have : d = .str "0" ∨ d = .str "1" := by simpa using hd
      rcases this with rfl | rfl
      · exact ⟨false, rfl, (fun _ => rfl), fun h => by cases h⟩
      · exact ⟨false, rfl, (fun _ => rfl), fun h => by cases h⟩) rfl
  · exact need_table_nolist rfl
/-! ### parity -/
theorem div2 (i : Int) : divD (.int i) (.int 2) = .ok (.int (i / 2)) := divD_lit (j := 2) (by decide +kernel)
theorem mod2 (i : Int) : modD (.int i) (.int 2) = .ok (.int (i.fmod 2)) := modD_lit (j := 2) (by decide +kernel)
theorem fmod2 (n : Nat) : ((n : Nat) : Int).fmod 2 = ((n % 2 : Nat) : Int) := fmod_nat n 2
theorem fmod2z (z : Int) : z.fmod 2 = z % 2 := Int.fmod_eq_emod_of_nonneg _ (by decide)
theorem parG_zero : ∀ (d f : Nat), f < 2 → parG d f 0 = f
  | 0, _, _ => rfl
  | d + 1, f, h => by
    show parG d ((f + 0) % 2) (0 / 2) = f
    have e : (f + 0) % 2 = f := by omega
    rw [e]
    exact parG_zero d f h
theorem par_loop : ∀ (d f n fu : Nat), n < 2 ^ d → d + 1 ≤ fu → f < 2 → whGo (mB (mBin gtD (mVar 0) (mC (.int 0)))) b1_parity fu [.sh (.int (n : Int)), .sh (.int (f : Int))] = .nx [.sh (.int 0), .sh (.int (parG d f n : Nat))]
  | _, _, _, 0, _, h, _ => absurd h (by omega)
  | 0, f, n, fu + 1, hn, _, _ => by
    have hn : n < 1 := hn
    have e : n = 0 := by omega
    subst e
    rw [whGo_succ]
    simp_arith only [gtD_int]
    rfl
  | d + 1, f, n, fu + 1, hn, hf, h2 => by
    rw [whGo_succ]
    by_cases h0 : n = 0
    · subst h0
      rw [parG_zero _ _ h2]
      simp_arith only [gtD_int]
      rfl
    · have e : decide ((0 : Int) < (n : Int)) = true := decide_eq_true (by omega)
      have e1 : (f : Int) + (n : Int) = ((f + n : Nat) : Int) := by omega
      have e2 : (n : Int) / 2 = ((n / 2 : Nat) : Int) := by omega
      have hp : 2 ^ (d + 1) = 2 ^ d * 2 := Nat.pow_succ ..
      have ih := par_loop d ((f + n) % 2) (n / 2) fu (by omega) (by omega) (by omega)
      simp_arith only [gtD_int, e, b1_parity, addD_int, e1, mod2, fmod2, div2, e2, ih]
      rfl
theorem parity_ok {k : Nat} (h : k < 64) : F_parity [.int (k : Int)] = .ok (.int (parG 6 0 k : Nat)) := by
  show runF 2 1 m_parity [.int (k : Int)] = _
  have e : whGo (mB (mBin gtD (mVar 0) (mC (.int 0)))) b1_parity bigFu [.sh (.int (k : Int)), .sh (.int 0)] = .nx [.sh (.int 0), .sh (.int (parG 6 0 k : Nat))] := par_loop 6 0 k bigFu h (by unfold bigFu; omega) (by omega)
  simp_arith only [runF, m_parity, sWhile, fu_parity, e]
theorem band_nat (x y : Nat) : Builtin.bitAnd (x : Int) (y : Int) = ((x &&& y : Nat) : Int) := by
  unfold Builtin.bitAnd
  rw [decide_eq_true (show (0 : Int) ≤ x by omega), decide_eq_true (show (0 : Int) ≤ y by omega)]
  rfl
theorem parity_and {x m : Nat} (hx : x < 64) (hm : m < 64) : F_parity [.int (Builtin.bitAnd (x : Int) (m : Int))] = .ok (.int (dot m x : Nat)) := by
  obtain ⟨h1, h2⟩ := par_dot x hx m hm
  rw [band_nat, parity_ok h2, h1]
/-! ### how far -/
def dA (t : List Int) (m : Nat) : Nat := ((List.range t.length).filter fun x => !(t.getD x 0 == ((dot m x : Nat) : Int))).length
theorem unlike_ok {t : List Int} {n : Nat} (h : TabOk t n) {m : Nat} (hm : m < t.length) : F_unlike [iD t, .int (m : Int)] = .ok (.int (dA t m : Nat)) := by
  have hle := h.le
  show runF 4 2 m_unlike [iD t, .int (m : Int)] = _
  simp_arith only [runF, m_unlike]
  rw [mLc_if (fun (i : Nat) => D.tup [.int (i : Nat), .int (t.getD i 0)]) (fun x => !(t.getD x 0 == ((dot m x : Nat) : Int))) (fun (i : Nat) => D.int (i : Int)) (List.range t.length) (by simp_arith only [enum_r]) (fun x hx => by
    have hx := List.mem_range.mp hx
    simp_arith only [bandD, intsD, parity_and (x := x) (m := m) (by omega) (by omega), eqD_int])]
  simp_arith only [lenD, List.length_map]
  rfl
def cnts (t : List Int) : List Int := (List.range t.length).map fun m => ((dA t m : Nat) : Int)
theorem cnts_ok {t : List Int} {n : Nat} (h : TabOk t n) {i : Nat} {ρ : Env} (hx : ∀ a : D, mVar 0 ((wipeE ρ [i]).set i (.sh a)) = .ok (iD t) ∧ mVar i ((wipeE ρ [i]).set i (.sh a)) = .ok a) (h0 : mVar 0 ρ = .ok (iD t)) :
    mLc (fun ρ => ((mUn lenD (mVar 0)) ρ).bind rg1D) (.one i) mYes (mCall 2 F_unlike (mCons (mVar 0) (mCons (mVar i) mNil))) [i] ρ = .ok (iD (cnts t)) := by
  have hle := h.le
  rw [mLc_all (fun (m : Nat) => D.int (m : Int)) (fun m => D.int ((dA t m : Nat) : Int)) (List.range t.length) (by simp only [mUn, h0, R.bind_ok, lenD, List.length_map, rg1_nat t.length (by omega)]) (fun m hm => by
    have hm := List.mem_range.mp hm
    obtain ⟨e1, e2⟩ := hx (.int (m : Int))
    simp only [lcTurn, Tg.put, mYes, R.strict_ok, R.bind_ok, if_true, mCall, mCons, mNil, e1, e2, unlike_ok h hm, List.length_cons, List.length_nil])]
  unfold cnts iD
  rw [List.map_map]
  rfl
theorem min_ex : ∀ {r : List Int}, r ≠ [] → ∃ m ∈ r, ∀ y ∈ r, m ≤ y
  | [], h => absurd rfl h
  | n :: r, _ => by
    obtain ⟨k1, k2, k3⟩ := minI_le r n
    exact ⟨minI n r, k3, fun y hy => by
      rcases List.mem_cons.mp hy with e | e
      · rw [e]; exact k1
      · exact k2 _ e⟩
theorem idxOf_mem {m : Int} : ∀ {r : List Int}, m ∈ r → ∃ k : Nat, idxOf (.int m) (r.map D.int) = some k
  | [], h => by cases h
  | a :: r, h => by
    show ∃ k : Nat, (if eqvD (.int a) (.int m) = true then some 0 else (idxOf (.int m) (r.map D.int)).map (· + 1)) = some k
    by_cases e : eqvD (.int a) (.int m) = true
    · exact ⟨0, if_pos e⟩
    · rw [if_neg e]
      have hn : a ≠ m := fun z => e (by rw [z]; exact beq_self_eq_true m)
      obtain ⟨k, hk⟩ := idxOf_mem (r := r) (m := m) (by
        rcases List.mem_cons.mp h with z | z
        · exact absurd z.symm hn
        · exact z)
      exact ⟨k + 1, by rw [hk]; rfl⟩
theorem lix_i {m : Int} {r : List Int} (h : m ∈ r) : ∃ k : Nat, lixD (r.map D.int) (.int m) = .ok (.int (k : Int)) := by
  obtain ⟨k, hk⟩ := idxOf_mem h
  refine ⟨k, ?_⟩
  unfold lixD
  rw [shL_ints, hk]
  rfl
theorem far_sum_ok {t : List Int} {n : Nat} (h : TabOk t n) {d : Int} (hd : minLD (iD (cnts t)) = .ok (.int d)) : F_far_sum [iD t] = .ok (.int d) := by
  show runF 2 1 m_far_sum [iD t] = _
  have e := cnts_ok h (i := 1) (ρ := [.sh (iD t), .no]) (fun a => ⟨rfl, rfl⟩) rfl
  simp_arith only [runF, m_far_sum, need_table_ok h]
  simp only [mUn] at e
  rw [e]
  simp_arith only [hd]
theorem mask_of_ok {t : List Int} {n : Nat} (h : TabOk t n) {d k : Int} (hd : minLD (iD (cnts t)) = .ok (.int d)) (hk : lixD ((cnts t).map D.int) (.int d) = .ok (.int k)) : F_mask_of [iD t] = .ok (.int k) := by
  show runF 3 1 m_mask_of [iD t] = _
  have e := cnts_ok h (i := 2) (ρ := [.sh (iD t), .no, .no]) (fun a => ⟨rfl, rfl⟩) rfl
  simp_arith only [runF, m_mask_of, need_table_ok h]
  simp only [mUn] at e
  rw [e]
  simp_arith only [mLix, asL, hd, hk]
/-! ### by threes -/
def odd3 (t : List Int) (x y : Nat) : Bool := (t.getD x 0 + t.getD y 0 + t.getD (xr x y) 0).fmod 2 == 1
def rjr (t : List Int) (x : Nat) : Nat := ((List.range t.length).filter (odd3 t x)).length
def rejK (t : List Int) (k : Nat) : Nat := ((List.range k).map (rjr t)).sum
theorem rejK_succ (t : List Int) (k : Nat) : rejK t (k + 1) = rejK t k + rjr t k := by
  unfold rejK
  rw [List.range_succ, List.map_append, List.sum_append]
  simp
theorem rjr_le (t : List Int) (x : Nat) : rjr t x ≤ t.length := by
  have : ((List.range t.length).filter (odd3 t x)).length ≤ (List.range t.length).length := List.length_filter_le _ _
  rw [List.length_range] at this
  exact this
theorem rejK_le (t : List Int) : ∀ k, rejK t k ≤ k * t.length
  | 0 => by simp [rejK]
  | k + 1 => by
    rw [rejK_succ, Nat.succ_mul]
    have := rejK_le t k
    have := rjr_le t k
    omega
theorem TabOk.xr {t : List Int} {n : Nat} (h : TabOk t n) {x y : Nat} (hx : x < t.length) (hy : y < t.length) : xr x y < t.length := by
  have h6 := h.n6
  rw [h.len] at hx hy ⊢
  exact xr_pow n (by omega) x hx y hy
theorem by_threes_ok {t : List Int} {n : Nat} (h : TabOk t n) : F_by_threes [iD t] = .ok (frD (rejK t t.length : Nat) (t.length * t.length)) := by
  have hle := h.le
  show runF 6 1 m_by_threes [iD t] = _
  have key := forGo_inv (t := .many [2, 3]) (f := b1_by_threes) (fun (i : Nat) => D.tup [.int (i : Nat), .int (t.getD i 0)]) (fun dn ρ => ∃ a b : Sl, ρ = [.sh (iD t), .sh (.int (rejK t dn.length : Nat)), a, b, .no, .no]) (List.range t.length) []
    [.sh (iD t), .sh (.int 0), .no, .no, .no, .no] ⟨_, _, rfl⟩ (fun dn x rs ρ hd hI => ?_)
  · obtain ⟨ρ', e, a, b, rfl⟩ := key
    rw [List.nil_append, List.length_range] at e
    have ml := mulT_int (i := (t.length : Int)) (j := (t.length : Int)) (a := 7) (b := 7) (sm7 (by omega)) (sm7 (by omega)) (by omega) (by omega) (by omega)
    have hf := fraction_ok (a := (rejK t t.length : Nat)) (b := t.length * t.length) (Nat.mul_pos (by omega) (by omega)) (lt8000 (by
      have : t.length * t.length ≤ 64 * 64 := Nat.mul_le_mul hle.2 hle.2
      omega))
    rw [Int.natCast_mul] at hf
    simp_arith only [runF, m_by_threes, need_table_ok h, sFor, enum_r, e, lenD, List.length_map, ml, hf]
  · obtain ⟨a, b, rfl⟩ := hI
    rw [List.nil_append] at hd
    obtain ⟨hx, hxl⟩ := range_at hd
    refine ⟨[.sh (iD t), .sh (.int (rejK t (dn ++ [x]).length : Nat)), .sh (.int (x : Int)), .sh (.int (t.getD x 0)), .no, .no], ?_, _, _, rfl⟩
    rw [List.length_append, ← hx]
    simp_arith only [b1_by_threes]
    rw [mLc_if (fun (i : Nat) => D.tup [.int (i : Nat), .int (t.getD i 0)]) (odd3 t x) (fun (i : Nat) => D.int (i : Int)) (List.range t.length) (by simp_arith only [enum_r]) (fun y hy => by
      have hy := List.mem_range.mp hy
      have ez := xor_xr x (by omega) y (by omega)
      have hz := h.xr (x := x) (y := y) (by omega) hy
      simp_arith only [addD_int, bxorD, intsD, ez, idx_i hz, mod2, eqD_int]
      rfl)]
    simp_arith only [lenD, List.length_map, addD_int, rejK_succ]
    rw [show ((rejK t x + rjr t x : Nat) : Int) = (rejK t x : Int) + (rjr t x : Int) from Int.natCast_add ..]
    rfl
/-! ### the law's bits -/
theorem digits_ok {x : Nat} : F__law_digits [.int (x : Int), .int 6] = .ok (iD [(dg x 0 : Nat), (dg x 1 : Nat), (dg x 2 : Nat), (dg x 3 : Nat), (dg x 4 : Nat), (dg x 5 : Nat)]) := by
  show runF 3 2 m__law_digits [.int (x : Int), .int 6] = _
  have r6 : rg1D (.int 6) = .ok ((List.range 6).map fun (i : Nat) => D.int (i : Int)) := rg1_nat 6 (by omega)
  simp_arith only [runF, m__law_digits]
  rw [mLc_all (fun (j : Nat) => D.int (j : Int)) (fun j => D.int ((dg x j : Nat) : Int)) (List.range 6) (by simp_arith only [r6]) (fun j hj => by
    have hj := List.mem_range.mp hj
    have key : ∀ (k : Nat) (hk : decide (0 < (k : Int) ∧ (k : Int).natAbs.log2 < 9000) = true), k = 2 ^ j → shlD (.int 1) (.int (j : Int)) = .ok (.int (k : Int)) → (((shlD (.int 1) (.int (j : Int))).bind fun y => divD (.int (x : Int)) y).bind fun y => modD y (.int 2)) = .ok (.int ((dg x j : Nat) : Int)) := fun k hk e1 e2 => by
      have e3 : (x : Int) / (k : Int) = ((x / k : Nat) : Int) := rfl
      rw [e2, R.bind_ok, divD_lit hk, R.bind_ok, mod2, e3, fmod2, e1]
      rfl
    simp_arith only []
    rcases (show j = 0 ∨ j = 1 ∨ j = 2 ∨ j = 3 ∨ j = 4 ∨ j = 5 by omega) with rfl | rfl | rfl | rfl | rfl | rfl
    · rw [key 1 (by decide +kernel) rfl rfl]; rfl
    · rw [key 2 (by decide +kernel) rfl rfl]; rfl
    · rw [key 4 (by decide +kernel) rfl rfl]; rfl
    · rw [key 8 (by decide +kernel) rfl rfl]; rfl
    · rw [key 16 (by decide +kernel) rfl rfl]; rfl
    · rw [key 32 (by decide +kernel) rfl rfl]; rfl)]
  rfl
theorem mulB {a b : Nat} (ha : a < 2) (hb : b < 2) : mulT (.int (a : Int)) (.int (b : Int)) = .ok (.int ((a * b : Nat) : Int)) := by
  rw [mulT_int (a := 7) (b := 7) (sm7 (by omega)) (sm7 (by omega)) (by omega) (by omega) (by omega)]
  rfl
theorem law_bit_ok (m x : Nat) : F__law_bit [.int (m : Int), .int (x : Int)] = .ok (.int (dot m x : Nat)) := by
  show runF 4 2 m__law_bit [.int (m : Int), .int (x : Int)] = _
  simp_arith only [runF, m__law_bit]
  rw [mLc_all (fun p : Nat × Nat => D.tup [.int (p.1 : Int), .int (p.2 : Int)]) (fun p => D.int ((p.1 * p.2 : Nat) : Int)) [(dg m 0, dg x 0), (dg m 1, dg x 1), (dg m 2, dg x 2), (dg m 3, dg x 3), (dg m 4, dg x 4), (dg m 5, dg x 5)] (by simp_arith only [digits_ok]; rfl) (fun p hp => by
    have : p.1 < 2 ∧ p.2 < 2 := by
      simp only [List.mem_cons, List.not_mem_nil, or_false] at hp
      rcases hp with rfl | rfl | rfl | rfl | rfl | rfl <;> exact ⟨dg_lt _ _, dg_lt _ _⟩
    simp_arith only [mulB this.1 this.2])]
  have es := sum_map (fun p : Nat × Nat => ((p.1 * p.2 : Nat) : Int)) [(dg m 0, dg x 0), (dg m 1, dg x 1), (dg m 2, dg x 2), (dg m 3, dg x 3), (dg m 4, dg x 4), (dg m 5, dg x 5)]
  have ec : (([(dg m 0, dg x 0), (dg m 1, dg x 1), (dg m 2, dg x 2), (dg m 3, dg x 3), (dg m 4, dg x 4), (dg m 5, dg x 5)] : List (Nat × Nat)).map fun p : Nat × Nat => ((p.1 * p.2 : Nat) : Int)).sum = ((dg m 0 * dg x 0 + (dg m 1 * dg x 1 + (dg m 2 * dg x 2 + (dg m 3 * dg x 3 + (dg m 4 * dg x 4 + dg m 5 * dg x 5)))) : Nat) : Int) := by
    simp only [List.map_cons, List.map_nil, List.sum_cons, List.sum_nil]
    omega
  rw [ec] at es
  rw [R.bind_ok, es]
  simp_arith only [mod2, fmod2]
  rfl
theorem law_third_ok (x y : Nat) : F__law_third [.int (x : Int), .int (y : Int)] = .ok (.int (xr x y : Nat)) := by
  show runF 7 2 m__law_third [.int (x : Int), .int (y : Int)] = _
  simp_arith only [runF, m__law_third]
  rw [mLc_all (fun p : Nat × Nat => D.tup [.int (p.1 : Int), .int (p.2 : Int)]) (fun p => D.int (((p.1 + p.2) % 2 : Nat) : Int)) [(dg x 0, dg y 0), (dg x 1, dg y 1), (dg x 2, dg y 2), (dg x 3, dg y 3), (dg x 4, dg y 4), (dg x 5, dg y 5)] (by simp_arith only [digits_ok]; rfl) (fun p hp => by
    have e : (p.1 : Int) + (p.2 : Int) = ((p.1 + p.2 : Nat) : Int) := rfl
    simp_arith only [addD_int, e, mod2, fmod2])]
  have em : (([(dg x 0, dg y 0), (dg x 1, dg y 1), (dg x 2, dg y 2), (dg x 3, dg y 3), (dg x 4, dg y 4), (dg x 5, dg y 5)] : List (Nat × Nat)).map fun p : Nat × Nat => D.int (((p.1 + p.2) % 2 : Nat) : Int)) = ([((dg x 0 + dg y 0) % 2 : Nat), ((dg x 1 + dg y 1) % 2 : Nat), ((dg x 2 + dg y 2) % 2 : Nat), ((dg x 3 + dg y 3) % 2 : Nat), ((dg x 4 + dg y 4) % 2 : Nat), (((dg x 5 + dg y 5) % 2 : Nat) : Int)] : List Int).map D.int := rfl
  rw [em]
  generalize hB : ([((dg x 0 + dg y 0) % 2 : Nat), ((dg x 1 + dg y 1) % 2 : Nat), ((dg x 2 + dg y 2) % 2 : Nat), ((dg x 3 + dg y 3) % 2 : Nat), ((dg x 4 + dg y 4) % 2 : Nat), (((dg x 5 + dg y 5) % 2 : Nat) : Int)] : List Int) = B
  simp_arith only []
  have hl : B.length = 6 := by rw [← hB]; rfl
  have hb : ∀ j, j < 6 → 0 ≤ B.getD j 0 ∧ B.getD j 0 < 2 := fun j hj => by
    rw [← hB]
    rcases (show j = 0 ∨ j = 1 ∨ j = 2 ∨ j = 3 ∨ j = 4 ∨ j = 5 by omega) with rfl | rfl | rfl | rfl | rfl | rfl <;> simp <;> omega
  rw [mLc_all (fun (i : Nat) => D.tup [.int (i : Nat), .int (B.getD i 0)]) (fun j => D.int (B.getD j 0 * ((2 ^ j : Nat) : Int))) (List.range 6) (by simp_arith only [enum_r, hl]) (fun j hj => by
    have hj := List.mem_range.mp hj
    obtain ⟨b1, b2⟩ := hb j hj
    have key : ∀ k : Nat, k = 2 ^ j → k < 128 → shlD (.int 1) (.int (j : Int)) = .ok (.int (k : Int)) → ((shlD (.int 1) (.int (j : Int))).bind fun y => mulT (.int (B.getD j 0)) y) = .ok (.int (B.getD j 0 * ((2 ^ j : Nat) : Int))) := fun k e1 e2 e3 => by
      rw [e3, R.bind_ok, mulT_int (a := 7) (b := 7) (sm7 (by omega)) (sm7 (by omega)) (by omega) (by omega) (by omega), e1]
    simp_arith only []
    rcases (show j = 0 ∨ j = 1 ∨ j = 2 ∨ j = 3 ∨ j = 4 ∨ j = 5 by omega) with rfl | rfl | rfl | rfl | rfl | rfl
    · rw [key 1 rfl (by omega) rfl]; rfl
    · rw [key 2 rfl (by omega) rfl]; rfl
    · rw [key 4 rfl (by omega) rfl]; rfl
    · rw [key 8 rfl (by omega) rfl]; rfl
    · rw [key 16 rfl (by omega) rfl]; rfl
    · rw [key 32 rfl (by omega) rfl]; rfl)]
  rw [R.bind_ok, sum_map]
  have ec : ((List.range 6).map fun j => B.getD j 0 * ((2 ^ j : Nat) : Int)).sum = ((xr x y : Nat) : Int) := by
    rw [← hB]
    show ((dg x 0 + dg y 0) % 2 : Nat) * ((2 ^ 0 : Nat) : Int) + (((dg x 1 + dg y 1) % 2 : Nat) * ((2 ^ 1 : Nat) : Int) + (((dg x 2 + dg y 2) % 2 : Nat) * ((2 ^ 2 : Nat) : Int) + (((dg x 3 + dg y 3) % 2 : Nat) * ((2 ^ 3 : Nat) : Int) + (((dg x 4 + dg y 4) % 2 : Nat) * ((2 ^ 4 : Nat) : Int) + (((dg x 5 + dg y 5) % 2 : Nat) * ((2 ^ 5 : Nat) : Int) + 0))))) = _
    unfold xr
    omega
  rw [ec]
  simp_arith only []
end FL
set_option maxHeartbeats 4000000
namespace FL
open PySem PySem.Spec PyProof.Rows L2
local macro_rules | `(tactic| simp_arith only [$ls,*]) => `(tactic| simp only [R.bind_ok, R.bind_er, R.bind_no, R.out_ok, R.out_er, R.out_no, R.strict_ok, R.strict_er, R.strict_no, Oc.seq_nx, Oc.seq_rt, Oc.seq_er, Oc.seq_no, Oc.loop_nx, Oc.loop_rt, sIf, sRet, sSet, sAsg, sDrop, mVar_0, mVarT_0, mVarO_0, mVar_1, mVarT_1, mVarO_1, mVar_2, mVarT_2, mVarO_2, mVar_3, mVarT_3, mVarO_3, mVar_4, mVarT_4, mVarO_4, mVar_5, mVarT_5, mVarO_5, mVar_6, mVarT_6, mVarO_6, mVar_7, mVarT_7, mVarO_7, mVar_8, mVarT_8, mVarO_8, mVar_9, mVarT_9, mVarO_9, mVar_10, mVarT_10, mVarO_10, mVar_11, mVarT_11, mVarO_11, mVar_12, mVarT_12, mVarO_12, mVar_13, mVarT_13, mVarO_13, mVar_14, mVarT_14, mVarO_14, mVar_15, mVarT_15, mVarO_15, mVar_16, mVarT_16, mVarO_16, mVar_17, mVarT_17, mVarO_17, mVar_18, mVarT_18, mVarO_18, mVar_19, mVarT_19, mVarO_19, mVar_20, mVarT_20, mVarO_20, mVar_21, mVarT_21, mVarO_21, mVar_22, mVarT_22, mVarO_22, mVar_23, mVarT_23, mVarO_23, mVar_24, mVarT_24, mVarO_24, mC, mNil, mCons, mTup, mLst, mBin, mUn, mCall, mB, asB_bl, mNot, mAnd, mOr, vB, mIf, mIsN, isN, mYes, mChain, Tg.oc, Tg.put, setAll, List.getElem?_cons_zero, List.getElem?_cons_succ, List.set_cons_zero, List.set_cons_succ, List.map_cons, List.map_nil, List.length_cons, List.length_nil, List.replicate_succ, List.replicate_zero, List.cons_append, List.nil_append, List.append_nil, Nat.reduceAdd, Nat.reduceSub, Nat.succ_eq_add_one, if_true, if_false, ite_true, ite_false, Bool.false_eq_true, Bool.not_true, Bool.not_false, Bool.xor_false, Bool.false_xor, Bool.true_xor, sz_0, sz_1, sz_2, sz_3, sz_4, sz_5, sz_6, sz_7, sz_8, sz_9, sz_10, sz_11, sz_12, sz_13, sz_14, sz_15, sz_16, sz_17, sz_18, sz_19, sz_20, sz_21, sz_22, sz_23, sz_24, sz_25, sz_26, sz_27, sz_28, sz_29, sz_30, sz_31, sz_32, sz_33, sz_34, sz_35, sz_36, sz_37, sz_38, sz_39, sz_40, ok_ite, bl_ite, and_ite, or_ite, Bool.or_false, Bool.false_or, Bool.true_or, Bool.or_true, Bool.and_true, Bool.true_and, Bool.and_false, Bool.false_and, lcTurn, wipeE, itemsD_lst, itemsD_tup, ↓reduceIte, reduceCtorEq, sApp, sExt, sOwn, sPar, ownAt, frzE, $ls,*])
/-! ### the law's tables -/
theorem table_turn {more : Int} {size : Sl} {ms w j : Nat} {ns : List Int} {a b : Sl} (hm : 0 ≤ more ∧ more < dm1) (hj : j < 64) (hw : w < 5) (hl : ns.length ≤ 1000) : ∃ (v : Int) (a' b' : Sl), (v = 0 ∨ v = 1) ∧
    b1__law_table [.sh (.int more), size, .sh (.int (ms : Int)), .sh (.int (w : Int)), .ow (ns.map D.int), .sh (.int (j : Int)), a, b] = .nx [.sh (.int more), size, .sh (.int (ms : Int)), .sh (.int (w : Int)), .ow ((ns ++ [v]).map D.int), .sh (.int (j : Int)), a', b'] := by
  have hd := drawn_ok (dm_sm hm) (k := (j : Int)) (mul_rng (by omega))
  generalize drawnI more j = q at hd
  have hlt : ((ns.map D.int).length < sizeLine) = True := by rw [List.length_map]; exact szlt (by omega)
  have hb := law_bit_ok ms j
  have hl2 := dot_lt ms j
  generalize dot ms j = bb at hb hl2
  have h7 : ∃ z : Int, (z = 0 ∨ z = 1) ∧ intD (.bl ((q.fmod 7) == 0)) = .ok (.int z) := by
    cases (q.fmod 7) == 0
    · exact ⟨0, .inl rfl, rfl⟩
    · exact ⟨1, .inr rfl, rfl⟩
  obtain ⟨z, hz, ez⟩ := h7
  have q2 := fmod2z q
  have p2 := fmod2z ((bb : Int) + z)
  have hc : ∃ v : Int, (v = 0 ∨ v = 1) ∧ idxD (.lst [.int (q.fmod 2), .int (bb : Int), .int (((bb : Int) + z).fmod 2), .int 1, .int (1 - (bb : Int))]) (.int (w : Int)) = .ok (.int v) := by
    rcases (show w = 0 ∨ w = 1 ∨ w = 2 ∨ w = 3 ∨ w = 4 by omega) with rfl | rfl | rfl | rfl | rfl
    · exact ⟨_, by omega, idx_lst _ 0 _ rfl⟩
    · exact ⟨_, by omega, idx_lst _ 1 _ rfl⟩
    · exact ⟨_, by omega, idx_lst _ 2 _ rfl⟩
    · exact ⟨_, by omega, idx_lst _ 3 _ rfl⟩
    · exact ⟨_, by omega, idx_lst _ 4 _ rfl⟩
  obtain ⟨v, hv, ev⟩ := hc
  refine ⟨v, .sh (.int q), .sh (.int (bb : Int)), hv, ?_⟩
  simp_arith only [b1__law_table, hd, hb, mod2, modD_lit (j := 7) (by decide +kernel), eqD_int, ez, addD_int, subD_int, ev, hlt, List.map_append]
theorem table_ok {more : Int} (hm : 0 ≤ more ∧ more < dm1) : ∃ (t : List Int) (n : Nat), TabOk t n ∧ F__law_table [.int more] = .ok (iD t) := by
  have hq : ∃ n : Nat, 1 ≤ n ∧ n ≤ 6 ∧ idxD (.lst [.int 2, .int 4, .int 8, .int 16, .int 8, .int 16, .int 32, .int 64]) (.int (more.fmod 8)) = .ok (.int ((2 ^ n : Nat) : Int)) := by
    obtain ⟨i, hi, ei⟩ := fmod_lit (i := more) (n := 8) (by omega)
    have ei : more.fmod 8 = (i : Int) := ei
    rw [ei]
    rcases (show i = 0 ∨ i = 1 ∨ i = 2 ∨ i = 3 ∨ i = 4 ∨ i = 5 ∨ i = 6 ∨ i = 7 by omega) with rfl | rfl | rfl | rfl | rfl | rfl | rfl | rfl
    · exact ⟨1, by omega, by omega, idx_lst _ 0 _ rfl⟩
    · exact ⟨2, by omega, by omega, idx_lst _ 1 _ rfl⟩
    · exact ⟨3, by omega, by omega, idx_lst _ 2 _ rfl⟩
    · exact ⟨4, by omega, by omega, idx_lst _ 3 _ rfl⟩
    · exact ⟨3, by omega, by omega, idx_lst _ 4 _ rfl⟩
    · exact ⟨4, by omega, by omega, idx_lst _ 5 _ rfl⟩
    · exact ⟨5, by omega, by omega, idx_lst _ 6 _ rfl⟩
    · exact ⟨6, by omega, by omega, idx_lst _ 7 _ rfl⟩
  obtain ⟨n, n1, n6, hq⟩ := hq
  have hN : 2 ≤ 2 ^ n ∧ 2 ^ n ≤ 64 := ⟨Nat.pow_le_pow_right (show 0 < 2 by omega) n1, Nat.pow_le_pow_right (show 0 < 2 by omega) n6⟩
  obtain ⟨ms, hms, ems⟩ := fmod_lit (i := more / 8) (n := 2 ^ n) (by omega)
  obtain ⟨w, hw, ew⟩ := fmod_lit (i := more / 512) (n := 5) (by omega)
  have ew : (more / 512).fmod 5 = (w : Int) := ew
  have key := forGo_inv (t := .one 5) (f := b1__law_table) (fun (i : Nat) => D.int (i : Int)) (fun dn ρ => ∃ (ns : List Int) (a b c : Sl), ns.length = dn.length ∧ (∀ v ∈ ns, v = 0 ∨ v = 1) ∧ ρ = [.sh (.int more), .sh (.int ((2 ^ n : Nat) : Int)), .sh (.int (ms : Int)), .sh (.int (w : Int)), .ow (ns.map D.int), a, b, c])
    (List.range (2 ^ n)) [] [.sh (.int more), .sh (.int ((2 ^ n : Nat) : Int)), .sh (.int (ms : Int)), .sh (.int (w : Int)), .ow [], .no, .no, .no] ⟨[], _, _, _, rfl, (fun v hv => by cases hv), rfl⟩ (fun dn x rs ρ hd hI => ?_)
  · obtain ⟨ρ', e1, ns, a, b, c, hl, hb, rfl⟩ := key
    rw [List.nil_append, List.length_range] at hl
    refine ⟨ns, n, ⟨hl, n1, n6, hb⟩, ?_⟩
    have hne : ((2 ^ n : Nat) : Int) ≠ 0 := by omega
    show runF 8 1 m__law_table [.int more] = _
    simp_arith only [runF, m__law_table, modD_lit (j := 8) (by decide +kernel), hq, divD_lit (j := 8) (by decide +kernel), modD_int hne, ems, divD_lit (j := 512) (by decide +kernel), modD_lit (j := 5) (by decide +kernel), ew, sFor, rg1_nat (2 ^ n) (by omega), e1]
  · obtain ⟨ns, a, b, c, hl, hb, rfl⟩ := hI
    rw [List.nil_append] at hd
    obtain ⟨hx, hxl⟩ := range_at hd
    obtain ⟨v, a', b', hv, e⟩ := table_turn (more := more) (size := .sh (.int ((2 ^ n : Nat) : Int))) (ms := ms) (w := w) (ns := ns) (j := x) (a := b) (b := c) hm (by omega) hw (by omega)
    exact ⟨_, (by simp_arith only [e]; exact rfl), ns ++ [v], _, _, _, by rw [List.length_append, List.length_append, hl]; rfl, (fun u hu => by
      rcases List.mem_append.mp hu with hu | hu
      · exact hb u hu
      · have : u = v := by simpa using hu
        rw [this]; exact hv), rfl⟩
/-! ### counts as sums -/
theorem dA_sum {t : List Int} {n : Nat} (h : TabOk t n) (a : Nat) : ((dA t a : Nat) : Int) = dC n (fun x => t.getD x 0) a := by
  unfold dA dC
  rw [filter_sum, h.len, list_sm]
  refine sm_congr fun x hx => ?_
  by_cases e : t.getD x 0 = ((dot a x : Nat) : Int)
  · rw [if_pos e, if_neg (by simpa using e)]
  · rw [if_neg e, if_pos (by simpa using e)]
theorem rej_sum {t : List Int} {n : Nat} (h : TabOk t n) : ((rejK t t.length : Nat) : Int) = rejC n (fun x => t.getD x 0) := by
  have e1 : ((rejK t t.length : Nat) : Int) = ((List.range t.length).map fun x => ((rjr t x : Nat) : Int)).sum := by
    unfold rejK
    generalize List.range t.length = L
    induction L with
    | nil => rfl
    | cons x L ih => rw [List.map_cons, List.sum_cons, List.map_cons, List.sum_cons, Int.natCast_add, ih]
  rw [e1, h.len, list_sm]
  refine sm_congr fun x hx => ?_
  unfold rjr
  rw [filter_sum, h.len, list_sm]
  refine sm_congr fun y hy => ?_
  show (if odd3 t x y = true then (1 : Int) else 0) = (t.getD x 0 + t.getD y 0 + t.getD (xr x y) 0) % 2
  have hz := fmod2z (t.getD x 0 + t.getD y 0 + t.getD (xr x y) 0)
  unfold odd3
  rw [hz]
  by_cases e : (t.getD x 0 + t.getD y 0 + t.getD (xr x y) 0) % 2 = 1
  · rw [e]; rfl
  · rw [if_neg (by simpa using e)]
    omega
/-! ### the law -/
theorem mem_BadTable : ("BadTable" : Str) ∈ csW := by decide +kernel
theorem eq_BadTable3 : eqD true (.lst [.str "BadTable", .str "BadTable", .str "BadTable"]) (.lst [.str "BadTable", .str "BadTable", .str "BadTable"]) = .ok (.bl false) := eqD_self (by decide +kernel) (by decide +kernel) (fun _ h => by cases h) true
theorem far_bad {d : D} (h : F_need_table [d] = .er "BadTable") : F_far_sum [d] = .er "BadTable" := by
  show runF 2 1 m_far_sum [d] = _
  simp_arith only [runF, m_far_sum, h]
theorem mask_bad {d : D} (h : F_need_table [d] = .er "BadTable") : F_mask_of [d] = .er "BadTable" := by
  show runF 3 1 m_mask_of [d] = _
  simp_arith only [runF, m_mask_of, h]
theorem threes_bad {d : D} (h : F_need_table [d] = .er "BadTable") : F_by_threes [d] = .er "BadTable" := by
  show runF 6 1 m_by_threes [d] = _
  simp_arith only [runF, m_by_threes, h]
theorem look1 : List.lookup ("far_sum" : Str) [("far_sum", F_far_sum), ("mask_of", F_mask_of), ("by_threes", F_by_threes)] = some F_far_sum := by rfl
theorem look2 : List.lookup ("mask_of" : Str) [("far_sum", F_far_sum), ("mask_of", F_mask_of), ("by_threes", F_by_threes)] = some F_mask_of := by rfl
theorem look3 : List.lookup ("by_threes" : Str) [("far_sum", F_far_sum), ("mask_of", F_mask_of), ("by_threes", F_by_threes)] = some F_by_threes := by rfl
theorem odd_pick {i : Int} : ∃ d ∈ oddTabs, idxD (.lst oddTabs) (.int (i.fmod 9)) = .ok d := by
  obtain ⟨j, hj, ej⟩ := fmod_lit (i := i) (n := 9) (by omega)
  have ej : i.fmod 9 = (j : Int) := ej
  have hl : oddTabs.length = 9 := rfl
  rw [ej]
  exact ⟨oddTabs[j]'(by rw [hl]; exact hj), List.getElem_mem _, idx_lst _ _ _ (List.getElem?_eq_getElem (by rw [hl]; exact hj))⟩
abbrev eM (ns : List Int) (a1 a2 a3 a4 a5 a6 a7 a8 a9 a10 a11 a13 : Sl) : Env := [.sh (.scr ns), a1, a2, a3, a4, a5, a6, a7, a8, a9, a10, a11, .no, a13, .no, .no, .no]
section
variable {ns : List Int} {a2 a3 a4 a5 a6 a7 a8 a9 a10 a11 a13 : Sl}
theorem turn (h : ScrOk ns) {kk : Int} (hk : 0 ≤ kk ∧ kk < 64) : ∃ b2 b3 b4 b5 b6 b7 b8 b9 b10 b11 b13, b26_law (eM ns (.sh (.int kk)) a2 a3 a4 a5 a6 a7 a8 a9 a10 a11 a13) = .nx (eM ns (.sh (.int kk)) b2 b3 b4 b5 b6 b7 b8 b9 b10 b11 b13) := by
  obtain ⟨c, hc, cs⟩ := cell_ok h hk
  have hkS : Sm 2000000 kk := (sm20 (by omega)).up (by omega)
  have hdr := drawn_ok cs hkS
  have hm := drawn_rng c kk
  generalize drawnI c kk = m at hdr hm
  obtain ⟨t, n, ht, et⟩ := table_ok hm
  have hle := ht.le
  have hn6 := ht.n6
  have hcl : (cnts t).length = t.length := by unfold cnts; rw [List.length_map, List.length_range]
  obtain ⟨d, hd1, hd2⟩ := min_ex (r := cnts t) (fun z => by rw [z] at hcl; simp at hcl; omega)
  have hmin := minLD_i hd2 hd1
  obtain ⟨k, hlix⟩ := lix_i hd1
  have efar := far_sum_ok ht hmin
  have emask := mask_of_ok ht hmin hlix
  have e3 := by_threes_ok ht
  -- numbers
  have hd0 : 0 ≤ d ∧ d ≤ 64 := by
    obtain ⟨a, ha, rfl⟩ := List.mem_map.mp hd1
    have : ((List.range t.length).filter fun x => !(t.getD x 0 == ((dot a x : Nat) : Int))).length ≤ (List.range t.length).length := List.length_filter_le _ _
    rw [List.length_range] at this
    have : dA t a ≤ t.length := this
    omega
  have hrs := rej_sum ht
  have hblr := blr (n := n) hn6 (f := fun x => t.getD x 0) (fun x hx => ht.at_ (by rw [ht.len]; exact hx)) (d := d) (fun a ha => by
    rw [← dA_sum ht]
    exact hd2 _ (List.mem_map.mpr ⟨a, List.mem_range.mpr (by rw [ht.len]; exact ha), rfl⟩))
  rw [← hrs, ← ht.len] at hblr
  have hz : d = 0 ↔ rejK t t.length = 0 := by
    constructor
    · intro e
      obtain ⟨a, ha, e1⟩ := List.mem_map.mp hd1
      have e2 := dA_sum ht a
      have e3 : dA t a = 0 := by omega
      have e4 : (List.range t.length).filter (fun x => !(t.getD x 0 == ((dot a x : Nat) : Int))) = [] := List.eq_nil_of_length_eq_zero e3
      have e5 := lin_rej (n := n) hn6 (f := fun x => t.getD x 0) (a := a) (fun x hx => by
        have := List.filter_eq_nil_iff.mp e4 x (List.mem_range.mpr (by rw [ht.len]; exact hx))
        simpa using this)
      omega
    · intro e
      rw [e] at hblr
      have : d * (t.length : Int) ≤ 0 := hblr
      have h2 : d * 2 ≤ d * (t.length : Int) := Int.mul_le_mul_of_nonneg_left (by omega) hd0.1
      omega
  have hrl : rejK t t.length ≤ 64 * 64 := Nat.le_trans (rejK_le t t.length) (Nat.mul_le_mul hle.2 hle.2)
  have hNN : t.length * t.length ≤ 64 * 64 := Nat.mul_le_mul hle.2 hle.2
  have hN0 : 0 < t.length * t.length := Nat.mul_pos (by omega) (by omega)
  have emin := law_made_ok (a := d) (b := t.length) (by omega) (lt8000 (by omega))
  have emrj := law_made_ok (a := (rejK t t.length : Nat)) hN0 (lt8000 (by omega))
  rw [Int.natCast_mul] at emrj
  have els := law_less_ok (a := (rejK t t.length : Nat)) (b := t.length * t.length) (c := d) (d := t.length) hN0 (by omega) ((sm20 (by omega)).up (by omega)) ((sm20 (by omega)).up (by omega)) ((sm20 (by omega)).up (by omega)) ((sm20 (by omega)).up (by omega))
  have hnl : decide (((rejK t t.length : Nat) : Int) * (t.length : Int) < d * ((t.length * t.length : Nat) : Int)) = false := decide_eq_false fun z => by
    have : d * (t.length : Int) * (t.length : Int) ≤ ((rejK t t.length : Nat) : Int) * (t.length : Int) := Int.mul_le_mul_of_nonneg_right hblr (by omega)
    rw [Int.mul_assoc] at this
    rw [Int.natCast_mul] at z
    omega
  rw [hnl] at els
  have ez : ((d == 0) == (((rejK t t.length : Nat) : Int) == 0)) = true := by
    rw [beq_iff_eq, Bool.eq_iff_iff, beq_iff_eq, beq_iff_eq]
    omega
  have ml := mulT_int (i := (t.length : Int)) (j := (t.length : Int)) (a := 7) (b := 7) (sm7 (by omega)) (sm7 (by omega)) (by omega) (by omega) (by omega)
  -- the law's own counts
  have g4 : t4_law (eM ns (.sh (.int kk)) (.sh (.int m)) (.sh (iD t)) (.sh (.int (t.length : Int))) a5 a6 a7 a8 a9 a10 a11 a13) = .nx (eM ns (.sh (.int kk)) (.sh (.int m)) (.sh (iD t)) (.sh (.int (t.length : Int))) (.sh (iD (cnts t))) a6 a7 a8 a9 a10 a11 a13) := by
    unfold t4_law sSet
    rw [mLc_all (fun (a : Nat) => D.int (a : Int)) (fun a => D.int ((dA t a : Nat) : Int)) (List.range t.length) (by simp_arith only [rg1_nat t.length (by omega)]) (fun a ha => by
      simp_arith only []
      rw [mLc_if (fun (x : Nat) => D.int (x : Int)) (fun x => !(t.getD x 0 == ((dot a x : Nat) : Int))) (fun (x : Nat) => D.int (x : Int)) (List.range t.length) (by simp_arith only [rg1_nat t.length (by omega)]) (fun x hx => by
        have hx := List.mem_range.mp hx
        simp_arith only [idx_i hx, law_bit_ok, eqD_int])]
      simp_arith only [lenD, List.length_map]
      rfl)]
    have e : ((List.range t.length).map fun a => D.int ((dA t a : Nat) : Int)) = (cnts t).map D.int := by unfold cnts; rw [List.map_map]; rfl
    rw [e]
    simp_arith only []
  have loop : ∃ b11 b13, forGo (.one 11) b18_law ((List.range t.length).map fun (i : Nat) => D.int (i : Int)) (eM ns (.sh (.int kk)) (.sh (.int m)) (.sh (iD t)) (.sh (.int (t.length : Int))) (.sh (iD (cnts t))) (.sh (iD t)) (.ow [.int d, .int (k : Int)]) (.sh (frD (rejK t t.length : Nat) (t.length * t.length))) a9 (.sh (.int 0)) a11 a13) =
      .nx (eM ns (.sh (.int kk)) (.sh (.int m)) (.sh (iD t)) (.sh (.int (t.length : Int))) (.sh (iD (cnts t))) (.sh (iD t)) (.ow [.int d, .int (k : Int)]) (.sh (frD (rejK t t.length : Nat) (t.length * t.length))) a9 (.sh (.int (rejK t t.length : Nat))) b11 b13) := by
    obtain ⟨ρ', e, b11, b13, rfl⟩ := forGo_inv (t := .one 11) (f := b18_law) (fun (i : Nat) => D.int (i : Int)) (fun dn ρ => ∃ b11 b13, ρ = eM ns (.sh (.int kk)) (.sh (.int m)) (.sh (iD t)) (.sh (.int (t.length : Int))) (.sh (iD (cnts t))) (.sh (iD t)) (.ow [.int d, .int (k : Int)]) (.sh (frD (rejK t t.length : Nat) (t.length * t.length))) a9 (.sh (.int (rejK t dn.length : Nat))) b11 b13) (List.range t.length) []
      (eM ns (.sh (.int kk)) (.sh (.int m)) (.sh (iD t)) (.sh (.int (t.length : Int))) (.sh (iD (cnts t))) (.sh (iD t)) (.ow [.int d, .int (k : Int)]) (.sh (frD (rejK t t.length : Nat) (t.length * t.length))) a9 (.sh (.int 0)) a11 a13) ⟨_, _, rfl⟩ (fun dn x rs ρ hd hI => by
      obtain ⟨b11, b13, rfl⟩ := hI
      rw [List.nil_append] at hd
      obtain ⟨hx, hxl⟩ := range_at hd
      refine ⟨eM ns (.sh (.int kk)) (.sh (.int m)) (.sh (iD t)) (.sh (.int (t.length : Int))) (.sh (iD (cnts t))) (.sh (iD t)) (.ow [.int d, .int (k : Int)]) (.sh (frD (rejK t t.length : Nat) (t.length * t.length))) a9 (.sh (.int (rejK t (dn ++ [x]).length : Nat))) (.sh (.int (x : Int))) (.sh (iD ((List.range t.length).map fun y => t.getD x 0 + t.getD y 0 + t.getD (xr x y) 0))), ?_, _, _, rfl⟩
      rw [List.length_append, ← hx]
      simp_arith only []
      unfold b18_law
      rw [seq_eq (f := t16_law) (ρ' := eM ns (.sh (.int kk)) (.sh (.int m)) (.sh (iD t)) (.sh (.int (t.length : Int))) (.sh (iD (cnts t))) (.sh (iD t)) (.ow [.int d, .int (k : Int)]) (.sh (frD (rejK t t.length : Nat) (t.length * t.length))) a9 (.sh (.int (rejK t x : Nat))) (.sh (.int (x : Int))) (.sh (iD ((List.range t.length).map fun y => t.getD x 0 + t.getD y 0 + t.getD (xr x y) 0)))) (by
        unfold t16_law sSet
        rw [mLc_all (fun (y : Nat) => D.int (y : Int)) (fun y => D.int (t.getD x 0 + t.getD y 0 + t.getD (xr x y) 0)) (List.range t.length) (by simp_arith only [rg1_nat t.length (by omega)]) (fun y hy => by
          have hy := List.mem_range.mp hy
          have hz := ht.xr (x := x) (y := y) (by omega) hy
          simp_arith only [idx_i (p := t) (i := x) (by omega), idx_i hy, addD_int, law_third_ok, idx_i hz])]
        simp_arith only [iD, List.map_map]
        rfl)]
      simp_arith only [t17_law]
      rw [mLc_if (fun y => D.int (t.getD x 0 + t.getD y 0 + t.getD (xr x y) 0)) (odd3 t x) (fun y => D.int (t.getD x 0 + t.getD y 0 + t.getD (xr x y) 0)) (List.range t.length) (by simp_arith only [iD, List.map_map]; rfl) (fun y hy => by
        simp_arith only [mod2, eqD_int]
        rfl)]
      simp_arith only [lenD, List.length_map, addD_int, rejK_succ]
      rw [show ((rejK t x + rjr t x : Nat) : Int) = (rejK t x : Int) + (rjr t x : Int) from Int.natCast_add ..]
      rfl)
    rw [List.nil_append, List.length_range] at e
    exact ⟨b11, b13, e⟩
  obtain ⟨b11, b13, loop⟩ := loop
  have g21 : ∃ c10 c11 c13, t21_law (eM ns (.sh (.int kk)) (.sh (.int m)) (.sh (iD t)) (.sh (.int (t.length : Int))) (.sh (iD (cnts t))) (.sh (iD t)) (.ow [.int d, .int (k : Int)]) (.sh (frD (rejK t t.length : Nat) (t.length * t.length))) a9 a10 a11 a13) =
      .nx (eM ns (.sh (.int kk)) (.sh (.int m)) (.sh (iD t)) (.sh (.int (t.length : Int))) (.sh (iD (cnts t))) (.sh (iD t)) (.ow [.int d, .int (k : Int)]) (.sh (frD (rejK t t.length : Nat) (t.length * t.length))) a9 c10 c11 c13) := by
    by_cases h33 : (t.length : Int) < 33
    · have e33 : decide ((t.length : Int) < 33) = true := decide_eq_true h33
      refine ⟨.sh (.int (rejK t t.length : Nat)), b11, b13, ?_⟩
      unfold t21_law sIf
      simp_arith only [ltD_int, e33]
      rw [seq_eq (f := t15_law) (ρ' := eM ns (.sh (.int kk)) (.sh (.int m)) (.sh (iD t)) (.sh (.int (t.length : Int))) (.sh (iD (cnts t))) (.sh (iD t)) (.ow [.int d, .int (k : Int)]) (.sh (frD (rejK t t.length : Nat) (t.length * t.length))) a9 (.sh (.int 0)) a11 a13) (by simp_arith only [t15_law]),
        seq_eq (f := t18_law) (by unfold t18_law sFor; simp_arith only [rg1_nat t.length (by omega)]; exact loop)]
      simp_arith only [t20_law, ml, emrj, eqD_frs]
    · have e33 : decide ((t.length : Int) < 33) = false := decide_eq_false h33
      refine ⟨a10, a11, a13, ?_⟩
      simp_arith only [t21_law, ltD_int, e33]
  obtain ⟨c10, c11, c13, g21⟩ := g21
  obtain ⟨od, hod, eod⟩ := odd_pick (i := m / 1048576)
  have bad := odd_tabs od hod
  have em : mulT (.lst [.int 0]) (.int 128) = .ok (.lst (List.replicate 128 [D.int 0]).flatten) := by
    show (if [D.int 0].length * (128 : Int).toNat ≤ sizeLine ∧ (128 : Int).natAbs < 1000000 then R.ok (D.lst (List.replicate (128 : Int).toNat [D.int 0]).flatten) else .no) = _
    rw [if_pos ⟨szl (by decide), by decide⟩]
    rfl
  have eod : idxD (.lst [.lst [], .lst [.int 0], .lst [.int 0, .int 1, .int 1], .lst [.int 0, .int 2], .lst (List.replicate 128 [D.int 0]).flatten, .non, .lst [.bl true, .bl false], .lst [.str "0", .str "1"], .tup [.int 0, .int 1]]) (.int ((m / 1048576).fmod 9)) = .ok od := eod
  generalize (List.replicate 128 [D.int 0]).flatten = L128 at em eod
  have e3s : mulT (.lst [.str "BadTable"]) (.int 3) = .ok (.lst [.str "BadTable", .str "BadTable", .str "BadTable"]) := by
    show (if [D.str "BadTable"].length * (3 : Int).toNat ≤ sizeLine ∧ (3 : Int).natAbs < 1000000 then R.ok (D.lst (List.replicate (3 : Int).toNat [D.str "BadTable"]).flatten) else .no) = _
    rw [if_pos ⟨szl (by decide), by decide⟩]
    rfl
  have e2 : eqD true (.lst [.int d, .int (k : Int)]) (.lst [.int d, .int (k : Int)]) = .ok (.bl (xor true ([d, (k : Int)] == [d, (k : Int)]))) := eqD_i true [d, (k : Int)] [d, (k : Int)]
  rw [beq_self_eq_true] at e2
  refine ⟨.sh (.int m), .sh (iD t), .sh (.int (t.length : Int)), .sh (iD (cnts t)), .sh (iD t), .ow [.int d, .int (k : Int)], .sh (frD (rejK t t.length : Nat) (t.length * t.length)), .sh od, c10, c11, c13, ?_⟩
  unfold b26_law
  rw [seq_eq (f := t1_law) (ρ' := eM ns (.sh (.int kk)) (.sh (.int m)) a3 a4 a5 a6 a7 a8 a9 a10 a11 a13) (by simp_arith only [t1_law, hc, hdr]),
    seq_eq (f := t2_law) (ρ' := eM ns (.sh (.int kk)) (.sh (.int m)) (.sh (iD t)) a4 a5 a6 a7 a8 a9 a10 a11 a13) (by simp_arith only [t2_law, et]),
    seq_eq (f := t3_law) (ρ' := eM ns (.sh (.int kk)) (.sh (.int m)) (.sh (iD t)) (.sh (.int (t.length : Int))) a5 a6 a7 a8 a9 a10 a11 a13) (by simp_arith only [t3_law, lenD, List.length_map]),
    seq_eq g4,
    seq_eq (f := t5_law) (ρ' := eM ns (.sh (.int kk)) (.sh (.int m)) (.sh (iD t)) (.sh (.int (t.length : Int))) (.sh (iD (cnts t))) (.sh (iD t)) a7 a8 a9 a10 a11 a13) (by simp_arith only [t5_law, lst_i]),
    seq_eq (f := t6_law) (ρ' := eM ns (.sh (.int kk)) (.sh (.int m)) (.sh (iD t)) (.sh (.int (t.length : Int))) (.sh (iD (cnts t))) (.sh (iD t)) (.ow [.int d]) a8 a9 a10 a11 a13) (by simp_arith only [t6_law, mTold, efar]),
    seq_eq (f := t7_law) (ρ' := eM ns (.sh (.int kk)) (.sh (.int m)) (.sh (iD t)) (.sh (.int (t.length : Int))) (.sh (iD (cnts t))) (.sh (iD t)) (.ow [.int d, .int (k : Int)]) a8 a9 a10 a11 a13) (by simp_arith only [t7_law, mTold, emask, szlt (n := 1) (by omega)]),
    seq_eq (f := t9_law) (ρ' := eM ns (.sh (.int kk)) (.sh (.int m)) (.sh (iD t)) (.sh (.int (t.length : Int))) (.sh (iD (cnts t))) (.sh (iD t)) (.ow [.int d, .int (k : Int)]) a8 a9 a10 a11 a13) (by simp_arith only [t9_law, hmin, mLix, asL, hlix, e2]),
    seq_eq (f := t10_law) (ρ' := eM ns (.sh (.int kk)) (.sh (.int m)) (.sh (iD t)) (.sh (.int (t.length : Int))) (.sh (iD (cnts t))) (.sh (iD t)) (.ow [.int d, .int (k : Int)]) (.sh (frD (rejK t t.length : Nat) (t.length * t.length))) a9 a10 a11 a13) (by simp_arith only [t10_law, mTold, e3]),
    seq_eq (f := t12_law) (ρ' := eM ns (.sh (.int kk)) (.sh (.int m)) (.sh (iD t)) (.sh (.int (t.length : Int))) (.sh (iD (cnts t))) (.sh (iD t)) (.ow [.int d, .int (k : Int)]) (.sh (frD (rejK t t.length : Nat) (t.length * t.length))) a9 a10 a11 a13) (by
      have it : isiD "tuple" (frD (rejK t t.length : Nat) (t.length * t.length)) = .ok (.bl true) := isi_tup _
      simp_arith only [t12_law, it, eqD_i, beq_self_eq_true, hmin, emin, els]),
    seq_eq (f := t14_law) (ρ' := eM ns (.sh (.int kk)) (.sh (.int m)) (.sh (iD t)) (.sh (.int (t.length : Int))) (.sh (iD (cnts t))) (.sh (iD t)) (.ow [.int d, .int (k : Int)]) (.sh (frD (rejK t t.length : Nat) (t.length * t.length))) a9 a10 a11 a13) (by simp_arith only [t14_law, hmin, eqD_int, eqD_fr01 false hN0, eqD_bl, ez]),
    seq_eq g21,
    seq_eq (f := t22_law) (ρ' := eM ns (.sh (.int kk)) (.sh (.int m)) (.sh (iD t)) (.sh (.int (t.length : Int))) (.sh (iD (cnts t))) (.sh (iD t)) (.ow [.int d, .int (k : Int)]) (.sh (frD (rejK t t.length : Nat) (t.length * t.length))) (.sh od) c10 c11 c13) (by simp_arith only [t22_law, em, pow20, divD_lit (j := 1048576) (by decide +kernel), modD_lit (j := 9) (by decide +kernel), eod])]
  simp_arith only [t24_law, mLc, lcGo, mTold, mCallV, look1, look2, look3, far_bad bad, mask_bad bad, threes_bad bad, mem_BadTable, gW, e3s, eq_BadTable3]
end
theorem law_true : ∀ ns, ScrOk ns → F_law [.scr ns] = .ok (.bl true) := by
  intro ns h
  show runF 17 1 m_law [.scr ns] = _
  obtain ⟨q, hq, hr⟩ := turns_n (ns := ns) (most := 3) (by omega)
  have hr : (((lenD (.scr ns)).bind fun y => min2D (.int 3) y).bind fun y => max2D (.int 1) y) = .ok (.int (q : Int)) := hr
  have key := forGo_inv (t := .one 1) (f := b26_law) (fun (i : Nat) => D.int (i : Int)) (fun dn ρ => ∃ a1 a2 a3 a4 a5 a6 a7 a8 a9 a10 a11 a13, ρ = eM ns a1 a2 a3 a4 a5 a6 a7 a8 a9 a10 a11 a13) (List.range q) [] (eM ns .no .no .no .no .no .no .no .no .no .no .no .no) ⟨_, _, _, _, _, _, _, _, _, _, _, _, rfl⟩ (fun dn x rs ρ hd hI => ?_)
  · obtain ⟨ρ', e1, a1, a2, a3, a4, a5, a6, a7, a8, a9, a10, a11, a13, rfl⟩ := key
    simp_arith only [runF, m_law, t25_law, sFor, hr, rg1_nat q (by omega), e1, t26_law]
  · obtain ⟨a1, a2, a3, a4, a5, a6, a7, a8, a9, a10, a11, a13, rfl⟩ := hI
    rw [List.nil_append] at hd
    obtain ⟨hx, hxl⟩ := range_at hd
    obtain ⟨b2, b3, b4, b5, b6, b7, b8, b9, b10, b11, b13, e⟩ := turn (a2 := a2) (a3 := a3) (a4 := a4) (a5 := a5) (a6 := a6) (a7 := a7) (a8 := a8) (a9 := a9) (a10 := a10) (a11 := a11) (a13 := a13) h (kk := (x : Int)) (by omega)
    exact ⟨eM ns (.sh (.int (x : Int))) b2 b3 b4 b5 b6 b7 b8 b9 b10 b11 b13, by simp_arith only [e], _, _, _, _, _, _, _, _, _, _, _, _, rfl⟩
end FL
set_option maxHeartbeats 0
namespace FL
open PySem PySem.Spec PyProof.Rows L2 LamX
def dd_fraction : He.DefD := ⟨("fraction", none), "fraction", "fraction", defArgs (topS 10), defBody (topS 10), defScope (topS 10), [], []⟩
def dd_need_table : He.DefD := ⟨("need_table", none), "need_table", "need_table", defArgs (topS 13), defBody (topS 13), defScope (topS 13), [], []⟩
def dd_parity : He.DefD := ⟨("parity", none), "parity", "parity", defArgs (topS 14), defBody (topS 14), defScope (topS 14), [], []⟩
def dd_unlike : He.DefD := ⟨("unlike", none), "unlike", "unlike", defArgs (topS 15), defBody (topS 15), defScope (topS 15), [], []⟩
def dd_far_sum : He.DefD := ⟨("far_sum", none), "far_sum", "far_sum", defArgs (topS 16), defBody (topS 16), defScope (topS 16), [], []⟩
def dd_mask_of : He.DefD := ⟨("mask_of", none), "mask_of", "mask_of", defArgs (topS 17), defBody (topS 17), defScope (topS 17), [], []⟩
def dd_by_threes : He.DefD := ⟨("by_threes", none), "by_threes", "by_threes", defArgs (topS 18), defBody (topS 18), defScope (topS 18), [], []⟩
def dd__law_cell : He.DefD := ⟨("_law_cell", none), "_law_cell", "_law_cell", defArgs (topS 20), defBody (topS 20), defScope (topS 20), [], []⟩
def dd__law_drawn : He.DefD := ⟨("_law_drawn", none), "_law_drawn", "_law_drawn", defArgs (topS 21), defBody (topS 21), defScope (topS 21), [], []⟩
def dd__law_word : He.DefD := ⟨("_law_word", none), "_law_word", "_law_word", defArgs (topS 22), defBody (topS 22), defScope (topS 22), [], []⟩
def dd__law_told : He.DefD := ⟨("_law_told", none), "_law_told", "_law_told", defArgs (topS 23), defBody (topS 23), defScope (topS 23), [], []⟩
def dd__law_made : He.DefD := ⟨("_law_made", none), "_law_made", "_law_made", defArgs (topS 24), defBody (topS 24), defScope (topS 24), [], []⟩
def dd__law_less : He.DefD := ⟨("_law_less", none), "_law_less", "_law_less", defArgs (topS 25), defBody (topS 25), defScope (topS 25), [], []⟩
def dd__law_digits : He.DefD := ⟨("_law_digits", none), "_law_digits", "_law_digits", defArgs (topS 26), defBody (topS 26), defScope (topS 26), [], []⟩
def dd__law_bit : He.DefD := ⟨("_law_bit", none), "_law_bit", "_law_bit", defArgs (topS 27), defBody (topS 27), defScope (topS 27), [], []⟩
def dd__law_third : He.DefD := ⟨("_law_third", none), "_law_third", "_law_third", defArgs (topS 28), defBody (topS 28), defScope (topS 28), [], []⟩
def dd__law_table : He.DefD := ⟨("_law_table", none), "_law_table", "_law_table", defArgs (topS 29), defBody (topS 29), defScope (topS 29), [], []⟩
def dd_law : He.DefD := ⟨("law", none), "law", "law", defArgs (topS 30), defBody (topS 30), defScope (topS 30), [], []⟩
def hFn : List He.DefD := [dd_fraction, dd_need_table, dd_parity, dd_unlike, dd_far_sum, dd_mask_of, dd_by_threes, dd__law_cell, dd__law_drawn, dd__law_word, dd__law_told, dd__law_made, dd__law_less, dd__law_digits, dd__law_bit, dd__law_third, dd__law_table, dd_law]
def hFa : List He.Fa := [.glo "fraction", .glo "need_table", .glo "parity", .glo "unlike", .glo "far_sum", .glo "mask_of", .glo "by_threes", .glo "_law_cell", .glo "_law_drawn", .glo "_law_word", .glo "_law_told", .glo "_law_made", .glo "_law_less", .glo "_law_digits", .glo "_law_bit", .glo "_law_third", .glo "_law_table", .glo "law", .glo "LookError", .glo "BadKind", .glo "BadWord", .glo "BadTest", .glo "BadRow", .glo "BadTable", .glo "BadWeb", .glo "NoFar", .exc "BadTable", .free "ValueError", .free "abs", .free "all", .free "bool", .free "enumerate", .free "int", .free "isinstance", .free "len", .free "list", .free "max", .free "min", .free "range", .free "sum", .free "tuple", .free "zip", .glo "SIZES"]
def hTf : List He.Defn := [("law", none)]
def hEx (K : PySem.W.Frag) : Bool := excWB csW K && (decide (hTf.map fun p => (He.cT K p).2).Nodup && tupCB K (He.ga K "SIZES") [2, 4, 8, 16, 32, 64])
abbrev hR : PySem.W.OpenRow := PySem.W.OpenLaw.row PySem.Challenge.rw_fewlooks_k60_whole_sums
abbrev hHk : PySem.W.Hook := He.hookX 4 hFa hFn [] hTf hEx
def hOb (s : PySem.W.SharedT) : He.AlX := He.obsX 4 hFa hFn [] hTf hEx (HandSHeadRun.getT s)
theorem hOb_eq (s : PySem.W.SharedT) : hOb s = hHk.obs s.abs := He.obsX_eq (HandSHeadRun.getT_eq s)
def hNm0 : List PySem.Str := ["__name__", "LookError", "BadKind", "BadWord", "BadTest", "BadRow", "BadTable", "BadWeb", "NoFar", "fraction", "SIZES", "need_table", "parity", "unlike", "far_sum", "mask_of", "by_threes", "_law_cell", "_law_drawn", "_law_word", "_law_told", "_law_made", "_law_less", "_law_digits", "_law_bit", "_law_third", "_law_table"]
def hNm : List PySem.Str := hNm0
theorem hRun (w : World) : HandSHeadRun.RunEq hR (PySem.W.view hR.prog [30]) hHk hOb 5000 hNm w := by
  intro os
  kernel_rfl
section
variable {w : World} {K : PySem.W.Frag} {mg : Str → Option Value} {h : Heap}
theorem tp_of (X : K.In h) (G : h.Ns mainGlobals mg) (c : He.SaysX hFa hFn [] hTf hEx w h K) : Tp K mg := by
  have d := c.t.d
  exact {
    f_fraction := funG_of X G d (List.mem_of_getElem? (show hFn[0]? = some _ from rfl)) (List.mem_of_getElem? (show hFa[0]? = some _ from rfl))
    f_need_table := funG_of X G d (List.mem_of_getElem? (show hFn[1]? = some _ from rfl)) (List.mem_of_getElem? (show hFa[1]? = some _ from rfl))
    f_parity := funG_of X G d (List.mem_of_getElem? (show hFn[2]? = some _ from rfl)) (List.mem_of_getElem? (show hFa[2]? = some _ from rfl))
    f_unlike := funG_of X G d (List.mem_of_getElem? (show hFn[3]? = some _ from rfl)) (List.mem_of_getElem? (show hFa[3]? = some _ from rfl))
    f_far_sum := funG_of X G d (List.mem_of_getElem? (show hFn[4]? = some _ from rfl)) (List.mem_of_getElem? (show hFa[4]? = some _ from rfl))
    f_mask_of := funG_of X G d (List.mem_of_getElem? (show hFn[5]? = some _ from rfl)) (List.mem_of_getElem? (show hFa[5]? = some _ from rfl))
    f_by_threes := funG_of X G d (List.mem_of_getElem? (show hFn[6]? = some _ from rfl)) (List.mem_of_getElem? (show hFa[6]? = some _ from rfl))
    f__law_cell := funG_of X G d (List.mem_of_getElem? (show hFn[7]? = some _ from rfl)) (List.mem_of_getElem? (show hFa[7]? = some _ from rfl))
    f__law_drawn := funG_of X G d (List.mem_of_getElem? (show hFn[8]? = some _ from rfl)) (List.mem_of_getElem? (show hFa[8]? = some _ from rfl))
    f__law_word := funG_of X G d (List.mem_of_getElem? (show hFn[9]? = some _ from rfl)) (List.mem_of_getElem? (show hFa[9]? = some _ from rfl))
    f__law_told := funG_of X G d (List.mem_of_getElem? (show hFn[10]? = some _ from rfl)) (List.mem_of_getElem? (show hFa[10]? = some _ from rfl))
    f__law_made := funG_of X G d (List.mem_of_getElem? (show hFn[11]? = some _ from rfl)) (List.mem_of_getElem? (show hFa[11]? = some _ from rfl))
    f__law_less := funG_of X G d (List.mem_of_getElem? (show hFn[12]? = some _ from rfl)) (List.mem_of_getElem? (show hFa[12]? = some _ from rfl))
    f__law_digits := funG_of X G d (List.mem_of_getElem? (show hFn[13]? = some _ from rfl)) (List.mem_of_getElem? (show hFa[13]? = some _ from rfl))
    f__law_bit := funG_of X G d (List.mem_of_getElem? (show hFn[14]? = some _ from rfl)) (List.mem_of_getElem? (show hFa[14]? = some _ from rfl))
    f__law_third := funG_of X G d (List.mem_of_getElem? (show hFn[15]? = some _ from rfl)) (List.mem_of_getElem? (show hFa[15]? = some _ from rfl))
    f__law_table := funG_of X G d (List.mem_of_getElem? (show hFn[16]? = some _ from rfl)) (List.mem_of_getElem? (show hFa[16]? = some _ from rfl))
    n_ValueError := He.free_ok X G (d.fact 27)
    n_abs := He.free_ok X G (d.fact 28)
    n_all := He.free_ok X G (d.fact 29)
    n_bool := He.free_ok X G (d.fact 30)
    n_enumerate := He.free_ok X G (d.fact 31)
    n_int := He.free_ok X G (d.fact 32)
    n_isinstance := He.free_ok X G (d.fact 33)
    n_len := He.free_ok X G (d.fact 34)
    n_list := He.free_ok X G (d.fact 35)
    n_max := He.free_ok X G (d.fact 36)
    n_min := He.free_ok X G (d.fact 37)
    n_range := He.free_ok X G (d.fact 38)
    n_sum := He.free_ok X G (d.fact 39)
    n_tuple := He.free_ok X G (d.fact 40)
    n_zip := He.free_ok X G (d.fact 41)
    e_BadTable := excF_of X G d (List.mem_of_getElem? (show hFa[23]? = some _ from rfl)) (List.mem_of_getElem? (show hFa[26]? = some _ from rfl))
    exw := excW_of (He.ba c.more).1 (fun z hz => by
        simp only [csW, List.mem_cons, List.not_mem_nil, or_false] at hz
        rcases hz with rfl | rfl | rfl | rfl | rfl | rfl | rfl
        · exact He.glo_ok X G (d.fact 19)
        · exact He.glo_ok X G (d.fact 20)
        · exact He.glo_ok X G (d.fact 21)
        · exact He.glo_ok X G (d.fact 22)
        · exact He.glo_ok X G (d.fact 23)
        · exact He.glo_ok X G (d.fact 24)
        · exact He.glo_ok X G (d.fact 25)) (He.glo_ok X G (d.fact 18))
    c_SIZES := ⟨_, He.glo_ok X G (d.fact 42), tupC_of (He.ba (He.ba c.more).2).2⟩ }
end
theorem at_law (w : World) (mg : Str → Option Value) (fa : Addr) (h : Heap) (Y : hHk.says w h) (G : h.Ns mainGlobals mg) (hm : mg "law" = some (.ref fa)) : ∃ K : PySem.W.Frag, K.In h ∧ LawAtS PySem.Challenge.rw_fewlooks_k60_whole_sums w K (L2N.CX PySem.Challenge.rw_fewlooks_k60_whole_sums.prog w) 6 63 "_law_script" mg fa h := by
  obtain ⟨K, X, c⟩ := Y
  have t := tp_of X G c
  obtain ⟨f, fd, F, hg, hc0⟩ := funC_of (x := "law") (st := s_law) X G c.t.d (List.mem_of_getElem? (show hFn[17]? = some _ from rfl)) (List.mem_of_getElem? (show hFa[17]? = some _ from rfl))
  have hg2 := hg.symm.trans hm
  cases hg2
  have nd := of_decide_eq_true (He.ba (He.ba c.more).2).1
  exact ⟨K, X, law_at (ps := hTf) (st := s_law) (F := F_law) X (fun p hp => c.hd p hp) (fun p hp => c.out p hp) (fun p hp => c.empty p hp) F bb_law law_true fun base KB NB TB => ok_law t F hc0 (lamOk_of nd (List.mem_of_getElem? (show hTf[0]? = some _ from rfl)) (TB _ (List.mem_of_getElem? (show hTf[0]? = some _ from rfl))))⟩
theorem no_exc (w : World) (H : Hp) (s : Shared) (e : Value) (s' : Shared) (x : L2N.CX PySem.Challenge.rw_fewlooks_k60_whole_sums.prog w [] H s (fun _ _ _ => False) e s') : False := by
  obtain ⟨_, _, _, _, _, _, _, _, _, _, _, _, z⟩ := x
  exact z
end FL
open PySem PySem.W PySem.Calls PyProof.Rows
theorem PySem.Challenge.cw_fewlooks_k60_whole_sums_holds : PySem.Challenge.rw_fewlooks_k60_whole_sums.Holds := by
  w_on; o_law
  refine HandSHeadRun.head_any (r := FL.hR) (q := view FL.hR.prog [30]) (H := FL.hHk) (ob := FL.hOb) (M := 5000) (loose := FL.hNm) (d := HandSHeadRun.topDef FL.hR.prog 30) (kwd := []) FL.hOb_eq
    (by kernel_rfl) (fun s => by kernel_rfl) FL.hRun (by kernel_rfl) (by kernel_rfl) (by kernel_rfl) (by rfl) (by first | assumption | decide +kernel) (by decide +kernel) ⟨rfl, rfl, rfl, rfl, rfl, by decide +kernel⟩ ?hw ?hc
  case hw => w_witness2
  case hc => exact LamX.walk_ofTsE (l := PySem.Challenge.rw_fewlooks_k60_whole_sums) (n := 63) (k := 6) (x := "_law_script") (CX := fun w => L2N.CX PySem.Challenge.rw_fewlooks_k60_whole_sums.prog w) rfl (by decide) rfl ⟨by decide, by decide, by decide⟩ FL.at_law FL.no_exc
