import PyProof.Rows.All
import Wide.All
import OpenK.AllK
import Wide.FinOn
import HandS.ForMost
import HandS.ForExc
import HandS.More
import HandS.TupAny
import HandS.Conv
import HandS.Strs
import HandS.Zip
import HandS.Star
import HandS.IsInst
import HandS.TupMul
import HandS.Wide
import HandS.WideMore
import HandS.Flow
import HandS.Deep
import HandS.Exc
import HandS.HeadHook1
import HandS.WideBits
import HandS.TupLe
import HandS.Walk
import HandS.Defaults
import HandS.HeadHook2
import HandS.SetFor
import KE.GoesEnum
import KE.GoesMore
import HandS.HeadEnd
import HandS.TryMany
import KE.SortData
import HandS.TupSets
import HandS.SortInts
import HandS.ExcIs
import HandS.ExcValue
import KE.DataFind
import KE.KStateDown
import HandS.Base
import HandS.Call
import HandS.Ends
import HandS.Words
import HandS.WordsExc
import HandS.Head0
import HandS.Head1
import HandS.Head2
import PySem.Challenge.RW_whererules_k08_what_is_a_draft
set_option Elab.async false
set_option linter.all false
set_option maxRecDepth 100000
set_option maxHeartbeats 4000000
namespace DL
open PySem PySem.Spec PyProof.Rows L2

/-! ## data by value -/
/-- a value as a tree; lists stand by their items -/
inductive D where
  | non | bl (b : Bool) | int (i : Int) | str (x : Str) | lst (xs : List D) | tup (xs : List D)
/-- what a slot or an argument holds: data, or a list of the store (one that is changed in place) -/
inductive DV where
  | dat (d : D) | obj (k : Nat) | scr (ns : List Int) | exn (c : Str) (p : Option (Str × D))
abbrev Store := List (Option (List D))
abbrev Slots := List (Option DV)
inductive Res (α : Type) where
  | ok (a : α) (S : Store) | ex (c : Str) (S : Store) | bad
def Res.bind {α β : Type} (r : Res α) (f : α → Store → Res β) : Res β := match r with
  | .ok a S => f a S
  | .ex c S => .ex c S
  | .bad => .bad
@[simp] theorem Res.bind_ok {α β : Type} (a : α) (S : Store) (f : α → Store → Res β) : (Res.ok a S).bind f = f a S := rfl
@[simp] theorem Res.bind_ex {α β : Type} (c : Str) (S : Store) (f : α → Store → Res β) : (Res.ex c S : Res α).bind f = .ex c S := rfl
@[simp] theorem Res.bind_bad {α β : Type} (f : α → Store → Res β) : (Res.bad : Res α).bind f = .bad := rfl

mutual
/-- in the frozen part F of the heap the value v is worth d -/
inductive Wd (K : PySem.W.Frag) (F : Hp) : V → D → Prop
  | non : Wd K F .non .non
  | bl (b : Bool) : Wd K F (.bl b) (.bl b)
  | int (i : Int) : Wd K F (.int i) (.int i)
  | str (x : Str) : Wd K F (.str x) (.str x)
  | lst {a : Addr} {vs : List V} {ds : List D} : F a = some (.lst vs) → WdA K F vs ds → Wd K F (.ref a) (.lst ds)
  | tup {a : Addr} {vs : List V} {ds : List D} : SqT K F a vs → WdA K F vs ds → Wd K F (.ref a) (.tup ds)
inductive WdA (K : PySem.W.Frag) (F : Hp) : List V → List D → Prop
  | nil : WdA K F [] []
  | cons {v : V} {vs : List V} {d : D} {ds : List D} : Wd K F v d → WdA K F vs ds → WdA K F (v :: vs) (d :: ds)
end
section
variable {K : PySem.W.Frag} {F F' : Hp}
theorem sameT (e : Same F F') {a : Addr} {xs : List V} (h : SqT K F a xs) : SqT K F' a xs := by
  rcases h with (h | ⟨o, h⟩) | h
  · exact .inl (.inl (e _ _ h))
  · exact .inl (.inr ⟨o, e _ _ h⟩)
  · exact .inr h
mutual
theorem Wd.mono (e : Same F F') : ∀ {d : D} {v : V}, Wd K F v d → Wd K F' v d
  | .non, _, h => by cases h; exact .non
  | .bl _, _, h => by cases h; exact .bl _
  | .int _, _, h => by cases h; exact .int _
  | .str _, _, h => by cases h; exact .str _
  | .lst ds, _, h => by
    cases h with
    | lst s a => exact .lst (e _ _ s) (WdA.mono e a)
  | .tup ds, _, h => by
    cases h with
    | tup s a => exact .tup (sameT e s) (WdA.mono e a)
theorem WdA.mono (e : Same F F') : ∀ {ds : List D} {vs : List V}, WdA K F vs ds → WdA K F' vs ds
  | [], _, h => by cases h; exact .nil
  | d :: ds, _, h => by
    cases h with
    | cons a b => exact .cons (Wd.mono e a) (WdA.mono e b)
end
theorem WdA.length : ∀ {ds : List D} {vs : List V}, WdA K F vs ds → vs.length = ds.length
  | [], _, h => by cases h; rfl
  | d :: ds, _, h => by
    cases h with
    | cons a b => simp [WdA.length b]
theorem WdA.get : ∀ {ds : List D} {vs : List V} {i : Nat} {v : V}, WdA K F vs ds → vs[i]? = some v → ∃ d, ds[i]? = some d ∧ Wd K F v d
  | [], _, i, v, h, e => by cases h; simp at e
  | d :: ds, _, 0, v, h, e => by
    cases h with
    | cons a b => simp at e; subst e; exact ⟨d, rfl, a⟩
  | d :: ds, _, i + 1, v, h, e => by
    cases h with
    | cons a b => simp at e; obtain ⟨q, h1, h2⟩ := WdA.get b e; exact ⟨q, by simpa using h1, h2⟩
theorem WdA.get' : ∀ {ds : List D} {vs : List V} {i : Nat} {d : D}, WdA K F vs ds → ds[i]? = some d → ∃ v, vs[i]? = some v ∧ Wd K F v d
  | [], _, i, v, h, e => by simp at e
  | d :: ds, _, 0, v, h, e => by
    cases h with
    | cons a b => simp at e; subst e; exact ⟨_, rfl, a⟩
  | d :: ds, _, i + 1, v, h, e => by
    cases h with
    | cons a b => simp at e; obtain ⟨q, h1, h2⟩ := WdA.get' b e; exact ⟨q, by simpa using h1, h2⟩
theorem WdA.append : ∀ {ds es : List D} {vs us : List V}, WdA K F vs ds → WdA K F us es → WdA K F (vs ++ us) (ds ++ es)
  | [], _, _, _, h, g => by cases h; exact g
  | d :: ds, _, _, _, h, g => by
    cases h with
    | cons a b => exact .cons a (WdA.append b g)
theorem WdA.take : ∀ {ds : List D} {vs : List V} (n : Nat), WdA K F vs ds → WdA K F (vs.take n) (ds.take n)
  | _, _, 0, _ => by simp; exact .nil
  | [], _, n + 1, h => by cases h; exact .nil
  | d :: ds, _, n + 1, h => by
    cases h with
    | cons a b => exact .cons a (WdA.take n b)
theorem WdA.drop : ∀ {ds : List D} {vs : List V} (n : Nat), WdA K F vs ds → WdA K F (vs.drop n) (ds.drop n)
  | _, _, 0, h => by simpa using h
  | [], _, n + 1, h => by cases h; exact .nil
  | d :: ds, _, n + 1, h => by
    cases h with
    | cons a b => simpa using WdA.drop n b
theorem WdA.set : ∀ {ds : List D} {vs : List V} (n : Nat) {v : V} {d : D}, WdA K F vs ds → Wd K F v d → WdA K F (vs.set n v) (ds.set n d)
  | [], _, _, _, _, h, _ => by cases h; exact .nil
  | d :: ds, _, 0, _, _, h, g => by
    cases h with
    | cons a b => exact .cons g b
  | d :: ds, _, n + 1, _, _, h, g => by
    cases h with
    | cons a b => exact .cons a (WdA.set n b g)
end

/-! ## how a state of the layer L2 is worth slots and a store -/
/-- an exception of the class of that name, with the dict d: what its object is -/
def ExK (K : PySem.W.Frag) (c : Str) (d : Option Addr) (a : Addr) : HO := .ext fun h => ∃ (oe : Obj) (vs : Array Value), h.get? a = some oe ∧ Zc (.ref (He.ga K c)) d oe ∧ oe.data = .fields vs
/-- .. with one thing of its own, or none -/
def WExn (K : PySem.W.Frag) (F : Hp) (a : Addr) (c : Str) : Option (Str × D) → Prop
  | none => F a = some (ExK K c none a)
  | some (f, y) => ∃ (dx : Addr) (v : V), F a = some (ExK K c (some dx) a) ∧ F dx = some (.xd [(f, v)]) ∧ Wd K F v y
theorem WExn.mono {K : PySem.W.Frag} {F F' : Hp} {a : Addr} {c : Str} {p : Option (Str × D)} (sm : Same F F') (h : WExn K F a c p) : WExn K F' a c p := by
  cases p with
  | none => exact sm _ _ h
  | some q =>
    obtain ⟨f, y⟩ := q
    obtain ⟨dx, v, h1, h2, h3⟩ := h
    exact ⟨dx, v, sm _ _ h1, sm _ _ h2, h3.mono sm⟩
def WV (K : PySem.W.Frag) (ι : List Addr) (F : Hp) (v : V) : DV → Prop
  | .dat d => Wd K F v d
  | .obj k => ∃ a, ι[k]? = some a ∧ v = .ref a
  | .scr ns => ∃ a, v = .ref a ∧ SqL K F a (ns.map V.int)
  | .exn c p => ∃ a, v = .ref a ∧ WExn K F a c p
inductive WVs (K : PySem.W.Frag) (ι : List Addr) (F : Hp) : List V → List DV → Prop
  | nil : WVs K ι F [] []
  | cons {v : V} {vs : List V} {d : DV} {ds : List DV} : WV K ι F v d → WVs K ι F vs ds → WVs K ι F (v :: vs) (d :: ds)
structure StR (K : PySem.W.Frag) (ι : List Addr) (F : Hp) (S : Store) (H : Hp) : Prop where
  sub : Same F H
  len : ι.length = S.length
  nd : ι.Nodup
  full : ∀ b ∈ ι, H b ≠ none
  cell : ∀ (k : Nat) (ds : List D), S[k]? = some (some ds) → ∃ a vs, ι[k]? = some a ∧ H a = some (.lst vs) ∧ F a = none ∧ WdA K F vs ds
structure RR (K : PySem.W.Frag) (ι : List Addr) (F : Hp) (ρ : Slots) (S : Store) (σ : L2.St) (H : Hp) : Prop where
  st : StR K ι F S H
  len : ρ.length = σ.length
  slot : ∀ (i : Nat) (dv : DV), ρ[i]? = some (some dv) → ∃ v, σ[i]? = some (some v) ∧ WV K ι F v dv
/-- what may have become of a state -/
structure Grow (ι : List Addr) (F H : Hp) (ι' : List Addr) (F' H' : Hp) : Prop where
  pre : ι <+: ι'
  sf : Same F F'
  keep : ∀ b o, H b = some o → b ∉ ι → H' b = some o
  new : ∀ b o, H b = some o → F b = none → b ∉ ι → F' b = none
  nio : ∀ b ∈ ι', b ∈ ι ∨ H b = none
  dom : ∀ b, H' b = none → H b = none
theorem Grow.refl {ι : List Addr} {F H : Hp} : Grow ι F H ι F H := ⟨List.prefix_rfl, Same.refl _, fun _ _ h _ => h, fun _ _ _ h _ => h, fun _ h => .inl h, fun _ h => h⟩
theorem upd_none {H : Hp} {p b : Addr} {o : HO} (h : upd H p o b = none) : H b = none := by
  by_cases e : b = p
  · subst e; rw [upd_same] at h; cases h
  · rw [upd_ne e] at h; exact h
theorem upd_full {H : Hp} {p b : Addr} {o : HO} (h : H b ≠ none) : upd H p o b ≠ none := fun z => h (upd_none z)
theorem Grow.trans {ι ι1 ι2 : List Addr} {F F1 F2 H H1 H2 : Hp} (a : Grow ι F H ι1 F1 H1) (b : Grow ι1 F1 H1 ι2 F2 H2) : Grow ι F H ι2 F2 H2 := by
  have out : ∀ c o, H c = some o → c ∉ ι → c ∉ ι1 := fun c o h n m => by
    rcases a.nio c m with q | q
    · exact n q
    · rw [h] at q; cases q
  refine ⟨a.pre.trans b.pre, a.sf.trans b.sf, fun c o h n => b.keep c o (a.keep c o h n) (out c o h n), fun c o h f n => b.new c o (a.keep c o h n) (a.new c o h f n) (out c o h n), fun c m => ?_, fun c h => a.dom c (b.dom c h)⟩
  rcases b.nio c m with q | q
  · exact a.nio c q
  · by_cases n : c ∈ ι
    · exact .inl n
    · cases e : H c with
      | none => exact .inr rfl
      | some o => rw [a.keep c o e n] at q; cases q
theorem WV.grow {K : PySem.W.Frag} {ι ι' : List Addr} {F F' H H' : Hp} (g : Grow ι F H ι' F' H') {v : V} {dv : DV} (h : WV K ι F v dv) : WV K ι' F' v dv := by
  cases dv with
  | dat d => exact Wd.mono g.sf h
  | obj k =>
    obtain ⟨a, h1, h2⟩ := h
    refine ⟨a, ?_, h2⟩
    obtain ⟨t, rfl⟩ := g.pre
    rw [List.getElem?_append_left (List.getElem?_eq_some_iff.mp h1).1]; exact h1
  | scr ns =>
    obtain ⟨a, h1, h2⟩ := h
    exact ⟨a, h1, g.sf.seq h2⟩
  | exn c p =>
    obtain ⟨a, h1, h2⟩ := h
    exact ⟨a, h1, h2.mono g.sf⟩
theorem WVs.grow {K : PySem.W.Frag} {ι ι' : List Addr} {F F' H H' : Hp} (g : Grow ι F H ι' F' H') {vs : List V} {ds : List DV} (h : WVs K ι F vs ds) : WVs K ι' F' vs ds := by
  induction h with
  | nil => exact .nil
  | cons a _ ih => exact .cons (a.grow g) ih
theorem WVs.length {K : PySem.W.Frag} {ι : List Addr} {F : Hp} {vs : List V} {ds : List DV} (h : WVs K ι F vs ds) : vs.length = ds.length := by
  induction h with
  | nil => rfl
  | cons _ _ ih => simp [ih]
/-- a new object, frozen -/
theorem StR.push {K : PySem.W.Frag} {ι : List Addr} {F H : Hp} {S : Store} (r : StR K ι F S H) {p : Addr} (hp : H p = none) (o : HO) : StR K ι (upd F p o) S (upd H p o) := by
  refine ⟨fun b u e => ?_, r.len, r.nd, fun b hb => upd_full (r.full b hb), fun k ds e => ?_⟩
  · by_cases h : b = p
    · subst h; rw [upd_same] at e ⊢; exact e
    · rw [upd_ne h] at e ⊢; exact r.sub b u e
  · obtain ⟨a, vs, h1, h2, h3, h4⟩ := r.cell k ds e
    have n : a ≠ p := fun z => by rw [z, hp] at h2; cases h2
    refine ⟨a, vs, h1, by rw [upd_ne n]; exact h2, by rw [upd_ne n]; exact h3, WdA.mono (fun b u e => ?_) h4⟩
    rw [upd_ne (fun z => by rw [z] at e; rw [r.sub p u e] at hp; cases hp)]; exact e
theorem same_push {F H : Hp} (s : Same F H) {p : Addr} (hp : H p = none) (o : HO) : Same F (upd F p o) := fun b u e => by
  rw [upd_ne (fun z => by rw [z] at e; rw [s p u e] at hp; cases hp)]; exact e
theorem grow_push {ι : List Addr} {F H : Hp} (s : Same F H) {p : Addr} (hp : H p = none) (o : HO) : Grow ι F H ι (upd F p o) (upd H p o) := by
  have n : ∀ b u, H b = some u → b ≠ p := fun b u e z => by rw [z, hp] at e; cases e
  exact ⟨List.prefix_rfl, same_push s hp o, fun b u e _ => by rw [upd_ne (n b u e)]; exact e, fun b u e f _ => by rw [upd_ne (n b u e)]; exact f, fun b h => .inl h, fun b h => upd_none h⟩
/-- a new object, in the heap alone -/
theorem grow_alone {ι : List Addr} {F H : Hp} {p : Addr} (hp : H p = none) (o : HO) : Grow ι F H ι F (upd H p o) := by
  have n : ∀ b u, H b = some u → b ≠ p := fun b u e z => by rw [z, hp] at e; cases e
  exact ⟨List.prefix_rfl, Same.refl _, fun b u e _ => by rw [upd_ne (n b u e)]; exact e, fun b u e f _ => f, fun b h => .inl h, fun b h => upd_none h⟩
theorem StR.alone {K : PySem.W.Frag} {ι : List Addr} {F H : Hp} {S : Store} (r : StR K ι F S H) {p : Addr} (hp : H p = none) (o : HO) : StR K ι F S (upd H p o) := by
  have n : ∀ b u, H b = some u → b ≠ p := fun b u e z => by rw [z, hp] at e; cases e
  exact ⟨fun b u e => by rw [upd_ne (n b u (r.sub b u e))]; exact r.sub b u e, r.len, r.nd, fun b hb => upd_full (r.full b hb), fun k ds e =>
    let ⟨a, vs, h1, h2, h3, h4⟩ := r.cell k ds e
    ⟨a, vs, h1, by rw [upd_ne (n a _ h2)]; exact h2, h3, h4⟩⟩
theorem RR.slots {K : PySem.W.Frag} {ι ι' : List Addr} {F F' H H' : Hp} {ρ : Slots} {S S' : Store} {σ : L2.St} (r : RR K ι F ρ S σ H) (g : Grow ι F H ι' F' H') (st : StR K ι' F' S' H') : RR K ι' F' ρ S' σ H' :=
  ⟨st, r.len, fun i dv e => let ⟨v, h1, h2⟩ := r.slot i dv e; ⟨v, h1, h2.grow g⟩⟩
theorem RR.push {K : PySem.W.Frag} {ι : List Addr} {F H : Hp} {ρ : Slots} {S : Store} {σ : L2.St} (r : RR K ι F ρ S σ H) {p : Addr} (hp : H p = none) (o : HO) : RR K ι (upd F p o) ρ S σ (upd H p o) :=
  r.slots (grow_push r.st.sub hp o) (r.st.push hp o)
end DL

set_option maxHeartbeats 4000000
namespace DL
open PySem PySem.Spec PyProof.Rows L2

/-! ## judgements -/
abbrev XFn := Slots → Store → Res DV
abbrev TFn := Slots → Store → Res Bool
abbrev AFn := Slots → Store → Res (List DV)
def Post {α : Type} (K : PySem.W.Frag) (mg : Str → Option Value) (E : XK) (ι : List Addr) (F H : Hp) (r : Res α) (Q : α → List Addr → Hp → Hp → Prop) : Prop :=
  match r with
  | .ok a S' => ∀ ι' F' H', Grow ι F H ι' F' H' → StR K ι' F' S' H' → Q a ι' F' H'
  | .ex c S' => ∀ C ι' F' H', Grow ι F H ι' F' H' → StR K ι' F' S' H' → mg c = some (.ref C) → E (.ref C) none H'
  | .bad => False
section
variable {α β : Type} {K : PySem.W.Frag} {mg : Str → Option Value} {E : XK} {ι : List Addr} {F H : Hp}
theorem Post.mono {r : Res α} {Q Q' : α → List Addr → Hp → Hp → Prop} (h : Post K mg E ι F H r Q) (k : ∀ a ι' F' H', Grow ι F H ι' F' H' → Q a ι' F' H' → Q' a ι' F' H') : Post K mg E ι F H r Q' := by
  cases r with
  | ok a S' => exact fun ι' F' H' g st => k a ι' F' H' g (h ι' F' H' g st)
  | ex c S' => exact h
  | bad => exact h
theorem Post.grow {r : Res α} {ι1 : List Addr} {F1 H1 : Hp} {Q : α → List Addr → Hp → Hp → Prop} (h : Post K mg E ι F H r Q) (g : Grow ι F H ι1 F1 H1) : Post K mg E ι1 F1 H1 r Q := by
  cases r with
  | ok a S' => exact fun ι' F' H' g' st => h ι' F' H' (g.trans g') st
  | ex c S' => exact fun C ι' F' H' g' st m => h C ι' F' H' (g.trans g') st m
  | bad => exact h
end
/-- the reading of an expression that is worth f -/
def tD (X : Cx) (W : WX) (f : XFn) : TE := fun σ H Q => ∃ ι F ρ S, RR X.K ι F ρ S σ H ∧ Post X.K X.mg (fun c d H' => W c d σ H') ι F H (f ρ S) fun dv ι' F' H' => ∀ v, WV X.K ι' F' v dv → Q v H'
def tT (X : Cx) (W : WX) (f : TFn) : TT := fun σ H Q => ∃ ι F ρ S, RR X.K ι F ρ S σ H ∧ Post X.K X.mg (fun c d H' => W c d σ H') ι F H (f ρ S) fun b ι' F' H' => Q b H'
def tA (X : Cx) (W : WX) (f : AFn) : TA := fun σ H Q => ∃ ι F ρ S, RR X.K ι F ρ S σ H ∧ Post X.K X.mg (fun c d H' => W c d σ H') ι F H (f ρ S) fun ds ι' F' H' => ∀ vs, WVs X.K ι' F' vs ds → Q vs H'
structure DE (X : Cx) (W : WX) (e : Expr) (f : XFn) : Prop where
  pe : PE X e (tD X W f)
structure DT (X : Cx) (W : WX) (e : Expr) (f : TFn) : Prop where
  pt : PT X e (tT X W f)
structure DW (X : Cx) (W : WX) (e : Expr) (f : TFn) : Prop where
  pw : PW X e (tT X W f)
structure DA (X : Cx) (W : WX) (es : List Expr) (f : AFn) : Prop where
  pa : PA X es (tA X W f)
section
variable {X : Cx} {W : WX} {e a b c : Expr} {es : List Expr} {pos p : Pos}
theorem PE.weak {te te' : TE} (h : PE X e te) (k : ∀ σ H Q, te' σ H Q → te σ H Q) : PE X e te' := ⟨fun pins s σ H Q I q => h.run pins s σ H Q I (k σ H Q q)⟩
theorem PT.weak {te te' : TT} (h : PT X e te) (k : ∀ σ H Q, te' σ H Q → te σ H Q) : PT X e te' := ⟨fun pins s σ H Q I q => h.run pins s σ H Q I (k σ H Q q)⟩
theorem PW.weak {te te' : TT} (h : PW X e te) (k : ∀ σ H Q, te' σ H Q → te σ H Q) : PW X e te' := ⟨fun whole pins s σ H Q I q => h.run whole pins s σ H Q I (k σ H Q q)⟩
theorem PA.weak {te te' : TA} (h : PA X es te) (k : ∀ σ H Q, te' σ H Q → te σ H Q) : PA X es te' := ⟨fun pos pins s σ H Q I q => h.run pos pins s σ H Q I (k σ H Q q)⟩

/-- one expression, then more -/
theorem tD.bind {α : Type} {f : XFn} {g : Slots → DV → Store → Res α} {σ : L2.St} {H : Hp} {R : VK} {Q : α → List Addr → Hp → Hp → Prop} {ι : List Addr} {F : Hp} {ρ : Slots} {S : Store} (r : RR X.K ι F ρ S σ H)
    (h : Post X.K X.mg (fun c d H' => W c d σ H') ι F H ((f ρ S).bind (g ρ)) Q)
    (k : ∀ v dv ι1 F1 S1 H1, RR X.K ι1 F1 ρ S1 σ H1 → WV X.K ι1 F1 v dv → Grow ι F H ι1 F1 H1 → Post X.K X.mg (fun c d H' => W c d σ H') ι1 F1 H1 (g ρ dv S1) Q → R v H1) : tD X W f σ H R := by
  refine ⟨ι, F, ρ, S, r, ?_⟩
  cases q : f ρ S with
  | ok dv S1 =>
    rw [q] at h
    exact fun ι1 F1 H1 g1 st v wv => k v dv ι1 F1 S1 H1 (r.slots g1 st) wv g1 (Post.grow (r := g ρ dv S1) h g1)
  | ex c S1 => rw [q] at h; exact h
  | bad => rw [q] at h; exact h
theorem tT.bind {α : Type} {f : TFn} {g : Slots → Bool → Store → Res α} {σ : L2.St} {H : Hp} {R : Bool → Hp → Prop} {Q : α → List Addr → Hp → Hp → Prop} {ι : List Addr} {F : Hp} {ρ : Slots} {S : Store} (r : RR X.K ι F ρ S σ H)
    (h : Post X.K X.mg (fun c d H' => W c d σ H') ι F H ((f ρ S).bind (g ρ)) Q)
    (k : ∀ b ι1 F1 S1 H1, RR X.K ι1 F1 ρ S1 σ H1 → Grow ι F H ι1 F1 H1 → Post X.K X.mg (fun c d H' => W c d σ H') ι1 F1 H1 (g ρ b S1) Q → R b H1) : tT X W f σ H R := by
  refine ⟨ι, F, ρ, S, r, ?_⟩
  cases q : f ρ S with
  | ok b S1 =>
    rw [q] at h
    exact fun ι1 F1 H1 g1 st => k b ι1 F1 S1 H1 (r.slots g1 st) g1 (Post.grow (r := g ρ b S1) h g1)
  | ex c S1 => rw [q] at h; exact h
  | bad => rw [q] at h; exact h
theorem tA.bind {α : Type} {f : AFn} {g : Slots → List DV → Store → Res α} {σ : L2.St} {H : Hp} {R : List V → Hp → Prop} {Q : α → List Addr → Hp → Hp → Prop} {ι : List Addr} {F : Hp} {ρ : Slots} {S : Store} (r : RR X.K ι F ρ S σ H)
    (h : Post X.K X.mg (fun c d H' => W c d σ H') ι F H ((f ρ S).bind (g ρ)) Q)
    (k : ∀ vs ds ι1 F1 S1 H1, RR X.K ι1 F1 ρ S1 σ H1 → WVs X.K ι1 F1 vs ds → Grow ι F H ι1 F1 H1 → Post X.K X.mg (fun c d H' => W c d σ H') ι1 F1 H1 (g ρ ds S1) Q → R vs H1) : tA X W f σ H R := by
  refine ⟨ι, F, ρ, S, r, ?_⟩
  cases q : f ρ S with
  | ok ds S1 =>
    rw [q] at h
    exact fun ι1 F1 H1 g1 st vs wv => k vs ds ι1 F1 S1 H1 (r.slots g1 st) wv g1 (Post.grow (r := g ρ ds S1) h g1)
  | ex c S1 => rw [q] at h; exact h
  | bad => rw [q] at h; exact h

/-! ## names, constants -/
def xVar (i : Nat) : XFn := fun ρ S => match ρ[i]? with
  | some (some dv) => .ok dv S
  | _ => .bad
def xC (d : D) : XFn := fun _ S => .ok (.dat d) S
theorem de_var {i : Nat} {x : Str} (hN : X.N[i]? = some x := by rfl) (hv : Vis X.env.scope x := by first | exact .inl rfl | exact .inr (.inl rfl) | exact .inr (.inr rfl)) (hd : (x == ("__debug__" : Str)) = false := by decide) (hcd : (x == ("__classdict__" : Str)) = false := by decide) : DE X W (.Name x pos) (xVar i) := by
  refine ⟨PE.weak (pe_var hN hv hd hcd) fun σ H Q ⟨ι, F, ρ, S, r, h⟩ => ?_⟩
  unfold xVar at h
  cases q : ρ[i]? with
  | none => rw [q] at h; exact h.elim
  | some o =>
    cases o with
    | none => rw [q] at h; exact h.elim
    | some dv =>
      rw [q] at h
      obtain ⟨v, h1, h2⟩ := r.slot i dv q
      exact ⟨v, h1, h ι F H .refl r.st v h2⟩
theorem de_const {d : D} {v : V} (h : PE X e (tC v)) (w : ∀ K F, Wd K F v d) : DE X W e (xC d) :=
  ⟨PE.weak h fun σ H Q ⟨ι, F, ρ, S, r, h⟩ => h ι F H .refl r.st v (w _ _)⟩
theorem de_int {i : Int} {j : Nat} : DE X W (.Constant (.int i) j pos) (xC (.int i)) := de_const pe_int fun _ _ => .int i
theorem de_bl {i : Bool} {j : Nat} : DE X W (.Constant (.bool i) j pos) (xC (.bl i)) := de_const pe_bl fun _ _ => .bl i
theorem de_non {j : Nat} : DE X W (.Constant .none j pos) (xC .non) := de_const pe_non fun _ _ => .non
theorem de_str {i : Str} {j : Nat} : DE X W (.Constant (.str i) j pos) (xC (.str i)) := de_const pe_str fun _ _ => .str i
/-- an int of the module's own top -/
theorem de_globInt {x : Str} {i : Int} (hg : Gl X x) (hm : ∃ t, X.mg x = some (.int i t)) (hd : (x == ("__debug__" : Str)) = false := by decide) : DE X W (.Name x pos) (xC (.int i)) := by
  obtain ⟨t, hm⟩ := hm
  exact de_const (v := .int i) (pe_glob hg hm ⟨_, rfl⟩ hd) fun _ _ => .int i

/-! ## argument lists -/
def aNil : AFn := fun _ S => .ok [] S
def aCons (f : XFn) (g : AFn) : AFn := fun ρ S => (f ρ S).bind fun d S1 => (g ρ S1).bind fun ds S2 => .ok (d :: ds) S2
theorem da_nil : DA X W [] aNil := ⟨PA.weak pa_nil fun σ H Q ⟨ι, F, ρ, S, r, h⟩ => h ι F H .refl r.st [] .nil⟩
theorem da_cons {f : XFn} {g : AFn} (he : DE X W e f) (hs : DA X W es g) (hse : starEach (e :: es) X.env = (false, eval e X.env) :: starEach es X.env := by rfl) : DA X W (e :: es) (aCons f g) := by
  refine ⟨PA.weak (pa_cons he.pe hs.pa hse) fun σ H Q ⟨ι, F, ρ, S, r, h⟩ => ?_⟩
  refine tD.bind (g := fun ρ d S1 => (g ρ S1).bind fun ds S2 => .ok (d :: ds) S2) r h fun v dv ι1 F1 S1 H1 r1 w1 g1 h1 => ?_
  refine tA.bind (g := fun ρ ds S2 => .ok (dv :: ds) S2) r1 h1 fun vs ds ι2 F2 S2 H2 r2 w2 g2 h2 => ?_
  exact h2 ι2 F2 H2 .refl r2.st (v :: vs) (.cons (w1.grow g2) w2)

/-! ## reading data -/
def rd (S : Store) : DV → Option D
  | .dat d => some d
  | .obj k => match S[k]? with
    | some (some xs) => some (.lst xs)
    | _ => none
  | .scr _ => none
  | .exn _ _ => none
/-- v is worth d; its items, if it has some, are frozen -/
inductive Vw (K : PySem.W.Frag) (F H : Hp) : V → D → Prop
  | non : Vw K F H .non .non
  | bl (b : Bool) : Vw K F H (.bl b) (.bl b)
  | int (i : Int) : Vw K F H (.int i) (.int i)
  | str (x : Str) : Vw K F H (.str x) (.str x)
  | lst {a : Addr} {vs : List V} {ds : List D} : H a = some (.lst vs) → WdA K F vs ds → Vw K F H (.ref a) (.lst ds)
  | tup {a : Addr} {vs : List V} {ds : List D} : SqT K F a vs → WdA K F vs ds → Vw K F H (.ref a) (.tup ds)
theorem Wd.vw {K : PySem.W.Frag} {F H : Hp} (s : Same F H) {v : V} {d : D} (h : Wd K F v d) : Vw K F H v d := by
  cases h with
  | non => exact .non
  | bl b => exact .bl b
  | int b => exact .int b
  | str b => exact .str b
  | lst q w => exact .lst (s _ _ q) w
  | tup q w => exact .tup q w
theorem Vw.wd {K : PySem.W.Frag} {F H : Hp} (s : Same F H) {v : V} {d : D} (h : Vw K F H v d) : Wd K H v d := by
  cases h with
  | non => exact .non
  | bl b => exact .bl b
  | int b => exact .int b
  | str b => exact .str b
  | lst q w => exact .lst q (w.mono s)
  | tup q w => exact .tup (sameT s q) (w.mono s)
theorem StR.vw {K : PySem.W.Frag} {ι : List Addr} {F H : Hp} {S : Store} (st : StR K ι F S H) {v : V} {dv : DV} {d : D} (w : WV K ι F v dv) (e : rd S dv = some d) : Vw K F H v d := by
  cases dv with
  | dat d' => cases e; exact Wd.vw st.sub w
  | obj k =>
    obtain ⟨a, h1, h2⟩ := w
    simp only [rd] at e
    cases q : S[k]? with
    | none => simp [q] at e
    | some o =>
      cases o with
      | none => simp [q] at e
      | some xs =>
        simp [q] at e
        subst e
        obtain ⟨a', vs, h3, h4, h5, h6⟩ := st.cell k xs q
        rw [h1] at h3
        cases h3
        subst h2
        exact .lst h4 h6
  | scr ns => cases e
  | exn c p => cases e

/-! ## tuples, lists -/
def dats : List DV → Option (List D)
  | [] => some []
  | .dat d :: r => (dats r).map (d :: ·)
  | _ :: _ => none
theorem WVs.dats {K : PySem.W.Frag} {ι : List Addr} {F : Hp} {vs : List V} {ds : List DV} (h : WVs K ι F vs ds) : ∀ {xs : List D}, DL.dats ds = some xs → WdA K F vs xs := by
  induction h with
  | nil => intro xs e; cases e; exact .nil
  | @cons v vs d ds a _ ih =>
    intro xs e
    cases d with
    | obj k => cases e
    | scr ns => cases e
    | exn c p => cases e
    | dat d =>
      unfold DL.dats at e
      cases q : DL.dats ds with
      | none => rw [q] at e; cases e
      | some ys => rw [q] at e; cases e; exact .cons a (ih q)
def mkTup (ds : List DV) (S : Store) : Res DV := match dats ds with
  | some xs => if xs.length ≤ sizeLine then .ok (.dat (.tup xs)) S else .bad
  | none => .bad
def mkLst (ds : List DV) (S : Store) : Res DV := match dats ds with
  | some xs => if xs.length ≤ sizeLine then .ok (.dat (.lst xs)) S else .bad
  | none => .bad
def xTup (f : AFn) : XFn := fun ρ S => (f ρ S).bind mkTup
def xLst (f : AFn) : XFn := fun ρ S => (f ρ S).bind mkLst
theorem de_tup {f : AFn} {k : Nat} (h : DA X W es f) : DE X W (.Tuple es k pos) (xTup f) := by
  refine ⟨PE.weak (pe_tup h.pa) fun σ H Q ⟨ι, F, ρ, S, r, h⟩ => ?_⟩
  refine tA.bind (g := fun _ => mkTup) r h fun vs ds ι1 F1 S1 H1 r1 w1 g1 h1 => ?_
  unfold mkTup at h1
  cases q : dats ds with
  | none => rw [q] at h1; exact h1.elim
  | some xs =>
    rw [q] at h1
    have wx := w1.dats q
    by_cases hl : xs.length ≤ sizeLine
    · simp only [hl, if_true] at h1
      refine ⟨by rw [wx.length]; exact hl, fun p hp => ?_⟩
      exact h1 ι1 _ _ (grow_push r1.st.sub hp _) (r1.st.push hp _) _ (.tup (.of upd_same) (wx.mono (same_push r1.st.sub hp _)))
    · simp only [hl, if_false] at h1; exact h1.elim
theorem de_lst {f : AFn} (h : DA X W es f) : DE X W (.List es pos) (xLst f) := by
  refine ⟨PE.weak (pe_lst h.pa) fun σ H Q ⟨ι, F, ρ, S, r, h⟩ => ?_⟩
  refine tA.bind (g := fun _ => mkLst) r h fun vs ds ι1 F1 S1 H1 r1 w1 g1 h1 => ?_
  unfold mkLst at h1
  cases q : dats ds with
  | none => rw [q] at h1; exact h1.elim
  | some xs =>
    rw [q] at h1
    have wx := w1.dats q
    by_cases hl : xs.length ≤ sizeLine
    · simp only [hl, if_true] at h1
      refine ⟨by rw [wx.length]; exact hl, fun p hp => ?_⟩
      exact h1 ι1 _ _ (grow_push r1.st.sub hp _) (r1.st.push hp _) _ (.lst upd_same (wx.mono (same_push r1.st.sub hp _)))
    · simp only [hl, if_false] at h1; exact h1.elim
end
end DL

set_option maxHeartbeats 4000000
namespace DL
open PySem PySem.Spec PyProof.Rows L2

/-! ## operators on data -/
abbrev Op2 := DV → DV → Store → Res DV
def res1 (o : Option D) (S : Store) : Res DV := match o with
  | some c => .ok (.dat c) S
  | none => .bad
def o2 (f : D → D → Option D) : Op2 := fun x y S => match rd S x, rd S y with
  | some a, some b => res1 (f a b) S
  | _, _ => .bad
def x2 (o : Op2) (f g : XFn) : XFn := fun ρ S => (f ρ S).bind fun x S1 => (g ρ S1).bind fun y S2 => o x y S2
/-- a result that is frozen at once -/
def Ret (K : PySem.W.Frag) (ι : List Addr) (F H : Hp) (S : Store) (c : D) (Q : VK) : Prop :=
  ∀ z F' H', Grow ι F H ι F' H' → StR K ι F' S H' → Wd K F' z c → Q z H'
def OpOk (K : PySem.W.Frag) (r : R2) (o : Op2) : Prop := ∀ (mg : Str → Option Value) (E : XK) (ι : List Addr) (F H : Hp) (S : Store) (v u : V) (x y : DV) (Q : VK), StR K ι F S H → WV K ι F v x → WV K ι F u y →
  Post K mg E ι F H (o x y S) (fun dv ι' F' H' => ∀ z, WV K ι' F' z dv → Q z H') → r v u H Q
section
variable {X : Cx} {W : WX} {e a b c : Expr} {es : List Expr} {pos p : Pos} {K : PySem.W.Frag} {ι : List Addr} {F H : Hp} {S : Store}
theorem Ret.same {c : D} {Q : VK} (h : Ret K ι F H S c Q) (st : StR K ι F S H) {z : V} (w : Wd K F z c) : Q z H := h z F H .refl st w
theorem Ret.tup {ds : List D} {vs : List V} {Q : VK} (h : Ret K ι F H S (.tup ds) Q) (st : StR K ι F S H) (w : WdA K F vs ds) {p : Addr} (hp : H p = none) : Q (.ref p) (upd H p (.tup vs)) :=
  h _ _ _ (grow_push st.sub hp _) (st.push hp _) (.tup (.of upd_same) (w.mono (same_push st.sub hp _)))
theorem Ret.lst {ds : List D} {vs : List V} {Q : VK} (h : Ret K ι F H S (.lst ds) Q) (st : StR K ι F S H) (w : WdA K F vs ds) {p : Addr} (hp : H p = none) : Q (.ref p) (upd H p (.lst vs)) :=
  h _ _ _ (grow_push st.sub hp _) (st.push hp _) (.lst upd_same (w.mono (same_push st.sub hp _)))
theorem o2_ok {r : R2} {f : D → D → Option D} (h : ∀ (ι : List Addr) (F H : Hp) (S : Store) (v u : V) (a b c : D) (Q : VK), StR K ι F S H → Vw K F H v a → Vw K F H u b → f a b = some c → Ret K ι F H S c Q → r v u H Q) : OpOk K r (o2 f) := by
  intro mg E ι F H S v u x y Q st wx wy q
  unfold o2 at q
  cases ex : rd S x with
  | none => rw [ex] at q; exact q.elim
  | some a =>
    cases ey : rd S y with
    | none => rw [ex, ey] at q; exact q.elim
    | some b =>
      rw [ex, ey] at q
      cases ec : f a b with
      | none => simp only [ec, res1] at q; exact q.elim
      | some c =>
        simp only [ec, res1] at q
        exact h ι F H S v u a b c Q st (st.vw wx ex) (st.vw wy ey) ec fun z F' H' g st' w => q ι F' H' g st' z w
theorem de_op {op : Operator} {r : R2} {o : Op2} {f g : XFn} (ho : OpR X (binaryOp op) r) (k : OpOk X.K r o) (ha : DE X W a f) (hb : DE X W b g) : DE X W (.BinOp a op b pos) (x2 o f g) := by
  refine ⟨PE.weak (pe_op ho ha.pe hb.pe) fun σ H Q ⟨ι, F, ρ, S, r0, h⟩ => ?_⟩
  refine tD.bind (g := fun ρ x S1 => (g ρ S1).bind fun y S2 => o x y S2) r0 h fun v dv ι1 F1 S1 H1 r1 w1 g1 h1 => ?_
  refine tD.bind (g := fun ρ y S2 => o dv y S2) r1 h1 fun u du ι2 F2 S2 H2 r2 w2 g2 h2 => ?_
  exact k _ _ ι2 F2 H2 S2 v u dv du Q r2.st (w1.grow g2) w2 h2
theorem de_cmp {op : CmpOp} {r : R2} {o : Op2} {f g : XFn} (ho : OpR X (compareOp op) r) (k : OpOk X.K r o) (ha : DE X W a f) (hb : DE X W b g) (hm : behindInMarks op b = false := by rfl) : DE X W (.Compare a [op] [b] pos) (x2 o f g) := by
  refine ⟨PE.weak (pe_cmpR ho ha.pe hb.pe hm) fun σ H Q ⟨ι, F, ρ, S, r0, h⟩ => ?_⟩
  refine tD.bind (g := fun ρ x S1 => (g ρ S1).bind fun y S2 => o x y S2) r0 h fun v dv ι1 F1 S1 H1 r1 w1 g1 h1 => ?_
  refine tD.bind (g := fun ρ y S2 => o dv y S2) r1 h1 fun u du ι2 F2 S2 H2 r2 w2 g2 h2 => ?_
  exact k _ _ ι2 F2 H2 S2 v u dv du Q r2.st (w1.grow g2) w2 h2
/-- a < b < c -/
def xChain (o o' : Op2) (f g k : XFn) : XFn := fun ρ S => (f ρ S).bind fun x S1 => (g ρ S1).bind fun y S2 => (o x y S2).bind fun z S3 => match z with
  | .dat (.bl true) => (k ρ S3).bind fun w S4 => o' y w S4
  | .dat (.bl false) => .ok (.dat (.bl false)) S3
  | _ => .bad

def dAdd : D → D → Option D
  | .int i, .int j => some (.int (i + j))
  | .tup a, .tup b => if a.length + b.length ≤ sizeLine then some (.tup (a ++ b)) else none
  | .lst a, .lst b => if a.length + b.length ≤ sizeLine then some (.lst (a ++ b)) else none
  | .str a, .str b => if a.length + b.length ≤ sizeLine then some (.str (a ++ b)) else none
  | _, _ => none
abbrev rAddD (K : PySem.W.Frag) : R2 := fun x y H Q => (((rI0 fun i j => .int (i + j)) x y H Q ∨ rCatA K x y H Q) ∨ rCat x y H Q) ∨ (∃ i j, x = .str i ∧ y = .str j ∧ i.length + j.length ≤ sizeLine ∧ Q (.str (i ++ j)) H)
theorem op_addD : OpR X (binaryOp .Add) (rAddD X.K) := ((op_add.or op_catA).or op_cat).or op_add_str
theorem wda_nil {vs : List V} {ds : List D} (w : WdA K F vs ds) (h : vs = []) : ds = [] := by
  subst h; cases w; rfl
theorem dAdd_ok : OpOk K (rAddD K) (o2 dAdd) := o2_ok fun ι F H S v u a b c Q st va vb e q => by
  cases va with
  | int i =>
    cases vb <;> try cases e
    exact .inl (.inl (.inl ⟨_, _, rfl, rfl, q.same st (.int _)⟩))
  | str i =>
    cases vb with
    | str j =>
      simp only [dAdd] at e
      split at e
      · cases e; exact .inr ⟨_, _, rfl, rfl, by assumption, q.same st (.str _)⟩
      · cases e
    | _ => cases e
  | tup s w =>
    cases vb with
    | tup s' w' =>
      simp only [dAdd] at e
      split at e
      · rename_i hl
        cases e
        refine .inl (.inl (.inr ⟨_, _, _, _, rfl, rfl, sameT st.sub s, sameT st.sub s', by rw [w.length, w'.length]; exact hl, fun z => ?_, fun _ z => ?_, fun _ _ p hp => q.tup st (w.append w') hp⟩))
        · have := wda_nil w z; subst this
          exact q.same st (.tup s' w')
        · have := wda_nil w' z; subst this
          rw [List.append_nil] at q
          exact q.same st (.tup s w)
      · cases e
    | _ => cases e
  | lst s w =>
    cases vb with
    | lst s' w' =>
      simp only [dAdd] at e
      split at e
      · rename_i hl
        cases e
        exact .inl (.inr ⟨_, _, _, _, rfl, rfl, s, s', by rw [w.length, w'.length]; exact hl, fun p hp => q.lst st (w.append w') hp⟩)
      · cases e
    | _ => cases e
  | _ => cases vb <;> cases e

/-! ### ints -/
theorem i2_ok {g : Int → Int → D} {g' : Int → Int → V} {C : Int → Int → Prop} {f : D → D → Option D} (hg : ∀ i j K F, Wd K F (g' i j) (g i j))
    (hf : ∀ a b c, f a b = some c → ∃ i j, a = .int i ∧ b = .int j ∧ C i j ∧ c = g i j) : OpOk K (rI C g') (o2 f) := o2_ok fun ι F H S v u a b c Q st va vb e q => by
  obtain ⟨i, j, rfl, rfl, hc, rfl⟩ := hf a b c e
  cases va; cases vb
  exact ⟨i, j, rfl, rfl, hc, q.same st (hg i j _ _)⟩
theorem i20_ok {g : Int → Int → D} {g' : Int → Int → V} {f : D → D → Option D} (hg : ∀ i j K F, Wd K F (g' i j) (g i j))
    (hf : ∀ a b c, f a b = some c → ∃ i j, a = .int i ∧ b = .int j ∧ c = g i j) : OpOk K (rI0 g') (o2 f) := o2_ok fun ι F H S v u a b c Q st va vb e q => by
  obtain ⟨i, j, rfl, rfl, rfl⟩ := hf a b c e
  cases va; cases vb
  exact ⟨i, j, rfl, rfl, q.same st (hg i j _ _)⟩
def dSub : D → D → Option D
  | .int i, .int j => some (.int (i - j))
  | _, _ => none
def dMod : D → D → Option D
  | .int i, .int j => if 0 < j then some (.int (i % j)) else none
  | _, _ => none
def dDiv : D → D → Option D
  | .int i, .int j => if 0 < j ∧ j.natAbs.log2 < 9000 then some (.int (i / j)) else none
  | _, _ => none
def dPow : D → D → Option D
  | .int i, .int j => if 0 ≤ j ∧ j ≤ 1000000 ∧ i.natAbs < 2 ^ 64 then some (.int (i ^ j.toNat)) else none
  | _, _ => none
def dLt : D → D → Option D
  | .int i, .int j => some (.bl (decide (i < j)))
  | _, _ => none
def dLe : D → D → Option D
  | .int i, .int j => some (.bl (decide (i ≤ j)))
  | _, _ => none
def dGt : D → D → Option D
  | .int i, .int j => some (.bl (decide (i > j)))
  | _, _ => none
def dGe : D → D → Option D
  | .int i, .int j => some (.bl (decide (i ≥ j)))
  | _, _ => none
theorem dSub_ok : OpOk K (rI0 fun i j => .int (i - j)) (o2 dSub) := i20_ok (g := fun i j => .int (i - j)) (fun _ _ _ _ => .int _) (by
  intro a b c e
  cases a <;> cases b <;> simp only [dSub] at e <;> first | (cases e; done) | (cases e; exact ⟨_, _, rfl, rfl, rfl⟩) | (split at e <;> first | (cases e; done) | (cases e; exact ⟨_, _, rfl, rfl, by assumption, rfl⟩)))
theorem dMod_ok : OpOk K (rI (fun _ j => 0 < j) fun i j => .int (i % j)) (o2 dMod) := i2_ok (g := fun i j => .int (i % j)) (fun _ _ _ _ => .int _) (by
  intro a b c e
  cases a <;> cases b <;> simp only [dMod] at e <;> first | (cases e; done) | (cases e; exact ⟨_, _, rfl, rfl, rfl⟩) | (split at e <;> first | (cases e; done) | (cases e; exact ⟨_, _, rfl, rfl, by assumption, rfl⟩)))
theorem dDiv_ok : OpOk K (rI CDivW fun i j => .int (i / j)) (o2 dDiv) := i2_ok (g := fun i j => .int (i / j)) (fun _ _ _ _ => .int _) (by
  intro a b c e
  cases a <;> cases b <;> simp only [dDiv] at e <;> first | (cases e; done) | (cases e; exact ⟨_, _, rfl, rfl, rfl⟩) | (split at e <;> first | (cases e; done) | (cases e; exact ⟨_, _, rfl, rfl, by assumption, rfl⟩)))
theorem dPow_ok : OpOk K (rI CPow fun i j => .int (i ^ j.toNat)) (o2 dPow) := i2_ok (g := fun i j => .int (i ^ j.toNat)) (fun _ _ _ _ => .int _) (by
  intro a b c e
  cases a <;> cases b <;> simp only [dPow] at e <;> first | (cases e; done) | (cases e; exact ⟨_, _, rfl, rfl, rfl⟩) | (split at e <;> first | (cases e; done) | (cases e; exact ⟨_, _, rfl, rfl, by assumption, rfl⟩)))
theorem dLt_ok : OpOk K (rI0 fun i j => .bl (decide (i < j))) (o2 dLt) := i20_ok (g := fun i j => .bl (decide (i < j))) (fun _ _ _ _ => .bl _) (by
  intro a b c e
  cases a <;> cases b <;> simp only [dLt] at e <;> first | (cases e; done) | (cases e; exact ⟨_, _, rfl, rfl, rfl⟩) | (split at e <;> first | (cases e; done) | (cases e; exact ⟨_, _, rfl, rfl, by assumption, rfl⟩)))
theorem dLe_ok : OpOk K (rI0 fun i j => .bl (decide (i ≤ j))) (o2 dLe) := i20_ok (g := fun i j => .bl (decide (i ≤ j))) (fun _ _ _ _ => .bl _) (by
  intro a b c e
  cases a <;> cases b <;> simp only [dLe] at e <;> first | (cases e; done) | (cases e; exact ⟨_, _, rfl, rfl, rfl⟩) | (split at e <;> first | (cases e; done) | (cases e; exact ⟨_, _, rfl, rfl, by assumption, rfl⟩)))
theorem dGt_ok : OpOk K (rI0 fun i j => .bl (decide (i > j))) (o2 dGt) := i20_ok (g := fun i j => .bl (decide (i > j))) (fun _ _ _ _ => .bl _) (by
  intro a b c e
  cases a <;> cases b <;> simp only [dGt] at e <;> first | (cases e; done) | (cases e; exact ⟨_, _, rfl, rfl, rfl⟩) | (split at e <;> first | (cases e; done) | (cases e; exact ⟨_, _, rfl, rfl, by assumption, rfl⟩)))
theorem dGe_ok : OpOk K (rI0 fun i j => .bl (decide (i ≥ j))) (o2 dGe) := i20_ok (g := fun i j => .bl (decide (i ≥ j))) (fun _ _ _ _ => .bl _) (by
  intro a b c e
  cases a <;> cases b <;> simp only [dGe] at e <;> first | (cases e; done) | (cases e; exact ⟨_, _, rfl, rfl, rfl⟩) | (split at e <;> first | (cases e; done) | (cases e; exact ⟨_, _, rfl, rfl, by assumption, rfl⟩)))
/-- whether two ints are small enough to be multiplied: a product below some million bits -/
def dMul : D → D → Option D
  | .int i, .int j => if i.natAbs.log2 + j.natAbs.log2 < 1000000 then some (.int (i * j)) else none
  | .lst a, .int k => if k ≤ 1000 ∧ -1000 ≤ k ∧ a.length * k.toNat ≤ sizeLine then some (.lst (List.replicate k.toNat a).flatten) else none
  | .tup a, .int k => if a ≠ [] ∧ 2 ≤ k ∧ k ≤ 1000 ∧ a.length ≤ 1000 then some (.tup (List.replicate k.toNat a).flatten) else none
  | _, _ => none
abbrev rMulD (K : PySem.W.Frag) : R2 := fun x y H Q => ((rI CMulW fun i j => .int (i * j)) x y H Q ∨ rRep x y H Q) ∨ rRepT K x y H Q
theorem op_mulD : OpR X (binaryOp .Mult) (rMulD X.K) := (op_mulW.or op_rep).or op_repT
theorem wda_rep {F : Hp} {vs : List V} {ds : List D} (w : WdA K F vs ds) : ∀ n : Nat, WdA K F (List.replicate n vs).flatten (List.replicate n ds).flatten
  | 0 => .nil
  | n + 1 => by
    rw [List.replicate_succ, List.replicate_succ, List.flatten_cons, List.flatten_cons]
    exact w.append (wda_rep w n)
theorem dMul_core {v u : V} {a b c : D} {Q : VK} (st : StR K ι F S H) (va : Vw K F H v a) (vb : Vw K F H u b) (e : dMul a b = some c) (q : Ret K ι F H S c Q) : rMulD K v u H Q := by
  cases va with
  | int i =>
    cases vb <;> try cases e
    simp only [dMul] at e
    split at e
    · cases e; exact .inl (.inl ⟨_, _, rfl, rfl, by assumption, q.same st (.int _)⟩)
    · cases e
  | lst s w =>
    cases vb <;> try cases e
    simp only [dMul] at e
    split at e
    · rename_i hl
      cases e
      refine .inl (.inr ⟨_, _, _, rfl, rfl, s, by omega, by omega, by rw [w.length]; exact hl.2.2, fun p hp => q.lst st (wda_rep w _) hp⟩)
    · cases e
  | tup s w =>
    cases vb <;> try cases e
    simp only [dMul] at e
    split at e
    · rename_i hl
      cases e
      refine .inr ⟨_, _, _, rfl, rfl, sameT st.sub s, fun z => hl.1 (wda_nil w z), hl.2.1, hl.2.2.1, by rw [w.length]; exact hl.2.2.2, fun p hp => q.tup st (wda_rep w _) hp⟩
    · cases e
  | _ => cases vb <;> cases e
theorem dMul_ok : OpOk K (rMulD K) (o2 dMul) := o2_ok fun ι F H S v u a b c Q st va vb e q => dMul_core st va vb e q
/-! ### is None -/
def dIsN : D → D → Option D
  | a, .non => some (.bl (match a with | .non => true | _ => false))
  | _, _ => none
def dNotN : D → D → Option D
  | a, .non => some (.bl (match a with | .non => false | _ => true))
  | _, _ => none
theorem dIsN_ok : OpOk K (fun x y H Q => y = .non ∧ Q (.bl (decide (x = .non))) H) (o2 dIsN) := o2_ok fun ι F H S v u a b c Q st va vb e q => by
  cases vb <;> simp only [dIsN] at e <;> cases e
  refine ⟨rfl, ?_⟩
  cases va <;> exact q.same st (.bl _)
theorem dNotN_ok : OpOk K (fun x y H Q => y = .non ∧ Q (.bl (!decide (x = .non))) H) (o2 dNotN) := o2_ok fun ι F H S v u a b c Q st va vb e q => by
  cases vb <;> simp only [dNotN] at e <;> cases e
  refine ⟨rfl, ?_⟩
  cases va <;> exact q.same st (.bl _)
/-! ### == and in -/
mutual
def D.py : D → PyData
  | .non => .none
  | .bl b => .bool b
  | .int i => .int i
  | .str x => .str x
  | .lst xs => .list (D.pys xs)
  | .tup xs => .tuple (D.pys xs)
def D.pys : List D → List PyData
  | [] => []
  | x :: xs => D.py x :: D.pys xs
end
mutual
theorem Wd.dp {F : Hp} : ∀ {d : D} {v : V}, Wd K F v d → Dp K F v d.py
  | .non, _, h => by cases h; exact .non
  | .bl _, _, h => by cases h; exact .bl _
  | .int _, _, h => by cases h; exact .int _
  | .str _, _, h => by cases h; exact .str _
  | .lst ds, _, h => by
    cases h with
    | lst s a => exact .lst (.of s) (WdA.dp a)
  | .tup ds, _, h => by
    cases h with
    | tup s a => exact .tup s (WdA.dp a)
theorem WdA.dp {F : Hp} : ∀ {ds : List D} {vs : List V}, WdA K F vs ds → DpAll K F vs (D.pys ds)
  | [], _, h => by cases h; exact .nil
  | d :: ds, _, h => by
    cases h with
    | cons a b => exact .cons (Wd.dp a) (WdA.dp b)
end
def D.okEq (d : D) : Bool := d.py.canLay0
def dEqB (a b : D) : Bool := PyData.eqv a.py b.py
/-- the depths at which == is served here: one of the two is not deeper than 64 -/
def canEq (a b : D) : Bool := a.py.canLay0 && b.py.canLay0 && decide (min a.py.depth b.py.depth ≤ 64)
def dEq (a b : D) : Option D := if canEq a b = true then some (.bl (dEqB a b)) else none
def dNe (a b : D) : Option D := if canEq a b = true then some (.bl (!dEqB a b)) else none
def rEqDD (K : PySem.W.Frag) : R2 := fun x y H Q => ∃ d e, Dp K H x d ∧ Dp K H y e ∧ d.canLay0 = true ∧ e.canLay0 = true ∧ min d.depth e.depth ≤ 64 ∧ Q (.bl (PyData.eqv d e)) H
def rNeDD (K : PySem.W.Frag) : R2 := fun x y H Q => ∃ d e, Dp K H x d ∧ Dp K H y e ∧ d.canLay0 = true ∧ e.canLay0 = true ∧ min d.depth e.depth ≤ 64 ∧ Q (.bl (!PyData.eqv d e)) H
theorem op_eqDD (hu : X.A.units + 64 < cLine) : OpR X (compareOp .Eq) (rEqDD X.K) := by
  intro pins s σ H x y v u Q I rx ry ⟨d, e, hd, he, cd, ce, dp, q⟩
  obtain ⟨as, r1⟩ := Dp.reads I d x v hd rx
  obtain ⟨bs, r2⟩ := Dp.reads I e y u he ry
  exact SeqAt.compareEq_reads r1 r2 cd ce (by omega) ⟨.bl _, H, I, rfl, q⟩
theorem op_neDD (hu : X.A.units + 64 < cLine) : OpR X (compareOp .NotEq) (rNeDD X.K) := by
  intro pins s σ H x y v u Q I rx ry ⟨d, e, hd, he, cd, ce, dp, q⟩
  obtain ⟨as, r1⟩ := Dp.reads I d x v hd rx
  obtain ⟨bs, r2⟩ := Dp.reads I e y u he ry
  exact SeqAt.compareNe_reads r1 r2 cd ce (by omega) ⟨.bl _, H, I, rfl, q⟩
theorem canEq_of {a b : D} (h : canEq a b = true) : a.py.canLay0 = true ∧ b.py.canLay0 = true ∧ min a.py.depth b.py.depth ≤ 64 := by
  unfold canEq at h
  simp only [Bool.and_eq_true, decide_eq_true_eq] at h
  exact ⟨h.1.1, h.1.2, h.2⟩
theorem dEq_ok : OpOk K (rEqDD K) (o2 dEq) := o2_ok fun ι F H S v u a b c Q st va vb e q => by
  unfold dEq at e
  split at e
  · rename_i h
    cases e
    obtain ⟨h1, h2, h3⟩ := canEq_of h
    exact ⟨_, _, (va.wd st.sub).dp, (vb.wd st.sub).dp, h1, h2, h3, q.same st (.bl _)⟩
  · cases e
theorem dNe_ok : OpOk K (rNeDD K) (o2 dNe) := o2_ok fun ι F H S v u a b c Q st va vb e q => by
  unfold dNe at e
  split at e
  · rename_i h
    cases e
    obtain ⟨h1, h2, h3⟩ := canEq_of h
    exact ⟨_, _, (va.wd st.sub).dp, (vb.wd st.sub).dp, h1, h2, h3, q.same st (.bl _)⟩
  · cases e
end
end DL

set_option maxHeartbeats 4000000
namespace DL
open PySem PySem.Spec PyProof.Rows L2
section
variable {X : Cx} {W : WX} {e a b c : Expr} {es : List Expr} {pos p : Pos} {K : PySem.W.Frag} {ι : List Addr} {F H : Hp} {S : Store}
/-! ## in -/
def canIn (d : D) (xs : List D) : Bool := d.py.canLay0 && PyData.canLayAll0 (D.pys xs) && decide (min (PyData.depthAll (D.pys xs)) d.py.depth ≤ 64)
def dInB (d : D) (xs : List D) : Bool := xs.any fun z => dEqB z d
def dIn (d : D) : D → Option D
  | .lst xs => if canIn d xs = true then some (.bl (dInB d xs)) else none
  | .tup xs => if canIn d xs = true then some (.bl (dInB d xs)) else none
  | _ => none
def dNin (d : D) : D → Option D
  | .lst xs => if canIn d xs = true then some (.bl (!dInB d xs)) else none
  | .tup xs => if canIn d xs = true then some (.bl (!dInB d xs)) else none
  | _ => none
def rInDD (K : PySem.W.Frag) (neg : Bool) : R2 := fun x y H Q => ∃ d ds, Dp K H x d ∧ (Dp K H y (.list ds) ∨ Dp K H y (.tuple ds)) ∧ d.canLay0 = true ∧ PyData.canLayAll0 ds = true ∧ min (PyData.depthAll ds) d.depth ≤ 64 ∧ Q (.bl (if neg then !(ds.any fun z => PyData.eqv z d) else ds.any fun z => PyData.eqv z d)) H
theorem op_inDD (hu : X.A.units + 65 < cLine) : OpR X (compareOp .In) (rInDD X.K false) := by
  intro pins s σ H x y v u Q I rx ry ⟨d, ds, hd, he, cd, ce, dp, q⟩
  obtain ⟨as, r1⟩ := Dp.reads I d x v hd rx
  rcases he with he | he
  · obtain ⟨bs, r2⟩ := Dp.reads I (.list ds) y u he ry
    exact SeqAt.in_list_reads r2 r1 ce cd (by omega) ⟨.bl _, H, I, rfl, q⟩
  · obtain ⟨bs, r2⟩ := Dp.reads I (.tuple ds) y u he ry
    exact SeqAt.in_tuple_reads r2 r1 ce cd (by omega) ⟨.bl _, H, I, rfl, q⟩
theorem op_ninDD (hu : X.A.units + 65 < cLine) : OpR X (compareOp .NotIn) (rInDD X.K true) := by
  intro pins s σ H x y v u Q I rx ry ⟨d, ds, hd, he, cd, ce, dp, q⟩
  obtain ⟨as, r1⟩ := Dp.reads I d x v hd rx
  rcases he with he | he
  · obtain ⟨bs, r2⟩ := Dp.reads I (.list ds) y u he ry
    exact SeqAt.notIn_list_reads r2 r1 ce cd (by omega) ⟨.bl _, H, I, rfl, q⟩
  · obtain ⟨bs, r2⟩ := Dp.reads I (.tuple ds) y u he ry
    exact SeqAt.notIn_tuple_reads r2 r1 ce cd (by omega) ⟨.bl _, H, I, rfl, q⟩
theorem any_pys (d : D) : ∀ xs : List D, ((D.pys xs).any fun z => PyData.eqv z d.py) = dInB d xs
  | [] => rfl
  | x :: xs => by
    have h := any_pys d xs
    show (PyData.eqv x.py d.py || (D.pys xs).any fun z => PyData.eqv z d.py) = (dEqB x d || dInB d xs)
    rw [h]; rfl
theorem canIn_of {d : D} {xs : List D} (h : canIn d xs = true) : d.py.canLay0 = true ∧ PyData.canLayAll0 (D.pys xs) = true ∧ min (PyData.depthAll (D.pys xs)) d.py.depth ≤ 64 := by
  unfold canIn at h
  simp only [Bool.and_eq_true, decide_eq_true_eq] at h
  exact ⟨h.1.1, h.1.2, h.2⟩
theorem dIn_ok : OpOk K (rInDD K false) (o2 dIn) := o2_ok fun ι F H S v u a b c Q st va vb e q => by
  have wb := (vb.wd st.sub).dp
  cases b <;> simp only [dIn] at e <;> first | (cases e; done) | skip
  all_goals
    split at e
    · rename_i h
      cases e
      obtain ⟨h1, h2, h3⟩ := canIn_of h
      refine ⟨_, _, (va.wd st.sub).dp, by first | exact .inl wb | exact .inr wb, h1, h2, h3, ?_⟩
      rw [any_pys]
      exact q.same st (.bl _)
    · cases e
theorem dNin_ok : OpOk K (rInDD K true) (o2 dNin) := o2_ok fun ι F H S v u a b c Q st va vb e q => by
  have wb := (vb.wd st.sub).dp
  cases b <;> simp only [dNin] at e <;> first | (cases e; done) | skip
  all_goals
    split at e
    · rename_i h
      cases e
      obtain ⟨h1, h2, h3⟩ := canIn_of h
      refine ⟨_, _, (va.wd st.sub).dp, by first | exact .inl wb | exact .inr wb, h1, h2, h3, ?_⟩
      rw [any_pys]
      exact q.same st (.bl _)
    · cases e
/-! ## items, slices -/
def dIx : D → D → Option D
  | .lst xs, .int i => atI xs i
  | .tup xs, .int i => atI xs i
  | _, _ => none
theorem WdA.atI {vs : List V} {ds : List D} {i : Int} {d : D} (w : WdA K F vs ds) (h : L2.atI ds i = some d) : ∃ v, L2.atI vs i = some v ∧ Wd K F v d := by
  unfold L2.atI at h ⊢
  rw [w.length]
  cases q : ixN ds.length i with
  | none => rw [q] at h; cases h
  | some j => rw [q] at h; exact w.get' h
theorem de_ix {f g : XFn} (ha : DE X W a f) (hb : DE X W b g) (hs : PlainIx b := by exact fun _ _ => rfl) : DE X W (.Subscript a b pos) (x2 (o2 dIx) f g) := by
  refine ⟨PE.weak (pe_ix (ix_list.or ix_tup) ha.pe hb.pe hs) fun σ H Q ⟨ι, F, ρ, S, r0, h⟩ => ?_⟩
  have k : OpOk X.K (fun x y H Q => rIxL X.K x y H Q ∨ rIxT X.K x y H Q) (o2 dIx) := o2_ok fun ι F H S v u a b c Q st va vb e q => by
    cases va with
    | lst s w =>
      cases vb <;> try cases e
      obtain ⟨z, h1, h2⟩ := w.atI e
      exact .inl ⟨_, _, _, z, rfl, rfl, .of s, h1, q.same st h2⟩
    | tup s w =>
      cases vb <;> try cases e
      obtain ⟨z, h1, h2⟩ := w.atI e
      exact .inr ⟨_, _, _, z, rfl, rfl, sameT st.sub s, h1, q.same st h2⟩
    | _ => cases vb <;> cases e
  refine tD.bind (g := fun ρ x S1 => (g ρ S1).bind fun y S2 => o2 dIx x y S2) r0 h fun v dv ι1 F1 S1 H1 r1 w1 g1 h1 => ?_
  refine tD.bind (g := fun ρ y S2 => o2 dIx dv y S2) r1 h1 fun u du ι2 F2 S2 H2 r2 w2 g2 h2 => ?_
  exact k _ _ ι2 F2 H2 S2 v u dv du Q r2.st (w1.grow g2) w2 h2
abbrev PFn := Slots → Store → Res (Option Int)
def tP (X : Cx) (W : WX) (f : PFn) : TO := fun σ H Q => ∃ ι F ρ S, RR X.K ι F ρ S σ H ∧ Post X.K X.mg (fun c d H' => W c d σ H') ι F H (f ρ S) fun o ι' F' H' => Q o H'
structure DP (X : Cx) (W : WX) (e : Option Expr) (f : PFn) : Prop where
  po : ∃ t, PO X e t ∧ ∀ σ H Q, tP X W f σ H Q → t σ H Q
def pNo : PFn := fun _ S => .ok none S
def asInt (x : DV) (S : Store) : Res (Option Int) := match x with
  | .dat (.int i) => .ok (some i) S
  | _ => .bad
def pEx (f : XFn) : PFn := fun ρ S => (f ρ S).bind asInt
theorem dp_no : DP X W none pNo := ⟨_, po_none, fun σ H Q ⟨ι, F, ρ, S, r, h⟩ => h ι F H .refl r.st⟩
theorem dp_ex {f : XFn} (h : DE X W e f) : DP X W (some e) (pEx f) := by
  refine ⟨_, po_some h.pe, fun σ H Q ⟨ι, F, ρ, S, r, h⟩ => ?_⟩
  refine tD.bind (g := fun _ => asInt) r h fun v dv ι1 F1 S1 H1 r1 w1 g1 h1 => ?_
  unfold asInt at h1
  split at h1
  · rename_i i
    have w1' : Wd X.K F1 v (.int i) := w1
    cases w1'
    exact ⟨i, rfl, h1 ι1 F1 H1 .refl r1.st⟩
  · exact h1.elim
theorem tP.bind {α : Type} {f : PFn} {g : Slots → Option Int → Store → Res α} {σ : L2.St} {H : Hp} {R : Option Int → Hp → Prop} {Q : α → List Addr → Hp → Hp → Prop} {ι : List Addr} {F : Hp} {ρ : Slots} {S : Store} (r : RR X.K ι F ρ S σ H)
    (h : Post X.K X.mg (fun c d H' => W c d σ H') ι F H ((f ρ S).bind (g ρ)) Q)
    (k : ∀ b ι1 F1 S1 H1, RR X.K ι1 F1 ρ S1 σ H1 → Grow ι F H ι1 F1 H1 → Post X.K X.mg (fun c d H' => W c d σ H') ι1 F1 H1 (g ρ b S1) Q → R b H1) : tP X W f σ H R := by
  refine ⟨ι, F, ρ, S, r, ?_⟩
  cases q : f ρ S with
  | ok b S1 =>
    rw [q] at h
    exact fun ι1 F1 H1 g1 st => k b ι1 F1 S1 H1 (r.slots g1 st) g1 (Post.grow (r := g ρ b S1) h g1)
  | ex c S1 => rw [q] at h; exact h
  | bad => rw [q] at h; exact h
def cutL {α : Type} (xs : List α) (lo hi : Option Int) : List α := (xs.drop (HT.sIx xs.length 0 lo)).take (HT.sIx xs.length xs.length hi - HT.sIx xs.length 0 lo)
theorem WdA.cut {vs : List V} {ds : List D} (w : WdA K F vs ds) (lo hi : Option Int) : WdA K F (cutV vs lo hi) (cutL ds lo hi) := by
  unfold cutV cutL
  rw [w.length]
  exact (w.drop _).take _
theorem cutL_map {α β : Type} (f : α → β) (xs : List α) (lo hi : Option Int) : cutL (xs.map f) lo hi = (cutL xs lo hi).map f := by
  unfold cutL
  rw [List.length_map, List.map_take, List.map_drop]
theorem wda_ints : ∀ ns : List Int, WdA K F (ns.map V.int) (ns.map D.int)
  | [] => .nil
  | n :: ns => .cons (.int n) (wda_ints ns)
def oSl (x : DV) (lo hi : Option Int) (S : Store) : Res DV := match x with
  | .scr ns => .ok (.dat (.lst ((cutL ns lo hi).map .int))) S
  | _ => match rd S x with
    | some (.lst xs) => .ok (.dat (.lst (cutL xs lo hi))) S
    | some (.tup xs) => .ok (.dat (.tup (cutL xs lo hi))) S
    | _ => .bad
def xSl (f : XFn) (l h : PFn) : XFn := fun ρ S => (f ρ S).bind fun x S1 => (l ρ S1).bind fun lo S2 => (h ρ S2).bind fun hi S3 => oSl x lo hi S3
theorem cutV_all (vs : List V) (lo hi : Option Int) (h : HT.sIx vs.length 0 lo = 0 ∧ HT.sIx vs.length vs.length hi = vs.length) : cutV vs lo hi = vs := by
  unfold cutV
  rw [h.1, h.2]
  simp
theorem de_sl {f : XFn} {l h : PFn} {lo hi : Option Expr} {p2 : Pos} (ha : DE X W e f) (hl : DP X W lo l) (hh : DP X W hi h) : DE X W (.Subscript e (.Slice lo hi none p2) pos) (xSl f l h) := by
  obtain ⟨tl, pl, kl⟩ := hl.po
  obtain ⟨th, ph, kh⟩ := hh.po
  refine ⟨PE.weak (pe_slice (sl_list.or sl_tupA) ha.pe pl ph) fun σ H Q ⟨ι, F, ρ, S, r, h0⟩ => ?_⟩
  refine tD.bind (g := fun ρ x S1 => (l ρ S1).bind fun lo S2 => (h ρ S2).bind fun hi S3 => oSl x lo hi S3) r h0 fun v dv ι1 F1 S1 H1 r1 w1 g1 h1 => ?_
  refine kl _ _ _ (tP.bind (g := fun ρ lo S2 => (h ρ S2).bind fun hi S3 => oSl dv lo hi S3) r1 h1 fun lo ι2 F2 S2 H2 r2 g2 h2 => ?_)
  refine kh _ _ _ (tP.bind (g := fun ρ hi S3 => oSl dv lo hi S3) r2 h2 fun hi ι3 F3 S3 H3 r3 g3 h3 => ?_)
  have w3 : WV X.K ι3 F3 v dv := (w1.grow g2).grow g3
  have st := r3.st
  have fin : ∀ d, rd S3 dv = some d → Post X.K X.mg (fun c d H' => W c d σ H') ι3 F3 H3 (match some d with
    | some (.lst xs) => Res.ok (.dat (.lst (cutL xs lo hi))) S3
    | some (.tup xs) => .ok (.dat (.tup (cutL xs lo hi))) S3
    | _ => .bad) (fun dv ι' F' H' => ∀ v, WV X.K ι' F' v dv → Q v H') → rSlL X.K v lo hi H3 Q ∨ rSlA X.K v lo hi H3 Q := fun d ed h3 => by
    have vw := st.vw w3 ed
    cases vw with
    | lst s w =>
      have q : Ret X.K ι3 F3 H3 S3 (.lst (cutL _ lo hi)) Q := fun z F' H' g st' w => h3 ι3 F' H' g st' z w
      exact .inl ⟨_, _, rfl, .of s, fun p hp => q.lst st (w.cut lo hi) hp⟩
    | tup s w =>
      have q : Ret X.K ι3 F3 H3 S3 (.tup (cutL _ lo hi)) Q := fun z F' H' g st' w => h3 ι3 F' H' g st' z w
      refine .inr ⟨_, _, rfl, sameT st.sub s, fun z => ?_, fun _ p hp => q.tup st (w.cut lo hi) hp⟩
      have wc := w.cut lo hi
      rw [cutV_all _ _ _ z] at wc
      exact q.same st (.tup s wc)
    | _ => exact h3.elim
  unfold oSl at h3
  cases dv with
  | scr ns =>
    obtain ⟨a, rfl, hs⟩ := w3
    have q : Ret X.K ι3 F3 H3 S3 (.lst ((cutL ns lo hi).map .int)) Q := fun z F' H' g st' w => h3 ι3 F' H' g st' z w
    refine .inl ⟨a, _, rfl, st.sub.seq hs, fun p hp => q.lst st ?_ hp⟩
    show WdA X.K F3 (cutL (ns.map V.int) lo hi) _
    rw [cutL_map]
    exact wda_ints _
  | dat d => exact fin d rfl h3
  | obj k =>
    cases ed : rd S3 (.obj k) with
    | none => simp only [ed] at h3; exact h3.elim
    | some d => simp only [ed] at h3; exact fin d ed h3
  | exn c p => exact h3.elim
/-! ## built-in functions -/
abbrev OpN := List DV → Store → Res DV
def xN (o : OpN) (f : AFn) : XFn := fun ρ S => (f ρ S).bind o
def CallOk (K : PySem.W.Frag) (r : List V → Hp → VK → Prop) (o : OpN) : Prop := ∀ (mg : Str → Option Value) (E : XK) (ι : List Addr) (F H : Hp) (S : Store) (vs : List V) (ds : List DV) (Q : VK), StR K ι F S H → WVs K ι F vs ds →
  Post K mg E ι F H (o ds S) (fun dv ι' F' H' => ∀ z, WV K ι' F' z dv → Q z H') → r vs H Q
theorem de_callB {r : List V → Hp → VK → Prop} {o : OpN} {f : AFn} {x : Str} {id : String} (hc : CallR X (.builtin id) r) (k : CallOk X.K r o) (hm : X.mg x = none) (hv : bootBuiltins x = some (.builtin id)) (ha : DA X W (e :: es) f) (hg : Gl X x := by rfl) (hn : x ≠ "__name__" := by decide) (hdb : (x == ("__debug__" : Str)) = false := by decide)
    (he : starEach (e :: es) X.env = (false, eval e X.env) :: starEach es X.env := by rfl) (hpl : (backTo pos (starEach es X.env)).any (·.1) = false := by rfl) : DE X W (.Call (.Name x p) (e :: es) [] pos) (xN o f) := by
  refine ⟨PE.weak (pe_callB hc hg hm hv ha.pa hn hdb he hpl) fun σ H Q ⟨ι, F, ρ, S, r, h⟩ => ?_⟩
  exact tA.bind (g := fun _ => o) r h fun vs ds ι1 F1 S1 H1 r1 w1 g1 h1 => k _ _ ι1 F1 H1 S1 vs ds Q r1.st w1 h1
theorem de_callTy {r : List V → Hp → VK → Prop} {o : OpN} {f : AFn} {x : Str} {T : String} (hc : CallR X (.type T) r) (k : CallOk X.K r o) (hm : X.mg x = none) (hv : bootBuiltins x = some (.type T)) (ha : DA X W (e :: es) f) (hg : Gl X x := by rfl) (hn : x ≠ "__name__" := by decide) (hdb : (x == ("__debug__" : Str)) = false := by decide)
    (he : starEach (e :: es) X.env = (false, eval e X.env) :: starEach es X.env := by rfl) (hpl : (backTo pos (starEach es X.env)).any (·.1) = false := by rfl) : DE X W (.Call (.Name x p) (e :: es) [] pos) (xN o f) := by
  refine ⟨PE.weak (pe_callTy hc hg hm hv ha.pa hn hdb he hpl) fun σ H Q ⟨ι, F, ρ, S, r, h⟩ => ?_⟩
  exact tA.bind (g := fun _ => o) r h fun vs ds ι1 F1 S1 H1 r1 w1 g1 h1 => k _ _ ι1 F1 H1 S1 vs ds Q r1.st w1 h1
/-- of one argument, read as data -/
def o1 (f : D → Option D) : OpN := fun ds S => match ds with
  | [x] => (match rd S x with
    | some a => res1 (f a) S
    | none => .bad)
  | _ => .bad
theorem o1_ok {r : List V → Hp → VK → Prop} {f : D → Option D} (h : ∀ (ι : List Addr) (F H : Hp) (S : Store) (v : V) (a c : D) (Q : VK), StR K ι F S H → Vw K F H v a → f a = some c → Ret K ι F H S c Q → r [v] H Q) : CallOk K r (o1 f) := by
  intro mg E ι F H S vs ds Q st ws q
  unfold o1 at q
  cases ws with
  | nil => exact q.elim
  | cons w ws =>
    cases ws with
    | cons _ _ => exact q.elim
    | nil =>
      rename_i v dv
      cases ex : rd S dv with
      | none => simp only [ex] at q; exact q.elim
      | some a =>
        simp only [ex] at q
        cases ec : f a with
        | none => simp only [ec, res1] at q; exact q.elim
        | some c =>
          simp only [ec, res1] at q
          exact h ι F H S v a c Q st (st.vw w ex) ec fun z F' H' g st' w => q ι F' H' g st' z w
def dLen : D → Option D
  | .lst xs => some (.int xs.length)
  | .tup xs => some (.int xs.length)
  | .str x => if x.length ≤ sizeLine then some (.int x.length) else none
  | _ => none
theorem dLen_ok : CallOk K (fun xs H Q => ∃ x n, xs = [x] ∧ LenV K x H n ∧ Q (.int n) H) (o1 dLen) := o1_ok fun ι F H S v a c Q st va e q => by
  cases va with
  | lst s w => cases e; rw [← w.length] at q; exact ⟨_, _, rfl, .inl ⟨_, .of s, rfl⟩, q.same st (.int _)⟩
  | tup s w => cases e; rw [← w.length] at q; exact ⟨_, _, rfl, .inr ⟨_, sameT st.sub s, rfl⟩, q.same st (.int _)⟩
  | str x =>
    simp only [dLen] at e
    split at e
    · cases e; exact ⟨_, _, rfl, ⟨by assumption, rfl⟩, q.same st (.int _)⟩
    · cases e
  | _ => cases e
def boolsOf : List D → Option (List Bool)
  | [] => some []
  | .bl b :: r => (boolsOf r).map (b :: ·)
  | _ :: _ => none
theorem boolsOf_ok : ∀ {ds : List D} {vs : List V} {bs : List Bool}, WdA K F vs ds → boolsOf ds = some bs → vs = bs.map V.bl
  | [], _, _, w, e => by cases w; cases e; rfl
  | d :: ds, _, _, w, e => by
    cases w with
    | cons a r =>
      cases d <;> simp only [boolsOf] at e <;> first | (cases e; done) | skip
      rename_i b
      cases q : boolsOf ds with
      | none => rw [q] at e; cases e
      | some cs =>
        rw [q] at e; cases e
        have h := boolsOf_ok r q
        cases a
        rw [h]; rfl
def dAll : D → Option D
  | .lst xs => (boolsOf xs).map fun bs => .bl (bs.all id)
  | _ => none
def dAny : D → Option D
  | .lst xs => (boolsOf xs).map fun bs => .bl (bs.any id)
  | _ => none
theorem dAll_ok : CallOk K (rAll K) (o1 dAll) := o1_ok fun ι F H S v a c Q st va e q => by
  cases va <;> simp only [dAll] at e <;> first | (cases e; done) | skip
  rename_i s w
  cases z : boolsOf _ with
  | none => rw [z] at e; cases e
  | some bs =>
    rw [z] at e; cases e
    exact ⟨_, bs, rfl, by rw [← boolsOf_ok w z]; exact .of s, q.same st (.bl _)⟩
theorem dAny_ok : CallOk K (rAny K) (o1 dAny) := o1_ok fun ι F H S v a c Q st va e q => by
  cases va <;> simp only [dAny] at e <;> first | (cases e; done) | skip
  rename_i s w
  cases z : boolsOf _ with
  | none => rw [z] at e; cases e
  | some bs =>
    rw [z] at e; cases e
    exact ⟨_, bs, rfl, by rw [← boolsOf_ok w z]; exact .of s, q.same st (.bl _)⟩
def intsOf : List D → Option (List Int)
  | [] => some []
  | .int b :: r => (intsOf r).map (b :: ·)
  | _ :: _ => none
theorem intsOf_ok : ∀ {ds : List D} {vs : List V} {bs : List Int}, WdA K F vs ds → intsOf ds = some bs → vs = bs.map V.int
  | [], _, _, w, e => by cases w; cases e; rfl
  | d :: ds, _, _, w, e => by
    cases w with
    | cons a r =>
      cases d <;> simp only [intsOf] at e <;> first | (cases e; done) | skip
      rename_i b
      cases q : intsOf ds with
      | none => rw [q] at e; cases e
      | some cs =>
        rw [q] at e; cases e
        have h := intsOf_ok r q
        cases a
        rw [h]; rfl
def dSum : D → Option D
  | .lst xs => (intsOf xs).map fun bs => .int bs.sum
  | _ => none
theorem dSum_ok : CallOk K (rSum K) (o1 dSum) := o1_ok fun ι F H S v a c Q st va e q => by
  cases va <;> simp only [dSum] at e <;> first | (cases e; done) | skip
  rename_i s w
  cases z : intsOf _ with
  | none => rw [z] at e; cases e
  | some bs =>
    rw [z] at e; cases e
    exact ⟨_, bs, rfl, by rw [← intsOf_ok w z]; exact .of s, q.same st (.int _)⟩
def dInt : D → Option D
  | .int i => some (.int i)
  | .bl b => some (.int (if b then 1 else 0))
  | _ => none
theorem dInt_ok : CallOk K (fun xs H Q => (∃ i, xs = [.int i] ∧ Q (.int i) H) ∨ ∃ k, xs = [.bl k] ∧ Q (.int (if k then 1 else 0)) H) (o1 dInt) := o1_ok fun ι F H S v a c Q st va e q => by
  cases va <;> cases e
  · exact .inr ⟨_, rfl, q.same st (.int _)⟩
  · exact .inl ⟨_, rfl, q.same st (.int _)⟩
def dList : D → Option D
  | .lst xs => some (.lst xs)
  | .tup xs => some (.lst xs)
  | _ => none
theorem dList_ok : CallOk K (fun xs H Q => ∃ p ys, xs = [.ref p] ∧ (SqL K H p ys ∨ SqT K H p ys) ∧ ∀ l, H l = none → Q (.ref l) (upd H l (.lst ys))) (o1 dList) := o1_ok fun ι F H S v a c Q st va e q => by
  cases va with
  | lst s w => cases e; exact ⟨_, _, rfl, .inl (.of s), fun l hl => q.lst st w hl⟩
  | tup s w => cases e; exact ⟨_, _, rfl, .inr (sameT st.sub s), fun l hl => q.lst st w hl⟩
  | _ => cases e
def dTuple : D → Option D
  | .lst xs => some (.tup xs)
  | .tup xs => some (.tup xs)
  | _ => none
theorem dTuple_ok : CallOk K (fun xs H Q => ∃ p ys, xs = [.ref p] ∧ ((SqL K H p ys ∧ ∀ l, H l = none → Q (.ref l) (upd H l (.tup ys))) ∨ (SqT K H p ys ∧ Q (.ref p) H))) (o1 dTuple) := o1_ok fun ι F H S v a c Q st va e q => by
  cases va with
  | lst s w => cases e; exact ⟨_, _, rfl, .inl ⟨.of s, fun l hl => q.tup st w hl⟩⟩
  | tup s w => cases e; exact ⟨_, _, rfl, .inr ⟨sameT st.sub s, q.same st (.tup s w)⟩⟩
  | _ => cases e
end
end DL

set_option maxHeartbeats 4000000
namespace DL
open PySem PySem.Spec PyProof.Rows L2
section
variable {X : Cx} {W : WX} {e a b c : Expr} {es : List Expr} {pos p : Pos} {K : PySem.W.Frag} {ι : List Addr} {F H : Hp} {S : Store}
/-! ## and, or, not, conditional expressions; tests -/
def xAnd (f g : XFn) : XFn := fun ρ S => (f ρ S).bind fun x S1 => match x with
  | .dat (.bl true) => g ρ S1
  | .dat (.bl false) => .ok (.dat (.bl false)) S1
  | _ => .bad
def xOr (f g : XFn) : XFn := fun ρ S => (f ρ S).bind fun x S1 => match x with
  | .dat (.bl false) => g ρ S1
  | .dat (.bl true) => .ok (.dat (.bl true)) S1
  | _ => .bad
def nDV (x : DV) (S : Store) : Res DV := match x with
  | .dat (.bl c) => .ok (.dat (.bl (!c))) S
  | _ => .bad
def xNot (f : XFn) : XFn := fun ρ S => (f ρ S).bind nDV
theorem de_one {op : BoolOp} {f : XFn} (h : DE X W a f) : DE X W (.BoolOp op [a] pos) f := ⟨pe_one h.pe⟩
theorem de_and {f g : XFn} {rest : List Expr} (ha : DE X W a f) (hb : DE X W (.BoolOp .And (b :: rest) pos) g) : DE X W (.BoolOp .And (a :: b :: rest) pos) (xAnd f g) := by
  refine ⟨PE.weak (pe_and ha.pe hb.pe) fun σ H Q ⟨ι, F, ρ, S, r, h⟩ => ?_⟩
  refine tD.bind (g := fun ρ x S1 => match x with
    | .dat (.bl true) => g ρ S1
    | .dat (.bl false) => .ok (.dat (.bl false)) S1
    | _ => .bad) r h fun v dv ι1 F1 S1 H1 r1 w1 g1 h1 => ?_
  split at h1
  · have w' : Wd X.K F1 v (.bl true) := w1
    cases w'
    exact ⟨true, rfl, by rw [if_pos rfl]; exact ⟨ι1, F1, ρ, S1, r1, h1⟩⟩
  · have w' : Wd X.K F1 v (.bl false) := w1
    cases w'
    exact ⟨false, rfl, by rw [if_neg (by simp)]; exact h1 ι1 F1 H1 .refl r1.st _ (.bl _)⟩
  · exact h1.elim
theorem de_or {f g : XFn} {rest : List Expr} (ha : DE X W a f) (hb : DE X W (.BoolOp .Or (b :: rest) pos) g) : DE X W (.BoolOp .Or (a :: b :: rest) pos) (xOr f g) := by
  refine ⟨PE.weak (pe_or ha.pe hb.pe) fun σ H Q ⟨ι, F, ρ, S, r, h⟩ => ?_⟩
  refine tD.bind (g := fun ρ x S1 => match x with
    | .dat (.bl false) => g ρ S1
    | .dat (.bl true) => .ok (.dat (.bl true)) S1
    | _ => .bad) r h fun v dv ι1 F1 S1 H1 r1 w1 g1 h1 => ?_
  split at h1
  · have w' : Wd X.K F1 v (.bl false) := w1
    cases w'
    exact ⟨false, rfl, by rw [if_neg (by simp)]; exact ⟨ι1, F1, ρ, S1, r1, h1⟩⟩
  · have w' : Wd X.K F1 v (.bl true) := w1
    cases w'
    exact ⟨true, rfl, by rw [if_pos rfl]; exact h1 ι1 F1 H1 .refl r1.st _ (.bl _)⟩
  · exact h1.elim
theorem de_not {f : XFn} (ha : DE X W a f) : DE X W (.UnaryOp .Not a pos) (xNot f) := by
  refine ⟨PE.weak (pe_not ha.pe) fun σ H Q ⟨ι, F, ρ, S, r, h⟩ => ?_⟩
  refine tD.bind (g := fun _ => nDV) r h fun v dv ι1 F1 S1 H1 r1 w1 g1 h1 => ?_
  unfold nDV at h1
  split at h1
  · rename_i c
    have w' : Wd X.K F1 v (.bl c) := w1
    cases w'
    exact ⟨_, rfl, h1 ι1 F1 H1 .refl r1.st _ (.bl _)⟩
  · exact h1.elim
def truth (x : DV) (S : Store) : Res Bool := match rd S x with
  | some .non => .ok false S
  | some (.bl b) => .ok b S
  | some (.int i) => .ok (i != 0) S
  | some (.lst xs) => .ok (!xs.isEmpty) S
  | some (.tup xs) => .ok (!xs.isEmpty) S
  | _ => .bad
def tTr (f : XFn) : TFn := fun ρ S => (f ρ S).bind truth
theorem wda_empty {vs : List V} {ds : List D} (w : WdA K F vs ds) : vs.isEmpty = ds.isEmpty := by
  cases w <;> rfl
theorem dt_of {f : XFn} (h : DE X W a f) (he : ∀ whole, isTrue a X.env whole = (do let v ← whole; standAt a.pos; holding [v] (truthy v)) := by intro _; rfl) : DT X W a (tTr f) := by
  refine ⟨PT.weak (pt_truth h.pe he) fun σ H Q ⟨ι, F, ρ, S, r, h⟩ => ?_⟩
  refine tD.bind (g := fun _ => truth) r h fun v dv ι1 F1 S1 H1 r1 w1 g1 h1 => ?_
  unfold truth at h1
  cases ed : rd S1 dv with
  | none => rw [ed] at h1; exact h1.elim
  | some d =>
    rw [ed] at h1
    have vw := r1.st.vw w1 ed
    cases vw with
    | non => exact ⟨false, rfl, h1 ι1 F1 H1 .refl r1.st⟩
    | bl b => exact ⟨b, rfl, h1 ι1 F1 H1 .refl r1.st⟩
    | int i => exact ⟨i != 0, rfl, h1 ι1 F1 H1 .refl r1.st⟩
    | str x => exact h1.elim
    | lst s w => exact ⟨_, .inl ⟨_, .of s, rfl⟩, by rw [wda_empty w]; exact h1 ι1 F1 H1 .refl r1.st⟩
    | tup s w => exact ⟨_, .inr (.inl ⟨_, sameT r1.st.sub s, rfl⟩), by rw [wda_empty w]; exact h1 ι1 F1 H1 .refl r1.st⟩
def tNo (f : TFn) : TFn := fun ρ S => (f ρ S).bind fun b S1 => .ok (!b) S1
def tAn (f g : TFn) : TFn := fun ρ S => (f ρ S).bind fun b S1 => if b then g ρ S1 else .ok false S1
def tOr_ (f g : TFn) : TFn := fun ρ S => (f ρ S).bind fun b S1 => if b then .ok true S1 else g ρ S1
theorem dt_not {f : TFn} (h : DT X W a f) : DT X W (.UnaryOp .Not a pos) (tNo f) := by
  refine ⟨PT.weak (pt_not h.pt) fun σ H Q ⟨ι, F, ρ, S, r, h⟩ => ?_⟩
  exact tT.bind (g := fun _ b S1 => .ok (!b) S1) r h fun b ι1 F1 S1 H1 r1 g1 h1 => h1 ι1 F1 H1 .refl r1.st
theorem dw_and1 {f : TFn} (h : DT X W a f) : DW X W (.BoolOp .And [a] pos) f := ⟨pw_and1 h.pt⟩
theorem dw_or1 {f : TFn} (h : DT X W a f) : DW X W (.BoolOp .Or [a] pos) f := ⟨pw_or1 h.pt⟩
theorem dw_and {f g : TFn} {rest : List Expr} (ha : DT X W a f) (hb : DW X W (.BoolOp .And (b :: rest) pos) g) : DW X W (.BoolOp .And (a :: b :: rest) pos) (tAn f g) := by
  refine ⟨PW.weak (pw_and ha.pt hb.pw) fun σ H Q ⟨ι, F, ρ, S, r, h⟩ => ?_⟩
  refine tT.bind (g := fun ρ b S1 => if b then g ρ S1 else .ok false S1) r h fun b ι1 F1 S1 H1 r1 g1 h1 => ?_
  cases b with
  | true => rw [if_pos rfl]; exact ⟨ι1, F1, ρ, S1, r1, h1⟩
  | false => rw [if_neg (by simp)]; exact h1 ι1 F1 H1 .refl r1.st
theorem dw_or {f g : TFn} {rest : List Expr} (ha : DT X W a f) (hb : DW X W (.BoolOp .Or (b :: rest) pos) g) : DW X W (.BoolOp .Or (a :: b :: rest) pos) (tOr_ f g) := by
  refine ⟨PW.weak (pw_or ha.pt hb.pw) fun σ H Q ⟨ι, F, ρ, S, r, h⟩ => ?_⟩
  refine tT.bind (g := fun ρ b S1 => if b then .ok true S1 else g ρ S1) r h fun b ι1 F1 S1 H1 r1 g1 h1 => ?_
  cases b with
  | true => rw [if_pos rfl]; exact h1 ι1 F1 H1 .refl r1.st
  | false => rw [if_neg (by simp)]; exact ⟨ι1, F1, ρ, S1, r1, h1⟩
theorem DW.dt {f : TFn} (h : DW X W a f) : DT X W a f := ⟨h.pw.pt⟩
def xIf (t : TFn) (f g : XFn) : XFn := fun ρ S => (t ρ S).bind fun b S1 => if b then f ρ S1 else g ρ S1
theorem de_if {t : TFn} {f g : XFn} (hc : DT X W c t) (ha : DE X W a f) (hb : DE X W b g) : DE X W (.IfExp c a b pos) (xIf t f g) := by
  refine ⟨PE.weak (pe_ifExp hc.pt ha.pe hb.pe) fun σ H Q ⟨ι, F, ρ, S, r, h⟩ => ?_⟩
  refine tT.bind (g := fun ρ b S1 => if b then f ρ S1 else g ρ S1) r h fun b ι1 F1 S1 H1 r1 g1 h1 => ?_
  cases b with
  | true => rw [if_pos rfl]; exact ⟨ι1, F1, ρ, S1, r1, h1⟩
  | false => rw [if_neg (by simp)]; exact ⟨ι1, F1, ρ, S1, r1, h1⟩
/-- a < b < c -/
theorem de_chain {op op' : CmpOp} {r r' : R2} {o o' : Op2} {f g k : XFn} (ho : OpR X (compareOp op) r) (ho' : OpR X (compareOp op') r') (k1 : OpOk X.K r o) (k2 : OpOk X.K r' o') (ha : DE X W a f) (hb : DE X W b g) (hc : DE X W c k)
    (hm : lastMarks [op, op'] [b, c] = false := by rfl) : DE X W (.Compare a [op, op'] [b, c] pos) (xChain o o' f g k) := by
  refine ⟨PE.weak (pe_chain ho ho' ha.pe hb.pe hc.pe hm) fun σ H Q ⟨ι, F, ρ, S, r0, h⟩ => ?_⟩
  refine tD.bind (g := fun ρ x S1 => (g ρ S1).bind fun y S2 => (o x y S2).bind fun z S3 => match z with
    | .dat (.bl true) => (k ρ S3).bind fun w S4 => o' y w S4
    | .dat (.bl false) => .ok (.dat (.bl false)) S3
    | _ => .bad) r0 h fun v dv ι1 F1 S1 H1 r1 w1 g1 h1 => ?_
  refine tD.bind (g := fun ρ y S2 => (o dv y S2).bind fun z S3 => match z with
    | .dat (.bl true) => (k ρ S3).bind fun w S4 => o' y w S4
    | .dat (.bl false) => .ok (.dat (.bl false)) S3
    | _ => .bad) r1 h1 fun u du ι2 F2 S2 H2 r2 w2 g2 h2 => ?_
  refine k1 X.mg (fun c d H' => W c d σ H') ι2 F2 H2 S2 v u dv du _ r2.st (w1.grow g2) w2 ?_
  cases q : o dv du S2 with
  | ex c S3 => rw [q] at h2; exact h2
  | bad => rw [q] at h2; exact h2
  | ok z S3 =>
    rw [q] at h2
    intro ι3 F3 H3 g3 st3 zv wz
    have h3 := Post.grow (r := (match z with
      | .dat (.bl true) => (k ρ S3).bind fun w S4 => o' du w S4
      | .dat (.bl false) => .ok (.dat (.bl false)) S3
      | _ => .bad)) h2 g3
    have r3 := r2.slots g3 st3
    split at h3
    · have w' : Wd X.K F3 zv (.bl true) := wz
      cases w'
      refine ⟨true, rfl, ?_⟩
      rw [if_pos rfl]
      refine tD.bind (g := fun ρ w S4 => o' du w S4) r3 h3 fun t dt ι4 F4 S4 H4 r4 w4 g4 h4 => ?_
      exact k2 _ _ ι4 F4 H4 S4 u t du dt Q r4.st ((w2.grow g3).grow g4) w4 h4
    · have w' : Wd X.K F3 zv (.bl false) := wz
      cases w'
      exact ⟨false, rfl, by rw [if_neg (by simp)]; exact h3 ι3 F3 H3 .refl st3 _ (.bl _)⟩
    · exact h3.elim
end
/-! ## statements -/
inductive RS where
  | nx (ρ : Slots) (S : Store) | rt (v : DV) (S : Store) | bk (ρ : Slots) (S : Store) | ct (ρ : Slots) (S : Store) | ex (c : Str) (ρ : Slots) (S : Store) | bad
abbrev SFn := Slots → Store → RS
def PostS (K : PySem.W.Frag) (mg : Str → Option Value) (W : WX) (ι : List Addr) (F H : Hp) (r : RS) (D : Ends) : Prop := match r with
  | .nx ρ' S' => ∀ σ' ι' F' H', Grow ι F H ι' F' H' → RR K ι' F' ρ' S' σ' H' → D.nx σ' H'
  | .rt dv S' => ∀ v ι' F' H', Grow ι F H ι' F' H' → StR K ι' F' S' H' → WV K ι' F' v dv → D.rt v H'
  | .bk ρ' S' => ∀ σ' ι' F' H', Grow ι F H ι' F' H' → RR K ι' F' ρ' S' σ' H' → D.bk σ' H'
  | .ct ρ' S' => ∀ σ' ι' F' H', Grow ι F H ι' F' H' → RR K ι' F' ρ' S' σ' H' → D.ct σ' H'
  | .ex c ρ' S' => ∀ C σ' ι' F' H', Grow ι F H ι' F' H' → RR K ι' F' ρ' S' σ' H' → mg c = some (.ref C) → W (.ref C) none σ' H'
  | .bad => False
def tS (X : Cx) (W : WX) (f : SFn) : TS := fun D σ H => ∃ ι F ρ S, RR X.K ι F ρ S σ H ∧ PostS X.K X.mg W ι F H (f ρ S) D
structure DS (X : Cx) (W : WX) (st : Stmt) (f : SFn) : Prop where
  ps : ∃ t, PS X st t ∧ ∀ D σ H, tS X W f D σ H → t D σ H
structure DSs (X : Cx) (W : WX) (st : List Stmt) (f : SFn) : Prop where
  ps : ∃ t, PSs X st t ∧ ∀ D σ H, tS X W f D σ H → t D σ H
section
variable {X : Cx} {W : WX} {e a b c : Expr} {es : List Expr} {pos p : Pos} {K : PySem.W.Frag} {ι : List Addr} {F H : Hp} {S : Store} {mg : Str → Option Value}
theorem PostS.grow {r : RS} {D : Ends} {ι1 : List Addr} {F1 H1 : Hp} (h : PostS K mg W ι F H r D) (g : Grow ι F H ι1 F1 H1) : PostS K mg W ι1 F1 H1 r D := by
  cases r with
  | nx ρ' S' => exact fun σ' ι' F' H' g' r => h σ' ι' F' H' (g.trans g') r
  | bk ρ' S' => exact fun σ' ι' F' H' g' r => h σ' ι' F' H' (g.trans g') r
  | ct ρ' S' => exact fun σ' ι' F' H' g' r => h σ' ι' F' H' (g.trans g') r
  | rt dv S' => exact fun v ι' F' H' g' st w => h v ι' F' H' (g.trans g') st w
  | ex c ρ' S' => exact fun C σ' ι' F' H' g' r m => h C σ' ι' F' H' (g.trans g') r m
  | bad => exact h
/-- an expression's result, then more -/
def Res.bindS {α : Type} (r : Res α) (ρ : Slots) (f : α → Store → RS) : RS := match r with
  | .ok a S => f a S
  | .ex c S => .ex c ρ S
  | .bad => .bad
@[simp] theorem Res.bindS_ok {α : Type} (a : α) (S : Store) (ρ : Slots) (f : α → Store → RS) : (Res.ok a S).bindS ρ f = f a S := rfl
@[simp] theorem Res.bindS_ex {α : Type} (c : Str) (S : Store) (ρ : Slots) (f : α → Store → RS) : (Res.ex c S : Res α).bindS ρ f = .ex c ρ S := rfl
@[simp] theorem Res.bindS_bad {α : Type} (ρ : Slots) (f : α → Store → RS) : (Res.bad : Res α).bindS ρ f = .bad := rfl
theorem tD.bindS {f : XFn} {g : Slots → DV → Store → RS} {σ : L2.St} {H : Hp} {R : VK} {D : Ends} {ι : List Addr} {F : Hp} {ρ : Slots} {S : Store} (r : RR X.K ι F ρ S σ H)
    (h : PostS X.K X.mg W ι F H ((f ρ S).bindS ρ (g ρ)) D)
    (k : ∀ v dv ι1 F1 S1 H1, RR X.K ι1 F1 ρ S1 σ H1 → WV X.K ι1 F1 v dv → Grow ι F H ι1 F1 H1 → PostS X.K X.mg W ι1 F1 H1 (g ρ dv S1) D → R v H1) : tD X W f σ H R := by
  refine ⟨ι, F, ρ, S, r, ?_⟩
  cases q : f ρ S with
  | ok dv S1 =>
    rw [q] at h
    exact fun ι1 F1 H1 g1 st v wv => k v dv ι1 F1 S1 H1 (r.slots g1 st) wv g1 (PostS.grow (r := g ρ dv S1) h g1)
  | ex c S1 => rw [q] at h; exact fun C ι' F' H' g' st m => h C σ ι' F' H' g' (r.slots g' st) m
  | bad => rw [q] at h; exact h
theorem tT.bindS {f : TFn} {g : Slots → Bool → Store → RS} {σ : L2.St} {H : Hp} {R : Bool → Hp → Prop} {D : Ends} {ι : List Addr} {F : Hp} {ρ : Slots} {S : Store} (r : RR X.K ι F ρ S σ H)
    (h : PostS X.K X.mg W ι F H ((f ρ S).bindS ρ (g ρ)) D)
    (k : ∀ b ι1 F1 S1 H1, RR X.K ι1 F1 ρ S1 σ H1 → Grow ι F H ι1 F1 H1 → PostS X.K X.mg W ι1 F1 H1 (g ρ b S1) D → R b H1) : tT X W f σ H R := by
  refine ⟨ι, F, ρ, S, r, ?_⟩
  cases q : f ρ S with
  | ok b S1 =>
    rw [q] at h
    exact fun ι1 F1 H1 g1 st => k b ι1 F1 S1 H1 (r.slots g1 st) g1 (PostS.grow (r := g ρ b S1) h g1)
  | ex c S1 => rw [q] at h; exact fun C ι' F' H' g' st m => h C σ ι' F' H' g' (r.slots g' st) m
  | bad => rw [q] at h; exact h
/-- slot i takes a value -/
theorem RR.set {ρ : Slots} {σ : L2.St} (r : RR K ι F ρ S σ H) {v : V} {dv : DV} (w : WV K ι F v dv) (i : Nat) : RR K ι F (ρ.set i (some dv)) S (σ.set i (some v)) H := by
  refine ⟨r.st, by simp [r.len], fun j d e => ?_⟩
  by_cases h : i = j
  · subst h
    rw [List.getElem?_set] at e ⊢
    rw [← r.len]
    split at e
    · split at e
      · rename_i h2
        simp at e; subst e
        exact ⟨v, by simp [h2], w⟩
      · cases e
    · rename_i h2; exact absurd rfl h2
  · rw [List.getElem?_set_ne h] at e ⊢
    exact r.slot j d e
theorem RR.unset {ρ : Slots} {σ : L2.St} (r : RR K ι F ρ S σ H) (i : Nat) : RR K ι F (ρ.set i none) S (σ.set i none) H := by
  refine ⟨r.st, by simp [r.len], fun j d e => ?_⟩
  by_cases h : i = j
  · subst h
    rw [List.getElem?_set] at e
    split at e
    · split at e <;> cases e
    · rename_i h2; exact absurd rfl h2
  · rw [List.getElem?_set_ne h] at e ⊢
    exact r.slot j d e
def sNil : SFn := fun ρ S => .nx ρ S
def sSeq (f g : SFn) : SFn := fun ρ S => match f ρ S with
  | .nx ρ' S' => g ρ' S'
  | r => r
theorem dss_nil : DSs X W [] sNil := ⟨_, pss_nil, fun D σ H ⟨ι, F, ρ, S, r, h⟩ => h σ ι F H .refl r⟩
theorem tS.seq {f g : SFn} {D : Ends} {σ : L2.St} {H : Hp} (h : tS X W (sSeq f g) D σ H) : tS X W f { D with nx := tS X W g D } σ H := by
  obtain ⟨ι, F, ρ, S, r, h⟩ := h
  refine ⟨ι, F, ρ, S, r, ?_⟩
  unfold sSeq at h
  cases q : f ρ S with
  | nx ρ' S' => rw [q] at h; exact fun σ' ι' F' H' g' r' => ⟨ι', F', ρ', S', r', PostS.grow (r := g ρ' S') h g'⟩
  | rt dv S' => rw [q] at h; exact h
  | bk ρ' S' => rw [q] at h; exact h
  | ct ρ' S' => rw [q] at h; exact h
  | ex c ρ' S' => rw [q] at h; exact h
  | bad => rw [q] at h; exact h
theorem tS.mono {f : SFn} {D D' : Ends} {σ : L2.St} {H : Hp} (h : tS X W f D σ H) (k1 : ∀ σ H, D.nx σ H → D'.nx σ H) (k2 : ∀ v H, D.rt v H → D'.rt v H) (k3 : ∀ σ H, D.bk σ H → D'.bk σ H) (k4 : ∀ σ H, D.ct σ H → D'.ct σ H) : tS X W f D' σ H := by
  obtain ⟨ι, F, ρ, S, r, h⟩ := h
  refine ⟨ι, F, ρ, S, r, ?_⟩
  cases q : f ρ S with
  | nx ρ' S' => rw [q] at h; exact fun σ' ι' F' H' g' r' => k1 _ _ (h σ' ι' F' H' g' r')
  | rt dv S' => rw [q] at h; exact fun v ι' F' H' g' st w => k2 _ _ (h v ι' F' H' g' st w)
  | bk ρ' S' => rw [q] at h; exact fun σ' ι' F' H' g' r' => k3 _ _ (h σ' ι' F' H' g' r')
  | ct ρ' S' => rw [q] at h; exact fun σ' ι' F' H' g' r' => k4 _ _ (h σ' ι' F' H' g' r')
  | ex c ρ' S' => rw [q] at h; exact h
  | bad => rw [q] at h; exact h
theorem dss_cons {st : Stmt} {rest : List Stmt} {f g : SFn} (h : DS X W st f) (k : DSs X W rest g) : DSs X W (st :: rest) (sSeq f g) := by
  obtain ⟨t, p, i⟩ := h.ps
  obtain ⟨u, q, j⟩ := k.ps
  exact ⟨_, pss_cons p q, fun D σ H h => i _ σ H (h.seq.mono (fun σ H => j D σ H) (fun _ _ x => x) (fun _ _ x => x) (fun _ _ x => x))⟩
theorem dss_one {st : Stmt} {f : SFn} (h : DS X W st f) : DSs X W [st] f := let ⟨t, p, i⟩ := h.ps; ⟨t, pss_one p, i⟩
def sRet (f : XFn) : SFn := fun ρ S => (f ρ S).bindS ρ fun v S1 => .rt v S1
theorem ds_ret {f : XFn} (h : DE X W e f) : DS X W (.Return (some e) pos) (sRet f) :=
  ⟨_, ps_ret h.pe, fun D σ H ⟨ι, F, ρ, S, r, h⟩ => tD.bindS (g := fun _ v S1 => .rt v S1) r h fun v dv ι1 F1 S1 H1 r1 w1 g1 h1 => h1 v ι1 F1 H1 .refl r1.st w1⟩
def sSet (i : Nat) (f : XFn) : SFn := fun ρ S => (f ρ S).bindS ρ fun v S1 => .nx (ρ.set i (some v)) S1
theorem ds_set {i : Nat} {x : Str} {f : XFn} {p2 : Pos} (h : DE X W e f) (hN : X.N.Nodup) (hi : X.N[i]? = some x := by rfl) (hx : Loc X.env.scope x := by first | exact .inl rfl | exact .inr rfl) (hs : swapsWith e (some (.Name x p2)) pos.line X.env = pure false := by rfl)
    (hf : X.fn x = true ∨ X.env.scope.names.lookup x = some .local := by exact .inl rfl) (hs2 : swapsWithSole [.Name x p2] e pos.line X.env = pure false := by rfl) : DS X W (.Assign [.Name x p2] e pos) (sSet i f) :=
  ⟨_, ps_asg h.pe (pg_name hN hi hx hf) hs2, fun D σ H ⟨ι, F, ρ, S, r, h⟩ => tD.bindS (g := fun ρ v S1 => .nx (ρ.set i (some v)) S1) r h fun v dv ι1 F1 S1 H1 r1 w1 g1 h1 => h1 _ ι1 F1 H1 .refl (r1.set w1 i)⟩
def sExpr (f : XFn) : SFn := fun ρ S => (f ρ S).bindS ρ fun _ S1 => .nx ρ S1
theorem ds_expr {f : XFn} (h : DE X W e f) (hs : swapsWith e none pos.line X.env = pure false := by rfl) : DS X W (.Expr e pos) (sExpr f) :=
  ⟨_, ps_expr h.pe hs, fun D σ H ⟨ι, F, ρ, S, r, h⟩ => tD.bindS (g := fun ρ v S1 => .nx ρ S1) r h fun v dv ι1 F1 S1 H1 r1 w1 g1 h1 => h1 _ ι1 F1 H1 .refl r1⟩
def sIf (t : TFn) (f g : SFn) : SFn := fun ρ S => (t ρ S).bindS ρ fun b S1 => if b then f ρ S1 else g ρ S1
theorem ds_if {t : TFn} {f g : SFn} {sa sb : List Stmt} (hc : DT X W c t) (ha : DSs X W sa f) (hb : DSs X W sb g) : DS X W (.If c sa sb pos) (sIf t f g) := by
  obtain ⟨t1, p1, i1⟩ := ha.ps
  obtain ⟨t2, p2, i2⟩ := hb.ps
  refine ⟨_, ps_if hc.pt p1 p2, fun D σ H ⟨ι, F, ρ, S, r, h⟩ => ?_⟩
  refine tT.bindS (g := fun ρ b S1 => if b then f ρ S1 else g ρ S1) r h fun b ι1 F1 S1 H1 r1 g1 h1 => ?_
  cases b with
  | true => rw [if_pos rfl]; exact i1 _ _ _ ⟨ι1, F1, ρ, S1, r1, h1⟩
  | false => rw [if_neg (by simp)]; exact i2 _ _ _ ⟨ι1, F1, ρ, S1, r1, h1⟩
def sBrk : SFn := fun ρ S => .bk ρ S
def sCnt : SFn := fun ρ S => .ct ρ S
theorem ds_break : DS X W (.Break pos) sBrk := ⟨_, ps_break, fun D σ H ⟨ι, F, ρ, S, r, h⟩ => h σ ι F H .refl r⟩
theorem ds_continue : DS X W (.Continue pos) sCnt := ⟨_, ps_continue, fun D σ H ⟨ι, F, ρ, S, r, h⟩ => h σ ι F H .refl r⟩
theorem ds_pass : DS X W (.Pass pos) sNil := ⟨_, ps_pass, fun D σ H ⟨ι, F, ρ, S, r, h⟩ => h σ ι F H .refl r⟩
end
end DL

set_option maxHeartbeats 4000000
namespace DL
open PySem PySem.Spec PyProof.Rows L2
section
variable {X : Cx} {W : WX} {e a b c : Expr} {es : List Expr} {pos p : Pos} {K : PySem.W.Frag} {ι : List Addr} {F H : Hp} {S : Store} {mg : Str → Option Value}
/-! ## lists of the store -/
theorem StR.put (st : StR K ι F S H) {k : Nat} {a : Addr} {o : HO} {vs : List V} {ds : List D} (hk : ι[k]? = some a) (hF : F a = none) (hH : H a = some o) (w : WdA K F vs ds) : StR K ι F (S.set k (some ds)) (upd H a (.lst vs)) := by
  refine ⟨fun b u e => ?_, by simp [st.len], st.nd, fun b hb => upd_full (st.full b hb), fun j es e => ?_⟩
  · have n : b ≠ a := fun z => by rw [z, hF] at e; cases e
    rw [upd_ne n]; exact st.sub b u e
  · by_cases h : k = j
    · subst h
      rw [List.getElem?_set] at e
      split at e
      · split at e
        · simp at e; subst e
          exact ⟨a, vs, hk, upd_same, hF, w⟩
        · cases e
      · rename_i h2; exact absurd rfl h2
    · rw [List.getElem?_set_ne h] at e
      obtain ⟨a', vs', h1, h2, h3, h4⟩ := st.cell j es e
      have n : a' ≠ a := fun z => by
        subst z
        obtain ⟨i1, g1⟩ := List.getElem?_eq_some_iff.mp hk
        obtain ⟨i2, g2⟩ := List.getElem?_eq_some_iff.mp h1
        exact h ((List.getElem_inj st.nd).mp (by rw [g1, g2]))
      exact ⟨a', vs', h1, by rw [upd_ne n]; exact h2, h3, h4⟩
theorem grow_put {k : Nat} {a : Addr} {o : HO} (hk : ι[k]? = some a) : Grow ι F H ι F (upd H a o) := by
  have m : a ∈ ι := List.mem_of_getElem? hk
  exact ⟨List.prefix_rfl, Same.refl _, fun b u e n => by rw [upd_ne (fun z => n (by rw [z]; exact m))]; exact e, fun b u e f _ => f, fun b h => .inl h, fun b h => upd_none h⟩
/-- cell k dies; what stands there is frozen -/
theorem StR.freeze (st : StR K ι F S H) {k : Nat} {a : Addr} {vs : List V} (hk : ι[k]? = some a) (hF : F a = none) (hH : H a = some (.lst vs)) : StR K ι (upd F a (.lst vs)) (S.set k none) H ∧ Grow ι F H ι (upd F a (.lst vs)) H ∧ Same F (upd F a (.lst vs)) := by
  have m : a ∈ ι := List.mem_of_getElem? hk
  have s : Same F (upd F a (.lst vs)) := fun b u e => by rw [upd_ne (fun z => by rw [z, hF] at e; cases e)]; exact e
  refine ⟨⟨fun b u e => ?_, by simp [st.len], st.nd, st.full, fun j es e => ?_⟩, ⟨List.prefix_rfl, s, fun b u e n => e, fun b u e f n => by rw [upd_ne (fun z => n (by rw [z]; exact m))]; exact f, fun b h => .inl h, fun b h => h⟩, s⟩
  · by_cases h : b = a
    · subst h; rw [upd_same] at e; rw [hH]; exact e
    · rw [upd_ne h] at e; exact st.sub b u e
  · by_cases h : k = j
    · subst h
      rw [List.getElem?_set] at e
      split at e
      · split at e <;> cases e
      · rename_i h2; exact absurd rfl h2
    · rw [List.getElem?_set_ne h] at e
      obtain ⟨a', vs', h1, h2, h3, h4⟩ := st.cell j es e
      have n : a' ≠ a := fun z => by
        subst z
        obtain ⟨i1, g1⟩ := List.getElem?_eq_some_iff.mp hk
        obtain ⟨i2, g2⟩ := List.getElem?_eq_some_iff.mp h1
        exact h ((List.getElem_inj st.nd).mp (by rw [g1, g2]))
      exact ⟨a', vs', h1, h2, by rw [upd_ne n]; exact h3, h4.mono s⟩
/-- a new list becomes a cell -/
theorem StR.add (st : StR K ι F S H) {p : Addr} {vs : List V} {ds : List D} (hH : H p = some (.lst vs)) (hF : F p = none) (hι : p ∉ ι) (w : WdA K F vs ds) : StR K (ι ++ [p]) F (S ++ [some ds]) H := by
  refine ⟨st.sub, by simp [st.len], List.nodup_append.mpr ⟨st.nd, by simp, fun x hx y hy => by simp at hy; subst hy; exact fun z => hι (z ▸ hx)⟩, fun b hb => by
    rcases List.mem_append.mp hb with h | h
    · exact st.full b h
    · simp at h; subst h; rw [hH]; simp, fun j es e => ?_⟩
  by_cases h : j < S.length
  · rw [List.getElem?_append_left h] at e
    obtain ⟨a', vs', h1, h2, h3, h4⟩ := st.cell j es e
    exact ⟨a', vs', by rw [List.getElem?_append_left (by rw [st.len]; exact h)]; exact h1, h2, h3, h4⟩
  · have h' := (List.getElem?_eq_some_iff.mp e).1
    simp at h'
    have : j = S.length := by omega
    subst this
    simp at e
    subst e
    exact ⟨p, vs, by rw [← st.len]; simp, hH, hF, w⟩
/-! ### new lists -/
abbrev LFn := Slots → Store → Res (List D)
def tN (X : Cx) (W : WX) (f : LFn) : TE := fun σ H Q => ∃ ι F ρ S, RR X.K ι F ρ S σ H ∧ Post X.K X.mg (fun c d H' => W c d σ H') ι F H (f ρ S) fun ds ι' F' H' =>
  ∀ p vs, H p = none → H' p = some (.lst vs) → F' p = none → p ∉ ι' → WdA X.K F' vs ds → Q (.ref p) H'
structure NE (X : Cx) (W : WX) (e : Expr) (f : LFn) : Prop where
  pe : PE X e (tN X W f)
def xN1 (f : LFn) : XFn := fun ρ S => (f ρ S).bind fun ds S1 => .ok (.dat (.lst ds)) S1
theorem grow_freeze {ι' : List Addr} {F' H' : Hp} (g : Grow ι F H ι' F' H') {p : Addr} {o : HO} (hp : H p = none) (hF : F' p = none) : Grow ι F H ι' (upd F' p o) H' :=
  ⟨g.pre, fun b u e => by rw [upd_ne (fun z => by have := g.sf b u e; rw [z, hF] at this; cases this)]; exact g.sf b u e, g.keep, fun b u e f n => by rw [upd_ne (fun z => by rw [z, hp] at e; cases e)]; exact g.new b u e f n, g.nio, g.dom⟩
theorem StR.frz (st : StR K ι F S H) {p : Addr} {vs : List V} (hH : H p = some (.lst vs)) (hF : F p = none) (hι : p ∉ ι) : StR K ι (upd F p (.lst vs)) S H ∧ Same F (upd F p (.lst vs)) := by
  have s : Same F (upd F p (.lst vs)) := fun b u e => by rw [upd_ne (fun z => by rw [z, hF] at e; cases e)]; exact e
  refine ⟨⟨fun b u e => ?_, st.len, st.nd, st.full, fun j es e => ?_⟩, s⟩
  · by_cases h : b = p
    · subst h; rw [upd_same] at e; rw [hH]; exact e
    · rw [upd_ne h] at e; exact st.sub b u e
  · obtain ⟨a', vs', h1, h2, h3, h4⟩ := st.cell j es e
    have n : a' ≠ p := fun z => hι (z ▸ List.mem_of_getElem? h1)
    exact ⟨a', vs', h1, h2, by rw [upd_ne n]; exact h3, h4.mono s⟩
theorem tD.toN {f : LFn} {σ : L2.St} {H : Hp} {Q : VK} (h : tD X W (xN1 f) σ H Q) : tN X W f σ H Q := by
  obtain ⟨ι, F, ρ, S, r, h⟩ := h
  refine ⟨ι, F, ρ, S, r, ?_⟩
  unfold xN1 at h
  cases q : f ρ S with
  | bad => rw [q] at h; exact h
  | ex c S1 => rw [q] at h; exact h
  | ok ds S1 =>
    rw [q] at h
    intro ι' F' H' g st p vs hp hH hF hι w
    obtain ⟨st', s⟩ := st.frz hH hF hι
    exact h ι' _ H' (grow_freeze g hp hF) st' (.ref p) (.lst upd_same (w.mono s))
theorem NE.de {f : LFn} (h : NE X W e f) : DE X W e (xN1 f) := ⟨PE.weak h.pe fun σ H Q h => h.toN⟩
/-- x = a new list, that will be changed in place -/
def sNew (i : Nat) (f : LFn) : SFn := fun ρ S => (f ρ S).bindS ρ fun ds S1 => .nx (ρ.set i (some (.obj S1.length))) (S1 ++ [some ds])
theorem grow_add {ι' : List Addr} {F' H' : Hp} (g : Grow ι F H ι' F' H') {p : Addr} (hp : H p = none) : Grow ι F H (ι' ++ [p]) F' H' :=
  ⟨g.pre.trans (List.prefix_append _ _), g.sf, g.keep, g.new, fun b h => by
    rcases List.mem_append.mp h with h | h
    · exact g.nio b h
    · simp at h; subst h; exact .inr hp, g.dom⟩
theorem tS.new {i : Nat} {f : LFn} {D : Ends} {σ : L2.St} {H : Hp} (h : tS X W (sNew i f) D σ H) : tN X W f σ H fun v H1 => D.nx (σ.set i (some v)) H1 := by
  obtain ⟨ι, F, ρ, S, r, h⟩ := h
  refine ⟨ι, F, ρ, S, r, ?_⟩
  unfold sNew at h
  cases q : f ρ S with
  | bad => rw [q] at h; exact h
  | ex c S1 => rw [q] at h; exact fun C ι' F' H' g st m => h C σ ι' F' H' g (r.slots g st) m
  | ok ds S1 =>
    rw [q] at h
    intro ι' F' H' g st p vs hp hH hF hι w
    have r1 := r.slots (grow_add g hp) (st.add hH hF hι w)
    exact h _ _ F' H' (grow_add g hp) (r1.set (dv := .obj S1.length) ⟨p, by rw [← st.len]; simp, rfl⟩ i)
theorem tS.set {i : Nat} {f : XFn} {D : Ends} {σ : L2.St} {H : Hp} (h : tS X W (sSet i f) D σ H) : tD X W f σ H fun v H1 => D.nx (σ.set i (some v)) H1 := by
  obtain ⟨ι, F, ρ, S, r, h⟩ := h
  exact tD.bindS (g := fun ρ v S1 => .nx (ρ.set i (some v)) S1) r h fun v dv ι1 F1 S1 H1 r1 w1 g1 h1 => h1 _ ι1 F1 H1 .refl (r1.set w1 i)
theorem ds_new {i : Nat} {x : Str} {f : LFn} {p2 : Pos} (h : NE X W e f) (hN : X.N.Nodup) (hi : X.N[i]? = some x := by rfl) (hx : Loc X.env.scope x := by first | exact .inl rfl | exact .inr rfl)
    (hf : X.fn x = true ∨ X.env.scope.names.lookup x = some .local := by exact .inl rfl) (hs2 : swapsWithSole [.Name x p2] e pos.line X.env = pure false := by rfl) : DS X W (.Assign [.Name x p2] e pos) (sNew i f) :=
  ⟨_, ps_asg h.pe (pg_name hN hi hx hf) hs2, fun D σ H h => h.new⟩
/-- [a, b, ..] as a new list -/
def lLst (f : AFn) : LFn := fun ρ S => (f ρ S).bind fun ds S1 => match dats ds with
  | some xs => if xs.length ≤ sizeLine then .ok xs S1 else .bad
  | none => .bad
theorem ne_new {Q : VK} {ι1 : List Addr} {F1 H1 : Hp} {S1 : Store} {xs : List D} {vs : List V} {E : XK} (st : StR K ι1 F1 S1 H1) (g : Grow ι F H ι1 F1 H1)
    (h : Post K mg E ι1 F1 H1 (.ok xs S1) fun ds ι' F' H' => ∀ p vs, H p = none → H' p = some (.lst vs) → F' p = none → p ∉ ι' → WdA K F' vs ds → Q (.ref p) H')
    (w : WdA K F1 vs xs) {p : Addr} (hp : H1 p = none) : Q (.ref p) (upd H1 p (.lst vs)) := by
  have hF : F1 p = none := by
    cases q : F1 p with
    | none => rfl
    | some o => rw [st.sub p o q] at hp; cases hp
  exact h ι1 F1 _ (grow_alone hp _) (st.alone hp _) p vs (g.dom p hp) upd_same hF (fun m => st.full p m hp) w
theorem ne_lst {f : AFn} (h : DA X W es f) : NE X W (.List es pos) (lLst f) := by
  refine ⟨PE.weak (pe_lst h.pa) fun σ H Q ⟨ι, F, ρ, S, r, h⟩ => ?_⟩
  refine tA.bind (g := fun _ ds S1 => match dats ds with
    | some xs => if xs.length ≤ sizeLine then .ok xs S1 else .bad
    | none => .bad) r h fun vs ds ι1 F1 S1 H1 r1 w1 g1 h1 => ?_
  cases q : dats ds with
  | none => simp only [q] at h1; exact h1.elim
  | some xs =>
    simp only [q] at h1
    have wx := w1.dats q
    by_cases hl : xs.length ≤ sizeLine
    · simp only [hl, if_true] at h1
      exact ⟨by rw [wx.length]; exact hl, fun p hp => ne_new r1.st g1 h1 wx hp⟩
    · simp only [hl, if_false] at h1; exact h1.elim
/-- list(x) -/
def lList (f : XFn) : LFn := fun ρ S => (f ρ S).bind fun x S1 => match rd S1 x with
  | some (.lst xs) => .ok xs S1
  | some (.tup xs) => .ok xs S1
  | _ => .bad
theorem ne_list {f : XFn} {p2 : Pos} (h : DE X W a f) (hm : X.mg "list" = none) (hg : Gl X "list" := by rfl)
    (he : starEach (a :: []) X.env = (false, eval a X.env) :: starEach [] X.env := by rfl) : NE X W (.Call (.Name "list" p) [a] [] pos) (lList f) := by
  refine ⟨PE.weak (pe_callTy call_list_of hg hm (by decide +kernel) (pa_cons h.pe pa_nil he) (by decide) (by decide) he rfl) fun σ H Q ⟨ι, F, ρ, S, r, h⟩ => ?_⟩
  refine tD.bind (g := fun _ x S1 => match rd S1 x with
    | some (.lst xs) => .ok xs S1
    | some (.tup xs) => .ok xs S1
    | _ => .bad) r h fun v dv ι1 F1 S1 H1 r1 w1 g1 h1 => ?_
  cases ed : rd S1 dv with
  | none => simp only [ed] at h1; exact h1.elim
  | some d =>
    have vw := r1.st.vw w1 ed
    cases vw with
    | lst s w => simp only [ed] at h1; exact ⟨_, _, rfl, .inl (.of s), fun l hl => ne_new r1.st g1 h1 w hl⟩
    | tup s w => simp only [ed] at h1; exact ⟨_, _, rfl, .inr (sameT r1.st.sub s), fun l hl => ne_new r1.st g1 h1 w hl⟩
    | _ => simp only [ed] at h1; exact h1.elim
/-- a list times a number -/
def lRep (f g : XFn) : LFn := fun ρ S => (f ρ S).bind fun x S1 => (g ρ S1).bind fun y S2 => match rd S2 x, y with
  | some (.lst xs), .dat (.int k) => if k ≤ 1000 ∧ -1000 ≤ k ∧ xs.length * k.toNat ≤ sizeLine then .ok (List.replicate k.toNat xs).flatten S2 else .bad
  | _, _ => .bad
theorem ne_rep {f g : XFn} (ha : DE X W a f) (hb : DE X W b g) : NE X W (.BinOp a .Mult b pos) (lRep f g) := by
  refine ⟨PE.weak (pe_op op_rep ha.pe hb.pe) fun σ H Q ⟨ι, F, ρ, S, r0, h⟩ => ?_⟩
  refine tD.bind (g := fun ρ x S1 => (g ρ S1).bind fun y S2 => match rd S2 x, y with
    | some (.lst xs), .dat (.int k) => if k ≤ 1000 ∧ -1000 ≤ k ∧ xs.length * k.toNat ≤ sizeLine then .ok (List.replicate k.toNat xs).flatten S2 else .bad
    | _, _ => .bad) r0 h fun v dv ι1 F1 S1 H1 r1 w1 g1 h1 => ?_
  refine tD.bind (g := fun ρ y S2 => match rd S2 dv, y with
    | some (.lst xs), .dat (.int k) => if k ≤ 1000 ∧ -1000 ≤ k ∧ xs.length * k.toNat ≤ sizeLine then .ok (List.replicate k.toNat xs).flatten S2 else .bad
    | _, _ => .bad) r1 h1 fun u du ι2 F2 S2 H2 r2 w2 g2 h2 => ?_
  cases ed : rd S2 dv with
  | none => simp only [ed] at h2; exact h2.elim
  | some d =>
    have vw := r2.st.vw (w1.grow g2) ed
    cases vw with
    | lst s w =>
      simp only [ed] at h2
      cases du with
      | obj _ => exact h2.elim
      | scr _ => exact h2.elim
      | exn _ _ => exact h2.elim
      | dat d =>
        cases d with
        | int k =>
          have w2' : Wd X.K F2 u (.int k) := w2
          cases w2'
          simp only at h2
          split at h2
          · rename_i hl
            exact ⟨_, _, _, rfl, rfl, s, by omega, by omega, by rw [w.length]; exact hl.2.2, fun p hp => ne_new r2.st (g1.trans g2) h2 (wda_rep w _) hp⟩
          · exact h2.elim
        | _ => exact h2.elim
    | _ => simp only [ed] at h2; exact h2.elim
/-! ### x.append(e) and its like: statements -/
def cellOf (S : Store) : DV → Option (Nat × List D)
  | .obj k => match S[k]? with
    | some (some ds) => some (k, ds)
    | _ => none
  | _ => none
theorem cell_at {S : Store} {x : DV} {k : Nat} {ds : List D} {v : V} (st : StR K ι F S H) (w : WV K ι F v x) (e : cellOf S x = some (k, ds)) : ∃ a vs, v = .ref a ∧ ι[k]? = some a ∧ H a = some (.lst vs) ∧ F a = none ∧ WdA K F vs ds := by
  cases x with
  | dat d => cases e
  | scr ns => cases e
  | exn c p => cases e
  | obj j =>
    simp only [cellOf] at e
    split at e
    · rename_i es q
      cases e
      obtain ⟨a, h1, h2⟩ := w
      obtain ⟨a', vs, h3, h4, h5, h6⟩ := st.cell _ _ q
      rw [h1] at h3; cases h3
      exact ⟨a, vs, h2, h1, h4, h5, h6⟩
    · cases e
def putApp (x y : DV) (ρ : Slots) (S : Store) : RS := match cellOf S x, y with
  | some (k, ds), .dat d => if ds.length < sizeLine then .nx ρ (S.set k (some (ds ++ [d]))) else .bad
  | _, _ => .bad
def sApp (f g : XFn) : SFn := fun ρ S => (f ρ S).bindS ρ fun x S1 => match cellOf S1 x with
  | some _ => (g ρ S1).bindS ρ fun y S2 => putApp x y ρ S2
  | none => .bad
theorem cell_view {S : Store} {x : DV} {z : Nat × List D} {v : V} (st : StR K ι F S H) (w : WV K ι F v x) (e : cellOf S x = some z) : tyV K "list" v H := by
  obtain ⟨k, ds⟩ := z
  obtain ⟨a, vs, rfl, h1, h2, h3, h4⟩ := cell_at st w e
  exact .inl ⟨rfl, vs, .of h2⟩
theorem ds_append {o : Expr} {f g : XFn} {apos : Pos} (ho : DE X W o f) (ha : DE X W a g)
    (hbase : attributeBase o "append" X.env (eval o X.env) = eval o X.env := by rfl)
    (hfew : ((backTo p (starEach (a :: []) X.env)).all (fun x => !x.1) && (backToKw p (keywordEach [] X.env)).all (fun x => x.1.isSome)
      && decide ((a :: []).length + ([] : List Keyword).length + (if ([] : List Keyword).isEmpty then 0 else 1) < 30)) = true := by rfl)
    (hline : (apos.endLine == p.line) = true := by rfl) (hse : starEach (a :: []) X.env = (false, eval a X.env) :: starEach [] X.env := by rfl)
    (hs : swapsWith (.Call (.Attribute o "append" apos) [a] [] p) none pos.line X.env = pure false := by rfl) :
    DS X W (.Expr (.Call (.Attribute o "append" apos) [a] [] p) pos) (sApp f g) := by
  refine ⟨_, ps_expr (pe_bm PySem.F.plainAttrs_list PySem.F.slot_list_append PySem.F.type_list_append mt_append ho.pe (pa_cons ha.pe pa_nil hse) hbase hfew hline hse rfl) hs, fun D σ H ⟨ι, F, ρ, S, r, h⟩ => ?_⟩
  refine tD.bindS (g := fun ρ x S1 => match cellOf S1 x with
    | some _ => (g ρ S1).bindS ρ fun y S2 => putApp x y ρ S2
    | none => .bad) r h fun v dv ι1 F1 S1 H1 r1 w1 g1 h1 => ?_
  cases ec : cellOf S1 dv with
  | none => simp only [ec] at h1; exact h1.elim
  | some z =>
    simp only [ec] at h1
    refine ⟨cell_view r1.st w1 ec, ?_⟩
    refine tD.bindS (g := fun ρ y S2 => putApp dv y ρ S2) r1 h1 fun u du ι2 F2 S2 H2 r2 w2 g2 h2 => ?_
    unfold putApp at h2
    cases ec2 : cellOf S2 dv with
    | none => simp only [ec2] at h2; exact h2.elim
    | some z2 =>
      obtain ⟨k, ds⟩ := z2
      simp only [ec2] at h2
      cases du with
      | dat d =>
        simp only at h2
        split at h2
        · rename_i hl
          obtain ⟨a, vs, rfl, q1, q2, q3, q4⟩ := cell_at r2.st (w1.grow g2) ec2
          refine ⟨a, vs, u, rfl, rfl, q2, by rw [q4.length]; exact hl, ?_⟩
          have gp := grow_put (F := F2) (H := H2) (o := .lst (vs ++ [u])) q1
          exact h2 σ ι2 F2 _ gp (r2.slots gp (r2.st.put q1 q3 q2 (q4.append (.cons w2 .nil))))
        · exact h2.elim
      | _ => exact h2.elim
end
end DL

set_option maxHeartbeats 4000000
namespace DL
open PySem PySem.Spec PyProof.Rows L2
section
variable {X : Cx} {W : WX} {e a b c : Expr} {es : List Expr} {pos p : Pos} {K : PySem.W.Frag} {ι : List Addr} {F H : Hp} {S : Store} {mg : Str → Option Value}
def putExt (x y : DV) (ρ : Slots) (S : Store) : RS := match cellOf S x, y with
  | some (k, ds), .dat (.lst es) => if ds.length + es.length ≤ sizeLine then .nx ρ (S.set k (some (ds ++ es))) else .bad
  | _, _ => .bad
def sExt (f g : XFn) : SFn := fun ρ S => (f ρ S).bindS ρ fun x S1 => match cellOf S1 x with
  | some _ => (g ρ S1).bindS ρ fun y S2 => putExt x y ρ S2
  | none => .bad
theorem ds_extend {o : Expr} {f g : XFn} {apos : Pos} (ho : DE X W o f) (ha : DE X W a g)
    (hbase : attributeBase o "extend" X.env (eval o X.env) = eval o X.env := by rfl)
    (hfew : ((backTo p (starEach (a :: []) X.env)).all (fun x => !x.1) && (backToKw p (keywordEach [] X.env)).all (fun x => x.1.isSome)
      && decide ((a :: []).length + ([] : List Keyword).length + (if ([] : List Keyword).isEmpty then 0 else 1) < 30)) = true := by rfl)
    (hline : (apos.endLine == p.line) = true := by rfl) (hse : starEach (a :: []) X.env = (false, eval a X.env) :: starEach [] X.env := by rfl)
    (hs : swapsWith (.Call (.Attribute o "extend" apos) [a] [] p) none pos.line X.env = pure false := by rfl) :
    DS X W (.Expr (.Call (.Attribute o "extend" apos) [a] [] p) pos) (sExt f g) := by
  refine ⟨_, ps_expr (pe_bm PySem.F.plainAttrs_list PySem.F.slot_list_extend PySem.F.type_list_extend mt_extend ho.pe (pa_cons ha.pe pa_nil hse) hbase hfew hline hse rfl) hs, fun D σ H ⟨ι, F, ρ, S, r, h⟩ => ?_⟩
  refine tD.bindS (g := fun ρ x S1 => match cellOf S1 x with
    | some _ => (g ρ S1).bindS ρ fun y S2 => putExt x y ρ S2
    | none => .bad) r h fun v dv ι1 F1 S1 H1 r1 w1 g1 h1 => ?_
  cases ec : cellOf S1 dv with
  | none => simp only [ec] at h1; exact h1.elim
  | some z =>
    simp only [ec] at h1
    refine ⟨cell_view r1.st w1 ec, ?_⟩
    refine tD.bindS (g := fun ρ y S2 => putExt dv y ρ S2) r1 h1 fun u du ι2 F2 S2 H2 r2 w2 g2 h2 => ?_
    unfold putExt at h2
    cases ec2 : cellOf S2 dv with
    | none => simp only [ec2] at h2; exact h2.elim
    | some z2 =>
      obtain ⟨k, ds⟩ := z2
      simp only [ec2] at h2
      cases du with
      | dat d =>
        cases d with
        | lst es =>
          have vu := r2.st.vw w2 (d := .lst es) rfl
          cases vu with
          | lst su wu =>
            rename_i a2 us
            simp only at h2
            split at h2
            · rename_i hl
              obtain ⟨a, vs, rfl, q1, q2, q3, q4⟩ := cell_at r2.st (w1.grow g2) ec2
              refine ⟨a, _, vs, _, rfl, rfl, q2, su, by rw [q4.length, wu.length]; exact hl, ?_⟩
              have gp := grow_put (F := F2) (H := H2) (o := .lst (vs ++ us)) q1
              exact h2 σ ι2 F2 _ gp (r2.slots gp (r2.st.put q1 q3 q2 (q4.append wu)))
            · exact h2.elim
        | _ => exact h2.elim
      | _ => exact h2.elim
/-! ### x.insert(i, e) -/
def putIns (x i y : DV) (ρ : Slots) (S : Store) : RS := match cellOf S x, i, y with
  | some (k, ds), .dat (.int n), .dat d => if ds.length < sizeLine ∧ 0 ≤ n ∧ n < 2 ^ 63 then .nx ρ (S.set k (some (ds.take n.toNat ++ [d] ++ ds.drop n.toNat))) else .bad
  | _, _, _ => .bad
def sIns (f i g : XFn) : SFn := fun ρ S => (f ρ S).bindS ρ fun x S1 => match cellOf S1 x with
  | some _ => (i ρ S1).bindS ρ fun n S2 => (g ρ S2).bindS ρ fun y S3 => putIns x n y ρ S3
  | none => .bad
theorem ds_insert {o : Expr} {f i g : XFn} {apos : Pos} (ho : DE X W o f) (hi : DE X W a i) (hb : DE X W b g)
    (hbase : attributeBase o "insert" X.env (eval o X.env) = eval o X.env := by rfl)
    (hfew : ((backTo p (starEach (a :: [b]) X.env)).all (fun x => !x.1) && (backToKw p (keywordEach [] X.env)).all (fun x => x.1.isSome)
      && decide ((a :: [b]).length + ([] : List Keyword).length + (if ([] : List Keyword).isEmpty then 0 else 1) < 30)) = true := by rfl)
    (hline : (apos.endLine == p.line) = true := by rfl) (hse : starEach (a :: [b]) X.env = (false, eval a X.env) :: starEach [b] X.env := by rfl) (hse2 : starEach (b :: []) X.env = (false, eval b X.env) :: starEach [] X.env := by rfl)
    (hpl : (backTo p (starEach [b] X.env)).any (·.1) = false := by rfl)
    (hs : swapsWith (.Call (.Attribute o "insert" apos) [a, b] [] p) none pos.line X.env = pure false := by rfl) :
    DS X W (.Expr (.Call (.Attribute o "insert" apos) [a, b] [] p) pos) (sIns f i g) := by
  refine ⟨_, ps_expr (pe_bm PySem.F.plainAttrs_list PySem.F.slot_list_insert PySem.F.type_list_insert mt_insert ho.pe (pa_cons hi.pe (pa_cons hb.pe pa_nil hse2) hse) hbase hfew hline hse hpl) hs, fun D σ H ⟨ι, F, ρ, S, r, h⟩ => ?_⟩
  refine tD.bindS (g := fun ρ x S1 => match cellOf S1 x with
    | some _ => (i ρ S1).bindS ρ fun n S2 => (g ρ S2).bindS ρ fun y S3 => putIns x n y ρ S3
    | none => .bad) r h fun v dv ι1 F1 S1 H1 r1 w1 g1 h1 => ?_
  cases ec : cellOf S1 dv with
  | none => simp only [ec] at h1; exact h1.elim
  | some z =>
    simp only [ec] at h1
    refine ⟨cell_view r1.st w1 ec, ?_⟩
    refine tD.bindS (g := fun ρ n S2 => (g ρ S2).bindS ρ fun y S3 => putIns dv n y ρ S3) r1 h1 fun n dn ι2 F2 S2 H2 r2 w2 g2 h2 => ?_
    refine tD.bindS (g := fun ρ y S3 => putIns dv dn y ρ S3) r2 h2 fun u du ι3 F3 S3 H3 r3 w3 g3 h3 => ?_
    unfold putIns at h3
    cases ec2 : cellOf S3 dv with
    | none => simp only [ec2] at h3; exact h3.elim
    | some z2 =>
      obtain ⟨k, ds⟩ := z2
      simp only [ec2] at h3
      cases dn with
      | dat d =>
        cases d with
        | int j =>
          have wj : Wd X.K F2 n (.int j) := w2
          cases wj
          cases du with
          | dat d =>
            simp only at h3
            split at h3
            · rename_i hl
              obtain ⟨a, vs, rfl, q1, q2, q3, q4⟩ := cell_at r3.st ((w1.grow g2).grow g3) ec2
              refine ⟨a, vs, j, u, rfl, rfl, q2, by rw [q4.length]; exact hl.1, hl.2.1, hl.2.2, ?_⟩
              have gp := grow_put (F := F3) (H := H3) (o := .lst (vs.take j.toNat ++ [u] ++ vs.drop j.toNat)) q1
              exact h3 σ ι3 F3 _ gp (r3.slots gp (r3.st.put q1 q3 q2 (((q4.take _).append (.cons w3 .nil)).append (q4.drop _))))
            · exact h3.elim
          | _ => exact h3.elim
        | _ => exact h3.elim
      | _ => exact h3.elim
/-! ### x[i] = e -/
def putIx (x i y : DV) (ρ : Slots) (S : Store) : RS := match cellOf S x, i, y with
  | some (k, ds), .dat (.int n), .dat d => (match ixN ds.length n with
    | some j => .nx ρ (S.set k (some (ds.set j d)))
    | none => .bad)
  | _, _, _ => .bad
def sPut (f i g : XFn) : SFn := fun ρ S => (g ρ S).bindS ρ fun y S1 => (f ρ S1).bindS ρ fun x S2 => (i ρ S2).bindS ρ fun n S3 => putIx x n y ρ S3
theorem ds_put {o : Expr} {f i g : XFn} {p2 : Pos} (ho : DE X W o f) (hi : DE X W a i) (hb : DE X W b g)
    (ha : ∀ v, assign (.Subscript o a p2) X.env v = (do
      let ov ← holding [v] (eval o X.env)
      let iv ← holding [v, ov] (eval a X.env)
      standAt p2
      holding [v, ov, iv] (setItem ov iv v)
      release [v, ov, iv] []) := by intro _; rfl)
    (hs : swapsWithSole [.Subscript o a p2] b pos.line X.env = pure false := by rfl) :
    DS X W (.Assign [.Subscript o a p2] b pos) (sPut f i g) := by
  refine ⟨_, ps_asg hb.pe (pg_sub ho.pe hi.pe set_list ha) hs, fun D σ H ⟨ι, F, ρ, S, r, h⟩ => ?_⟩
  refine tD.bindS (g := fun ρ y S1 => (f ρ S1).bindS ρ fun x S2 => (i ρ S2).bindS ρ fun n S3 => putIx x n y ρ S3) r h fun v dv ι1 F1 S1 H1 r1 w1 g1 h1 => ?_
  refine tD.bindS (g := fun ρ x S2 => (i ρ S2).bindS ρ fun n S3 => putIx x n dv ρ S3) r1 h1 fun o dx ι2 F2 S2 H2 r2 w2 g2 h2 => ?_
  refine tD.bindS (g := fun ρ n S3 => putIx dx n dv ρ S3) r2 h2 fun n dn ι3 F3 S3 H3 r3 w3 g3 h3 => ?_
  unfold putIx at h3
  cases ec2 : cellOf S3 dx with
  | none => simp only [ec2] at h3; exact h3.elim
  | some z2 =>
    obtain ⟨k, ds⟩ := z2
    simp only [ec2] at h3
    cases dn with
    | dat d =>
      cases d with
      | int j =>
        have wj : Wd X.K F3 n (.int j) := w3
        cases wj
        cases dv with
        | dat d =>
          simp only at h3
          cases ej : ixN ds.length j with
          | none => simp only [ej] at h3; exact h3.elim
          | some m =>
            simp only [ej] at h3
            obtain ⟨a, vs, rfl, q1, q2, q3, q4⟩ := cell_at r3.st (w2.grow g3) ec2
            refine ⟨a, vs, j, m, rfl, rfl, q2, by rw [q4.length]; exact ej, ?_⟩
            have gp := grow_put (F := F3) (H := H3) (o := .lst (vs.set m v)) q1
            exact h3 σ ι3 F3 _ gp (r3.slots gp (r3.st.put q1 q3 q2 (q4.set m ((w1.grow g2).grow g3))))
        | _ => exact h3.elim
      | _ => exact h3.elim
    | _ => exact h3.elim
/-! ### a list of the store is not changed any more: from here on it is data -/
def sFrz (i : Nat) : SFn := fun ρ S => match ρ[i]? with
  | some (some x) => (match cellOf S x with
    | some (k, ds) => .nx (ρ.set i (some (.dat (.lst ds)))) (S.set k none)
    | none => .bad)
  | _ => .bad
theorem RR.frz {ρ : Slots} {σ : L2.St} (r : RR K ι F ρ S σ H) {i : Nat} {x : DV} {k : Nat} {ds : List D} (h : ρ[i]? = some (some x)) (ec : cellOf S x = some (k, ds)) :
    ∃ F', Grow ι F H ι F' H ∧ RR K ι F' (ρ.set i (some (.dat (.lst ds)))) (S.set k none) σ H := by
  obtain ⟨v, h1, w⟩ := r.slot i x h
  obtain ⟨a, vs, rfl, q1, q2, q3, q4⟩ := cell_at r.st w ec
  obtain ⟨st, g, s⟩ := r.st.freeze q1 q3 q2
  refine ⟨_, g, st, by simp [r.len], fun j dv e => ?_⟩
  by_cases hij : i = j
  · subst hij
    rw [List.getElem?_set] at e
    split at e
    · split at e
      · simp at e; subst e
        exact ⟨_, h1, Wd.lst upd_same (q4.mono s)⟩
      · cases e
    · rename_i h2; exact absurd rfl h2
  · rw [List.getElem?_set_ne hij] at e
    obtain ⟨v', h2, w'⟩ := r.slot j dv e
    exact ⟨v', h2, w'.grow g⟩
theorem dss_frz {i : Nat} {st : List Stmt} {f : SFn} (h : DSs X W st f) : DSs X W st (sSeq (sFrz i) f) := by
  obtain ⟨t, q, j⟩ := h.ps
  refine ⟨t, q, fun D σ H ⟨ι, F, ρ, S, r, h⟩ => j D σ H ?_⟩
  unfold sSeq sFrz at h
  cases ex : ρ[i]? with
  | none => simp only [ex] at h; exact h.elim
  | some o =>
    cases o with
    | none => simp only [ex] at h; exact h.elim
    | some x =>
      simp only [ex] at h
      cases ec : cellOf S x with
      | none => simp only [ec] at h; exact h.elim
      | some z =>
        obtain ⟨k, ds⟩ := z
        simp only [ec] at h
        obtain ⟨F', g, r'⟩ := r.frz ex ec
        exact ⟨ι, F', _, _, r', PostS.grow (r := f _ _) h g⟩
end
end DL

set_option maxHeartbeats 4000000
namespace DL
open PySem PySem.Spec PyProof.Rows L2
section
variable {X : Cx} {W : WX} {e a b c : Expr} {es : List Expr} {pos p : Pos} {K : PySem.W.Frag} {ι : List Addr} {F H : Hp} {S : Store} {mg : Str → Option Value}
/-! ## targets -/
abbrev GFn := D → Slots → Option Slots
abbrev GsFn := List D → Slots → Option Slots
theorem wipe_comm (σ : L2.St) (i : Nat) (o : Option V) (h : ∀ vs : List Nat, True) : ∀ vs : List Nat, (i ∈ vs → wipe (σ.set i o) vs = wipe σ vs) ∧ (i ∉ vs → wipe (σ.set i o) vs = (wipe σ vs).set i o)
  | [] => ⟨fun z => absurd z (by simp), fun _ => rfl⟩
  | v :: vs => by
    obtain ⟨h1, h2⟩ := wipe_comm σ i o h vs
    refine ⟨fun m => ?_, fun m => ?_⟩
    · show (wipe (σ.set i o) vs).set v none = (wipe σ vs).set v none
      by_cases q : i ∈ vs
      · rw [h1 q]
      · rw [h2 q]
        have e : i = v := by
          rcases List.mem_cons.mp m with z | z
          · exact z
          · exact absurd z q
        subst e
        rw [List.set_set]
    · have q : i ∉ vs := fun z => m (List.mem_cons_of_mem _ z)
      have n : v ≠ i := fun z => m (by rw [z]; exact List.mem_cons_self)
      show (wipe (σ.set i o) vs).set v none = ((wipe σ vs).set v none).set i o
      rw [h2 q, List.set_comm _ _ n]
theorem wipe_set {σ : L2.St} {i : Nat} {o : Option V} {vs : List Nat} (m : i ∈ vs) : wipe (σ.set i o) vs = wipe σ vs := (wipe_comm σ i o (fun _ => trivial) vs).1 m
/-- only slots of sl are written -/
def Only (sl : List Nat) (σ σ' : L2.St) : Prop := ∀ vs : List Nat, (∀ i ∈ sl, i ∈ vs) → wipe σ' vs = wipe σ vs
structure DG (X : Cx) (tg : Expr) (sl : List Nat) (g : GFn) : Prop where
  pg : ∃ t, PG X tg t ∧ ∀ v σ H Q ι F ρ S d ρ', RR X.K ι F ρ S σ H → Wd X.K F v d → g d ρ = some ρ' → (∀ σ', RR X.K ι F ρ' S σ' H → Only sl σ σ' → Q σ' H) → t v σ H Q
structure DGs (X : Cx) (tgs : List Expr) (sl : List Nat) (g : GsFn) : Prop where
  pg : ∃ t, PGs X tgs t ∧ ∀ vs σ H Q ι F ρ S ds ρ', RR X.K ι F ρ S σ H → WdA X.K F vs ds → g ds ρ = some ρ' → (∀ σ', RR X.K ι F ρ' S σ' H → Only sl σ σ' → Q σ' H) → t vs σ H Q
def gNm (i : Nat) : GFn := fun d ρ => some (ρ.set i (some (.dat d)))
def gNo : GsFn := fun ds ρ => match ds with
  | [] => some ρ
  | _ => none
def gCo (g : GFn) (gs : GsFn) : GsFn := fun ds ρ => match ds with
  | d :: r => (g d ρ).bind (gs r)
  | [] => none
def gTp (gs : GsFn) : GFn := fun d ρ => match d with
  | .tup ds => gs ds ρ
  | _ => none
theorem dg_name {i : Nat} {x : Str} (hN : X.N.Nodup) (hi : X.N[i]? = some x := by rfl) (hx : Loc X.env.scope x := by first | exact .inl rfl | exact .inr rfl)
    (hf : X.fn x = true ∨ X.env.scope.names.lookup x = some .local := by first | exact .inl rfl | exact .inr rfl) : DG X (.Name x pos) [i] (gNm i) := by
  refine ⟨_, pg_name hN hi hx hf, fun v σ H Q ι F ρ S d ρ' r w e k => ?_⟩
  cases e
  exact k _ (r.set (dv := .dat d) w i) fun vs h => wipe_set (h i (by simp))
theorem dgs_nil : DGs X [] [] gNo := by
  refine ⟨_, pgs_nil, fun vs σ H Q ι F ρ S ds ρ' r w e k => ?_⟩
  unfold gNo at e
  split at e
  · cases e; cases w
    exact ⟨rfl, k σ r fun _ _ => rfl⟩
  · cases e
theorem dgs_cons {sl sl' : List Nat} {g : GFn} {gs : GsFn} (h : DG X a sl g) (k : DGs X es sl' gs) (hs : (assignEach (a :: es) X.env).map (·.2) = assign a X.env :: (assignEach es X.env).map (·.2) := by rfl) : DGs X (a :: es) (sl ++ sl') (gCo g gs) := by
  obtain ⟨t, p, i⟩ := h.pg
  obtain ⟨u, q, j⟩ := k.pg
  refine ⟨_, pgs_cons p q hs, fun vs σ H Q ι F ρ S ds ρ' r w e k => ?_⟩
  cases ds with
  | nil => cases e
  | cons d ds =>
    cases w with
    | cons w ws =>
      simp only [gCo] at e
      cases q1 : g d ρ with
      | none => rw [q1] at e; cases e
      | some ρ1 =>
        rw [q1] at e
        refine ⟨_, _, rfl, i _ σ H _ ι F ρ S d ρ1 r w q1 fun σ1 r1 o1 => j _ σ1 H Q ι F ρ1 S ds ρ' r1 ws e fun σ2 r2 o2 => k σ2 r2 fun vs hv => ?_⟩
        rw [o2 vs (fun i m => hv i (List.mem_append_right _ m)), o1 vs (fun i m => hv i (List.mem_append_left _ m))]
theorem gTp_len {gs : GsFn} : True := trivial
/-- how many -/
def GLen (gs : GsFn) (n : Nat) : Prop := ∀ ds ρ ρ', gs ds ρ = some ρ' → ds.length = n
theorem gLen_nil : GLen gNo 0 := fun ds ρ ρ' e => by
  unfold gNo at e
  split at e
  · rfl
  · cases e
theorem gLen_cons {g : GFn} {gs : GsFn} {n : Nat} (h : GLen gs n) : GLen (gCo g gs) (n + 1) := fun ds ρ ρ' e => by
  cases ds with
  | nil => cases e
  | cons d ds =>
    simp only [gCo] at e
    cases q1 : g d ρ with
    | none => rw [q1] at e; cases e
    | some ρ1 => rw [q1] at e; simp [h ds ρ1 ρ' e]
theorem dg_tup {sl : List Nat} {gs : GsFn} {k n : Nat} (hc : X.calm = true) (h : DGs X es sl gs) (hl : GLen gs n) (hn : (assignEach es X.env).length = n := by rfl) (hst : (assignEach es X.env).findIdx? (·.1) = none := by rfl) : DG X (.Tuple es k pos) sl (gTp gs) := by
  obtain ⟨t, p, i⟩ := h.pg
  refine ⟨_, pg_tup hc p hn hst, fun v σ H Q ι F ρ S d ρ' r w e k => ?_⟩
  cases d <;> simp only [gTp] at e <;> first | (cases e; done) | skip
  rename_i ds
  cases w with
  | tup s w => exact ⟨_, _, rfl, sameT r.st.sub s, by rw [w.length]; exact hl ds ρ ρ' e, i _ σ H Q ι F ρ S ds ρ' r w e k⟩
def sTg (g : GFn) (f : XFn) : SFn := fun ρ S => (f ρ S).bindS ρ fun v S1 => match v with
  | .dat d => (match g d ρ with
    | some ρ' => .nx ρ' S1
    | none => .bad)
  | _ => .bad
theorem ds_tg {sl : List Nat} {g : GFn} {f : XFn} {tg : Expr} (h : DE X W e f) (hg : DG X tg sl g) (hs : swapsWithSole [tg] e pos.line X.env = pure false := by rfl) (hw : swappedStores [tg] e X.env = pure none := by rfl) (h1 : (assignEach [tg] X.env).map (·.2) = [assign tg X.env] := by rfl) : DS X W (.Assign [tg] e pos) (sTg g f) := by
  obtain ⟨t, p, i⟩ := hg.pg
  refine ⟨_, ps_asg h.pe p hs hw h1, fun D σ H ⟨ι, F, ρ, S, r, h⟩ => ?_⟩
  refine tD.bindS (g := fun ρ v S1 => match v with
    | .dat d => (match g d ρ with
      | some ρ' => .nx ρ' S1
      | none => .bad)
    | _ => .bad) r h fun v dv ι1 F1 S1 H1 r1 w1 g1 h1 => ?_
  cases dv with
  | dat d =>
    simp only at h1
    cases q : g d ρ with
    | none => simp only [q] at h1; exact h1.elim
    | some ρ' => simp only [q] at h1; exact i v σ H1 _ ι1 F1 ρ S1 d ρ' r1 w1 q fun σ' r' o => h1 σ' ι1 F1 H1 .refl r'
  | _ => exact h1.elim
/-! ## what is walked -/
def ItOk (K : PySem.W.Frag) (F' : Hp) (ds : List D) (J : It) : Prop := ∃ (G : Hp → Prop) (Y : Nat → Hp → V → Hp → Prop), Walk J ds.length G Y ∧ (∀ ι F1 S1 H1, StR K ι F1 S1 H1 → Same F' F1 → G H1) ∧
  ∀ ι F1 S1 H1 i x H2, StR K ι F1 S1 H1 → Same F' F1 → i < ds.length → Y i H1 x H2 → ∃ F2 d, Grow ι F1 H1 ι F2 H2 ∧ StR K ι F2 S1 H2 ∧ ds[i]? = some d ∧ Wd K F2 x d
def tI (X : Cx) (W : WX) (f : LFn) : TI := fun σ H R => ∃ ι F ρ S, RR X.K ι F ρ S σ H ∧ Post X.K X.mg (fun c d H' => W c d σ H') ι F H (f ρ S) fun ds ι' F' H' => ∀ J, ItOk X.K F' ds J → R J H'
structure DI (X : Cx) (W : WX) (tg e : Expr) (f : LFn) : Prop where
  pi : ∃ t, PI X tg e t ∧ ∀ σ H R, tI X W f σ H R → t σ H R
theorem itOk_list {F1 : Hp} {a : Addr} {vs : List V} {ds : List D} (s : F1 a = some (.lst vs)) (w : WdA K F1 vs ds) : ItOk K F1 ds (Itl K a) := by
  refine ⟨fun H => SqL K H a vs, YAt vs, by rw [← w.length]; exact walk_list, fun ι F2 S2 H2 st sm => .of (st.sub _ _ (sm _ _ s)), fun ι F2 S2 H2 i x H3 st sm hi y => ?_⟩
  obtain ⟨rfl, hx⟩ := y
  obtain ⟨d, h1, h2⟩ := w.get hx
  exact ⟨F2, d, .refl, st, h1, h2.mono sm⟩
theorem itOk_tup {F1 : Hp} {a : Addr} {vs : List V} {ds : List D} (s : SqT K F1 a vs) (w : WdA K F1 vs ds) : ItOk K F1 ds (Itt K a) := by
  refine ⟨fun H => SqT K H a vs, YAt vs, by rw [← w.length]; exact walk_tup, fun ι F2 S2 H2 st sm => sameT st.sub (sameT sm s), fun ι F2 S2 H2 i x H3 st sm hi y => ?_⟩
  obtain ⟨rfl, hx⟩ := y
  obtain ⟨d, h1, h2⟩ := w.get hx
  exact ⟨F2, d, .refl, st, h1, h2.mono sm⟩
def itemsL (x : DV) (S : Store) : Res (List D) := match x with
  | .dat (.lst xs) => .ok xs S
  | _ => .bad
def itemsT (x : DV) (S : Store) : Res (List D) := match x with
  | .dat (.tup xs) => .ok xs S
  | _ => .bad
def lItL (f : XFn) : LFn := fun ρ S => (f ρ S).bind itemsL
def lItT (f : XFn) : LFn := fun ρ S => (f ρ S).bind itemsT
theorem di_list {tg : Expr} {f : XFn} (h : DE X W e f) : DI X W tg e (lItL f) := by
  refine ⟨_, pi_list h.pe, fun σ H R ⟨ι, F, ρ, S, r, h⟩ => ?_⟩
  refine tD.bind (g := fun _ => itemsL) r h fun v dv ι1 F1 S1 H1 r1 w1 g1 h1 => ?_
  unfold itemsL at h1
  split at h1
  · rename_i xs
    have w' : Wd X.K F1 v (.lst xs) := w1
    cases w' with
    | lst s w => exact ⟨_, rfl, ⟨_, .of (r1.st.sub _ _ s)⟩, h1 ι1 F1 H1 .refl r1.st _ (itOk_list s w)⟩
  · exact h1.elim
theorem di_tup {tg : Expr} {f : XFn} (h : DE X W e f) : DI X W tg e (lItT f) := by
  refine ⟨_, pi_tup h.pe, fun σ H R ⟨ι, F, ρ, S, r, h⟩ => ?_⟩
  refine tD.bind (g := fun _ => itemsT) r h fun v dv ι1 F1 S1 H1 r1 w1 g1 h1 => ?_
  unfold itemsT at h1
  split at h1
  · rename_i xs
    have w' : Wd X.K F1 v (.tup xs) := w1
    cases w' with
    | tup s w => exact ⟨_, rfl, ⟨_, sameT r1.st.sub s⟩, h1 ι1 F1 H1 .refl r1.st _ (itOk_tup s w)⟩
  · exact h1.elim
def rangeD (lo : Int) (n : Nat) : List D := (List.range n).map fun i => .int (lo + (i : Nat))
theorem itOk_range {F1 : Hp} {lo : Int} {n : Nat} : ItOk K F1 (rangeD lo n) (Itr lo n) := by
  refine ⟨fun _ => True, YFn fun i => .int (lo + i), by rw [show (rangeD lo n).length = n by simp [rangeD]]; exact walk_range, fun _ _ _ _ _ _ => trivial, fun ι F2 S2 H2 i x H3 st sm hi y => ?_⟩
  obtain ⟨rfl, rfl⟩ := y
  exact ⟨F2, .int (lo + i), .refl, st, by simp [rangeD] at hi ⊢; exact ⟨i, by simp [hi], rfl⟩, .int _⟩
def rng1 (ds : List DV) (S : Store) : Res (List D) := match ds with
  | [.dat (.int j)] => if -(2 ^ 62) ≤ j ∧ j < 2 ^ 62 then .ok (rangeD 0 j.toNat) S else .bad
  | _ => .bad
def rng2 (ds : List DV) (S : Store) : Res (List D) := match ds with
  | [.dat (.int i), .dat (.int j)] => if -(2 ^ 62) ≤ i ∧ i < 2 ^ 62 ∧ -(2 ^ 62) ≤ j ∧ j < 2 ^ 62 then .ok (rangeD i (j - i).toNat) S else .bad
  | _ => .bad
def lRg1 (f : AFn) : LFn := fun ρ S => (f ρ S).bind rng1
def lRg2 (f : AFn) : LFn := fun ρ S => (f ρ S).bind rng2
theorem di_range1 {tg : Expr} {f : AFn} (h : DA X W [a] f) (hm : X.mg "range" = none) (hg : Gl X "range" := by rfl) (hs : starEach [a] X.env = [(false, eval a X.env)] := by rfl) : DI X W tg (.Call (.Name "range" p) [a] [] pos) (lRg1 f) := by
  refine ⟨_, pi_range1 hg hm h.pa hs, fun σ H R ⟨ι, F, ρ, S, r, h⟩ => ?_⟩
  refine tA.bind (g := fun _ => rng1) r h fun vs ds ι1 F1 S1 H1 r1 w1 g1 h1 => ?_
  unfold rng1 at h1
  split at h1
  · rename_i j
    split at h1
    · rename_i hl
      cases w1 with
      | cons w ws =>
        cases ws
        have w' : Wd X.K F1 _ (.int j) := w
        cases w'
        exact ⟨j, rfl, hl.1, hl.2, h1 ι1 F1 H1 .refl r1.st _ itOk_range⟩
    · exact h1.elim
  · exact h1.elim
theorem di_range2 {tg : Expr} {f : AFn} (h : DA X W [a, b] f) (hm : X.mg "range" = none) (hg : Gl X "range" := by rfl) (hs : starEach [a, b] X.env = [(false, eval a X.env), (false, eval b X.env)] := by rfl) (hs2 : starEach [b] X.env = [(false, eval b X.env)] := by rfl) : DI X W tg (.Call (.Name "range" p) [a, b] [] pos) (lRg2 f) := by
  refine ⟨_, pi_range2 hg hm h.pa hs hs2, fun σ H R ⟨ι, F, ρ, S, r, h⟩ => ?_⟩
  refine tA.bind (g := fun _ => rng2) r h fun vs ds ι1 F1 S1 H1 r1 w1 g1 h1 => ?_
  unfold rng2 at h1
  split at h1
  · rename_i i j
    split at h1
    · rename_i hl
      cases w1 with
      | cons w ws =>
        cases ws with
        | cons u us =>
          cases us
          have w' : Wd X.K F1 _ (.int i) := w
          have u' : Wd X.K F1 _ (.int j) := u
          cases w'; cases u'
          exact ⟨i, j, rfl, hl, h1 ι1 F1 H1 .refl r1.st _ itOk_range⟩
    · exact h1.elim
  · exact h1.elim
/-! ## for -/
def forGo (g : GFn) (f : SFn) : List D → Slots → Store → RS
  | [], ρ, S => .nx ρ S
  | d :: ds, ρ, S => match g d ρ with
    | none => .bad
    | some ρ1 => (match f ρ1 S with
      | .nx ρ2 S2 => forGo g f ds ρ2 S2
      | .ct ρ2 S2 => forGo g f ds ρ2 S2
      | .bk ρ2 S2 => .nx ρ2 S2
      | r => r)
def sFor (l : LFn) (g : GFn) (f : SFn) : SFn := fun ρ S => (l ρ S).bindS ρ fun ds S1 => forGo g f ds ρ S1
theorem ds_for {iter tg : Expr} {body : List Stmt} {l : LFn} {sl : List Nat} {g : GFn} {f : SFn} (hp : PassesOwn (model X.prog X.w) X.A X.env X.xe) (hc : X.calm = true) (hi : DI X W tg iter l) (hg : DG X tg sl g) (hb : DSs X W body f)
    (hs : ∀ x, foldedSetIterable iter X.env x = pure x := by intro _; rfl) : DS X W (.For tg iter body [] pos) (sFor l g f) := by
  obtain ⟨ti, pi, ki⟩ := hi.pi
  obtain ⟨tg', pg, kg⟩ := hg.pg
  obtain ⟨tb, pb, kb⟩ := hb.ps
  refine ⟨_, ps_for hp hc pi pg pb hs, fun D σ H ⟨ι, F, ρ, S, r, h⟩ => ki _ _ _ ⟨ι, F, ρ, S, r, ?_⟩⟩
  unfold sFor at h
  cases q : l ρ S with
  | bad => rw [q] at h; exact h
  | ex c S1 => rw [q] at h; exact fun C ι' F' H' g st m => h C σ ι' F' H' g (r.slots g st) m
  | ok ds S1 =>
    rw [q] at h
    intro ι1 F1 H1 g1 st1 J ⟨G, Y, w, hG, hY⟩
    refine for_it w (fun i σ' H' => ∃ ι2 F2 ρ2 S2, RR X.K ι2 F2 ρ2 S2 σ' H' ∧ Grow ι1 F1 H1 ι2 F2 H' ∧ PostS X.K X.mg W ι2 F2 H' (forGo g f (ds.drop i) ρ2 S2) D)
      ⟨ι1, F1, ρ, S1, r.slots g1 st1, .refl, PostS.grow (r := forGo g f ds ρ S1) h g1⟩ (fun i σ' H' _ ⟨ι2, F2, ρ2, S2, r2, g2, _⟩ => hG ι2 F2 S2 H' r2.st g2.sf) (fun i x σ' H' H2 hi ⟨ι2, F2, ρ2, S2, r2, g2, h2⟩ y => ?_) (fun σ' H' ⟨ι2, F2, ρ2, S2, r2, g2, h2⟩ => ?_)
    · obtain ⟨F3, d, g3, st3, hd, wd⟩ := hY ι2 F2 S2 H' i x H2 r2.st g2.sf hi y
      have ed : ds.drop i = d :: ds.drop (i + 1) := by
        rw [List.drop_eq_getElem_cons hi]
        obtain ⟨_, h⟩ := List.getElem?_eq_some_iff.mp hd
        rw [h]
      rw [ed] at h2
      simp only [forGo] at h2
      have r3 := r2.slots g3 st3
      cases e1 : g d ρ2 with
      | none => simp only [e1] at h2; exact h2.elim
      | some ρ3 =>
        simp only [e1] at h2
        refine kg x σ' H2 _ ι2 F3 ρ2 S2 d ρ3 r3 wd e1 fun σ3 r3' _ => kb _ _ _ ⟨ι2, F3, ρ3, S2, r3', ?_⟩
        have gg := g2.trans g3
        cases e2 : f ρ3 S2 with
        | nx ρ4 S4 => simp only [e2] at h2; exact fun σ4 ι4 F4 H4 g4 r4 => ⟨ι4, F4, ρ4, S4, r4, gg.trans g4, PostS.grow (r := forGo g f _ ρ4 S4) h2 (g3.trans g4)⟩
        | ct ρ4 S4 => simp only [e2] at h2; exact fun σ4 ι4 F4 H4 g4 r4 => ⟨ι4, F4, ρ4, S4, r4, gg.trans g4, PostS.grow (r := forGo g f _ ρ4 S4) h2 (g3.trans g4)⟩
        | bk ρ4 S4 => simp only [e2] at h2; exact fun σ4 ι4 F4 H4 g4 r4 => h2 σ4 ι4 F4 H4 (g3.trans g4) r4
        | rt dv S4 => simp only [e2] at h2; exact fun v ι4 F4 H4 g4 st4 w4 => h2 v ι4 F4 H4 (g3.trans g4) st4 w4
        | ex c ρ4 S4 => simp only [e2] at h2; exact fun C σ4 ι4 F4 H4 g4 r4 m => h2 C σ4 ι4 F4 H4 (g3.trans g4) r4 m
        | bad => simp only [e2] at h2; exact h2
    · rw [List.drop_length] at h2
      exact h2 σ' ι2 F2 H' .refl r2
/-! ## comprehensions -/
def Res.bindN {α β : Type} (r : Res α) (f : α → Store → Res β) : Res β := match r with
  | .ok a S => f a S
  | _ => .bad
@[simp] theorem Res.bindN_ok {α β : Type} (a : α) (S : Store) (f : α → Store → Res β) : (Res.ok a S).bindN f = f a S := rfl
def lcGo (g : GFn) (t : TFn) (f : XFn) (ρ : Slots) : List D → Store → Res (List D)
  | [], S => .ok [] S
  | d :: ds, S => match g d ρ with
    | none => .bad
    | some ρ1 => (t ρ1 S).bindN fun b S1 => if b then (f ρ1 S1).bindN fun y S2 => (match y with
      | .dat z => (lcGo g t f ρ ds S2).bindN fun zs S3 => .ok (z :: zs) S3
      | _ => .bad) else lcGo g t f ρ ds S1
def wipeS (ρ : Slots) : List Nat → Slots
  | [] => ρ
  | v :: vs => (wipeS ρ vs).set v none
def lLc (l : LFn) (own : List Nat) (g : GFn) (t : TFn) (f : XFn) : LFn := fun ρ S => (l ρ S).bind fun ds S1 => if ds.length ≤ sizeLine then lcGo g t f (wipeS ρ own) ds S1 else .bad
theorem RR.wipe {ρ : Slots} {σ : L2.St} (r : RR K ι F ρ S σ H) : ∀ vs : List Nat, RR K ι F (wipeS ρ vs) S (L2.wipe σ vs) H
  | [] => r
  | v :: vs => (r.wipe vs).unset v
def tYesD : TFn := fun _ S => .ok true S
structure DTs (X : Cx) (W : WX) (ifs : List Expr) (t : TFn) : Prop where
  pt : PTs X ifs (tT X W t)
theorem dts_nil : DTs X W [] tYesD := ⟨⟨fun pins s σ H Q I ⟨ι, F, ρ, S, r, h⟩ => pts_nil.run pins s σ H Q I (h ι F H .refl r.st)⟩⟩
theorem dts_one {t : TFn} (h : DT X W c t) : DTs X W [c] t := ⟨pts_one h.pt⟩
abbrev W0 : WX := fun _ _ _ _ => False
theorem bindN_ok {α β : Type} {r : Res α} {f : α → Store → Res β} {E : XK} {Q : β → List Addr → Hp → Hp → Prop} (h : Post K mg E ι F H (r.bindN f) Q) : ∃ a S', r = .ok a S' ∧ Post K mg E ι F H (f a S') Q := by
  cases r with
  | ok a S' => exact ⟨a, S', rfl, h⟩
  | ex c S' => exact h.elim
  | bad => exact h.elim
theorem bindN_of {α β : Type} {r : Res α} {f : α → Store → Res β} {b : β} {S' : Store} (h : r.bindN f = .ok b S') : ∃ a S1, r = .ok a S1 ∧ f a S1 = .ok b S' := by
  cases r with
  | ok a S1 => exact ⟨a, S1, rfl, h⟩
  | ex c S1 => cases h
  | bad => cases h
theorem lcGo_ok {g : GFn} {t : TFn} {f : XFn} {ρ : Slots} : ∀ {ds : List D} {S : Store} {E : XK} {Q : List D → List Addr → Hp → Hp → Prop}, Post K mg E ι F H (lcGo g t f ρ ds S) Q → ∃ zs S', lcGo g t f ρ ds S = .ok zs S'
  | [], S, E, Q, h => ⟨[], S, rfl⟩
  | d :: ds, S, E, Q, h => by
    cases q : lcGo g t f ρ (d :: ds) S with
    | ok zs S' => exact ⟨zs, S', rfl⟩
    | bad => rw [q] at h; exact h.elim
    | ex c S' =>
      exfalso
      clear h
      simp only [lcGo] at q
      split at q
      · cases q
      · have nex : ∀ {α β : Type} (r : Res α) (k : α → Store → Res β), (∀ a S1 S2, k a S1 ≠ .ex c S2) → ∀ S2, r.bindN k ≠ .ex c S2 := fun r k hk S2 z => by
          cases r with
          | ok a S1 => exact hk a S1 S2 z
          | ex c S1 => cases z
          | bad => cases z
        have rc : ∀ ds S S2, lcGo g t f ρ ds S ≠ .ex c S2 := by
          intro ds
          induction ds with
          | nil => intro S S2 z; cases z
          | cons d ds ih =>
            intro S S2 z
            simp only [lcGo] at z
            split at z
            · cases z
            · refine nex _ _ (fun b S1 S3 => ?_) _ z
              cases b
              · exact ih S1 S3
              · refine nex _ _ (fun y S2 S4 => ?_) S3
                cases y with
                | dat y => exact nex _ _ (fun zs S5 S6 z => by cases z) S4
                | _ => intro z; cases z
        refine nex _ _ (fun b S1 S3 => ?_) _ q
        cases b
        · exact rc ds S1 S3
        · refine nex _ _ (fun y S2 S4 => ?_) S3
          cases y with
          | dat y => exact nex _ _ (fun zs S5 S6 z => by cases z) S4
          | _ => intro z; cases z
end
end DL

set_option maxHeartbeats 4000000
namespace DL
open PySem PySem.Spec PyProof.Rows L2
section
variable {X : Cx} {W : WX} {e a b c : Expr} {es : List Expr} {pos p : Pos} {K : PySem.W.Frag} {ι : List Addr} {F H : Hp} {S : Store} {mg : Str → Option Value}
def tG (K : PySem.W.Frag) (sl : List Nat) (g : GFn) : TG := fun v σ H Q => ∃ ι F ρ S d ρ', RR K ι F ρ S σ H ∧ Wd K F v d ∧ g d ρ = some ρ' ∧ ∀ σ', RR K ι F ρ' S σ' H → DL.Only sl σ σ' → Q σ' H
theorem DG.canon {tg : Expr} {sl : List Nat} {g : GFn} (h : DG X tg sl g) : PG X tg (tG X.K sl g) := by
  obtain ⟨t, p, k⟩ := h.pg
  exact ⟨fun pins s σ H v u Q I r ⟨ι, F, ρ, S, d, ρ', r0, w, e, q⟩ => p.run pins s σ H v u Q I r (k v σ H Q ι F ρ S d ρ' r0 w e q)⟩
theorem DI.canon {tg iter : Expr} {l : LFn} (h : DI X W tg iter l) : PI X tg iter (tI X W l) := by
  obtain ⟨t, p, k⟩ := h.pi
  exact ⟨fun pins s σ H R I q => p.run pins s σ H R I (k σ H R q)⟩
theorem lc_ent {own : List (Str × Nat)} {l : LFn} {g : GFn} {t : TFn} {f : XFn} {sl : List Nat} (hsl : ∀ i ∈ sl, i ∈ own.map (·.2)) {σ : L2.St} {H : Hp} {Q : VK} (h : tN X W (lLc l (own.map (·.2)) g t f) σ H Q) :
    tLc (tI X W l) (tG X.K sl g) (tT X W0 t) (tD X W0 f) (own.map (·.2)) σ H Q := by
  obtain ⟨ι, F, ρ, S, r, h⟩ := h
  refine ⟨ι, F, ρ, S, r, ?_⟩
  unfold lLc at h
  cases q : l ρ S with
  | bad => rw [q] at h; exact h
  | ex c S1 => rw [q] at h; exact h
  | ok ds S1 =>
    rw [q] at h
    simp only [Res.bind_ok] at h
    by_cases hl : ds.length ≤ sizeLine
    · simp only [hl, if_true] at h
      intro ι1 F1 H1 g1 st1 J ⟨G, Y, w, hG, hY⟩ D hD
      obtain ⟨zs0, S0, e0⟩ := lcGo_ok h
      rw [e0] at h
      have r1 := r.slots g1 st1
      have hF1 : F1 D = none := by
        cases q : F1 D with
        | none => rfl
        | some o => rw [st1.sub D o q] at hD; cases hD
      have hι1 : D ∉ ι1 := fun m => st1.full D m hD
      refine lc_it w (fun i H2 => ∃ ι2 F2 S2 acc avs zs, RR X.K ι2 F2 (wipeS ρ (own.map (·.2))) S2 (L2.wipe σ (own.map (·.2))) H2 ∧ Grow ι1 F1 H1 ι2 F2 H2 ∧ H2 D = some (.lst avs) ∧ F2 D = none ∧ D ∉ ι2 ∧ WdA X.K F2 avs acc ∧ acc.length ≤ i ∧
          lcGo g t f (wipeS ρ (own.map (·.2))) (ds.drop i) S2 = .ok zs S0 ∧ acc ++ zs = zs0)
        ⟨ι1, F1, S1, [], [], zs0, (r1.slots (grow_alone hD _) (st1.alone hD _)).wipe _, grow_alone hD _, upd_same, hF1, hι1, .nil, Nat.le_refl _, e0, rfl⟩
        (fun i H2 _ ⟨ι2, F2, S2, acc, avs, zs, r2, g2, _⟩ => hG ι2 F2 S2 H2 r2.st g2.sf) (fun i x H2 H3 hi ⟨ι2, F2, S2, acc, avs, zs, r2, g2, hd, hf, hn, wa, hla, el, ea⟩ y => ?_) (fun H2 ⟨ι2, F2, S2, acc, avs, zs, r2, g2, hd, hf, hn, wa, hla, el, ea⟩ => ?_)
      · obtain ⟨F3, d, g3, st3, hdi, wd⟩ := hY ι2 F2 S2 H2 i x H3 r2.st g2.sf hi y
        have ed : ds.drop i = d :: ds.drop (i + 1) := by
          rw [List.drop_eq_getElem_cons hi]
          obtain ⟨_, h⟩ := List.getElem?_eq_some_iff.mp hdi
          rw [h]
        have keepD : ∀ {ι' F' H'} , Grow ι2 F2 H2 ι' F' H' → H' D = some (.lst avs) ∧ F' D = none ∧ D ∉ ι' := fun gg => ⟨gg.keep D _ hd hn, gg.new D _ hd hf hn, fun m => by
          rcases gg.nio D m with z | z
          · exact hn z
          · rw [hd] at z; cases z⟩
        rw [ed] at el
        simp only [lcGo] at el
        have r3 := r2.slots g3 st3
        cases e1 : g d (wipeS ρ (own.map (·.2))) with
        | none => simp only [e1] at el; cases el
        | some ρ3 =>
          simp only [e1] at el
          refine ⟨ι2, F3, _, S2, d, ρ3, r3, wd, e1, fun σ3 r3' o3 => ⟨?_, ?_⟩⟩
          · have hw := o3 (own.map (·.2)) hsl
            rw [hw]
            have idem : ∀ vs : List Nat, ∀ σ : L2.St, (∀ i ∈ vs, σ[i]? = none ∨ σ[i]? = some none) → L2.wipe σ vs = σ := by
              intro vs
              induction vs with
              | nil => intro σ _; rfl
              | cons v vs ih =>
                intro σ hv
                show (L2.wipe σ vs).set v none = σ
                rw [ih σ fun i m => hv i (List.mem_cons_of_mem _ m)]
                apply List.ext_getElem?
                intro j
                rw [List.getElem?_set]
                split
                · rename_i e; subst e
                  rcases hv v List.mem_cons_self with z | z
                  · rw [z]; split
                    · rename_i hlt; rw [List.getElem?_eq_none_iff] at z; omega
                    · rfl
                  · rw [z]; split
                    · rfl
                    · rename_i hlt; have := (List.getElem?_eq_some_iff.mp z).1; omega
                · rfl
            refine idem _ _ fun i m => ?_
            cases q : (L2.wipe σ (own.map (·.2)))[i]? with
            | none => exact .inl rfl
            | some o =>
              cases o with
              | none => exact .inr rfl
              | some x => exact absurd m (wipe_some q).2
          · obtain ⟨b, S3, e2, el⟩ := bindN_of el
            refine ⟨ι2, F3, ρ3, S2, r3', ?_⟩
            show Post X.K X.mg _ ι2 F3 H3 (t ρ3 S2) _
            rw [e2]
            intro ι4 F4 H4 g4 st4
            have g24 := g3.trans g4
            cases b with
            | false =>
              dsimp only
              rw [if_neg (by simp)]
              obtain ⟨k1, k2, k3⟩ := keepD g24
              exact ⟨ι4, F4, S3, acc, avs, zs, r2.slots g24 st4, g2.trans g24, k1, k2, k3, wa.mono g24.sf, by omega, el, ea⟩
            | true =>
              dsimp only
              rw [if_pos rfl]
              simp only [if_true] at el
              obtain ⟨y, S4, e3, el⟩ := bindN_of el
              refine ⟨ι4, F4, ρ3, S3, r3'.slots g4 st4, ?_⟩
              show Post X.K X.mg _ ι4 F4 H4 (f ρ3 S3) _
              rw [e3]
              intro ι5 F5 H5 g5 st5 v wv
              cases y with
              | obj k => cases el
              | scr ns => cases el
              | exn c p => cases el
              | dat z =>
                simp only at el
                obtain ⟨zs', S5, e4, el⟩ := bindN_of el
                cases el
                have g25 := g24.trans g5
                obtain ⟨k1, k2, k3⟩ := keepD g25
                refine ⟨avs, k1, ?_, ι5, F5, S4, acc ++ [z], avs ++ [v], zs', ?_, ?_, upd_same, k2, k3, (wa.mono g25.sf).append (.cons wv .nil), by simp; omega, e4, by rw [← ea]; simp⟩
                · rw [wa.length]; omega
                · have st6 : StR X.K ι5 F5 S4 (upd H5 D (.lst (avs ++ [v]))) := ⟨fun b u e => by
                    rw [upd_ne (fun z => by rw [z, k2] at e; cases e)]; exact st5.sub b u e, st5.len, st5.nd, fun b hb => upd_full (st5.full b hb), fun k es e =>
                    let ⟨a', vs', h1, h2, h3, h4⟩ := st5.cell k es e
                    ⟨a', vs', h1, by rw [upd_ne (fun z => k3 (by rw [← z]; exact List.mem_of_getElem? h1))]; exact h2, h3, h4⟩⟩
                  exact ⟨st6, r2.len, fun i dv e => let ⟨v, h1, h2⟩ := r2.slot i dv e; ⟨v, h1, h2.grow g25⟩⟩
                · have g := g2.trans g25
                  exact ⟨g.pre, g.sf, fun b o e n => by
                    rw [upd_ne (fun z => by rw [z, hD] at e; cases e)]; exact g.keep b o e n, g.new, g.nio, fun b e => g.dom b (upd_none e)⟩
      · rw [List.drop_length] at el
        cases el
        rw [List.append_nil] at ea
        subst ea
        exact h ι2 F2 H2 (g1.trans g2) r2.st D avs (g1.dom D hD) hd hf hn wa
    · simp only [hl, if_false] at h; exact h.elim
theorem ne_lc {elt tg iter : Expr} {ifs : List Expr} {scope : Scope} {own : List (Str × Nat)} {l : LFn} {g : GFn} {t : TFn} {f : XFn} {sl : List Nat} (hc : X.calm = true) (hN : X.N.Nodup) (hi : DI X W tg iter l) (ok : BlkOk X.N X.env.scope scope own)
    (hg : ∀ (s : Shared) (H : Hp) (C : Addr) (cl : List (Str × Addr)) (fp : List Addr), DG (X.blk s H scope (compEnvC scope cl C X.env) fp) tg sl g)
    (ht : ∀ (s : Shared) (H : Hp) (C : Addr) (cl : List (Str × Addr)) (fp : List Addr), DTs (X.blk s H scope (compEnvC scope cl C X.env) fp) W0 ifs t)
    (he : ∀ (s : Shared) (H : Hp) (C : Addr) (cl : List (Str × Addr)) (fp : List Addr), DE (X.blk s H scope (compEnvC scope cl C X.env) fp) W0 elt f)
    (hsl : ∀ i ∈ sl, i ∈ own.map (·.2) := by decide) (hs : ∀ x, foldedSetIterable iter X.env x = pure x := by intro _; rfl) :
    NE X W (.ListComp elt [⟨tg, iter, ifs, 0⟩] scope pos) (lLc l (own.map (·.2)) g t f) :=
  ⟨PE.weak (pe_lc (g := tG X.K sl g) (tt := tT X W0 t) (te := tD X W0 f) hc hN hi.canon ok (fun s H C cl fp => (hg s H C cl fp).canon) (fun s H C cl fp => (ht s H C cl fp).pt) (fun s H C cl fp => (he s H C cl fp).pe) hs) fun σ H Q h => lc_ent hsl h⟩
/-- y = [..] -/
theorem ds_setLc {i : Nat} {y : Str} {py spos : Pos} {elt tg iter : Expr} {ifs : List Expr} {scope : Scope} {own : List (Str × Nat)} {l : LFn} {g : GFn} {t : TFn} {f : XFn} {sl : List Nat} (hc : X.calm = true) (hN : X.N.Nodup)
    (hi : DI X W tg iter l) (ok : BlkOk X.N X.env.scope scope own)
    (hg : ∀ (s : Shared) (H : Hp) (C : Addr) (cl : List (Str × Addr)) (fp : List Addr), DG (X.blk s H scope (compEnvC scope cl C X.env) fp) tg sl g)
    (ht : ∀ (s : Shared) (H : Hp) (C : Addr) (cl : List (Str × Addr)) (fp : List Addr), DTs (X.blk s H scope (compEnvC scope cl C X.env) fp) W0 ifs t)
    (he : ∀ (s : Shared) (H : Hp) (C : Addr) (cl : List (Str × Addr)) (fp : List Addr), DE (X.blk s H scope (compEnvC scope cl C X.env) fp) W0 elt f)
    (hsl : ∀ i ∈ sl, i ∈ own.map (·.2) := by decide) (hy : X.N[i]? = some y := by rfl) (hyl : X.env.scope.names.lookup y = some .local := by rfl)
    (hsw : swapsWith (.ListComp elt [⟨tg, iter, ifs, 0⟩] scope pos) (some (.Name y py)) spos.line X.env = pure true := by exact sw_true rfl rfl rfl (by decide +kernel)) (hs : ∀ x, foldedSetIterable iter X.env x = pure x := by intro _; rfl) :
    DS X W (.Assign [.Name y py] (.ListComp elt [⟨tg, iter, ifs, 0⟩] scope pos) spos) (sSet i (xN1 (lLc l (own.map (·.2)) g t f))) :=
  ⟨_, ps_setLc (g := tG X.K sl g) (tt := tT X W0 t) (te := tD X W0 f) hc hN hy hyl hsw hi.canon ok (fun s H C cl fp => (hg s H C cl fp).canon) (fun s H C cl fp => (ht s H C cl fp).pt) (fun s H C cl fp => (he s H C cl fp).pe) hs, fun D σ H h => lc_ent hsl h.set.toN⟩
theorem ds_newLc {i : Nat} {y : Str} {py spos : Pos} {elt tg iter : Expr} {ifs : List Expr} {scope : Scope} {own : List (Str × Nat)} {l : LFn} {g : GFn} {t : TFn} {f : XFn} {sl : List Nat} (hc : X.calm = true) (hN : X.N.Nodup)
    (hi : DI X W tg iter l) (ok : BlkOk X.N X.env.scope scope own)
    (hg : ∀ (s : Shared) (H : Hp) (C : Addr) (cl : List (Str × Addr)) (fp : List Addr), DG (X.blk s H scope (compEnvC scope cl C X.env) fp) tg sl g)
    (ht : ∀ (s : Shared) (H : Hp) (C : Addr) (cl : List (Str × Addr)) (fp : List Addr), DTs (X.blk s H scope (compEnvC scope cl C X.env) fp) W0 ifs t)
    (he : ∀ (s : Shared) (H : Hp) (C : Addr) (cl : List (Str × Addr)) (fp : List Addr), DE (X.blk s H scope (compEnvC scope cl C X.env) fp) W0 elt f)
    (hsl : ∀ i ∈ sl, i ∈ own.map (·.2) := by decide) (hy : X.N[i]? = some y := by rfl) (hyl : X.env.scope.names.lookup y = some .local := by rfl)
    (hsw : swapsWith (.ListComp elt [⟨tg, iter, ifs, 0⟩] scope pos) (some (.Name y py)) spos.line X.env = pure true := by exact sw_true rfl rfl rfl (by decide +kernel)) (hs : ∀ x, foldedSetIterable iter X.env x = pure x := by intro _; rfl) :
    DS X W (.Assign [.Name y py] (.ListComp elt [⟨tg, iter, ifs, 0⟩] scope pos) spos) (sNew i (lLc l (own.map (·.2)) g t f)) :=
  ⟨_, ps_setLc (g := tG X.K sl g) (tt := tT X W0 t) (te := tD X W0 f) hc hN hy hyl hsw hi.canon ok (fun s H C cl fp => (hg s H C cl fp).canon) (fun s H C cl fp => (ht s H C cl fp).pt) (fun s H C cl fp => (he s H C cl fp).pe) hs, fun D σ H h => lc_ent hsl h.new⟩
end
end DL

set_option maxHeartbeats 4000000
namespace DL
open PySem PySem.Spec PyProof.Rows L2
/-! ## defs: what they promise where nothing is being printed around them -/
structure FnG (P : Program) (w : World) (K : PySem.W.Frag) (mg : Str → Option Value) (base : Heap) (k : Nat) (f : Addr) (fd : FuncData) (ps : List Str) (sp : Sp) : Prop where
  len : ∀ vs H Q E, sp vs H Q E → vs.length = ps.length
  run : ∀ (A : Around) (outer : List Env) (s : Shared) (H : Hp) (args : Args) (us : List Value) (vs : List V) (Q : VK) (E : XK), Room k A → A.guards = some [] → Env0 P w K mg base A outer s H → BindsTo s fd args (ps.zip us) → Vals vs us → sp vs H Q E →
    codeAny (model P w) A (.call (.ref f) args) (CR (L2.CX P w) outer P w H s Q E) s
section
variable {P : Program} {w : World} {K : PySem.W.Frag} {mg : Str → Option Value} {base : Heap}
theorem FnG.mono {j k : Nat} {f : Addr} {fd : FuncData} {ps : List Str} {sp : Sp} (F : FnG P w K mg base j f fd ps sp) (h : j ≤ k) : FnG P w K mg base k f fd ps sp :=
  ⟨F.len, fun A outer s H args us vs Q E hr => F.run A outer s H args us vs Q E (hr.mono h)⟩
theorem fnG_of {k : Nat} {f : Addr} {fd : FuncData} {x qual : Str} {params : Arguments} {body : List Stmt} {scope : Scope} {N ps : List Str} {sp : Sp} (F : FunD K x qual params body scope [] [] f fd) (Sc : FnScope N ps scope)
    (len : ∀ vs H Q E, sp vs H Q E → vs.length = ps.length)
    (hbody : ∀ (cdv : Value) (A : Around) (outer : List Env) (s : Shared) (H : Hp) (vs : List V) (Q : VK) (E : XK), Room k (A.deeper (envOfC qual scope s.heap.objs.size f cdv)) → A.guards = some [] → sp vs H Q E →
      ∃ t, PSs (cxOf (L2.CX P w) P w K mg base N qual scope f cdv A outer s H E) body t ∧ t { nx := fun _ H' => Q .non H', rt := Q } (start N vs) H) : FnG P w K mg base (k + 1) f fd ps sp := by
  obtain ⟨oc, od, dV, kV, doc, pm, an, cdv, ct, osl, hfd, look, code, _, _⟩ := F.ex
  subst hfd
  constructor
  · exact len
  intro A outer s H args us vs Q E room gd env0 bind rel hsp
  have hlen := len vs H Q E hsp
  have stays : ∀ b o, base.get? b = some o → s.heap.get? b = some o := fun b o e => (env0.bs b o e).1
  have KX : K.In s.heap := env0.mod.kin.keeps stays
  have NL : s.heap.NoLimit := env0.mod.nolimit.keeps stays
  have kinds : ∀ y ∈ ps.zip us, scope.names.lookup y.1 = some .local ∨ (scope.names.lookup y.1 = some .cell ∧ ((cellsFrom (s.heap.objs.size + 1) scope.names []).lookup y.1).isSome = true) := by
    rintro ⟨n, v⟩ hy
    have hn := (List.of_mem_zip hy).1
    cases Sc.par n hn with
    | inl q => exact Or.inl q
    | inr q => exact Or.inr ⟨q, PySem.W.cellsFrom_some _ _ _ (Or.inl q)⟩
  apply codeAny_call_function room.depth (KX _ _ look) rfl Sc.co Sc.gen rfl (PySem.W.codeRec_of KX code)
  apply bind
  refine wpAny_newFunctionEnv_cells Sc.kind kinds ?_
  intro env he s1 ic
  subst he
  refine ⟨NL.keeps ic.toInCall.keep, codeAny_func ?_⟩
  obtain ⟨t, ht, hq⟩ := hbody cdv A outer s H vs Q E (room.deeper _) gd hsp
  have I := inv_start (CX := L2.CX P w) (P := P) (w := w) (mg := mg) (base := base) (E := E) Sc room.hd env0 hlen rel ic
  refine wpAny_mono (ht.run [] s1 (start N vs) H _ I hq) ?_ (fun _ _ z => z)
  intro fl s' h
  cases fl with
  | ret u =>
    obtain ⟨v, σ', H', J, rv, q⟩ := h
    exact ⟨v, H', J.os, J.bare, J.base, J.hok, rv, q⟩
  | next =>
    obtain ⟨σ', H', J, q⟩ := h
    exact ⟨.non, H', J.os, J.bare, J.base, J.hok, rfl, q⟩
  | brk => exact h.elim fun _ z => z.elim fun _ z => z.2.elim
  | cont => exact h.elim fun _ z => z.elim fun _ z => z.2.elim
end
/-! ## defs over data -/
abbrev Fn := List DV → Store → Res DV
def spD (K : PySem.W.Frag) (mg : Str → Option Value) (n : Nat) (g : Fn) : Sp := fun vs H Q E => vs.length = n ∧ ∃ ι F S ds, StR K ι F S H ∧ WVs K ι F vs ds ∧ Post K mg E ι F H (g ds S) fun dv ι' F' H' => ∀ v, WV K ι' F' v dv → Q v H'
/-- behind a call its own lists are forgotten (but one that it hands back) -/
def leave (n : Nat) : DV → Store → Res DV
  | .dat d, S => .ok (.dat d) (S.take n)
  | .obj k, S => if k < n then .ok (.obj k) (S.take n) else match S[k]? with
    | some (some ds) => .ok (.obj n) (S.take n ++ [some ds])
    | _ => .bad
  | .scr _, _ => .bad
  | .exn c p, S => .ok (.exn c p) (S.take n)
def ends (n : Nat) : RS → Res DV
  | .nx _ S => .ok (.dat .non) (S.take n)
  | .rt v S => leave n v S
  | .ex c _ S => .ex c (S.take n)
  | _ => .bad
def fnBody (N : Nat) (f : SFn) : Fn := fun ds S => ends S.length (f (ds.map some ++ List.replicate (N - ds.length) none) S)
section
variable {X : Cx} {W : WX} {e a b c : Expr} {es : List Expr} {pos p : Pos} {K : PySem.W.Frag} {ι : List Addr} {F H : Hp} {S : Store} {mg : Str → Option Value}
theorem StR.cut {ι0 ι' : List Addr} {F' H' : Hp} {S' : Store} {n : Nat} (st : StR K ι' F' S' H') (hp : ι0 <+: ι') (hn : ι0.length = n) : StR K ι0 F' (S'.take n) H' := by
  have e : List.take n ι' = ι0 := by
    obtain ⟨t, rfl⟩ := hp
    rw [← hn]; simp
  have hl : n ≤ S'.length := by rw [← st.len, ← hn]; exact hp.length_le
  refine ⟨st.sub, by rw [hn]; simp [hl], hp.sublist.nodup st.nd, fun b hb => st.full b (hp.sublist.subset hb), fun k ds e2 => ?_⟩
  rw [List.getElem?_take] at e2
  split at e2
  · rename_i hk
    obtain ⟨a, vs, h1, h2, h3, h4⟩ := st.cell k ds e2
    refine ⟨a, vs, ?_, h2, h3, h4⟩
    rw [← e, List.getElem?_take, if_pos hk]; exact h1
  · cases e2
theorem Grow.cut {ι' : List Addr} {F' H' : Hp} (g : Grow ι F H ι' F' H') : Grow ι F H ι F' H' := ⟨List.prefix_rfl, g.sf, g.keep, g.new, fun b h => .inl h, g.dom⟩
theorem rr_start {vs : List V} {ds : List DV} {n : Nat} {N : List Str} (st : StR K ι F S H) (w : WVs K ι F vs ds) (hN : N.length = n) : RR K ι F (ds.map some ++ List.replicate (n - ds.length) none) S (start N vs) H := by
  refine ⟨st, by unfold L2.start; rw [hN]; simp [w.length], fun i dv e => ?_⟩
  have hi : i < ds.length := by
    by_cases h : i < ds.length
    · exact h
    · rw [List.getElem?_append_right (by simp; omega)] at e
      have := (List.getElem?_eq_some_iff.mp e)
      obtain ⟨_, h2⟩ := this
      simp at h2
  rw [List.getElem?_append_left (by simpa using hi)] at e
  simp at e
  have get : ∀ {vs : List V} {ds : List DV}, WVs K ι F vs ds → ∀ (i : Nat) (dv : DV), ds[i]? = some dv → ∃ v, vs[i]? = some v ∧ WV K ι F v dv := by
    intro vs ds w
    induction w with
    | nil => intro i dv e; simp at e
    | cons a _ ih =>
      intro i dv e
      cases i with
      | zero => simp at e; subst e; exact ⟨_, rfl, a⟩
      | succ i => simpa using ih i dv (by simpa using e)
  obtain ⟨v, h1, h2⟩ := get w i dv e
  refine ⟨v, ?_, h2⟩
  unfold L2.start
  rw [List.getElem?_append_left (by rw [List.length_map, w.length]; exact hi)]
  simp [h1]
theorem fn_D {P : Program} {w : World} {base : Heap} {k n m : Nat} {f : Addr} {fd : FuncData} {x qual : Str} {params : Arguments} {body : List Stmt} {scope : Scope} {N ps : List Str} {g : SFn} (Fd : FunD K x qual params body scope [] [] f fd) (Sc : FnScope N ps scope)
    (hn : ps.length = n) (hm : N.length = m)
    (hbody : ∀ (cdv : Value) (A : Around) (outer : List Env) (s : Shared) (H : Hp) (E : XK), Room k (A.deeper (envOfC qual scope s.heap.objs.size f cdv)) → A.guards = some [] →
      DSs (cxOf (L2.CX P w) P w K mg base N qual scope f cdv A outer s H E) (fun cls d _ H => E cls d H) body g) : FnG P w K mg base (k + 1) f fd ps (spD K mg n (fnBody m g)) := by
  refine fnG_of Fd Sc (fun vs H Q E h => by rw [h.1, hn]) fun cdv A outer s H vs Q E hr hG h => ?_
  obtain ⟨t, pt, kt⟩ := (hbody cdv A outer s H E hr hG).ps
  refine ⟨t, pt, kt _ _ _ ?_⟩
  obtain ⟨hl, ι, F, S, ds, st, ws, po⟩ := h
  refine ⟨ι, F, _, S, rr_start st ws hm, ?_⟩
  show PostS K mg _ ι F H _ _
  unfold fnBody at po
  cases q : g (ds.map some ++ List.replicate (m - ds.length) none) S with
  | nx ρ' S' =>
    rw [q] at po
    exact fun σ' ι' F' H' gr r => po ι F' H' gr.cut (r.st.cut gr.pre st.len) _ .non
  | rt dv S' =>
    rw [q] at po
    intro v ι' F' H' gr st' wv
    cases dv with
    | dat d => exact po ι F' H' gr.cut (st'.cut gr.pre st.len) v wv
    | scr ns => exact po.elim
    | exn c p => exact po ι F' H' gr.cut (st'.cut gr.pre st.len) v wv
    | obj j =>
      simp only [ends, leave] at po
      obtain ⟨a, h1, h2⟩ := wv
      split at po
      · rename_i hj
        refine po ι F' H' gr.cut (st'.cut gr.pre st.len) v ⟨a, ?_, h2⟩
        obtain ⟨t, rfl⟩ := gr.pre
        rw [List.getElem?_append_left (by rw [st.len]; exact hj)] at h1; exact h1
      · rename_i hj
        split at po
        · rename_i es ej
          obtain ⟨a', vs', h3, h4, h5, h6⟩ := st'.cell j es ej
          rw [h1] at h3; cases h3
          have na : a ∉ ι := fun m => by
            obtain ⟨i, hi, e⟩ := List.mem_iff_getElem.mp m
            obtain ⟨t, rfl⟩ := gr.pre
            have e1 : (ι ++ t)[i]? = some a := by rw [List.getElem?_append_left hi, List.getElem?_eq_getElem hi, e]
            obtain ⟨i1, g1⟩ := List.getElem?_eq_some_iff.mp e1
            obtain ⟨i2, g2⟩ := List.getElem?_eq_some_iff.mp h1
            have : i = j := (List.getElem_inj st'.nd).mp (by rw [g1, g2])
            rw [st.len] at hi; omega
          have ha : H a = none := (gr.nio a (List.mem_of_getElem? h1)).resolve_left na
          exact po (ι ++ [a]) F' H' (grow_add gr.cut ha) ((st'.cut gr.pre st.len).add h4 h5 na h6) v ⟨a, by rw [← st.len]; simp, h2⟩
        · exact po.elim
  | ex c ρ' S' =>
    rw [q] at po
    exact fun C σ' ι' F' H' gr r mc => po C ι F' H' gr.cut (r.st.cut gr.pre st.len) mc
  | bk ρ' S' => rw [q] at po; exact po.elim
  | ct ρ' S' => rw [q] at po; exact po.elim
  | bad => rw [q] at po; exact po
/-- a def of the module's top that is worth g -/
structure Def (P : Program) (w : World) (K : PySem.W.Frag) (mg : Str → Option Value) (base : Heap) (k : Nat) (x : Str) (n : Nat) (g : Fn) : Prop where
  ex : ∃ f fd ps, FnG P w K mg base k f fd ps (spD K mg n g) ∧ mg x = some (.ref f) ∧ PySem.W.keepIn K (.ref f) = true ∧ Binds K fd ps []
theorem de_call {k n : Nat} {x : Str} {g : Fn} {fa : AFn} (F : Def X.prog X.w X.K X.mg X.base k x n g) (hr : Room k X.A) (hG : X.A.guards = some []) (tk : Takes X W) (ha : DA X W (e :: es) fa) (hn : (e :: es).length = n := by rfl) (hg : Gl X x := by rfl)
    (hdb : (x == ("__debug__" : Str)) = false := by decide) (he : starEach (e :: es) X.env = (false, eval e X.env) :: starEach es X.env := by rfl) (hpl : (backTo pos (starEach es X.env)).any (·.1) = false := by rfl)
    (hlen : ∀ ρ S ds S', fa ρ S = .ok ds S' → ds.length = n) : DE X W (.Call (.Name x p) (e :: es) [] pos) (xN g fa) := by
  obtain ⟨f, fd, ps, Fg, hm, hk, hb⟩ := F.ex
  refine ⟨⟨fun pins s σ H Q I h => ?_⟩⟩
  obtain ⟨ι, F, ρ, S, r, h⟩ := h
  apply wpAny_Call_Name_kw (ld_glob I hg hm ?_ hdb)
  refine PySem.W.callWith_K (h₀ := X.base) I.ok.mod.kin hk ?_ he hpl
  have hta : tA X W fa σ H (fun vs H1 => spD X.K X.mg n g vs H1 Q (fun c d H' => W c d σ H')) := by
    refine ⟨ι, F, ρ, S, r, ?_⟩
    unfold xN at h
    cases q : fa ρ S with
    | bad => rw [q] at h; exact h
    | ex c S1 => rw [q] at h; exact h
    | ok ds S1 =>
      rw [q] at h
      intro ι1 F1 H1 g1 st1 vs wv
      exact ⟨by rw [wv.length]; exact hlen _ _ _ _ q, ι1, F1, S1, ds, st1, wv, Post.grow (r := g ds S1) h g1⟩
  refine thn (ha.pa.run pos pins s σ H _ I hta) ?_
  rintro us s1 ⟨vs, H1, I1, rel, hsp⟩
  refine ⟨I1.kIn, ?_⟩
  have hl : us.length = ps.length := by rw [← rel.length]; exact Fg.len _ _ _ _ hsp
  have bd := hb s1 us I1.kIn (by simpa using hl)
  rw [List.append_nil] at bd
  apply wpAny_call
  refine codeAny_mono (Fg.run X.A X.stack s1 H1 ⟨us, []⟩ us vs Q _ hr hG I1.env0 bd rel hsp) ?_
  intro res s2 hq
  cases res with
  | error err => exact L2.passAt tk σ pins H1 s1 err s2 I1 hq
  | ok fl =>
    cases fl with
    | ret u => exact I1.after hq
    | next => exact hq.elim
    | brk => exact hq.elim
    | cont => exact hq.elim
end
end DL

set_option maxHeartbeats 8000000
namespace PySem
namespace DLSet
open L2 PyProof.Rows
/-- an empty set, as it is made -/
abbrev emp (w : World) : Obj := { cls := .type "set", dict := none, data := .set #[] 0 (.fresh 0 0 (!w.params.followText "set-order")) }
section
variable {P : Program} {w : World} {A : Around} {E : Value → Shared → Prop} {s : Shared}
theorem set_of_list {l : Addr} {items : Array Value} (ns : List Int) {Q : Value → Shared → Prop} (hh : A.handled = none) (hl : s.heap.IsList l items) (hit : IntsAre items.toList ns) (hb : ns.length + 1 < scanBound)
    (h : ∀ (h' : Heap) (tk c : Nat), SetR w h' s.heap.objs.size (fun j => decide (j ∈ ns)) c → c ≤ ns.length → (∀ b o, s.heap.get? b = some o → h'.get? b = some o) → Q (.ref s.heap.objs.size) { s with heap := h', toks := tk }) :
    wpAny (model P w) A (call (.type "set") [.ref l]) Q E s := by
  have size_eq : items.size = ns.length := by simpa using IntsAre.length hit
  obtain ⟨c, tl, hmro⟩ := F.called_set.mro
  have hmade := F.called_set.made
  have hsub := F.called_set.sub
  apply wpAny_call
  apply codeAny_of_tree
  show wpAny _ _ (callAny (.type "set") _) _ _ _
  apply wpAny_pure
  refine ⟨Code.quiet_builtin _ (by decide +kernel), ?_⟩
  apply codeAny_builtin F.entry_type_call
  rw [Around.under_plain (weight_type_call_type "set" [.ref l] []) rfl]
  have h1 := F.called_set.notType
  have h2 := F.called_set.canCreate
  have hct := F.typeCall_set_1 (.ref l)
  repeat (any_goals (first | assumption | wp_step))
  refine codeAny_mono (code_set_led1 (.ref l) (E := E) (Q₁ := fun ob s1 => ob = .ref s.heap.objs.size ∧ s1 = { s with heap := s.heap.push (emp w) }) ⟨rfl, rfl⟩) ?_
  intro r s1 hr
  cases r with
  | error e => exact hr
  | ok fl =>
    cases fl with
    | ret ob =>
      obtain ⟨rfl, rfl⟩ := hr
      have hS : (s.heap.push (emp w)).get? s.heap.objs.size = some (emp w) := Heap.get?_push_size _ rfl
      have hT : Shared.TypeIs { s with heap := s.heap.push (emp w) } (.ref s.heap.objs.size) "set" := ⟨_, hS, rfl⟩
      have hli := F.called_set.init.lookup
      have hbi := F.called_set.init.bind (.ref s.heap.objs.size)
      repeat (any_goals (first | assumption | wp_step))
      refine codeAny_mono (codeAny_call_builtin (R := wants (fun r s2 => r = .none ∧ ∃ h' tk c, s2 = { s with heap := h', toks := tk } ∧ SetR w h' s.heap.objs.size (fun j => decide (j ∈ ns)) c ∧ c ≤ ns.length ∧
          (∀ b o, s.heap.get? b = some o → h'.get? b = some o)) E) F.called_set.init.plain F.entry_set_init (check_set_init_1 hT ?_)) ?_
      · obtain ⟨ol, hol, hcl, nl, hdl⟩ := hl
        obtain ⟨ocls, odict, odata, oslots⟩ := ol
        simp only at hcl hdl
        subst hcl
        subst hdl
        have hol1 : (s.heap.push (emp w)).get? l = some { cls := .type "list", dict := odict, data := .seq items nl, slots := oslots } := Heap.get?_push_of_some _ hol
        have hsls := F.sub_list_set
        have hslf := F.sub_list_frozenset
        have hne : (Value.type "list" == Value.type "dict") = false := by decide
        have hl1 : (s.heap.push (emp w)).IsList l items := ⟨_, hol1, rfl, nl, rfl⟩
        unfold Builtin.«set.__init__» noKeywords Builtin.Frozenset.updateFrom
        generalize hPI : pyIter = PI
        wp_walk
        subst hPI
        refine wpAny_pyIter_list hl1 ?_
        refine wpAny_bind (wpAny_runValue ?_)
        have lt : l < s.heap.objs.size := Heap.lt_size hol
        have calm3 : A.in1.in1.in1.handled = none := by simp [hh]
        have sz : (s.heap.push (emp w)).objs.size = s.heap.objs.size + 1 := Heap.size_push ..
        have apart : l ≠ (s.heap.push (emp w)).objs.size := by rw [sz]; exact Nat.ne_of_lt (Nat.lt_succ_of_lt lt)
        have free : s.heap.objs.size ∉ [(s.heap.push (emp w)).objs.size, l] := by
          rw [sz]
          simp only [List.mem_cons, List.not_mem_nil, or_false, not_or]
          exact ⟨Nat.ne_of_lt (Nat.lt_succ_self _), Nat.ne_of_gt lt⟩
        have val : ∀ (i : Nat) (v : Value), items[i]? = some v → ∃ k t, ns[i]? = some k ∧ v = .int k t := by
          intro i v hv
          have hi : i < ns.length := by rw [← size_eq]; exact (Array.getElem?_eq_some_iff.mp hv).1
          obtain ⟨t, e⟩ := PyProof.Rows.IntsAre.int_at hit i v (by rw [Array.getElem?_toList]; exact hv)
          refine ⟨ns[i], t, List.getElem?_eq_getElem hi, ?_⟩
          rw [e, List.getD_eq_getElem?_getD, List.getElem?_eq_getElem hi]
          rfl
        refine set_update_ints ((Walks.list calm3 _ l apart items).toS) s.heap.objs.size free ns size_eq hb val (items.size - 0) 0 _ (by omega) (Nat.zero_le _)
          ⟨⟨_, Heap.get?_push_size _ rfl, rfl, rfl⟩, (hl1.push _)⟩ ?hA ?hB
        case hA => exact ⟨0, Nat.le_refl 0, setR_new_at (Heap.get?_push_of_some _ hS)⟩
        case hB =>
          intro s' c' mv hc' hS'
          obtain ⟨h', g2, d', tk', os'⟩ := s'
          obtain rfl : g2 = s.gens := mv.gens
          obtain rfl : d' = s.drawn := mv.drawn
          obtain rfl : os' = s.os := mv.os
          show wpAny _ _ _ _ _ _
          apply wpAny_pure
          show wpAny _ _ (ret Value.none) _ _ _
          rw [size_eq] at hc'
          refine wpAny_pure ⟨rfl, h', tk', c', rfl, hS', hc', fun b o e => ?_⟩
          have hb0 : b < s.heap.objs.size := Heap.lt_size e
          refine mv.heap b o ?_ (Heap.get?_push_of_some _ (Heap.get?_push_of_some _ e))
          rw [sz]
          simp only [List.mem_cons, List.not_mem_nil, or_false, not_or]
          exact ⟨Nat.ne_of_lt hb0, Nat.ne_of_lt (Nat.lt_succ_of_lt hb0)⟩
      · intro r2 s2 hr2
        cases r2 with
        | error e => exact hr2
        | ok fl2 =>
          cases fl2 with
          | ret v2 =>
            obtain ⟨rfl, h', tk, c, rfl, hS', hc', hk⟩ := hr2
            repeat (any_goals (first | assumption | wp_step))
            exact h h' tk c hS' hc' hk
          | _ => exact hr2.elim
    | _ => exact hr.elim
end
end DLSet
end PySem

set_option maxHeartbeats 8000000
namespace PySem
namespace DLEnum
open L2 PyProof.Rows
set_option maxHeartbeats 1000000 in
theorem made {v : Value} {o : Obj} {H : Heap → Prop} (B : Begins v o H) :
    Meets (Builtin.«enumerate.__new__» ⟨[.type "enumerate", v], []⟩) (fun _ R s => H s.heap ∧
      R (.ok (.ret (.ref (s.heap.push o).objs.size))) { s with heap := (s.heap.push o).push { cls := .type "enumerate", data := .fields #[.none, .bool false, .ref s.heap.objs.size, rawInt 0, .none, .none] } }) :=
  .of_wp fun prog w A R s h => by
    obtain ⟨hp, g, d, tk, os⟩ := s
    obtain ⟨h1, h⟩ := h
    have hsub := sub_enumerate
    have it1 : ∀ {A' : Around} {E : Value → Shared → Prop} {Q : Value → Shared → Prop}, Q (.ref hp.objs.size) ⟨hp.push o, g, d, tk, os⟩ → wpAny (model prog w) A' (pyIter v) Q E ⟨hp, g, d, tk, os⟩ :=
      fun q => B.iter prog w _ _ ⟨hp, g, d, tk, os⟩ _ h1 q
    wp_walk using it1
    apply wpAny_stack_any
    intro st
    apply wpAny_pure
    split
    · rename_i c _ _ _ _ _
      cases (c == Value.type "enumerate") <;> (wp_walk using it1) <;> exact ⟨_, rfl, h⟩
    · wp_walk using it1
      exact ⟨_, rfl, h⟩
section
variable {prog : Program} {w : World} {A : Around} {E : Value → Shared → Prop} {s : Shared}
theorem begins {v : Value} {o : Obj} {H : Heap → Prop} {Q : Value → Shared → Prop} (B : Begins v o H) (h1 : H s.heap)
    (h : ∀ h', IsEnum h' (s.heap.objs.size + 1) s.heap.objs.size 0 .none → h'.get? s.heap.objs.size = some o → (∀ b o, s.heap.get? b = some o → h'.get? b = some o) → Q (.ref (s.heap.objs.size + 1)) { s with heap := h' }) :
    wpAny (model prog w) A (call (.type "enumerate") [v]) Q E s := by
  apply callType_new F.called_enumerate (by decide) (F.typeCall_enumerate_1 _) (F.newCall_enumerate_1 _) (fun obj => F.args_object_init_2 obj _) F.entry_enumerate_new (made B)
  have sz : (s.heap.push o).objs.size = s.heap.objs.size + 1 := Heap.size_push ..
  refine ⟨h1, ?_⟩
  show _ ∧ _
  rw [sz]
  have he : IsEnum ((s.heap.push o).push { cls := .type "enumerate", data := .fields #[.none, .bool false, .ref s.heap.objs.size, rawInt 0, .none, .none] }) (s.heap.objs.size + 1) s.heap.objs.size 0 .none := by
    have q := Heap.get?_push_size (s.heap.push o) (o := { cls := .type "enumerate", data := .fields #[.none, .bool false, .ref s.heap.objs.size, rawInt 0, .none, .none] }) rfl
    rw [sz] at q
    exact q
  exact ⟨⟨_, he, rfl⟩, h _ he (Heap.get?_push_of_some _ (Heap.get?_push_size _ B.free)) fun b o x => Heap.get?_push_of_some _ (Heap.get?_push_of_some _ x)⟩
end
end DLEnum
end PySem

set_option maxHeartbeats 4000000
namespace DL
open PySem PySem.Spec PyProof.Rows L2
section
variable {X : Cx} {W : WX} {e a b c : Expr} {es : List Expr} {pos p : Pos} {K : PySem.W.Frag} {ι : List Addr} {F H : Hp} {S : Store} {mg : Str → Option Value}
/-! ## raise X("..") -/
def sRaise (c : Str) : SFn := fun ρ S => .ex c ρ S
structure ExcD (K : PySem.W.Frag) (mg : Str → Option Value) (x : Str) : Prop where
  ex : ∃ C, mg x = some (.ref C) ∧ PySem.W.excIn K C He.veBase "ValueError.__new__" = true ∧ PySem.W.keepIn K (.ref C) = true ∧ PySem.W.subIn K (.ref C) (.type "BaseException") = some true ∧ PySem.W.typeIn K (.ref C) = some (.type "type")
theorem ds_raise {x m : Str} {j : Nat} {p2 p3 : Pos} (hc : X.calm = true) (tk : Takes X W) (h : ExcD X.K X.mg x) (hg : Gl X x := by rfl) (hdb : (x == ("__debug__" : Str)) = false := by decide) :
    DS X W (.Raise (some (.Call (.Name x p) [.Constant (.str m) j p2] [] p3)) none pos) (sRaise x) := by
  obtain ⟨C, h1, h2, h3, h4, h5⟩ := h.ex
  refine ⟨_, ps_raise hc tk (pmk_own PySem.F.excBase_ValueError h2 h1 h3 (raises_own h4 h5) hg hdb), fun D σ H ⟨ι, F, ρ, S, r, h⟩ => ?_⟩
  exact h C σ ι F H .refl r h1
/-! ## isinstance of data -/
def tyName : D → String
  | .non => "NoneType" | .bl _ => "bool" | .int _ => "int" | .str _ => "str" | .lst _ => "list" | .tup _ => "tuple"
def isiN (n T : String) : Bool := n == T || (T == "int" && n == "bool")
def isiB (T : String) (d : D) : Bool := isiN (tyName d) T
theorem isi_all : (["NoneType", "bool", "int", "str", "list", "tuple"].all fun n => ["int", "bool", "tuple", "list", "str"].all fun T => decide (kitB n T = some (isiN n T))) = true := by decide +kernel
theorem tyName_mem (d : D) : tyName d ∈ ["NoneType", "bool", "int", "str", "list", "tuple"] := by cases d <;> simp [tyName]
def oIsi (T : String) (x : DV) (S : Store) : Res DV := match rd S x with
  | some d => .ok (.dat (.bl (isiB T d))) S
  | none => .bad
def xIsi (T : String) (f : XFn) : XFn := fun ρ S => (f ρ S).bind (oIsi T)
theorem Vw.ty {v : V} {d : D} (s : Same F H) (h : Vw K F H v d) : TyX K H v (.type (tyName d)) := by
  cases h with
  | non => exact .base .non
  | bl b => exact .base (.bl b)
  | int i => exact .base (.int i)
  | str x => exact .base (.str x)
  | lst q w => exact .base (.lst q)
  | tup q w =>
    rcases q with (q | ⟨o, q⟩) | ⟨o, its, n, h1, h2, _⟩
    · exact .base (.tup (s _ _ q))
    · exact .fTuple (s _ _ q)
    · exact .kTuple h1 h2
theorem isi_kit (T : String) (hT : T ∈ ["int", "bool", "tuple", "list", "str"]) (d : D) : kitB (tyName d) T = some (isiB T d) := by
  exact of_decide_eq_true (List.all_eq_true.mp (List.all_eq_true.mp isi_all _ (tyName_mem d)) T hT)
theorem de_isi {f : XFn} {T : Str} {n : String} {p2 p3 : Pos} (h : DE X W a f) (hm : X.mg "isinstance" = none) (hmT : X.mg T = none) (hv : bootBuiltins T = some (.type n)) (hT : n ∈ ["int", "bool", "tuple", "list", "str"] := by decide) (hg : Gl X "isinstance" := by rfl) (hgT : Gl X T := by rfl) (hn : T ≠ "__name__" := by decide) (hdb : (T == ("__debug__" : Str)) = false := by decide)
    (he : starEach (a :: [.Name T p3]) X.env = (false, eval a X.env) :: starEach [.Name T p3] X.env := by rfl) (he2 : starEach (.Name T p3 :: []) X.env = (false, eval (.Name T p3) X.env) :: starEach [] X.env := by rfl) (hpl : (backTo pos (starEach [.Name T p3] X.env)).any (·.1) = false := by rfl) :
    DE X W (.Call (.Name "isinstance" p2) [a, .Name T p3] [] pos) (xIsi n f) := by
  refine ⟨PE.weak (pe_callB call_isi hg hm (by decide +kernel) (pa_cons h.pe (pa_cons (pe_bltn (v := .ty n) hgT hmT hv rfl hn hdb) pa_nil he2) he) (by decide) (by decide) he hpl) fun σ H Q ⟨ι, F, ρ, S, r, h⟩ => ?_⟩
  refine tD.bind (g := fun _ => oIsi n) r h fun v dv ι1 F1 S1 H1 r1 w1 g1 h1 => ?_
  unfold oIsi at h1
  cases ed : rd S1 dv with
  | none => simp only [ed] at h1; exact h1.elim
  | some d =>
    simp only [ed] at h1
    exact ⟨_, _, _, _, _, rfl, .ty n, (r1.st.vw w1 ed).ty r1.st.sub, kit_ty (isi_kit n hT d), h1 ι1 F1 H1 .refl r1.st _ (.bl _)⟩
/-! ## *x in a display -/
def aStar (f : XFn) (g : AFn) : AFn := fun ρ S => (f ρ S).bind fun x S1 => match rd S1 x with
  | some (.lst xs) => (g ρ S1).bind fun ds S2 => .ok (xs.map .dat ++ ds) S2
  | some (.tup xs) => (g ρ S1).bind fun ds S2 => .ok (xs.map .dat ++ ds) S2
  | _ => .bad
theorem WVs.of_wda {vs : List V} {ds : List D} (w : WdA K F vs ds) : WVs K ι F vs (ds.map .dat) := by
  induction ds generalizing vs with
  | nil => cases w; exact .nil
  | cons d ds ih =>
    cases w with
    | cons a b => exact .cons a (ih b)
theorem WVs.append {vs us : List V} {ds es : List DV} (h : WVs K ι F vs ds) (g : WVs K ι F us es) : WVs K ι F (vs ++ us) (ds ++ es) := by
  induction h with
  | nil => exact g
  | cons a _ ih => exact .cons a ih
theorem da_star {f : XFn} {g : AFn} {p2 : Pos} (he : DE X W e f) (hs : DA X W es g) (hse : starEach (.Starred e p2 :: es) X.env = (true, eval e X.env) :: starEach es X.env := by rfl) : DA X W (.Starred e p2 :: es) (aStar f g) := by
  refine ⟨PA.weak (StX.pa_star he.pe hs.pa hse) fun σ H Q ⟨ι, F, ρ, S, r, h⟩ => ?_⟩
  refine tD.bind (g := fun ρ x S1 => match rd S1 x with
    | some (.lst xs) => (g ρ S1).bind fun ds S2 => .ok (xs.map .dat ++ ds) S2
    | some (.tup xs) => (g ρ S1).bind fun ds S2 => .ok (xs.map .dat ++ ds) S2
    | _ => .bad) r h fun v dv ι1 F1 S1 H1 r1 w1 g1 h1 => ?_
  cases ed : rd S1 dv with
  | none => simp only [ed] at h1; exact h1.elim
  | some d =>
    simp only [ed] at h1
    have vw := r1.st.vw w1 ed
    cases vw with
    | lst s w =>
      refine ⟨_, _, rfl, .inr (.of s), ?_⟩
      refine tA.bind (g := fun ρ ds S2 => .ok (_ ++ ds) S2) r1 h1 fun vs ds ι2 F2 S2 H2 r2 w2 g2 h2 => ?_
      exact h2 ι2 F2 H2 .refl r2.st _ ((WVs.of_wda (w.mono g2.sf)).append w2)
    | tup s w =>
      refine ⟨_, _, rfl, .inl (sameT r1.st.sub s), ?_⟩
      refine tA.bind (g := fun ρ ds S2 => .ok (_ ++ ds) S2) r1 h1 fun vs ds ι2 F2 S2 H2 r2 w2 g2 h2 => ?_
      exact h2 ι2 F2 H2 .refl r2.st _ ((WVs.of_wda (w.mono g2.sf)).append w2)
    | _ => exact h1.elim
/-! ## repr -/
def canRepr (d : D) : Bool := d.py.showable && d.py.canLay0 && decide (d.py.depth ≤ 60) && decide (d.py.shown.length ≤ sizeLine)
def dRepr (d : D) : Option D := if canRepr d = true then some (.str d.py.shown) else none
def rReprD (K : PySem.W.Frag) : List V → Hp → VK → Prop := fun xs H Q => ∃ x d, xs = [x] ∧ Dp K H x d ∧ d.showable = true ∧ d.canLay0 = true ∧ d.depth ≤ 60 ∧ d.shown.length ≤ sizeLine ∧ Q (.str d.shown) H
theorem cr_repr (hG : X.A.guards = some []) (hu : X.A.units + 64 < cLine) : CallR X (.builtin "repr") (rReprD X.K) := by
  intro pins s σ H xs us Q I r h
  obtain ⟨x, d, rfl, hd, h1, h2, h3, h4, q⟩ := h
  cases r with
  | cons rx rr =>
    cases rr
    rename_i u
    obtain ⟨as, rs⟩ := Dp.reads I d x u hd rx
    cases hd with
    | non => cases rx; exact P.repr_of_none ⟨.str "None", H, I.tok _, ⟨_, rfl⟩, q⟩
    | bl b => cases rx; exact P.repr_of_bool ⟨.str (if _ then "True" else "False"), H, I.tok _, ⟨_, rfl⟩, q⟩
    | int i =>
      obtain ⟨t, rfl⟩ := rx
      exact P.repr_of_int (by simpa [PyData.showable] using h1) ⟨.str _, H, I.tok _, ⟨_, rfl⟩, q⟩
    | str y =>
      obtain ⟨t, rfl⟩ := rx
      exact P.repr_of_str ⟨.str _, H, I.tok _, ⟨_, rfl⟩, q⟩ h4
    | lst s w =>
      cases rx
      exact repr_of_reads' rs h1 (PyData.noDict_hsm (PyData.hasDict_of_canLay _ h2)) hG (by omega) (fun _ _ z => z) (fun h' u tk k => ⟨.str _, H, I.kept (t' := tk) k, ⟨_, rfl⟩, q⟩) h4
    | tup s w =>
      cases rx
      exact repr_of_reads' rs h1 (PyData.noDict_hsm (PyData.hasDict_of_canLay _ h2)) hG (by omega) (fun _ _ z => z) (fun h' u tk k => ⟨.str _, H, I.kept (t' := tk) k, ⟨_, rfl⟩, q⟩) h4
theorem dRepr_ok : CallOk K (rReprD K) (o1 dRepr) := o1_ok fun ι F H S v a c Q st va e q => by
  unfold dRepr at e
  split at e
  · rename_i h
    cases e
    unfold canRepr at h
    simp only [Bool.and_eq_true, decide_eq_true_eq] at h
    exact ⟨_, _, rfl, (va.wd st.sub).dp, h.1.1.1, h.1.1.2, h.1.2, h.2, q.same st (.str _)⟩
  · cases e
/-! ## pairs walked: zip, enumerate -/
def pairD (x y : D) : D := .tup [x, y]
def zipD (xs ys : List D) : List D := List.zipWith pairD xs ys
end
end DL

set_option maxHeartbeats 4000000
namespace DL
open PySem PySem.Spec PyProof.Rows L2
/-! ## enumerate(a tuple) -/
def IteT (K : PySem.W.Frag) (a : Addr) : It :=
  ⟨fun i H => ∃ (xs : List V) (x : V), SqT K H a xs ∧ xs[i]? = some x, fun i H v H' => ∃ T x, v = .ref T ∧ H T = none ∧ H' = upd H T (.tup [.int (i : Nat), x]) ∧ ∀ xs, SqT K H a xs → xs[i]? = some x, fun i H => ∃ xs : List V, SqT K H a xs ∧ xs.length ≤ i⟩
theorem turn_enumT {P : Program} {w : World} {K : PySem.W.Frag} {elts : List Expr} {kk : Nat} {tpos : Pos} (a e it : Addr) :
    Turn P w K (.Tuple elts kk tpos) (IteT K a) [e, it] e (fun i h => (∃ old, IsEnum h e it ((i : Nat) : Int) old) ∧ h.IsTupleIter it a i ∧ e ≠ it ∧ e ≠ a ∧ it ≠ a) where
  mem := by simp
  obj := by
    intro i h st b hb
    obtain ⟨⟨old, he⟩, ⟨o, ho, hc, hd⟩, _⟩ := st
    rcases List.mem_cons.mp hb with z | hb
    · subst z; exact ⟨_, he, fun v q => nomatch q⟩
    · rcases List.mem_singleton.mp hb with z
      subst z
      exact ⟨o, ho, fun v q => by rw [hd] at q; cases q⟩
  keep := by
    intro i h h' st k
    obtain ⟨⟨old, he⟩, hi, ne⟩ := st
    exact ⟨⟨old, k e (by simp) _ he⟩, hi.at fun o q => k it (by simp) o q, ne⟩
  item := by
    intro X hP hw hK hc i pins s σ H E I hf st hg
    subst hP hw hK
    obtain ⟨⟨old, he⟩, hit, ne, nea, nia⟩ := st
    obtain ⟨xs, x, hq, hx⟩ := hg
    obtain ⟨its, rv, p, hz⟩ := I.tuple hq
    obtain ⟨u, hu, ru⟩ := rv.get hx
    have pT : s.heap.IsTuple a its.toArray := p
    have el : e < s.heap.objs.size := Heap.lt_size he
    have il : it < s.heap.objs.size := by
      obtain ⟨_, q, _⟩ := hit
      exact Heap.lt_size q
    have hlt : i < its.toArray.size := by
      have := (List.getElem?_eq_some_iff.mp hu).1
      simpa using this
    have hh : X.A.in1.handled = none := I.ok.hd hc
    refine wpAny_pyNext_enum_itemD (PySem.Draws.tuple hh it a (Ne.symm nia) its.toArray) he ⟨hit, pT⟩ hlt ne (by simp; exact ⟨ne, nea⟩) ?_
    intro y h' tk hy ho st' hT hsz hk
    have yu : y = u := by
      have h1 : its[i]? = some y := by simpa using hy
      rw [hu] at h1
      exact (Option.some.inj h1).symm
    subst yu
    refine ⟨_, rfl, wpAny_letOwnedTupleGo_enum (s := { s with heap := h', toks := tk + 1 }) ho ?_⟩
    intro h2 he2 sb
    have hT2 : h2.get? s.heap.objs.size = some { cls := .type "tuple", data := .seq #[.int i tk, y] } := (sb.2 _ (Nat.ne_of_gt el)).trans hT
    have new : ObjOk X.prog X.w (upd H s.heap.objs.size (.tup [.int (i : Nat), x])) h2 s.heap.objs.size (.tup [.int (i : Nat), x]) :=
      ⟨by show 2 ≤ sizeLine; decide, [.int i tk, y], .cons ⟨_, rfl⟩ (.cons ru .nil), ⟨_, hT2, rfl, _, rfl⟩⟩
    have I1 : Inv X pins σ (upd H s.heap.objs.size (.tup [.int (i : Nat), x])) { s with heap := h2, toks := tk + 1 } := by
      refine I.turnedNew (ch := [e, it]) ?_ hf (Nat.le_refl _) new
      intro b o hb q
      have nb : b ≠ e := fun z => hb (by simp [z])
      have nb2 : b ≠ it := fun z => hb (by simp [z])
      exact (sb.2 b nb).trans (hk b o nb nb2 q)
    refine ⟨.ref s.heap.objs.size, _, I1, rfl, ⟨_, x, rfl, I.hok.fresh (Nat.le_refl _), rfl, ?_⟩, ⟨⟨y, ?_⟩, st'.1.at fun o q => (sb.2 it (Ne.symm ne)).trans q, ne, nea, nia⟩, ?_⟩
    · intro zs hz
      rw [I.tuple_inj hz hq]
      exact hx
    · have e1 : ((i + 1 : Nat) : Int) = (i : Int) + 1 := by omega
      rw [e1]
      exact he2
    · intro b hb
      have lb : b < s.heap.objs.size := by
        rcases List.mem_cons.mp hb with z | hb
        · rw [z]; exact el
        · rw [List.mem_singleton.mp hb]; exact il
      rw [upd_ne (Nat.ne_of_lt lb)]
      exact (hf b hb).1
  done := by
    intro X hP hw hK hc i pins s σ H E I hf st hg
    subst hP hw hK
    obtain ⟨⟨old, he⟩, hit, ne, nea, nia⟩ := st
    obtain ⟨xs, hq, hx⟩ := hg
    obtain ⟨its, rv, p, hz⟩ := I.tuple hq
    have pT : s.heap.IsTuple a its.toArray := p
    obtain ⟨f0, f1, f2, f3, f4, f5⟩ := hf it (by simp)
    have hl := rv.length
    have hh : X.A.in1.handled = none := I.ok.hd hc
    have none_ : its.toArray[i]? = none := by
      simp
      omega
    have D : Draws X.prog X.w X.A.in1 it [it, a] i (fun _ _ => False) (fun j h => j = i ∧ h.IsTupleIter it a i ∧ h.IsTuple a its.toArray) :=
      { live := fun _ _ st => let ⟨o, ho, _⟩ := st.2.1; ⟨o, ho⟩
        frame := fun _ _ _ st k => ⟨st.1, st.2.1.at fun o e => k it (by simp) o e, st.2.2.at fun o e => k a (by simp) o e⟩
        item := fun j s Q E hj st _ => absurd st.1 (Nat.ne_of_lt hj)
        done := fun s Q E st hE => wpAny_nextOf_tuple_end hh st.2.1 st.2.2 none_ hE }
    refine wpAny_pyNext_enum_endD D he ⟨rfl, hit, pT⟩ ?_
    intro h' eb
    exact ⟨rfl, I.turned (t' := s.toks) (fun b o hb q => eb b o hb q) f0 f1 f3 f4 f5⟩
  self := by
    intro A i s Q E st h
    obtain ⟨⟨_, he⟩, _⟩ := st
    exact wpAny_pyIter_enum he h
def iEnumA (K : PySem.W.Frag) (ta : TA) : TI := fun σ H R => ta σ H fun vs H1 => ∃ a xs, vs = [.ref a] ∧ ((SqL K H1 a xs ∧ R (Ite K a) H1) ∨ (SqT K H1 a xs ∧ R (IteT K a) H1))
theorem pi_enumA {X : Cx} {e : Expr} {ta : TA} {p pos tpos : Pos} {elts : List Expr} {kk : Nat} (hg : Gl X "enumerate") (hm : X.mg "enumerate" = none) (ha : PA X [e] ta) (hs : starEach [e] X.env = [(false, eval e X.env)] := by rfl) :
    PI X (.Tuple elts kk tpos) (.Call (.Name "enumerate" p) [e] [] pos) (iEnumA X.K ta) := by
  constructor
  intro pins s σ H R I h
  apply Call_ (ld_blt I hg hm boot_enumerate (PyProof.Rows.callWith_type1 (thn (ha.run pos pins s σ H _ I h) ?_) hs rfl))
  rintro us s1 ⟨vs, H1, I1, r1, a, xs, ex, q⟩
  subst ex
  cases r1 with
  | cons r rr =>
    cases rr
    cases r
    have fresh : ∀ b ∈ [s1.heap.objs.size + 1, s1.heap.objs.size], FpOk X pins H1 b := by
      intro b hb
      have le : s1.heap.objs.size ≤ b := by
        rcases List.mem_cons.mp hb with z | hb
        · rw [z]; exact Nat.le_add_right _ _
        · rw [List.mem_singleton.mp hb]; exact Nat.le_refl _
      exact I1.fpOk le (I1.hok.fresh le)
    rcases q with ⟨hq, q⟩ | ⟨hq, q⟩
    · obtain ⟨its, rv, p', hz⟩ := I1.list hq
      apply call_enumerate_list p'.isList
      intro h' he hit hsz hk
      apply wpAny_pyIter_enum he
      exact ⟨s1.heap.objs.size + 1, [s1.heap.objs.size + 1, s1.heap.objs.size], _, _, H1, rfl, I1.kept (t' := s1.toks) hk, turn_enum a _ _, ⟨⟨.none, he⟩, hit, Nat.succ_ne_self _⟩, fresh, q⟩
    · obtain ⟨its, rv, p', hz⟩ := I1.tuple hq
      have pT : s1.heap.IsTuple a its.toArray := p'
      apply DLEnum.begins (begins_tuple a its.toArray) pT
      intro h' he ho hk
      have la : a < s1.heap.objs.size := by
        obtain ⟨_, q, _⟩ := pT
        exact Heap.lt_size q
      apply wpAny_pyIter_enum he
      exact ⟨s1.heap.objs.size + 1, [s1.heap.objs.size + 1, s1.heap.objs.size], _, _, H1, rfl, I1.kept (t' := s1.toks) hk, turn_enumT a _ _, ⟨⟨.none, he⟩, ⟨_, ho, rfl, rfl⟩, Nat.succ_ne_self _, Nat.ne_of_gt (Nat.lt_succ_of_lt la), Nat.ne_of_gt la⟩, fresh, q⟩
section
variable {X : Cx} {W : WX} {e a b c : Expr} {es : List Expr} {pos p : Pos} {K : PySem.W.Frag} {ι : List Addr} {F H : Hp} {S : Store} {mg : Str → Option Value}
def enumD (xs : List D) : List D := (List.range xs.length).zipWith (fun i x => pairD (.int (i : Nat)) x) xs
theorem enumD_get {xs : List D} {i : Nat} {d : D} (h : xs[i]? = some d) : (enumD xs)[i]? = some (pairD (.int (i : Nat)) d) := by
  have hi := (List.getElem?_eq_some_iff.mp h).1
  unfold enumD
  rw [List.getElem?_zipWith, h, List.getElem?_range hi]
theorem enumD_len (xs : List D) : (enumD xs).length = xs.length := by simp [enumD]
theorem pair_new {F1 : Hp} {H1 : Hp} {S1 : Store} (st : StR K ι F1 S1 H1) {T : Addr} (hT : H1 T = none) {u v : V} {d1 d2 : D} (w1 : Wd K F1 u d1) (w2 : Wd K F1 v d2) :
    Grow ι F1 H1 ι (upd F1 T (.tup [u, v])) (upd H1 T (.tup [u, v])) ∧ StR K ι (upd F1 T (.tup [u, v])) S1 (upd H1 T (.tup [u, v])) ∧ Wd K (upd F1 T (.tup [u, v])) (.ref T) (pairD d1 d2) :=
  have s2 := same_push st.sub hT (.tup [u, v])
  ⟨grow_push st.sub hT _, st.push hT _, .tup (.of upd_same) (.cons (w1.mono s2) (.cons (w2.mono s2) .nil))⟩
theorem itOk_enumL {F1 : Hp} {p1 : Addr} {vs : List V} {ds : List D} (s1 : F1 p1 = some (.lst vs)) (w1 : WdA K F1 vs ds) : ItOk K F1 (enumD ds) (Ite K p1) := by
  refine ⟨fun H => SqL K H p1 vs, (Ite K p1).yld, ⟨fun i H hi g => ?_, fun H g => ⟨vs, g, by rw [enumD_len, w1.length]; exact Nat.le_refl _⟩, fun i H x H' _ _ y => y⟩, fun ι F2 S2 H2 st sm => .of (st.sub _ _ (sm _ _ s1)), fun ι F2 S2 H2 i x H3 st sm hi y => ?_⟩
  · rw [enumD_len, ← w1.length] at hi
    exact ⟨vs, vs[i], g, List.getElem?_eq_getElem hi⟩
  · obtain ⟨T, u, rfl, hT, rfl, hu⟩ := y
    have hu' := hu vs (.of (st.sub _ _ (sm _ _ s1)))
    obtain ⟨d, h1, h2⟩ := w1.get hu'
    obtain ⟨g, st', w⟩ := pair_new st hT (.int ((i : Nat) : Int)) (h2.mono sm)
    exact ⟨_, _, g, st', enumD_get h1, w⟩
theorem itOk_enumT {F1 : Hp} {p1 : Addr} {vs : List V} {ds : List D} (s1 : SqT K F1 p1 vs) (w1 : WdA K F1 vs ds) : ItOk K F1 (enumD ds) (IteT K p1) := by
  refine ⟨fun H => SqT K H p1 vs, (IteT K p1).yld, ⟨fun i H hi g => ?_, fun H g => ⟨vs, g, by rw [enumD_len, w1.length]; exact Nat.le_refl _⟩, fun i H x H' _ _ y => y⟩, fun ι F2 S2 H2 st sm => sameT st.sub (sameT sm s1), fun ι F2 S2 H2 i x H3 st sm hi y => ?_⟩
  · rw [enumD_len, ← w1.length] at hi
    exact ⟨vs, vs[i], g, List.getElem?_eq_getElem hi⟩
  · obtain ⟨T, u, rfl, hT, rfl, hu⟩ := y
    have hu' := hu vs (sameT st.sub (sameT sm s1))
    obtain ⟨d, h1, h2⟩ := w1.get hu'
    obtain ⟨g, st', w⟩ := pair_new st hT (.int ((i : Nat) : Int)) (h2.mono sm)
    exact ⟨_, _, g, st', enumD_get h1, w⟩
def enum1 (x : DV) (S : Store) : Res (List D) := match x with
  | .dat (.lst xs) => .ok (enumD xs) S
  | .dat (.tup xs) => .ok (enumD xs) S
  | _ => .bad
def lEnum (f : XFn) : LFn := fun ρ S => (f ρ S).bind enum1
theorem di_enum {f : XFn} {elts : List Expr} {kk : Nat} {tpos : Pos} (h : DE X W e f) (hm : X.mg "enumerate" = none) (hg : Gl X "enumerate" := by rfl) (hs : starEach [e] X.env = [(false, eval e X.env)] := by rfl) (hse : starEach (e :: []) X.env = (false, eval e X.env) :: starEach [] X.env := by rfl) :
    DI X W (.Tuple elts kk tpos) (.Call (.Name "enumerate" p) [e] [] pos) (lEnum f) := by
  refine ⟨_, pi_enumA hg hm (pa_cons h.pe pa_nil hse) hs, fun σ H R ⟨ι, F, ρ, S, r, h⟩ => ?_⟩
  refine tD.bind (g := fun _ => enum1) r h fun v dv ι1 F1 S1 H1 r1 w1 g1 h1 => ?_
  unfold enum1 at h1
  split at h1
  · rename_i xs
    have w' : Wd X.K F1 v (.lst xs) := w1
    cases w' with
    | lst s w => exact ⟨_, _, rfl, .inl ⟨.of (r1.st.sub _ _ s), h1 ι1 F1 H1 .refl r1.st _ (itOk_enumL s w)⟩⟩
  · rename_i xs
    have w' : Wd X.K F1 v (.tup xs) := w1
    cases w' with
    | tup s w => exact ⟨_, _, rfl, .inr ⟨sameT r1.st.sub s, h1 ι1 F1 H1 .refl r1.st _ (itOk_enumT s w)⟩⟩
  · exact h1.elim
/-! ## zip -/
theorem zip_goes {vs us : List V} {ds es : List D} {F1 : Hp} (w1 : WdA K F1 vs ds) (w2 : WdA K F1 us es) {i : Nat} (hi : i < (zipD ds es).length) : ∃ x y, vs[i]? = some x ∧ us[i]? = some y := by
  simp only [zipD, List.length_zipWith] at hi
  have h1 := w1.length
  have h2 := w2.length
  exact ⟨vs[i]'(by omega), us[i]'(by omega), List.getElem?_eq_getElem _, List.getElem?_eq_getElem _⟩
theorem zip_stops {vs us : List V} {ds es : List D} {F1 : Hp} (w1 : WdA K F1 vs ds) (w2 : WdA K F1 us es) : vs.length ≤ (zipD ds es).length ∨ us.length ≤ (zipD ds es).length := by
  simp only [zipD, List.length_zipWith, w1.length, w2.length]
  omega
theorem itOk_zipL {F1 : Hp} {p1 p2 : Addr} {vs us : List V} {ds es : List D} (s1 : F1 p1 = some (.lst vs)) (w1 : WdA K F1 vs ds) (s2 : F1 p2 = some (.lst us)) (w2 : WdA K F1 us es) : ItOk K F1 (zipD ds es) (Itz K p1 p2) := by
  refine ⟨fun H => SqL K H p1 vs ∧ SqL K H p2 us, (Itz K p1 p2).yld, ⟨fun i H hi g => ?_, fun H g => ⟨vs, us, g.1, g.2, zip_stops w1 w2⟩, fun i H x H' _ _ y => y⟩, fun ι F2 S2 H2 st sm => ⟨.of (st.sub _ _ (sm _ _ s1)), .of (st.sub _ _ (sm _ _ s2))⟩, fun ι F2 S2 H2 i x H3 st sm hi y => ?_⟩
  · obtain ⟨x, y, h1, h2⟩ := zip_goes w1 w2 hi
    exact ⟨vs, us, x, y, g.1, g.2, h1, h2⟩
  · obtain ⟨T, u, v, rfl, hT, rfl, hu, hv⟩ := y
    obtain ⟨d, h1, h2⟩ := w1.get (hu vs (.of (st.sub _ _ (sm _ _ s1))))
    obtain ⟨e, h3, h4⟩ := w2.get (hv us (.of (st.sub _ _ (sm _ _ s2))))
    obtain ⟨g, st', w⟩ := pair_new st hT (h2.mono sm) (h4.mono sm)
    exact ⟨_, _, g, st', by unfold zipD; rw [List.getElem?_zipWith, h1, h3], w⟩
theorem itOk_zipT {F1 : Hp} {p1 p2 : Addr} {vs us : List V} {ds es : List D} (s1 : SqT K F1 p1 vs) (w1 : WdA K F1 vs ds) (s2 : SqT K F1 p2 us) (w2 : WdA K F1 us es) : ItOk K F1 (zipD ds es) (RZ.ItzT K p1 p2) := by
  refine ⟨fun H => SqT K H p1 vs ∧ SqT K H p2 us, (RZ.ItzT K p1 p2).yld, ⟨fun i H hi g => ?_, fun H g => ⟨vs, us, g.1, g.2, zip_stops w1 w2⟩, fun i H x H' _ _ y => y⟩, fun ι F2 S2 H2 st sm => ⟨sameT st.sub (sameT sm s1), sameT st.sub (sameT sm s2)⟩, fun ι F2 S2 H2 i x H3 st sm hi y => ?_⟩
  · obtain ⟨x, y, h1, h2⟩ := zip_goes w1 w2 hi
    exact ⟨vs, us, x, y, g.1, g.2, h1, h2⟩
  · obtain ⟨T, u, v, rfl, hT, rfl, hu, hv⟩ := y
    obtain ⟨d, h1, h2⟩ := w1.get (hu vs (sameT st.sub (sameT sm s1)))
    obtain ⟨e, h3, h4⟩ := w2.get (hv us (sameT st.sub (sameT sm s2)))
    obtain ⟨g, st', w⟩ := pair_new st hT (h2.mono sm) (h4.mono sm)
    exact ⟨_, _, g, st', by unfold zipD; rw [List.getElem?_zipWith, h1, h3], w⟩
def zip2 (x y : DV) (S : Store) : Res (List D) := match x, y with
  | .dat (.lst xs), .dat (.lst ys) => .ok (zipD xs ys) S
  | .dat (.tup xs), .dat (.tup ys) => .ok (zipD xs ys) S
  | _, _ => .bad
def lZip (f g : XFn) : LFn := fun ρ S => (f ρ S).bind fun x S1 => (g ρ S1).bind fun y S2 => zip2 x y S2
theorem di_zip {f g : XFn} {elts : List Expr} {kk : Nat} {tpos : Pos} (ha : DE X W a f) (hb : DE X W b g) (hm : X.mg "zip" = none) (hg : Gl X "zip" := by rfl) (hs : starEach [a, b] X.env = (false, eval a X.env) :: starEach [b] X.env := by rfl) (hpl : (backTo pos (starEach [b] X.env)).any (·.1) = false := by rfl) (hse : starEach (b :: []) X.env = (false, eval b X.env) :: starEach [] X.env := by rfl) :
    DI X W (.Tuple elts kk tpos) (.Call (.Name "zip" p) [a, b] [] pos) (lZip f g) := by
  refine ⟨_, RZ.pi_zipA hg hm (pa_cons ha.pe (pa_cons hb.pe pa_nil hse) hs) hs hpl, fun σ H R ⟨ι, F, ρ, S, r, h⟩ => ?_⟩
  refine tD.bind (g := fun ρ x S1 => (g ρ S1).bind fun y S2 => zip2 x y S2) r h fun v dv ι1 F1 S1 H1 r1 w1 g1 h1 => ?_
  refine tD.bind (g := fun ρ y S2 => zip2 dv y S2) r1 h1 fun u du ι2 F2 S2 H2 r2 w2 g2 h2 => ?_
  have w1' := w1.grow g2
  unfold zip2 at h2
  split at h2
  · rename_i xs ys
    have wa : Wd X.K F2 v (.lst xs) := w1'
    have wb : Wd X.K F2 u (.lst ys) := w2
    cases wa with
    | lst s1 v1 =>
      cases wb with
      | lst s2 v2 => exact ⟨_, _, _, _, rfl, .inl ⟨.of (r2.st.sub _ _ s1), .of (r2.st.sub _ _ s2), h2 ι2 F2 H2 .refl r2.st _ (itOk_zipL s1 v1 s2 v2)⟩⟩
  · rename_i xs ys
    have wa : Wd X.K F2 v (.tup xs) := w1'
    have wb : Wd X.K F2 u (.tup ys) := w2
    cases wa with
    | tup s1 v1 =>
      cases wb with
      | tup s2 v2 => exact ⟨_, _, _, _, rfl, .inr ⟨sameT r2.st.sub s1, sameT r2.st.sub s2, h2 ι2 F2 H2 .refl r2.st _ (itOk_zipT s1 v1 s2 v2)⟩⟩
  · exact h2.elim
end
end DL

set_option maxHeartbeats 4000000
namespace DL
open PySem PySem.Spec PyProof.Rows L2
/-! ## sorted(set(ints)) -/
def insS (n : Int) : List Int → List Int
  | [] => [n]
  | m :: r => if n < m then n :: m :: r else if n = m then m :: r else m :: insS n r
def sset : List Int → List Int
  | [] => []
  | n :: ns => insS n (sset ns)
theorem insS_mem (n k : Int) : ∀ l : List Int, k ∈ insS n l ↔ k = n ∨ k ∈ l
  | [] => by simp [insS]
  | m :: r => by
    unfold insS
    have h := insS_mem n k r
    split
    · simp
    · split
      · rename_i e; subst e; simp
      · simp [h]
        constructor
        · rintro (h | h | h) <;> simp [h]
        · rintro (h | h | h) <;> simp [h]
theorem insS_sorted (n : Int) : ∀ l : List Int, l.Pairwise (· < ·) → (insS n l).Pairwise (· < ·)
  | [], _ => by simp [insS]
  | m :: r, h => by
    unfold insS
    rw [List.pairwise_cons] at h
    split
    · rename_i hn
      refine List.pairwise_cons.mpr ⟨fun k hk => ?_, List.pairwise_cons.mpr h⟩
      rcases List.mem_cons.mp hk with z | z
      · subst z; exact hn
      · have := h.1 k z; omega
    · split
      · exact List.pairwise_cons.mpr h
      · rename_i h1 h2
        refine List.pairwise_cons.mpr ⟨fun k hk => ?_, insS_sorted n r h.2⟩
        rcases (insS_mem n k r).mp hk with z | z
        · subst z; omega
        · exact h.1 k z
theorem sset_sorted : ∀ l : List Int, (sset l).Pairwise (· < ·)
  | [] => .nil
  | n :: r => insS_sorted n _ (sset_sorted r)
theorem sset_mem (k : Int) : ∀ l : List Int, k ∈ sset l ↔ k ∈ l
  | [] => by simp [sset]
  | n :: r => by
    show k ∈ insS n (sset r) ↔ _
    rw [insS_mem, sset_mem k r, List.mem_cons]
theorem sorted_one : ∀ {a b : List Int}, a.Pairwise (· < ·) → b.Pairwise (· < ·) → (∀ k, k ∈ a ↔ k ∈ b) → a = b
  | [], [], _, _, _ => rfl
  | [], y :: b, _, _, h => absurd ((h y).mpr List.mem_cons_self) (by simp)
  | x :: a, [], _, _, h => absurd ((h x).mp List.mem_cons_self) (by simp)
  | x :: a, y :: b, ha, hb, h => by
    rw [List.pairwise_cons] at ha hb
    have e : x = y := by
      rcases List.mem_cons.mp ((h x).mp List.mem_cons_self) with z | z
      · exact z
      · rcases List.mem_cons.mp ((h y).mpr List.mem_cons_self) with q | q
        · exact q.symm
        · have := ha.1 y q; have := hb.1 x z; omega
    subst e
    have nx : x ∉ a := fun m => by have := ha.1 x m; omega
    have ny : x ∉ b := fun m => by have := hb.1 x m; omega
    have t : a = b := sorted_one ha.2 hb.2 fun k => by
      have q := h k
      simp only [List.mem_cons] at q
      constructor
      · intro m
        rcases q.mp (.inr m) with z | z
        · subst z; exact absurd m nx
        · exact z
      · intro m
        rcases q.mpr (.inr m) with z | z
        · subst z; exact absurd m ny
        · exact z
    rw [t]
section
variable {X : Cx} {W : WX} {e a b c : Expr} {es : List Expr} {pos p : Pos} {K : PySem.W.Frag} {ι : List Addr} {F H : Hp} {S : Store} {mg : Str → Option Value}
def rSetI (K : PySem.W.Frag) (w : World) : List V → Hp → VK → Prop := fun xs H Q => ∃ (a : Addr) (ns : List Int), xs = [V.ref a] ∧ (SqL K H a (ns.map V.int) ∨ SqT K H a (ns.map V.int)) ∧ ns.length < 64 ∧
  ∀ p c, H p = none → c ≤ ns.length → Q (.ref p) (upd H p (SetO w p (fun j => decide (j ∈ ns)) c))
theorem cr_setI (hc : X.calm = true) : CallR X (.type "set") (rSetI X.K X.w) := by
  intro pins s σ H xs us Q I r h
  obtain ⟨a, ns, rfl, hq, hl, q⟩ := h
  rw [Vals.ref1 r]
  have hb : ns.length + 1 < scanBound := by unfold scanBound; omega
  have fin : ∀ (h' : Heap) (tk c : Nat), SetR X.w h' s.heap.objs.size (fun j => decide (j ∈ ns)) c → c ≤ ns.length → (∀ b o, s.heap.get? b = some o → h'.get? b = some o) → EP X pins σ Q (.ref s.heap.objs.size) { s with heap := h', toks := tk } := by
    intro h' tk c R hc k
    exact ⟨.ref s.heap.objs.size, _, I.laid (t' := tk) k (Nat.le_refl _) (setO_new R), rfl, q _ c (I.hok.fresh (Nat.le_refl _)) hc⟩
  rcases hq with hq | hq
  · obtain ⟨its, rv, p, hz⟩ := I.list hq
    exact PySem.DLSet.set_of_list ns (I.ok.hd hc) p.isList (by simpa using RZ.intsAre_vals rv) hb fin
  · obtain ⟨its, rv, p, hz⟩ := I.tuple hq
    exact call_set_tupI ns (I.ok.hd hc) p (by simpa using RZ.intsAre_vals rv) hb fin
def sortS (x : DV) (S : Store) : Res (List D) := match rd S x with
  | some (.lst xs) => (match intsOf xs with
    | some ns => if ns.length < 64 then .ok ((sset ns).map .int) S else .bad
    | none => .bad)
  | some (.tup xs) => (match intsOf xs with
    | some ns => if ns.length < 64 then .ok ((sset ns).map .int) S else .bad
    | none => .bad)
  | _ => .bad
def lSortSet (f : XFn) : LFn := fun ρ S => (f ρ S).bind sortS
theorem ne_sortSet {f : XFn} {p2 p3 : Pos} (hc : X.calm = true) (h : DE X W a f) (hm : X.mg "sorted" = none) (hm2 : X.mg "set" = none) (hg : Gl X "sorted" := by rfl) (hg2 : Gl X "set" := by rfl)
    (he : starEach (a :: []) X.env = (false, eval a X.env) :: starEach [] X.env := by rfl)
    (he2 : starEach (.Call (.Name "set" p2) [a] [] p3 :: []) X.env = (false, eval (.Call (.Name "set" p2) [a] [] p3) X.env) :: starEach [] X.env := by rfl) :
    NE X W (.Call (.Name "sorted" p) [.Call (.Name "set" p2) [a] [] p3] [] pos) (lSortSet f) := by
  refine ⟨PE.weak (pe_callB (cr_sortedSet hc) hg hm (by decide +kernel) (pa_cons (pe_callTy (cr_setI hc) hg2 hm2 (by decide +kernel) (pa_cons h.pe pa_nil he) (by decide) (by decide) he rfl) pa_nil he2) (by decide) (by decide) he2 rfl) fun σ H Q ⟨ι, F, ρ, S, r, h⟩ => ?_⟩
  refine tD.bind (g := fun _ => sortS) r h fun v dv ι1 F1 S1 H1 r1 w1 g1 h1 => ?_
  unfold sortS at h1
  cases ed : rd S1 dv with
  | none => simp only [ed] at h1; exact h1.elim
  | some d =>
    have vw := r1.st.vw w1 ed
    have core : ∀ (ns : List Int) (p0 : Addr) (vs : List V) (xs : List D), (SqL X.K H1 p0 vs ∨ SqT X.K H1 p0 vs) → WdA X.K F1 vs xs → intsOf xs = some ns → ns.length < 64 →
        Post X.K X.mg (fun c d H' => W c d σ H') ι1 F1 H1 (.ok ((sset ns).map D.int) S1) (fun ds ι' F' H' => ∀ p vs, H p = none → H' p = some (.lst vs) → F' p = none → p ∉ ι' → WdA X.K F' vs ds → Q (V.ref p) H') →
        rSetI X.K X.w [.ref p0] H1 (fun x H2 => rSortedSet X.w [x] H2 Q) := by
      intro ns p0 vs xs hs w ei hl hp
      have ev := intsOf_ok w ei
      subst ev
      refine ⟨p0, ns, rfl, hs, hl, fun p c hp0 hc => ⟨p, _, c, rfl, upd_same, by omega, fun ns' p' h1 h2 h3 h4 => ?_⟩⟩
      have e : ns' = sset ns := sorted_one h1 (sset_sorted ns) fun k => by
        rw [h2 k, sset_mem]
        simp
      subst e
      have st2 := r1.st.alone hp0 (SetO X.w p (fun j => decide (j ∈ ns)) c)
      exact ne_new st2 (g1.trans (grow_alone hp0 _)) (Post.grow (r := Res.ok _ S1) hp (grow_alone hp0 _)) (wda_ints _) h4
    cases vw with
    | lst s w =>
      rename_i p0 vs xs
      simp only [ed] at h1
      cases ei : intsOf xs with
      | none => simp only [ei] at h1; exact h1.elim
      | some ns =>
        simp only [ei] at h1
        by_cases hl : ns.length < 64
        · simp only [hl, if_true] at h1
          exact (core ns _ _ _ (.inl (.of s)) w ei hl h1)
        · simp only [hl, if_false] at h1; exact h1.elim
    | tup s w =>
      rename_i p0 vs xs
      simp only [ed] at h1
      cases ei : intsOf xs with
      | none => simp only [ei] at h1; exact h1.elim
      | some ns =>
        simp only [ei] at h1
        by_cases hl : ns.length < 64
        · simp only [hl, if_true] at h1
          exact (core ns _ _ _ (.inr (sameT r1.st.sub s)) w ei hl h1)
        · simp only [hl, if_false] at h1; exact h1.elim
    | _ => simp only [ed] at h1; exact h1.elim
end
end DL

set_option maxHeartbeats 4000000
namespace DL
open PySem PySem.Spec PyProof.Rows L2
/-! ## the law: its call over the heap behind the top, with the script alone tracked -/
section
variable {P : Program} {w : World} {K : PySem.W.Frag} {mg mb : Str → Option Value} {k : Nat} {fa a : Addr} {fd : FuncData} {x : Str} {g : Fn} {s1 : Shared} {vs : List Value} {ns : List Int}
theorem law_run (KX : K.In s1.heap) (hns : s1.heap.Ns mainGlobals mg) (hb : s1.heap.Ns builtinsNs mb) (hbb : ∀ x : Str, x ≠ "__name__" → mb x = bootBuiltins x) (hlim : s1.heap.NoLimit) (hg : s1.gens = #[])
    (ha : s1.heap.get? a = some { cls := .type "list", data := .seq vs.toArray }) (hi : IntsAre vs ns) (hl : ns.length ≤ sizeLine) (hr : Room k callerA)
    (Fg : ∀ base : Heap, K.In base → base.Ns mainGlobals mg → FnG P w K mg base k fa fd [x] (spD K mg 1 g)) (bind : ∀ (s : Shared) (u : Value), BindsTo s fd ⟨[u], []⟩ [(x, u)])
    (ans : ∃ S, g [.scr ns] [] = .ok (.dat (.bl true)) S) (H : Hp) (only : L2.Only H) (hS : SqL K H a (ns.map V.int)) (hok : HOk P w H s1.heap) (hA : ∀ b, H b ≠ none → b = a) (hK : H a ≠ none → K.lookup a = none) :
    codeAny (model P w) callerA (.call (.ref fa) ⟨[.ref a], []⟩) (fun r s' => r = .ok (.ret (.bool true)) ∧ OldK s1.heap s'.heap ∧ s'.os = s1.os ∧ AllBare s'.gens) s1 := by
  have isA : ∀ {b : Addr} {u : HO}, H b = some u → b = a := fun {b u} q => hA b (by rw [q]; simp)
  have nsOf : ∀ {b : Addr} {m : Str → Option Value}, s1.heap.Ns b m → (hidT s1.heap H).Ns b m := by
    intro b m h
    obtain ⟨o, es, ep, e, d, r⟩ := h
    refine ⟨o, es, ep, hidT_get e ?_, d, r⟩
    cases q : H b with
    | none => rfl
    | some u =>
      have z := isA q
      subst z
      rw [ha] at e
      cases e
      exact nomatch (show Data.seq vs.toArray _ = Data.dict es ep from d)
  have KB : K.In (hidT s1.heap H) := by
    intro b o e
    refine hidT_get (KX b o e) ?_
    cases q : H b with
    | none => rfl
    | some u =>
      have z := isA q
      subst z
      have := hK (by rw [q]; simp)
      rw [this] at e
      cases e
  have md : Mod K mg (hidT s1.heap H) := by
    refine ⟨KB, nsOf hns, ⟨mb, nsOf hb, hbb⟩, ?_⟩
    obtain ⟨mc, h1, h2⟩ := hlim
    exact ⟨mc, nsOf h1, h2⟩
  have e0 : Env0 P w K mg (hidT s1.heap H) callerA [] s1 H :=
    { frames := rfl
      mod := md
      bs := fun b o e => of_hidT e
      bsz := Nat.le_of_eq (hidT_size _ _)
      funs := trivial
      frf := fun b hb => nomatch hb
      hok := hok
      bare := .of_eq hg }
  obtain ⟨S, ea⟩ := ans
  have st : StR K [] H [] H := ⟨Same.refl _, rfl, List.nodup_nil, fun b hb => (nomatch hb), fun k ds e => by simp at e⟩
  have sp : spD K mg 1 g [.ref a] H (fun v _ => v = .bl true) (fun _ _ _ => False) := by
    refine ⟨rfl, [], H, [], [.scr ns], st, .cons ⟨a, rfl, hS⟩ .nil, ?_⟩
    rw [ea]
    intro ι' F' H' gr st' v wv
    have wv' : Wd K F' v (.bl true) := wv
    cases wv'
    rfl
  refine codeAny_mono ((Fg _ KB (nsOf hns)).run callerA [] s1 H ⟨[.ref a], []⟩ [.ref a] [.ref a] _ _ hr rfl e0 (bind s1 (.ref a)) (.cons rfl .nil) sp) ?_
  intro r s' h
  cases r with
  | error e =>
    obtain ⟨_, _, _, _, _, _, _, _, _, _, _, _, z⟩ := h
    exact z.elim
  | ok fl =>
    cases fl with
    | next => exact h.elim
    | brk => exact h.elim
    | cont => exact h.elim
    | ret u =>
      obtain ⟨v, H', os, bare, un, hok', rv, q⟩ := h
      have q' : v = .bl true := q
      subst q'
      obtain rfl : u = Value.bool true := rv
      refine ⟨rfl, OldK.of_keep ?_, os, bare⟩
      intro b o e
      cases q : H b with
      | none => exact un.keep b o e q (fun z => nomatch (show b ∈ ([] : List Addr) from z)) (by simp)
      | some u =>
        rcases only b with z | ⟨ob, xs, z⟩
        · rw [q] at z; cases z
        · obtain ⟨e1, _⟩ := hok b _ z
          obtain ⟨e2, _⟩ := hok' b _ (un.frzs b ob _ z)
          rw [e] at e1
          cases e1
          exact e2
theorem walkD {l : PySem.W.OpenLaw} {n : Nat} {q : Program} {loose : List Str} {XP : (Str → Option Value) → Heap → Prop} {YP : World → Heap → Prop} {d : DefRec}
    (hn : l.most = some n) (hn2 : n ≤ sizeLine) (hdf : d.params.defaults = []) (hr : Room k callerA)
    (F : ∀ (w : World) (mg : Str → Option Value) (fa : Addr) (h : Heap), YP w h → h.Ns mainGlobals mg → mg d.name = some (.ref fa) →
      ∃ (K : PySem.W.Frag) (fd : FuncData), K.In h ∧ (∀ (s : Shared) (u : Value), BindsTo s fd ⟨[u], []⟩ [(x, u)]) ∧ (∀ base : Heap, K.In base → base.Ns mainGlobals mg → FnG l.prog w K mg base k fa fd [x] (spD K mg 1 g)))
    (ans : ∀ ns : List Int, ns.length ≤ n → ∃ S, g [.scr ns] [] = .ok (.dat (.bl true)) S) :
    PySem.W.WalkO q loose XP YP l.row.toRowW d [] (fun f vs => PySem.call f vs) := by
  apply Att.attach_call hn hdf
  intro w s0 s1 mg mb fa o pm cd doc a vs ns G Y ho hd hcd hmg hobj hints hlen hg
  obtain ⟨K, fd, KX, hb, hF⟩ := F w mg fa _ Y G.T.g hmg
  have hl : ns.length ≤ sizeLine := Nat.le_trans hlen hn2
  have core := law_run KX G.T.g G.T.b G.T.builtins G.T.nolimit hg hobj hints hl hr hF hb (ans ns hlen)
  have rv := vals_ints hints
  have lenV := hints.length
  cases hk : K.lookup a with
  | some ob =>
    have e := KX a ob hk
    rw [hobj] at e
    cases e
    apply core (fun _ => none) (fun _ => .inl rfl)
    · exact .inr ⟨_, vs.toArray, _, hk, rfl, rfl, rfl, by rw [List.size_toArray, lenV]; exact hl, by simpa using rv⟩
    · intro b u z
      exact nomatch (show (none : Option HO) = some u from z)
    · intro b z
      exact absurd rfl z
    · intro z
      exact absurd rfl z
  | none =>
    apply core (fun b => if b = a then some (.frz { cls := .type "list", data := .seq vs.toArray } (.lst (ns.map V.int))) else none)
    · intro b
      by_cases hb : b = a
      · exact .inr ⟨_, _, if_pos hb⟩
      · exact .inl (if_neg hb)
    · exact .inl (.inr ⟨_, if_pos rfl⟩)
    · intro b u z
      by_cases hb : b = a
      · have z2 := (if_pos hb).symm.trans z
        cases z2
        subst hb
        exact ⟨hobj, by rw [List.length_map]; exact hl, vs, _, rv, hobj⟩
      · exact nomatch (if_neg hb).symm.trans z
    · intro b z
      by_cases hb : b = a
      · exact hb
      · exact absurd (if_neg hb) z
    · intro _
      exact hk
end
end DL

set_option maxHeartbeats 4000000
namespace PySem
namespace DLTup
open L2 PyProof.Rows
theorem mul_self (l : Addr) (items : Array Value) (n : Nat) (dd : Option Addr) (sl : Array (Option Value)) (x : Int) (u : Tok) (c0 : (decide (x < -(2 ^ 63)) || decide (x ≥ 2 ^ 63)) = false) (c1 : (items.isEmpty || x == 1) = true) :
    Meets (Builtin.«tuple.__mul__» ⟨[.ref l, .int x u], []⟩) (fun _ R s => s.heap.get? l = some { cls := .type "tuple", dict := dd, data := .seq items n, slots := sl } ∧ R (.ok (.ret (.ref l))) s) :=
  .of_wp fun prog w A R s h => by
    obtain ⟨hp, g, d, tk, os⟩ := s
    obtain ⟨hl, h⟩ := h
    have f1 := AutoSeq1.idx_int
    wp_walk using wpAny_loadPart' hl
    repeat (first
      | (refine wpAny_ite_false (decide_eq_false (by rw [c0]; exact Bool.false_ne_true)) ?_; wp_walk using wpAny_loadPart' hl)
      | (refine wpAny_ite_true (decide_eq_true c1) ?_; wp_walk using wpAny_loadPart' hl))
    all_goals exact ⟨_, rfl, h⟩
end DLTup
end PySem
namespace DL
open PySem PySem.Spec PyProof.Rows L2
section
variable {X : Cx} {W : WX} {e a b c : Expr} {es : List Expr} {pos p : Pos} {K : PySem.W.Frag} {ι : List Addr} {F H : Hp} {S : Store} {mg : Str → Option Value}
/-! ## tuple * 1, () * n: the same tuple -/
def rRepE (K : PySem.W.Frag) : R2 := fun x y H Q => ∃ l k xs, x = V.ref l ∧ y = V.int k ∧ SqT K H l xs ∧ (xs = [] ∨ k = 1) ∧ -1000 ≤ k ∧ k ≤ 1000 ∧ Q (.ref l) H
theorem op_repE : OpR X (binaryOp .Mult) (rRepE X.K) := by
  intro pins s σ H x y v u Q I rx ry ⟨l, k, xs, ex, ey, hT, hk, h1, h2, q⟩
  subst ex
  subst ey
  cases rx
  obtain ⟨t, rfl⟩ := ry
  obtain ⟨its, r, ⟨⟨cls, dd, data, sl⟩, ho, hc, n, hd⟩, hs⟩ := I.tuple hT
  simp only at hc hd
  subst hc hd
  have c0 : (decide (k < -(2 ^ 63)) || decide (k ≥ 2 ^ 63)) = false := by
    rw [decide_eq_false (by omega), decide_eq_false (by omega)]
    rfl
  have c1 : (its.toArray.isEmpty || k == 1) = true := by
    rcases hk with e | e
    · subst e
      cases r
      rfl
    · subst e
      simp
  exact wpAny_binaryOp_repeat_ref (T := "tuple") (U := "int") (by decide) ⟨_, ho, rfl⟩ (fun s' => typeIs_int s' k t) noFill_tuple_mul F.fills_int_mul F.slot_int_rmul repeat_tuple F.slot_int_index.lookup
    (call_meets F.slot_int_rmul (typeIs_int s k t) F.entry_int_rmul (F.args_int_rmul_2 _ _) (int_rmul_tuple k t l its.toArray n dd sl)
      ⟨ho, rfl, ⟨_, ho, rfl⟩, call_meets F.slot_tuple_mul ⟨_, ho, rfl⟩ F.entry_tuple_mul (F.args_tuple_mul_2 _ _) (PySem.DLTup.mul_self l its.toArray n dd sl k t c0 c1) ⟨ho, ⟨.ref l, H, I, rfl, q⟩⟩⟩)
def dMulA : D → D → Option D
  | .tup a, .int k => if (a = [] ∨ k = 1) ∧ -1000 ≤ k ∧ k ≤ 1000 then some (.tup a) else dMul (.tup a) (.int k)
  | x, y => dMul x y
abbrev rMulA (K : PySem.W.Frag) : R2 := fun x y H Q => rMulD K x y H Q ∨ rRepE K x y H Q
theorem op_mulA : OpR X (binaryOp .Mult) (rMulA X.K) := op_mulD.or op_repE
theorem dMulA_ok : OpOk K (rMulA K) (o2 dMulA) := o2_ok fun ι F H S v u a b c Q st va vb e q => by
  unfold dMulA at e
  split at e
  · split at e
    · rename_i hk
      cases e
      cases va with
      | tup s w =>
        cases vb
        refine .inr ⟨_, _, _, rfl, rfl, sameT st.sub s, ?_, hk.2.1, hk.2.2, q.same st (.tup s w)⟩
        rcases hk.1 with z | z
        · subst z
          cases w
          exact .inl rfl
        · exact .inr z
    · exact .inl (dMul_core st va vb e q)
  · exact .inl (dMul_core st va vb e q)
/-! ## -n -/
def neg1 (x : DV) (S : Store) : Res DV := match x with
  | .dat (.int i) => .ok (.dat (.int (-i))) S
  | _ => .bad
def xNeg (f : XFn) : XFn := fun ρ S => (f ρ S).bind neg1
theorem de_neg {f : XFn} (h : DE X W a f) : DE X W (.UnaryOp .USub a pos) (xNeg f) := by
  refine ⟨PE.weak (pe_un un_neg h.pe) fun σ H Q ⟨ι, F, ρ, S, r, h⟩ => ?_⟩
  refine tD.bind (g := fun _ => neg1) r h fun v dv ι1 F1 S1 H1 r1 w1 g1 h1 => ?_
  unfold neg1 at h1
  split at h1
  · rename_i i
    have w' : Wd X.K F1 v (.int i) := w1
    cases w'
    exact ⟨i, rfl, h1 ι1 F1 H1 .refl r1.st _ (.int _)⟩
  · exact h1.elim
/-! ## a list or a tuple walked -/
def iSeq (K : PySem.W.Frag) (tl : TE) : TI := fun σ H R => tl σ H fun x H1 => ∃ a, x = .ref a ∧ (((∃ xs, SqL K H1 a xs) ∧ R (Itl K a) H1) ∨ ((∃ xs, SqT K H1 a xs) ∧ R (Itt K a) H1))
theorem pi_seq {tg l : Expr} {tl : TE} (hl : PE X l tl) : PI X tg l (iSeq X.K tl) := by
  constructor
  intro pins s σ H R I h
  apply thn (hl.run pins s σ H _ I h)
  rintro v s1 ⟨x, H1, I1, r1, a, ex, q⟩
  subst ex
  cases r1
  have fresh : ∀ b ∈ [s1.heap.objs.size], FpOk X pins H1 b := by
    intro b hb
    rw [List.mem_singleton.mp hb]
    exact I1.fpOk (Nat.le_refl _) (I1.hok.fresh (Nat.le_refl _))
  rcases q with ⟨⟨xs, hq⟩, q⟩ | ⟨⟨xs, hq⟩, q⟩
  · obtain ⟨its, rv, p, hz⟩ := I1.list hq
    apply wpAny_pyIter_list p.isList
    exact ⟨s1.heap.objs.size, [s1.heap.objs.size], _, _, H1, rfl, I1.kept (t' := s1.toks) (fun b o e => Heap.get?_push_of_some _ e), turn_list a _, ⟨_, Heap.get?_push_size _ rfl, rfl, rfl⟩, fresh, q⟩
  · obtain ⟨its, rv, p, hz⟩ := I1.tuple hq
    apply wpAny_pyIter_tuple (show s1.heap.IsTuple a its.toArray from p)
    exact ⟨s1.heap.objs.size, [s1.heap.objs.size], _, _, H1, rfl, I1.kept (t' := s1.toks) (fun b o e => Heap.get?_push_of_some _ e), turn_tuple a _, ⟨_, Heap.get?_push_size _ rfl, rfl, rfl⟩, fresh, q⟩
def items1 (x : DV) (S : Store) : Res (List D) := match x with
  | .dat (.lst xs) => .ok xs S
  | .dat (.tup xs) => .ok xs S
  | _ => .bad
def lIt (f : XFn) : LFn := fun ρ S => (f ρ S).bind items1
theorem di_seq {tg : Expr} {f : XFn} (h : DE X W e f) : DI X W tg e (lIt f) := by
  refine ⟨_, pi_seq h.pe, fun σ H R ⟨ι, F, ρ, S, r, h⟩ => ?_⟩
  refine tD.bind (g := fun _ => items1) r h fun v dv ι1 F1 S1 H1 r1 w1 g1 h1 => ?_
  unfold items1 at h1
  split at h1
  · rename_i xs
    have w' : Wd X.K F1 v (.lst xs) := w1
    cases w' with
    | lst s w => exact ⟨_, rfl, .inl ⟨⟨_, .of (r1.st.sub _ _ s)⟩, h1 ι1 F1 H1 .refl r1.st _ (itOk_list s w)⟩⟩
  · rename_i xs
    have w' : Wd X.K F1 v (.tup xs) := w1
    cases w' with
    | tup s w => exact ⟨_, rfl, .inr ⟨⟨_, sameT r1.st.sub s⟩, h1 ι1 F1 H1 .refl r1.st _ (itOk_tup s w)⟩⟩
  · exact h1.elim
/-! ## more new lists -/
def cat2 (x y : DV) (S : Store) : Res (List D) := match rd S x, rd S y with
  | some (.lst xs), some (.lst ys) => if xs.length + ys.length ≤ sizeLine then .ok (xs ++ ys) S else .bad
  | _, _ => .bad
def lCat (f g : XFn) : LFn := fun ρ S => (f ρ S).bind fun x S1 => (g ρ S1).bind fun y S2 => cat2 x y S2
theorem ne_cat {f g : XFn} (ha : DE X W a f) (hb : DE X W b g) : NE X W (.BinOp a .Add b pos) (lCat f g) := by
  refine ⟨PE.weak (pe_op op_cat ha.pe hb.pe) fun σ H Q ⟨ι, F, ρ, S, r0, h⟩ => ?_⟩
  refine tD.bind (g := fun ρ x S1 => (g ρ S1).bind fun y S2 => cat2 x y S2) r0 h fun v dv ι1 F1 S1 H1 r1 w1 g1 h1 => ?_
  refine tD.bind (g := fun ρ y S2 => cat2 dv y S2) r1 h1 fun u du ι2 F2 S2 H2 r2 w2 g2 h2 => ?_
  unfold cat2 at h2
  split at h2
  · rename_i xs ys e1 e2
    have v1 := r2.st.vw (w1.grow g2) e1
    have v2 := r2.st.vw w2 e2
    cases v1 with
    | lst s1 u1 =>
      cases v2 with
      | lst s2 u2 =>
        split at h2
        · rename_i hl
          exact ⟨_, _, _, _, rfl, rfl, s1, s2, by rw [u1.length, u2.length]; exact hl, fun p hp => ne_new r2.st (g1.trans g2) h2 (u1.append u2) hp⟩
        · exact h2.elim
  · exact h2.elim
/-- return a new list, that the caller may change in place -/
def sRetN (f : LFn) : SFn := fun ρ S => (f ρ S).bindS ρ fun ds S1 => .rt (.obj S1.length) (S1 ++ [some ds])
theorem ds_retN {f : LFn} (h : NE X W e f) : DS X W (.Return (some e) pos) (sRetN f) := by
  refine ⟨_, ps_ret h.pe, fun D σ H ⟨ι, F, ρ, S, r, h⟩ => ⟨ι, F, ρ, S, r, ?_⟩⟩
  unfold sRetN at h
  cases q : f ρ S with
  | bad => rw [q] at h; exact h
  | ex c S1 => rw [q] at h; exact fun C ι' F' H' g st m => h C σ ι' F' H' g (r.slots g st) m
  | ok ds S1 =>
    rw [q] at h
    intro ι' F' H' g st p vs hp hH hF hι w
    exact h (.ref p) (ι' ++ [p]) F' H' (grow_add g hp) (st.add hH hF hι w) ⟨p, by rw [← st.len]; simp, rfl⟩
/-- what a call hands back new is data from here on -/
def xPop (f : XFn) : XFn := fun ρ S => (f ρ S).bind fun x S1 => match x with
  | .obj k => if k + 1 = S1.length ∧ k = S.length then (match S1[k]? with
    | some (some ds) => .ok (.dat (.lst ds)) (S1.take k)
    | _ => .bad) else .bad
  | _ => .bad
theorem de_pop {f : XFn} (h : DE X W e f) : DE X W e (xPop f) := by
  refine ⟨PE.weak h.pe fun σ H Q ⟨ι, F, ρ, S, r, h⟩ => ⟨ι, F, ρ, S, r, ?_⟩⟩
  unfold xPop at h
  cases q : f ρ S with
  | bad => rw [q] at h; exact h
  | ex c S1 => rw [q] at h; exact h
  | ok x S1 =>
    rw [q] at h
    intro ι' F' H' g st v wv
    simp only [Res.bind_ok] at h
    cases x with
    | dat d => exact h.elim
    | scr ns => exact h.elim
    | exn c p => exact h.elim
    | obj k =>
      simp only at h
      split at h
      · rename_i hl
        split at h
        · rename_i ds ed
          obtain ⟨a, h1, rfl⟩ := wv
          obtain ⟨a', vs, h3, h4, h5, h6⟩ := st.cell k ds ed
          rw [h1] at h3
          cases h3
          have ek : k = S.length := hl.2
          have hln : ι.length = k := by rw [r.st.len, ek]
          have st2 := st.cut g.pre hln
          have g2 := g.cut
          have na : a ∉ ι := fun m => by
            obtain ⟨i, hi, e⟩ := List.mem_iff_getElem.mp m
            obtain ⟨t, rfl⟩ := g.pre
            have e1 : (ι ++ t)[i]? = some a := by rw [List.getElem?_append_left hi, List.getElem?_eq_getElem hi, e]
            obtain ⟨i1, g1⟩ := List.getElem?_eq_some_iff.mp e1
            obtain ⟨i2, g2⟩ := List.getElem?_eq_some_iff.mp h1
            have : i = k := (List.getElem_inj st.nd).mp (by rw [g1, g2])
            omega
          have ha : H a = none := (g.nio a (List.mem_of_getElem? h1)).resolve_left na
          obtain ⟨st3, s3⟩ := st2.frz h4 h5 na
          exact h ι _ H' (grow_freeze g2 ha h5) st3 (.ref a) (.lst upd_same (h6.mono s3))
        · exact h.elim
      · exact h.elim
/-! ## a, b = e1, e2 -/
def sPar (i j : Nat) (f g : XFn) : SFn := fun ρ S => (f ρ S).bindS ρ fun x S1 => (g ρ S1).bindS ρ fun y S2 => .nx ((ρ.set i (some x)).set j (some y)) S2
theorem ds_par {i j : Nat} {x y : Str} {px py pt pt2 : Pos} {kt k2 : Nat} {f g : XFn} (hc : X.calm = true) (ha : DE X W a f) (hb : DE X W b g) (hN : X.N.Nodup) (hi : X.N[i]? = some x := by rfl) (hj : X.N[j]? = some y := by rfl) (hij : i ≠ j := by decide)
    (hx : X.env.scope.names.lookup x = some .local := by rfl) (hy : X.env.scope.names.lookup y = some .local := by rfl)
    (hw : swappedStores [.Tuple [.Name x px, .Name y py] kt pt] (.Tuple [a, b] k2 pt2) X.env = pure (some [x, y]) := by rfl)
    (hs : swapsWithSole [.Tuple [.Name x px, .Name y py] kt pt] (.Tuple [a, b] k2 pt2) pos.line X.env = pure false := by rfl)
    (he : starEach (a :: [b]) X.env = (false, eval a X.env) :: starEach [b] X.env := by rfl) (he2 : starEach (b :: []) X.env = (false, eval b X.env) :: starEach [] X.env := by rfl)
    (hq : starEach [a, b] X.env = [(false, eval a X.env), (false, eval b X.env)] := by rfl) :
    DS X W (.Assign [.Tuple [.Name x px, .Name y py] kt pt] (.Tuple [a, b] k2 pt2) pos) (sPar i j f g) := by
  refine ⟨_, ps_par hc hN hi hj hij hx hy (pa_cons ha.pe (pa_cons hb.pe pa_nil he2) he) hw hs, fun D σ H ⟨ι, F, ρ, S, r, h⟩ => ?_⟩
  refine tD.bindS (g := fun ρ x S1 => (g ρ S1).bindS ρ fun y S2 => .nx ((ρ.set i (some x)).set j (some y)) S2) r h fun v dv ι1 F1 S1 H1 r1 w1 g1 h1 => ?_
  refine tD.bindS (g := fun ρ y S2 => .nx ((ρ.set i (some dv)).set j (some y)) S2) r1 h1 fun u du ι2 F2 S2 H2 r2 w2 g2 h2 => ?_
  exact ⟨v, u, rfl, h2 _ ι2 F2 H2 .refl ((r2.set (w1.grow g2) i).set w2 j)⟩
/-! ## how many arguments; a def bound -/
def AL (f : AFn) (n : Nat) : Prop := ∀ ρ S ds S', f ρ S = .ok ds S' → ds.length = n
theorem al_nil : AL aNil 0 := fun ρ S ds S' e => by cases e; rfl
theorem al_cons {f : XFn} {g : AFn} {n : Nat} (h : AL g n) : AL (aCons f g) (n + 1) := fun ρ S ds S' e => by
  unfold aCons at e
  cases q : f ρ S with
  | ok d S1 =>
    rw [q] at e
    simp only [Res.bind_ok] at e
    cases q2 : g ρ S1 with
    | ok es S2 =>
      rw [q2] at e
      cases e
      simp [h _ _ _ _ q2]
    | ex c S2 => rw [q2] at e; cases e
    | bad => rw [q2] at e; cases e
  | ex c S1 => rw [q] at e; cases e
  | bad => rw [q] at e; cases e
theorem Room.u64 {k : Nat} {A : Around} (r : Room k A) : A.units + 64 < cLine := by have := r.un; omega
theorem Room.u65 {k : Nat} {A : Around} (r : Room k A) : A.units + 65 < cLine := by have := r.un; omega
theorem def_D {P : Program} {w : World} {base : Heap} {k n m : Nat} {x : Str} {params : Arguments} {body : List Stmt} {scope : Scope} {N ps : List Str} {g : SFn} (h : ∃ f fd, FunD K x x params body scope [] [] f fd ∧ mg x = some (.ref f)) (Sc : FnScope N ps scope)
    (hb : ∀ (kV doc pm : Value) (an : Option Addr) (cdv ct : Value) (us : List Value), us.length = ps.length → bindArgs (PySem.W.fnOf x x params body scope .none kV doc pm an cdv ct) ⟨us, []⟩ = pure (ps.zip us))
    (hbody : ∀ (f : Addr) (cdv : Value) (A : Around) (outer : List Env) (s : Shared) (H : Hp) (E : XK), Room k (A.deeper (envOfC x scope s.heap.objs.size f cdv)) → A.guards = some [] →
      DSs (cxOf (L2.CX P w) P w K mg base N x scope f cdv A outer s H E) (fun cls d _ H => E cls d H) body g) (hn : ps.length = n := by rfl) (hm : N.length = m := by rfl) : Def P w K mg base (k + 1) x n (fnBody m g) := by
  obtain ⟨f, fd, Fd, hmg⟩ := h
  exact ⟨f, fd, ps, fn_D Fd Sc hn hm (hbody f), hmg, Fd.kp, Fd.bindsN hb⟩
end
end DL

set_option maxHeartbeats 4000000
namespace DL
open PySem PySem.Spec PyProof.Rows L2
section
variable {X : Cx} {W : WX} {e a b c : Expr} {es : List Expr} {pos p : Pos} {K : PySem.W.Frag} {ι : List Addr} {F H : Hp} {S : Store} {mg : Str → Option Value}
/-! ## comparisons as tests -/
def bool1 (x : DV) (S : Store) : Res Bool := match x with
  | .dat (.bl b) => .ok b S
  | _ => .bad
def tBl (f : XFn) : TFn := fun ρ S => (f ρ S).bind bool1
theorem tT_bl {f : XFn} {σ : L2.St} {H : Hp} {Q : Bool → Hp → Prop} (h : tT X W (tBl f) σ H Q) : tD X W f σ H fun x H' => ∃ k, x = .bl k ∧ Q k H' := by
  obtain ⟨ι, F, ρ, S, r, h⟩ := h
  refine tD.bind (g := fun _ => bool1) r h fun v dv ι1 F1 S1 H1 r1 w1 g1 h1 => ?_
  unfold bool1 at h1
  split at h1
  · rename_i k
    have w' : Wd X.K F1 v (.bl k) := w1
    cases w'
    exact ⟨k, rfl, h1 ι1 F1 H1 .refl r1.st⟩
  · exact h1.elim
theorem dt_cmp {op : CmpOp} {r : R2} {o : Op2} {f g : XFn} (ho : OpR X (compareOp op) r) (k : OpOk X.K r o) (ha : DE X W a f) (hb : DE X W b g) (hm : behindInMarks op b = false := by rfl) : DT X W (.Compare a [op] [b] pos) (tBl (x2 o f g)) := by
  refine ⟨PT.weak (pt_cmpR ho ha.pe hb.pe hm) fun σ H Q h => ?_⟩
  obtain ⟨ι, F, ρ, S, r0, h⟩ := tT_bl h
  refine tD.bind (g := fun ρ x S1 => (g ρ S1).bind fun y S2 => o x y S2) r0 h fun v dv ι1 F1 S1 H1 r1 w1 g1 h1 => ?_
  refine tD.bind (g := fun ρ y S2 => o dv y S2) r1 h1 fun u du ι2 F2 S2 H2 r2 w2 g2 h2 => ?_
  exact k _ _ ι2 F2 H2 S2 v u dv du _ r2.st (w1.grow g2) w2 h2
theorem dt_chain {op op' : CmpOp} {r r' : R2} {o o' : Op2} {f g k : XFn} (ho : OpR X (compareOp op) r) (ho' : OpR X (compareOp op') r') (k1 : OpOk X.K r o) (k2 : OpOk X.K r' o') (ha : DE X W a f) (hb : DE X W b g) (hc : DE X W c k)
    (hm : lastMarks [op, op'] [b, c] = false := by rfl) : DT X W (.Compare a [op, op'] [b, c] pos) (tBl (xChain o o' f g k)) := by
  refine ⟨PT.weak (pt_chain ho ho' ha.pe hb.pe hc.pe hm) fun σ H Q h => ?_⟩
  obtain ⟨ι, F, ρ, S, r0, h⟩ := tT_bl h
  refine tD.bind (g := fun ρ x S1 => (g ρ S1).bind fun y S2 => (o x y S2).bind fun z S3 => match z with
    | .dat (.bl true) => (k ρ S3).bind fun w S4 => o' y w S4
    | .dat (.bl false) => .ok (.dat (.bl false)) S3
    | _ => .bad) r0 h fun v dv ι1 F1 S1 H1 r1 w1 g1 h1 => ?_
  refine tD.bind (g := fun ρ y S2 => (o dv y S2).bind fun z S3 => match z with
    | .dat (.bl true) => (k ρ S3).bind fun w S4 => o' y w S4
    | .dat (.bl false) => .ok (.dat (.bl false)) S3
    | _ => .bad) r1 h1 fun u du ι2 F2 S2 H2 r2 w2 g2 h2 => ?_
  refine k1 X.mg (fun c d H' => W c d σ H') ι2 F2 H2 S2 v u dv du _ r2.st (w1.grow g2) w2 ?_
  cases q : o dv du S2 with
  | ex c S3 => rw [q] at h2; exact h2
  | bad => rw [q] at h2; exact h2
  | ok z S3 =>
    rw [q] at h2
    intro ι3 F3 H3 g3 st3 zv wz
    have h3 := Post.grow (r := (match z with
      | .dat (.bl true) => (k ρ S3).bind fun w S4 => o' du w S4
      | .dat (.bl false) => .ok (.dat (.bl false)) S3
      | _ => .bad)) h2 g3
    have r3 := r2.slots g3 st3
    split at h3
    · have w' : Wd X.K F3 zv (.bl true) := wz
      cases w'
      refine ⟨true, rfl, ?_⟩
      rw [if_pos rfl]
      refine tD.bind (g := fun ρ w S4 => o' du w S4) r3 h3 fun t dt ι4 F4 S4 H4 r4 w4 g4 h4 => ?_
      exact k2 _ _ ι4 F4 H4 S4 u t du dt _ r4.st ((w2.grow g3).grow g4) w4 h4
    · have w' : Wd X.K F3 zv (.bl false) := wz
      cases w'
      exact ⟨false, rfl, by rw [if_neg (by simp)]; exact h3 ι3 F3 H3 .refl st3 _ (.bl _)⟩
    · exact h3.elim
theorem excD_of {h : Heap} {x : Str} (X : K.In h) (G : h.Ns mainGlobals mg) (c1 : (He.Fa.glo x).ok K = true) (c2 : (He.Fa.exc x).ok K = true) : ExcD K mg x := ⟨_, He.glo_ok X G c1, (He.exc_ok c2).1, (He.exc_ok c2).2.1, (He.exc_ok c2).2.2.1, (He.exc_ok c2).2.2.2⟩
/-! ## == of two texts, of any signs -/
def dEqS : D → D → Option D
  | .str x, .str y => some (.bl (decide (x = y)))
  | a, b => dEq a b
def dNeS : D → D → Option D
  | .str x, .str y => some (.bl (!decide (x = y)))
  | a, b => dNe a b
theorem op_eqS (hu : X.A.units + 64 < cLine) : OpR X (compareOp .Eq) (fun x y H Q => rEqDD X.K x y H Q ∨ rEq x y H Q) := (op_eqDD hu).or op_eq
theorem op_neS (hu : X.A.units + 64 < cLine) : OpR X (compareOp .NotEq) (fun x y H Q => rNeDD X.K x y H Q ∨ rNe x y H Q) := (op_neDD hu).or op_ne
theorem dEqS_ok : OpOk K (fun x y H Q => rEqDD K x y H Q ∨ rEq x y H Q) (o2 dEqS) := o2_ok fun ι F H S v u a b c Q st va vb e q => by
  unfold dEqS at e
  split at e
  · cases e
    cases va
    cases vb
    rename_i x y
    have e1 : (decide (V.str x = V.str y)) = decide (x = y) := by simp
    exact .inr ⟨rfl, by rw [e1]; exact q.same st (.bl _)⟩
  · unfold dEq at e
    split at e
    · rename_i h
      cases e
      obtain ⟨h1, h2, h3⟩ := canEq_of h
      exact .inl ⟨_, _, (va.wd st.sub).dp, (vb.wd st.sub).dp, h1, h2, h3, q.same st (.bl _)⟩
    · cases e
theorem dNeS_ok : OpOk K (fun x y H Q => rNeDD K x y H Q ∨ rNe x y H Q) (o2 dNeS) := o2_ok fun ι F H S v u a b c Q st va vb e q => by
  unfold dNeS at e
  split at e
  · cases e
    cases va
    cases vb
    rename_i x y
    have e1 : (decide (V.str x = V.str y)) = decide (x = y) := by simp
    exact .inr ⟨rfl, by rw [e1]; exact q.same st (.bl _)⟩
  · unfold dNe at e
    split at e
    · rename_i h
      cases e
      obtain ⟨h1, h2, h3⟩ := canEq_of h
      exact .inl ⟨_, _, (va.wd st.sub).dp, (vb.wd st.sub).dp, h1, h2, h3, q.same st (.bl _)⟩
    · cases e
theorem ru64 {k : Nat} {A : Around} (r : Room k A) : A.units + 64 < cLine := by have := r.un; omega
theorem ru65 {k : Nat} {A : Around} (r : Room k A) : A.units + 65 < cLine := by have := r.un; omega
end
end DL

set_option maxHeartbeats 4000000
namespace DL
open PySem PySem.Spec PyProof.Rows L2
section
variable {X : Cx} {W : WX} {pos : Pos}
theorem DSs.canon {st : List Stmt} {f : SFn} (h : DSs X W st f) : PSs X st (tS X W f) := by
  obtain ⟨t, p, k⟩ := h.ps
  exact ⟨fun pins s σ H D I q => p.run pins s σ H D I (k D σ H q)⟩
/-! ## try .. except X: .., several clauses without names -/
/-- a suite that raises is not served -/
def calmS : RS → RS
  | .ex _ _ _ => .bad
  | r => r
theorem calmS_of {ι : List Addr} {F H : Hp} {K : PySem.W.Frag} {mg : Str → Option Value} {W V : WX} {r : RS} {D : Ends} (h : PostS K mg W ι F H (calmS r) D) : PostS K mg V ι F H r D := by
  cases r <;> first | exact h | exact h.elim
abbrev Hds := List ((Str → Option Bool) × SFn)
def tryGo : Hds → Str → Slots → Store → RS
  | [], c, ρ, S => .ex c ρ S
  | (m, h) :: r, c, ρ, S => match m c with
    | some true => calmS (h ρ S)
    | some false => tryGo r c ρ S
    | none => .bad
def sTry (f : SFn) (hs : Hds) : SFn := fun ρ S => match f ρ S with
  | .ex c ρ' S' => tryGo hs c ρ' S'
  | r => r
/-- which classes a clause 'except x' catches -/
structure CatD (K : PySem.W.Frag) (mg : Str → Option Value) (x : Str) (m : Str → Option Bool) : Prop where
  ex : ∃ D, mg x = some (.ref D) ∧ ∀ c b C, m c = some b → mg c = some (.ref C) → PySem.W.exmOne K (.ref C) (.ref D) = some b
inductive HdsD (X : Cx) : List ExceptHandler → Hds → Prop
  | nil : HdsD X [] []
  | cons {x : Str} {m : Str → Option Bool} {f : SFn} {b0 : Stmt} {suite : List Stmt} {np hp : Pos} {hds : List ExceptHandler} {l : Hds} (hm : CatD X.K X.mg x m) (hg : Gl X x) (hdb : (x == ("__debug__" : Str)) = false)
      (hsu : ∀ (a : Addr) (pn : List (Addr × Obj)), DSs (X.suite a pn) W0 (b0 :: suite) f) (r : HdsD X hds l) : HdsD X (.ExceptHandler (some (.Name x np)) none (b0 :: suite) hp :: hds) ((m, f) :: l)
theorem hds_kit {hds : List ExceptHandler} {l : Hds} (h : HdsD X hds l) (Wout : WX) : ∃ l' : List (Value × (Addr → Value → Option Addr → TS)), HdsOk X hds l' ∧
    ∀ D c C σ ι F ρ S H, RR X.K ι F ρ S σ H → X.mg c = some (.ref C) → PostS X.K X.mg Wout ι F H (tryGo l c ρ S) D → wMany X.K Wout D l' (.ref C) none σ H := by
  induction h with
  | nil => exact ⟨[], .nil, fun D c C σ ι F ρ S H r mc q => q C σ ι F H .refl r mc⟩
  | @cons x m f b0 suite np hp hds l hm hg hdb hsu r ih =>
    obtain ⟨l', ok, k⟩ := ih
    obtain ⟨V, hV, hcat⟩ := hm.ex
    refine ⟨(.ref V, fun a _ _ => tS X W0 f) :: l', .cons ⟨hg, hdb, .inl hV⟩ (fun a oe cls d pn _ _ => (hsu a ((a, oe) :: pn)).canon) ok, fun D c C σ ι F ρ S H rr mc q => ?_⟩
    unfold tryGo at q
    cases e : m c with
    | none => rw [e] at q; exact q.elim
    | some b =>
      rw [e] at q
      refine ⟨b, hcat c b C e mc, fun hb a ha => ?_, fun hb => ?_⟩
      · subst hb
        refine ⟨ι, F, ρ, S, rr, ?_⟩
        exact calmS_of q
      · subst hb
        exact k D c C σ ι F ρ S H rr mc q
theorem ds_try {body : List Stmt} {hd : ExceptHandler} {hds : List ExceptHandler} {f : SFn} {l : Hds} (hs : X.stack = X.env :: X.outer) (hf : X.env.frame = some X.env.locals) (tk : Takes X W)
    (hb : ∀ (V : WX) (pn : List (Addr × Obj)) (xe : Value → Shared → Prop), Takes (X.tr pn xe) V → PassesOwn (model X.prog X.w) X.A X.env xe → DSs (X.tr pn xe) V body f)
    (hh : HdsD X (hd :: hds) l) : DS X W (.Try body (hd :: hds) [] [] pos) (sTry f l) := by
  obtain ⟨l', ok, k⟩ := hds_kit hh W
  refine ⟨_, ps_try_many (tb := fun V => tS X V f) hs hf tk (fun V pn xe t p => (hb V pn xe t p).canon) ok, fun D σ H ⟨ι, F, ρ, S, r, q⟩ => ⟨ι, F, ρ, S, r, ?_⟩⟩
  unfold sTry at q
  cases e : f ρ S with
  | ex c ρ' S' =>
    rw [e] at q
    exact fun C σ' ι' F' H' g rr mc => k D c C σ' ι' F' ρ' S' H' rr mc (PostS.grow (r := tryGo l c ρ' S') q g)
  | nx ρ' S' => rw [e] at q; exact q
  | rt v S' => rw [e] at q; exact q
  | bk ρ' S' => rw [e] at q; exact q
  | ct ρ' S' => rw [e] at q; exact q
  | bad => rw [e] at q; exact q
end
end DL
namespace DL
open PySem PySem.Spec PyProof.Rows L2
/-! ## which classes a clause catches, by a table -/
def catT (l : List (Str × Bool)) : Str → Option Bool := fun c => l.lookup c
inductive CatF (K : PySem.W.Frag) (y : Str) : List (Str × Bool) → Prop
  | nil : CatF K y []
  | cons {x : Str} {b : Bool} {l : List (Str × Bool)} (h1 : (He.Fa.glo x).ok K = true) (h2 : (He.Fa.exm x y b).ok K = true) (r : CatF K y l) : CatF K y ((x, b) :: l)
theorem catD_of {K : PySem.W.Frag} {h : Heap} {mg : Str → Option Value} {y : Str} {l : List (Str × Bool)} (X : K.In h) (G : h.Ns mainGlobals mg) (c : (He.Fa.glo y).ok K = true) (r : CatF K y l) : CatD K mg y (catT l) := by
  refine ⟨_, He.glo_ok X G c, fun x b C e hC => ?_⟩
  induction r with
  | nil => cases e
  | @cons x' b' l h1 h2 r ih =>
    simp only [catT, List.lookup_cons] at e
    split at e
    · rename_i hx
      cases e
      have hx := eq_of_beq hx
      subst hx
      have h3 := He.glo_ok X G h1
      rw [h3] at hC
      cases hC
      exact of_decide_eq_true h2
    · exact ih e
end DL

set_option maxHeartbeats 4000000
namespace DL
open PySem PySem.Spec PyProof.Rows L2
section
variable {X : Cx} {W : WX} {e a b c : Expr} {es : List Expr} {pos p : Pos} {K : PySem.W.Frag} {ι : List Addr} {F H : Hp} {S : Store} {mg : Str → Option Value}
/-! ## comprehensions with two sources -/
def lc2Go (g : GFn) (t : TFn) (l1 : LFn) (v1 : List Nat) (g1 : GFn) (t1 : TFn) (f : XFn) (ρ : Slots) : List D → Store → Res (List D)
  | [], S => .ok [] S
  | d :: ds, S => match g d ρ with
    | none => .bad
    | some ρ1 => (t ρ1 S).bindN fun b S1 => if b then (l1 ρ1 S1).bindN fun es S2 => (lcGo g1 t1 f (wipeS ρ1 v1) es S2).bindN fun zs S3 => (lc2Go g t l1 v1 g1 t1 f ρ ds S3).bindN fun ws S4 => .ok (zs ++ ws) S4
        else lc2Go g t l1 v1 g1 t1 f ρ ds S1
def lLc2 (l : LFn) (own : List Nat) (g : GFn) (t : TFn) (l1 : LFn) (v1 : List Nat) (g1 : GFn) (t1 : TFn) (f : XFn) : LFn := fun ρ S => (l ρ S).bind fun ds S1 => (lc2Go g t l1 v1 g1 t1 f (wipeS ρ own) ds S1).bindN fun zs S2 => if zs.length ≤ sizeLine then .ok zs S2 else .bad
theorem wipe_idem (vs : List Nat) (σ : L2.St) : L2.wipe (L2.wipe σ vs) vs = L2.wipe σ vs := by
  have idem : ∀ us : List Nat, ∀ τ : L2.St, (∀ i ∈ us, τ[i]? = none ∨ τ[i]? = some none) → L2.wipe τ us = τ := by
    intro us
    induction us with
    | nil => intro τ _; rfl
    | cons v us ih =>
      intro τ hv
      show (L2.wipe τ us).set v none = τ
      rw [ih τ fun i m => hv i (List.mem_cons_of_mem _ m)]
      apply List.ext_getElem?
      intro j
      rw [List.getElem?_set]
      split
      · rename_i e; subst e
        rcases hv v List.mem_cons_self with z | z
        · rw [z]; split
          · rename_i hlt; rw [List.getElem?_eq_none_iff] at z; omega
          · rfl
        · rw [z]; split
          · rfl
          · rename_i hlt; have := (List.getElem?_eq_some_iff.mp z).1; omega
      · rfl
  refine idem vs _ fun i m => ?_
  cases q : (L2.wipe σ vs)[i]? with
  | none => exact .inl rfl
  | some o =>
    cases o with
    | none => exact .inr rfl
    | some x => exact absurd m (wipe_some q).2
/-- an item put behind the list that is being made -/
theorem acc_put {ι5 : List Addr} {F5 H5 : Hp} {S4 : Store} (st5 : StR K ι5 F5 S4 H5) {D : Addr} {u : List V} (k2 : F5 D = none) (k3 : D ∉ ι5) : StR K ι5 F5 S4 (upd H5 D (.lst u)) :=
  ⟨fun b u e => by rw [upd_ne (fun z => by rw [z, k2] at e; cases e)]; exact st5.sub b u e, st5.len, st5.nd, fun b hb => upd_full (st5.full b hb), fun k es e =>
    let ⟨a', vs', h1, h2, h3, h4⟩ := st5.cell k es e
    ⟨a', vs', h1, by rw [upd_ne (fun z => k3 (by rw [← z]; exact List.mem_of_getElem? h1))]; exact h2, h3, h4⟩⟩
theorem lc2_ent {own : List (Str × Nat)} {l l1 : LFn} {g g1 : GFn} {t t1 : TFn} {f : XFn} {sl sl1 v1 : List Nat} (hsl : ∀ i ∈ sl, i ∈ own.map (·.2)) (hsl1 : ∀ i ∈ sl1, i ∈ v1) {σ : L2.St} {H : Hp} {Q : VK}
    (h : tN X W (lLc2 l (own.map (·.2)) g t l1 v1 g1 t1 f) σ H Q) :
    tLc2 (tI X W l) (tG X.K sl g) (tT X W0 t) (tI X W0 l1) (tG X.K sl1 g1) (tT X W0 t1) (tD X W0 f) (own.map (·.2)) v1 σ H Q := by
  obtain ⟨ι, F, ρ, S, r, h⟩ := h
  refine ⟨ι, F, ρ, S, r, ?_⟩
  unfold lLc2 at h
  cases q : l ρ S with
  | bad => rw [q] at h; exact h
  | ex c S1 => rw [q] at h; exact h
  | ok ds S1 =>
    rw [q] at h
    simp only [Res.bind_ok] at h
    obtain ⟨zs0, S0, e0, h⟩ := bindN_ok h
    by_cases hl : zs0.length ≤ sizeLine
    · simp only [hl, if_true] at h
      intro ι1 F1 H1 g1' st1 J ⟨G, Y, w, hG, hY⟩ D hD
      have r1 := r.slots g1' st1
      have hF1 : F1 D = none := by
        cases q : F1 D with
        | none => rfl
        | some o => rw [st1.sub D o q] at hD; cases hD
      have hι1 : D ∉ ι1 := fun m => st1.full D m hD
      let Pv : Nat → Hp → Prop := fun i H2 => ∃ ι2 F2 S2 acc avs zs, StR X.K ι2 F2 S2 H2 ∧ Grow ι1 F1 H1 ι2 F2 H2 ∧ H2 D = some (.lst avs) ∧ F2 D = none ∧ D ∉ ι2 ∧ WdA X.K F2 avs acc ∧
          lc2Go g t l1 v1 g1 t1 f (wipeS ρ (own.map (·.2))) (ds.drop i) S2 = .ok zs S0 ∧ acc ++ zs = zs0
      refine ⟨fun i m H => m = ds.length - i ∧ i ≤ ds.length ∧ Pv i H, ⟨ds.length, by simp, Nat.zero_le _, ι1, F1, S1, [], [], zs0, st1.alone hD _, grow_alone hD _, upd_same, hF1, hι1, .nil, e0, rfl⟩, ?_⟩
      rintro i m H2 ⟨rfl, hi, ι2, F2, S2, acc, avs, zs, st2, g2, hd, hf, hn, wa, el, ea⟩
      have qG := hG ι2 F2 S2 H2 st2 g2.sf
      by_cases hlt : i < ds.length
      · refine .inr ⟨w.goes i H2 hlt qG, Pv (i + 1), fun H' p' => ⟨ds.length - (i + 1), by omega, rfl, hlt, p'⟩, fun x H3 y => ?_⟩
        obtain ⟨F3, d, g3, st3, hdi, wd⟩ := hY ι2 F2 S2 H2 i x H3 st2 g2.sf hlt (w.yields i H2 x H3 hlt qG y)
        have ed : ds.drop i = d :: ds.drop (i + 1) := by
          rw [List.drop_eq_getElem_cons hlt]
          obtain ⟨_, h⟩ := List.getElem?_eq_some_iff.mp hdi
          rw [h]
        have keepD : ∀ {ι' F' H'} , Grow ι2 F2 H2 ι' F' H' → H' D = some (.lst avs) ∧ F' D = none ∧ D ∉ ι' := fun gg => ⟨gg.keep D _ hd hn, gg.new D _ hd hf hn, fun m => by
          rcases gg.nio D m with z | z
          · exact hn z
          · rw [hd] at z; cases z⟩
        rw [ed] at el
        simp only [lc2Go] at el
        have r0 : RR X.K ι1 F1 (wipeS ρ (own.map (·.2))) S1 (L2.wipe σ (own.map (·.2))) H1 := r1.wipe _
        have r3 := r0.slots (g2.trans g3) st3
        cases e1 : g d (wipeS ρ (own.map (·.2))) with
        | none => simp only [e1] at el; cases el
        | some ρ3 =>
          simp only [e1] at el
          refine ⟨ι2, F3, _, S2, d, ρ3, r3, wd, e1, fun σ3 r3' o3 => ⟨?_, ?_⟩⟩
          · rw [o3 (own.map (·.2)) hsl]
            exact wipe_idem _ _
          · obtain ⟨b, S3, e2, el⟩ := bindN_of el
            refine ⟨ι2, F3, ρ3, S2, r3', ?_⟩
            show Post X.K X.mg _ ι2 F3 H3 (t ρ3 S2) _
            rw [e2]
            intro ι4 F4 H4 g4 st4
            have g24 := g3.trans g4
            cases b with
            | false =>
              dsimp only
              rw [if_neg (by simp)]
              simp only [Bool.false_eq_true, if_false] at el
              obtain ⟨k1, k2, k3⟩ := keepD g24
              exact ⟨ι4, F4, S3, acc, avs, zs, st4, g2.trans g24, k1, k2, k3, wa.mono g24.sf, el, ea⟩
            | true =>
              dsimp only
              rw [if_pos rfl]
              simp only [if_true] at el
              obtain ⟨es, S5, e3, el⟩ := bindN_of el
              obtain ⟨ys, S6, e4, el⟩ := bindN_of el
              obtain ⟨ws, S7, e5, el⟩ := bindN_of el
              cases el
              have r4 := r3'.slots g4 st4
              refine ⟨ι4, F4, ρ3, S3, r4, ?_⟩
              show Post X.K X.mg _ ι4 F4 H4 (l1 ρ3 S3) _
              rw [e3]
              intro ι5 F5 H5 g5 st5 J1 ⟨G1, Y1, w1, hG1, hY1⟩
              have g25 := g24.trans g5
              obtain ⟨d1, d2, d3⟩ := keepD g25
              have r5 := (r4.slots g5 st5).wipe v1
              let Pw : Nat → Hp → Prop := fun j H => ∃ ι F S acc avs zs, RR X.K ι F (wipeS ρ3 v1) S (L2.wipe σ3 v1) H ∧ Same F5 F ∧ Grow ι1 F1 H1 ι F H ∧ H D = some (.lst avs) ∧ F D = none ∧ D ∉ ι ∧ WdA X.K F avs acc ∧
                lcGo g1 t1 f (wipeS ρ3 v1) (es.drop j) S = .ok zs S6 ∧ acc ++ zs ++ ws = zs0
              have growD : ∀ {ι F H} {u : List V}, Grow ι1 F1 H1 ι F H → Grow ι1 F1 H1 ι F (upd H D (.lst u)) := fun g => ⟨g.pre, g.sf, fun b o e n => by
                    rw [upd_ne (fun z => by rw [z, hD] at e; cases e)]; exact g.keep b o e n, g.new, g.nio, fun b e => g.dom b (upd_none e)⟩
              refine ⟨fun j m H => m = es.length - j ∧ j ≤ es.length ∧ Pw j H, ⟨es.length, by simp, Nat.zero_le _, ι5, F5, S5, acc, avs, ys, r5, Same.refl _, g2.trans g25, d1, d2, d3, wa.mono g25.sf, e4, by rw [← ea]; simp⟩, ?_⟩
              rintro j m H6 ⟨rfl, hj, ι6, F6, S8, acc6, avs6, zs6, r6, sf6, G6, hd6, hf6, hn6, wa6, el6, ea6⟩
              have qG1 := hG1 ι6 F6 S8 H6 r6.st sf6
              by_cases hlt1 : j < es.length
              · refine .inr ⟨w1.goes j H6 hlt1 qG1, Pw (j + 1), fun H' p' => ⟨es.length - (j + 1), by omega, rfl, hlt1, p'⟩, fun x1 H7 y1 => ?_⟩
                obtain ⟨F7, dd, g7, st7, hdd, wdd⟩ := hY1 ι6 F6 S8 H6 j x1 H7 r6.st sf6 hlt1 (w1.yields j H6 x1 H7 hlt1 qG1 y1)
                have ed1 : es.drop j = dd :: es.drop (j + 1) := by
                  rw [List.drop_eq_getElem_cons hlt1]
                  obtain ⟨_, h⟩ := List.getElem?_eq_some_iff.mp hdd
                  rw [h]
                have keepD6 : ∀ {ι' F' H'} , Grow ι6 F6 H6 ι' F' H' → H' D = some (.lst avs6) ∧ F' D = none ∧ D ∉ ι' := fun gg => ⟨gg.keep D _ hd6 hn6, gg.new D _ hd6 hf6 hn6, fun m => by
                  rcases gg.nio D m with z | z
                  · exact hn6 z
                  · rw [hd6] at z; cases z⟩
                rw [ed1] at el6
                simp only [lcGo] at el6
                have r7 := r6.slots g7 st7
                cases e6 : g1 dd (wipeS ρ3 v1) with
                | none => simp only [e6] at el6; cases el6
                | some ρ7 =>
                  simp only [e6] at el6
                  refine ⟨ι6, F7, _, S8, dd, ρ7, r7, wdd, e6, fun σ7 r7' o7 => ⟨?_, ?_⟩⟩
                  · rw [o7 v1 hsl1]
                    exact wipe_idem _ _
                  · obtain ⟨b, S9, e7, el6⟩ := bindN_of el6
                    refine ⟨ι6, F7, ρ7, S8, r7', ?_⟩
                    show Post X.K X.mg _ ι6 F7 H7 (t1 ρ7 S8) _
                    rw [e7]
                    intro ι8 F8 H8 g8 st8
                    have g68 := g7.trans g8
                    cases b with
                    | false =>
                      dsimp only
                      rw [if_neg (by simp)]
                      simp only [Bool.false_eq_true, if_false] at el6
                      obtain ⟨k1, k2, k3⟩ := keepD6 g68
                      exact ⟨ι8, F8, S9, acc6, avs6, zs6, r6.slots g68 st8, sf6.trans g68.sf, G6.trans g68, k1, k2, k3, wa6.mono g68.sf, el6, ea6⟩
                    | true =>
                      dsimp only
                      rw [if_pos rfl]
                      simp only [if_true] at el6
                      obtain ⟨yv, S10, e8, el6⟩ := bindN_of el6
                      refine ⟨ι8, F8, ρ7, S9, r7'.slots g8 st8, ?_⟩
                      show Post X.K X.mg _ ι8 F8 H8 (f ρ7 S9) _
                      rw [e8]
                      intro ι9 F9 H9 g9 st9 v wv
                      cases yv with
                      | dat z =>
                        simp only at el6
                        obtain ⟨zs', S11, e9, el6⟩ := bindN_of el6
                        cases el6
                        have g69 := g68.trans g9
                        obtain ⟨k1, k2, k3⟩ := keepD6 g69
                        have r9 := r6.slots g69 st9
                        refine ⟨avs6, k1, ?_, ι9, F9, S10, acc6 ++ [z], avs6 ++ [v], zs', ⟨acc_put st9 k2 k3, r9.len, r9.slot⟩, sf6.trans g69.sf, growD (G6.trans g69), upd_same, k2, k3, (wa6.mono g69.sf).append (.cons wv .nil), e9, by rw [← ea6]; simp⟩
                        have := congrArg List.length ea6
                        simp at this
                        rw [wa6.length]; omega
                      | _ => cases el6
              · have hje : j = es.length := by omega
                subst hje
                rw [List.drop_length] at el6
                cases el6
                rw [List.append_nil] at ea6
                exact .inl ⟨w1.stops H6 qG1, ι6, F6, _, acc6, avs6, ws, r6.st, G6, hd6, hf6, hn6, wa6, e5, ea6⟩
      · have hie : i = ds.length := by omega
        subst hie
        rw [List.drop_length] at el
        cases el
        rw [List.append_nil] at ea
        subst ea
        exact .inl ⟨w.stops H2 qG, h ι2 F2 H2 (g1'.trans g2) st2 D avs (g1'.dom D hD) hd hf hn wa⟩
    · simp only [hl, if_false] at h; exact h.elim
theorem ne_lc2 {elt tg iter tg1 iter1 : Expr} {ifs ifs1 : List Expr} {scope : Scope} {own : List (Str × Nat)} {l l1 : LFn} {g g1 : GFn} {t t1 : TFn} {f : XFn} {sl sl1 v1 : List Nat} (hc : X.calm = true) (hN : X.N.Nodup) (hi : DI X W tg iter l) (ok : BlkOk X.N X.env.scope scope own)
    (hg : ∀ (s : Shared) (H : Hp) (C : Addr) (cl : List (Str × Addr)) (fp : List Addr), DG (X.blk s H scope (compEnvC scope cl C X.env) fp) tg sl g)
    (ht : ∀ (s : Shared) (H : Hp) (C : Addr) (cl : List (Str × Addr)) (fp : List Addr), DTs (X.blk s H scope (compEnvC scope cl C X.env) fp) W0 ifs t)
    (hi1 : ∀ (s : Shared) (H : Hp) (C : Addr) (cl : List (Str × Addr)) (fp : List Addr), DI (X.blk s H scope (compEnvC scope cl C X.env) fp) W0 tg1 iter1 l1)
    (hg1 : ∀ (s : Shared) (H : Hp) (C : Addr) (cl : List (Str × Addr)) (fp : List Addr), DG (X.blk s H scope (compEnvC scope cl C X.env) fp) tg1 sl1 g1)
    (ht1 : ∀ (s : Shared) (H : Hp) (C : Addr) (cl : List (Str × Addr)) (fp : List Addr), DTs (X.blk s H scope (compEnvC scope cl C X.env) fp) W0 ifs1 t1)
    (he : ∀ (s : Shared) (H : Hp) (C : Addr) (cl : List (Str × Addr)) (fp : List Addr), DE (X.blk s H scope (compEnvC scope cl C X.env) fp) W0 elt f)
    (hsl : ∀ i ∈ sl, i ∈ own.map (·.2) := by decide) (hsl1 : ∀ i ∈ sl1, i ∈ v1 := by decide) (hv : ∀ i ∈ v1, i ∈ own.map (·.2) := by decide)
    (hs : ∀ x, foldedSetIterable iter X.env x = pure x := by intro _; rfl) (hs1 : ∀ env x, foldedSetIterable iter1 env x = pure x := by intro _ _; rfl) :
    NE X W (.ListComp elt [⟨tg, iter, ifs, 0⟩, ⟨tg1, iter1, ifs1, 0⟩] scope pos) (lLc2 l (own.map (·.2)) g t l1 v1 g1 t1 f) :=
  ⟨PE.weak (pe_lc2 (vs1 := v1) (g := tG X.K sl g) (tt := tT X W0 t) (te := tD X W0 f) (wi1 := tI X W0 l1) (g1 := tG X.K sl1 g1) (tt1 := tT X W0 t1) hc hN hi.canon ok hv (fun s H C cl fp => (hg s H C cl fp).canon) (fun s H C cl fp => (ht s H C cl fp).pt)
    (fun s H C cl fp => (hi1 s H C cl fp).canon) (fun s H C cl fp => (hg1 s H C cl fp).canon) (fun s H C cl fp => (ht1 s H C cl fp).pt) (fun s H C cl fp => (he s H C cl fp).pe) hs hs1) fun σ H Q h => lc2_ent hsl hsl1 h⟩
theorem ds_setLc2 {i : Nat} {y : Str} {py spos : Pos} {elt tg iter tg1 iter1 : Expr} {ifs ifs1 : List Expr} {scope : Scope} {own : List (Str × Nat)} {l l1 : LFn} {g g1 : GFn} {t t1 : TFn} {f : XFn} {sl sl1 v1 : List Nat} (hc : X.calm = true) (hN : X.N.Nodup) (hi : DI X W tg iter l) (ok : BlkOk X.N X.env.scope scope own)
    (hg : ∀ (s : Shared) (H : Hp) (C : Addr) (cl : List (Str × Addr)) (fp : List Addr), DG (X.blk s H scope (compEnvC scope cl C X.env) fp) tg sl g)
    (ht : ∀ (s : Shared) (H : Hp) (C : Addr) (cl : List (Str × Addr)) (fp : List Addr), DTs (X.blk s H scope (compEnvC scope cl C X.env) fp) W0 ifs t)
    (hi1 : ∀ (s : Shared) (H : Hp) (C : Addr) (cl : List (Str × Addr)) (fp : List Addr), DI (X.blk s H scope (compEnvC scope cl C X.env) fp) W0 tg1 iter1 l1)
    (hg1 : ∀ (s : Shared) (H : Hp) (C : Addr) (cl : List (Str × Addr)) (fp : List Addr), DG (X.blk s H scope (compEnvC scope cl C X.env) fp) tg1 sl1 g1)
    (ht1 : ∀ (s : Shared) (H : Hp) (C : Addr) (cl : List (Str × Addr)) (fp : List Addr), DTs (X.blk s H scope (compEnvC scope cl C X.env) fp) W0 ifs1 t1)
    (he : ∀ (s : Shared) (H : Hp) (C : Addr) (cl : List (Str × Addr)) (fp : List Addr), DE (X.blk s H scope (compEnvC scope cl C X.env) fp) W0 elt f)
    (hsl : ∀ i ∈ sl, i ∈ own.map (·.2) := by decide) (hsl1 : ∀ i ∈ sl1, i ∈ v1 := by decide) (hv : ∀ i ∈ v1, i ∈ own.map (·.2) := by decide)
    (hy : X.N[i]? = some y := by rfl) (hyl : X.env.scope.names.lookup y = some .local := by rfl)
    (hsw : swapsWith (.ListComp elt [⟨tg, iter, ifs, 0⟩, ⟨tg1, iter1, ifs1, 0⟩] scope pos) (some (.Name y py)) spos.line X.env = pure true := by exact sw_true rfl rfl rfl (by decide +kernel))
    (hs : ∀ x, foldedSetIterable iter X.env x = pure x := by intro _; rfl) (hs1 : ∀ env x, foldedSetIterable iter1 env x = pure x := by intro _ _; rfl) :
    DS X W (.Assign [.Name y py] (.ListComp elt [⟨tg, iter, ifs, 0⟩, ⟨tg1, iter1, ifs1, 0⟩] scope pos) spos) (sSet i (xN1 (lLc2 l (own.map (·.2)) g t l1 v1 g1 t1 f))) :=
  ⟨_, ps_setLc2 (vs1 := v1) (g := tG X.K sl g) (tt := tT X W0 t) (te := tD X W0 f) (wi1 := tI X W0 l1) (g1 := tG X.K sl1 g1) (tt1 := tT X W0 t1) hc hN hy hyl hsw hi.canon ok hv (fun s H C cl fp => (hg s H C cl fp).canon) (fun s H C cl fp => (ht s H C cl fp).pt)
    (fun s H C cl fp => (hi1 s H C cl fp).canon) (fun s H C cl fp => (hg1 s H C cl fp).canon) (fun s H C cl fp => (ht1 s H C cl fp).pt) (fun s H C cl fp => (he s H C cl fp).pe) hs hs1, fun D σ H h => lc2_ent hsl hsl1 h.set.toN⟩
end
end DL

set_option maxHeartbeats 8000000
namespace PySem
namespace DLSort
open L2 PyProof.Rows
section
variable {prog : Program} {w : World} {A : Around} {E : Value → Shared → Prop} {s : Shared}
/-- the items of a tuple, collected -/
theorem gather {t : Addr} {us : List Value} {R : List Value → Shared → Prop} (ht : s.heap.IsTuple t us.toArray) (fits : us.length ≤ sizeLine)
    (h : R us { s with heap := (s.heap.push (seqObj "list" #[] 0)).update s.heap.objs.size (Obj.mapSeq (· ++ us.toArray)) }) : wpAny (model prog w) A (collect (.ref t)) R E s := by
  obtain ⟨ob, gt, cl, m, dt⟩ := id ht
  unfold collect
  apply wpAny_bind
  apply wpAny_runValue
  apply codeAny_builtin entry_proto_collect'
  show wpAny _ _ (do again (.builtin "list.__iadd__" ⟨[← newList [], .ref t], []⟩)) _ _ s
  apply wpAny_bind
  refine wpAny_newList ?_
  refine wpAny_pure ⟨Code.quiet_builtin _ (by decide +kernel), ?_⟩
  apply codeAny_builtin entry_list_iadd'
  have gt2 : (s.heap.push (seqObj "list" #[] 0)).get? t = some ob := Heap.get?_push_of_some _ gt
  show wpAny _ _ (Builtin.List.listExtendWith (.ref s.heap.objs.size) (.ref t) (.ref s.heap.objs.size)) _ _ { s with heap := s.heap.push (seqObj "list" #[] 0) }
  unfold Builtin.List.listExtendWith
  apply wpAny_bind
  refine wpAny_typeOf (s := { s with heap := s.heap.push (seqObj "list" #[] 0) }) (T := "tuple") (show Shared.TypeIs _ (.ref t) "tuple" from ⟨ob, gt2, cl⟩) ?_
  have tt : (Value.type "tuple" == Value.type "tuple") = true := by rfl
  rw [if_pos (by rw [tt]; simp)]
  apply wpAny_bind
  apply listItems_at gt2 dt
  apply wpAny_bind
  apply listItems_at (xs := #[]) (n := 0) (Heap.get?_push_size _ rfl) rfl
  rw [if_neg (by simp)]
  apply wpAny_bind
  refine listUpdate_at (xs := #[]) (n := 0) (Heap.get?_push_size _ rfl) rfl ?_ (Nat.zero_le _) (by
    show (#[] ++ us.toArray).size ≤ sizeLine + 1
    simp only [Array.size_append, List.size_toArray, List.length_nil]
    omega)
  apply wpAny_pure
  show wpAny (model prog w) A (do
      let o ← load s.heap.objs.size
      match o.data with
      | .seq ys _ => pure ys.toList
      | _ => unsupported "internal:collect") R E { s with heap := (s.heap.push (seqObj "list" #[] 0)).update s.heap.objs.size (Obj.mapSeq (· ++ us.toArray)) }
  apply wpAny_bind
  refine wpAny_load (get?_update_seq (Heap.get?_push_size _ rfl) _) ?_
  show wpAny _ _ (pure ((#[] : Array Value) ++ us.toArray).toList) R E _
  have e : ((#[] : Array Value) ++ us.toArray).toList = us := by simp
  rw [e]
  exact wpAny_pure h
/-- sorted(a tuple of ints) -/
theorem sorted_tuple {t : Addr} {us : List Value} {ns : List Int} {R : Value → Shared → Prop} (hI : IntsAre us ns) (ht : s.heap.IsTuple t us.toArray) (fits : us.length ≤ sizeLine)
    (h : ∀ out : List Value, SrtO.Srtd SrtO.ltIv out → SrtO.Stb SrtO.ltIv out us → R (.ref (s.heap.objs.size + 1)) { s with heap := sortedAll s.heap us out.toArray }) :
    wpAny (model prog w) A (call (.builtin "sorted") [.ref t]) R E s := by
  apply Calls.call_function_entry kind_sorted plain_sorted entry_sorted (args_sorted1 _)
  unfold Builtin.«sorted»
  refine wpAny_bind (m := checkCount "sorted" 1 1 _) (wpAny_pure ?_)
  apply wpAny_bind
  refine gather ht fits ?_
  apply wpAny_bind
  refine wpAny_newList ?_ fits
  have sz : ((s.heap.push (seqObj "list" #[] 0)).update s.heap.objs.size (Obj.mapSeq (· ++ us.toArray))).objs.size = s.heap.objs.size + 1 := by rw [Heap.size_update, size_push']
  have here : (((s.heap.push (seqObj "list" #[] 0)).update s.heap.objs.size (Obj.mapSeq (· ++ us.toArray))).push (seqObj "list" us.toArray 0)).get? (s.heap.objs.size + 1) = some (seqObj "list" us.toArray 0) := by
    rw [← sz]; exact Heap.get?_push_size _ rfl
  show wpAny _ _ _ _ _ { s with heap := ((s.heap.push (seqObj "list" #[] 0)).update s.heap.objs.size (Obj.mapSeq (· ++ us.toArray))).push (seqObj "list" us.toArray 0) }
  rw [sz]
  apply wpAny_bind
  apply wpAny_holding
  refine wpAny_call_entry slot_list_sort ⟨_, here, rfl⟩ entry_list_sort (SrtO.list_sort_ord SrtO.swo_int here fits (fun two => SrtO.ints_sortable hI two) fun out a b => ⟨_, rfl, ?_⟩) (args_list_sort _)
  exact wpAny_pure ⟨_, rfl, h out a b⟩
end
end DLSort
end PySem
namespace DL
open PySem PySem.Spec PyProof.Rows L2
section
variable {X : Cx} {W : WX} {e a b c : Expr} {es : List Expr} {pos p : Pos} {K : PySem.W.Frag} {ι : List Addr} {F H : Hp} {S : Store} {mg : Str → Option Value}
/-! ## sorted(x), any data that can be compared -/
def dOrd (x y : D) : Bool := PySem.W.dataLe false D.py x y
def canSort (xs : List D) : Bool := (xs.all fun x => xs.all fun y => PySem.W.alike x.py y.py) &&
  ((xs.all fun x => match x.py with | .tuple (_ :: _) => true | _ => false) || (xs.all fun x => match x.py with | .none => false | .tuple _ => false | _ => true)) && (xs.all fun x => decide (x.py.depth ≤ 40))
/-- the items, and what is known of each -/
def EachD (K : PySem.W.Frag) (G : Hp) (s : Shared) (v : Value) (d : D) : Prop := ∃ u : V, RelV u v ∧ Wd K G u d
theorem eachD_of {G : Hp} {s : Shared} : ∀ {vs : List V} {us : List Value} {ds : List D}, WdA K G vs ds → Vals vs us → PySem.W.EachIs (EachD K G s) us ds
  | _, _, _, .nil, .nil => .nil
  | _, _, _, .cons w ws, .cons r rs => .cons ⟨_, r, w⟩ (eachD_of ws rs)
theorem ofEachD {G : Hp} {s : Shared} {us : List Value} {ds : List D} (h : PySem.W.EachIs (EachD K G s) us ds) : ∃ vs : List V, Vals vs us ∧ WdA K G vs ds := by
  induction h with
  | nil => exact ⟨[], .nil, .nil⟩
  | cons h _ ih =>
    obtain ⟨u, r, w⟩ := h
    obtain ⟨vs, a, b⟩ := ih
    exact ⟨u :: vs, .cons r a, .cons w b⟩
def rSortD (K : PySem.W.Frag) : List V → Hp → VK → Prop := fun xs H Q => ∃ (a : Addr) (vs : List V) (ds : List D) (G : Hp), xs = [V.ref a] ∧ SqL K H a vs ∧ Same G H ∧ WdA K G vs ds ∧ canSort ds = true ∧
  ∀ p ws, H p = none → WdA K G ws (ds.mergeSort dOrd) → Q (.ref p) (upd H p (.lst ws))
theorem pys_map : ∀ ds : List D, D.pys ds = ds.map D.py
  | [] => rfl
  | d :: ds => by rw [D.pys, pys_map ds]; rfl
theorem cr_sortD (hu : X.A.units + 64 < cLine) : CallR X (.builtin "sorted") (rSortD X.K) := by
  intro pins s σ H xs us Q I r h
  obtain ⟨a, vs, ds, G, rfl, hq, sm, wd, can, q⟩ := h
  rw [Vals.ref1 r]
  obtain ⟨its, rv, pl, hz⟩ := I.list hq
  unfold canSort at can
  simp only [Bool.and_eq_true, Bool.or_eq_true, List.all_eq_true, decide_eq_true_eq] at can
  obtain ⟨⟨c1, c2⟩, c3⟩ := can
  have e0 : PySem.W.EachIs (EachD X.K G s) its ds := eachD_of wd rv
  have er : PySem.W.EachIs (fun v b => ∃ as, Reads s.heap v (D.py b) as) its ds := e0.mono fun v d ⟨u, hr, hw⟩ => Dp.reads I _ u v (Wd.dp (hw.mono sm)) hr
  refine PySem.W.sorted_data (enc := D.py) (R := EachD X.K G s) pl.isList e0 er ?_ ?_ (by rw [← wd.length]; exact hz) (fun b hb => by have := c3 b hb; omega) fun out hl eo => ?_
  · intro d hd d' hd'
    obtain ⟨x, hx, rfl⟩ := List.mem_map.mp hd
    obtain ⟨y, hy, rfl⟩ := List.mem_map.mp hd'
    exact c1 x hx y hy
  · rcases c2 with c2 | c2
    · left
      intro d hd
      obtain ⟨x, hx, rfl⟩ := List.mem_map.mp hd
      have := c2 x hx
      split at this
      · rename_i y r e; exact ⟨y, r, e⟩
      · cases this
    · right
      intro d hd
      obtain ⟨x, hx, rfl⟩ := List.mem_map.mp hd
      have := c2 x hx
      refine ⟨fun z => ?_, fun xs z => ?_⟩
      · rw [z] at this; exact absurd this (by simp)
      · rw [z] at this; exact absurd this (by simp)
  · obtain ⟨ws, rw_, ww⟩ := ofEachD eo
    obtain ⟨ep, he⟩ := PyProof.Rows.sortedAll_at s.heap its out.toArray
    have hlen : ws.length ≤ sizeLine := by
      rw [ww.length, List.length_mergeSort, ← wd.length]; exact hz
    exact ⟨.ref _, upd H (s.heap.objs.size + 1) (.lst ws), I.laid (t' := s.toks) (fun _ _ => PyProof.Rows.sortedAll_old) (Nat.le_succ _) ⟨hlen, out, ep, rw_, he⟩, rfl, q _ ws (I.hok.fresh (Nat.le_succ _)) ww⟩
/-- of a tuple of ints -/
def isortI (ns : List Int) : List Int := ns.mergeSort fun a b => decide (a ≤ b)
def rSortTI (K : PySem.W.Frag) : List V → Hp → VK → Prop := fun vs H Q => ∃ (a : Addr) (ns : List Int), vs = [V.ref a] ∧ SqT K H a (ns.map V.int) ∧ ∀ (ns' : List Int) (p : Addr), ns'.Perm ns → ns'.Pairwise (· ≤ ·) → H p = none → Q (.ref p) (upd H p (.lst (ns'.map V.int)))
theorem cr_sortTI : CallR X (.builtin "sorted") (rSortTI X.K) := by
  intro pins s σ H vs us Q I r h
  obtain ⟨a, ns, rfl, hs, q⟩ := h
  obtain ⟨its, rv, hl, hz⟩ := I.tuple hs
  rw [Vals.ref1 r]
  have hi := rv.ints
  refine PySem.DLSort.sorted_tuple hi hl (by rw [← rv.length]; exact hz) fun out h1 h2 => ?_
  obtain ⟨k1, k2, k3⟩ := SrtO.ints_out hi h1 h2
  obtain ⟨ep, he⟩ := PyProof.Rows.sortedAll_at s.heap its out.toArray
  have hlen : ((out.map SrtO.iv).map V.int).length ≤ sizeLine := by rw [List.length_map, k2.length_eq]; simpa using hz
  refine ⟨.ref _, upd H (s.heap.objs.size + 1) (.lst ((out.map SrtO.iv).map V.int)), ?_, rfl, q _ _ k2 k3 (I.hok.fresh (Nat.le_succ _))⟩
  exact I.laid (t' := s.toks) (fun _ _ => PyProof.Rows.sortedAll_old) (Nat.le_succ _) ⟨hlen, out, ep, vals_of_ints k1, he⟩
theorem isortI_eq {a b : List Int} (hp : a.Perm b) (hs : a.Pairwise (· ≤ ·)) : a = isortI b := by
  have h1 : (isortI b).Pairwise (· ≤ ·) := by
    have := List.pairwise_mergeSort (le := fun a b : Int => decide (a ≤ b)) (by intro a b c h1 h2; simp at *; omega) (by intro a b; simp; omega) b
    exact this.imp fun h => by simpa using h
  exact List.Perm.eq_of_pairwise (le := (· ≤ ·)) (fun x y _ _ h1 h2 => by omega) hs h1 (hp.trans (List.mergeSort_perm b _).symm)
def sorted1 (x : DV) (S : Store) : Res (List D) := match rd S x with
  | some (.lst xs) => if canSort xs = true then .ok (xs.mergeSort dOrd) S else .bad
  | some (.tup xs) => (match intsOf xs with
    | some ns => .ok ((isortI ns).map .int) S
    | none => .bad)
  | _ => .bad
def lSorted (f : XFn) : LFn := fun ρ S => (f ρ S).bind sorted1
theorem ne_sorted {f : XFn} (h : DE X W a f) (hu : X.A.units + 64 < cLine) (hm : X.mg "sorted" = none) (hg : Gl X "sorted" := by rfl) (he : starEach (a :: []) X.env = (false, eval a X.env) :: starEach [] X.env := by rfl) :
    NE X W (.Call (.Name "sorted" p) [a] [] pos) (lSorted f) := by
  refine ⟨PE.weak (pe_callB (r := fun vs H Q => rSortD X.K vs H Q ∨ rSortTI X.K vs H Q) (fun pins s σ H xs us Q I r h => h.elim (cr_sortD hu pins s σ H xs us Q I r) (cr_sortTI pins s σ H xs us Q I r)) hg hm (by decide +kernel) (pa_cons h.pe pa_nil he) (by decide) (by decide) he rfl) fun σ H Q ⟨ι, F, ρ, S, r, h⟩ => ?_⟩
  refine tD.bind (g := fun _ => sorted1) r h fun v dv ι1 F1 S1 H1 r1 w1 g1 h1 => ?_
  unfold sorted1 at h1
  cases ed : rd S1 dv with
  | none => simp only [ed] at h1; exact h1.elim
  | some d =>
    have vw := r1.st.vw w1 ed
    cases vw with
    | lst s w =>
      simp only [ed] at h1
      split at h1
      · rename_i hc
        exact .inl ⟨_, _, _, F1, rfl, .of s, r1.st.sub, w, hc, fun p ws hp ww => ne_new r1.st g1 h1 ww hp⟩
      · exact h1.elim
    | tup s w =>
      rename_i p0 vs xs
      simp only [ed] at h1
      cases ei : intsOf xs with
      | none => simp only [ei] at h1; exact h1.elim
      | some ns =>
        simp only [ei] at h1
        have ev := intsOf_ok w ei
        subst ev
        refine .inr ⟨_, ns, rfl, sameT r1.st.sub s, fun ns' p hp hs hn => ?_⟩
        have := isortI_eq hp hs
        subst this
        exact ne_new r1.st g1 h1 (wda_ints _) hn
    | _ => simp only [ed] at h1; exact h1.elim
end
end DL

set_option maxHeartbeats 8000000
namespace PySem
namespace DLSetT
open L2 PyProof.Rows
theorem few_of {α : Type} [DecidableEq α] : ∀ (l m : List α), l.Nodup → (∀ x ∈ l, x ∈ m) → l.length ≤ m.length
  | [], _, _, _ => Nat.zero_le _
  | x :: l, m, hn, hs => by
    rw [List.nodup_cons] at hn
    have hx : x ∈ m := hs x (List.mem_cons_self ..)
    have ih := few_of l (m.erase x) hn.2 fun y hy => (List.mem_erase_of_ne (fun z => hn.1 (by rw [← z]; exact hy))).mpr (hs y (List.mem_cons_of_mem _ hy))
    have := List.length_erase_of_mem hx
    have := List.length_pos_of_mem hx
    simp only [List.length_cons]
    omega
abbrev void (w : World) : Obj := { cls := .type "set", dict := none, data := .set #[] 0 (.fresh 0 0 (!w.params.followText "set-order")) }
section
variable {P : Program} {w : World} {A : Around} {E : Value → Shared → Prop} {s : Shared}
/-- the set takes the items one by one; at most 62 different ones come -/
theorem take_all {I : Addr} {fp wr : List Addr} {G : Array GenState → Array GenState → Prop} {n : Nat} {Pv : Nat → Value → Prop} {St : Nat → Shared → Prop} {R : Result → Shared → Prop}
    (W : WalksS P w A.in1 I fp wr G n Pv St) (S : Addr) (off : S ∉ fp) (ks : List (Addr × List Int)) (cnt : n = ks.length) (Dl : List (List Int)) (small : Dl.length < 63) (inD : ∀ p ∈ ks, p.2 ∈ Dl) (val : ∀ i v, Pv i v → ∃ p, ks[i]? = some p ∧ v = .ref p.1)
    (h0 : Heap) (tup : ∀ p ∈ ks, L2.IsT P w h0 p.2 p.1) (free : h0.get? S = none) (wfree : ∀ b ∈ wr, h0.get? b = none) (room : A.in1.units < cLine) :
    ∀ (m i : Nat) (s : Shared), n - i = m → i ≤ n → St i s → (∀ b o, h0.get? b = some o → s.heap.get? b = some o) → (∃ L es ep t, SetTR P w s.heap S L es ep t ∧ Got ks i L) →
      (∀ s' L es ep t, Moved (S :: wr) G s s' → SetTR P w s'.heap S L es ep t → Got ks n L → (∀ b o, h0.get? b = some o → s'.heap.get? b = some o) → R (.ok (.ret .none)) s') →
      codeAny (model P w) A (.builtin "set.update.loop" ⟨[.ref S, .ref I], []⟩) R s := by
  have Sw : S ∉ wr := fun m => off (W.sub _ m)
  have wid : ∀ b ∈ wr, b ∈ S :: wr := fun b m => List.mem_cons_of_mem _ m
  have hold : ∀ {s s' : Shared}, Moved wr G s s' → (∀ b o, h0.get? b = some o → s.heap.get? b = some o) → ∀ b o, h0.get? b = some o → s'.heap.get? b = some o := by
    intro s s' mv k b o q
    refine mv.heap b o (fun m => ?_) (k b o q)
    rw [wfree b m] at q
    cases q
  intro m
  induction m with
  | zero =>
    intro i s em hi st keep ⟨L, es, ep, t, hS, g⟩ fin
    obtain rfl : i = n := by omega
    apply codeAny_builtin F.entry_set_update_loop
    rw [Around.under_plainId F.plain_set_update_loop _]
    show wpAny _ A.in1 (pyNext (.ref I) >>= _) _ _ s
    apply wpAny_bind
    refine W.done s _ _ st fun s' mv => ?_
    show wpAny _ A.in1 (ret Value.none) _ _ s'
    have keep2 := hold mv keep
    have sub : ∀ p ∈ L, p ∈ ks := fun p hp => List.mem_of_mem_take (g.sub p hp)
    apply wpAny_pure
    exact fin s' L es ep t (mv.mono wid) (hS.keep (fun o q => mv.heap S o Sw q) fun p hp => isT_keep (tup p (sub p hp)) keep2) g keep2
  | succ m ih =>
    intro i s em hi st keep ⟨L, es, ep, t, hS, g⟩ fin
    have lt : i < n := by omega
    apply codeAny_builtin F.entry_set_update_loop
    rw [Around.under_plainId F.plain_set_update_loop _]
    show wpAny _ A.in1 (pyNext (.ref I) >>= _) _ _ s
    apply wpAny_bind
    refine W.item i s _ _ lt st fun v s' pv st' mv => ?_
    obtain ⟨p, hp, rfl⟩ := val i v pv
    have keep2 := hold mv keep
    have sub : ∀ p ∈ L, p ∈ ks := fun p hp => List.mem_of_mem_take (g.sub p hp)
    have S2 : SetTR P w s'.heap S L es ep t := hS.keep (fun o q => mv.heap S o Sw q) fun q hq => isT_keep (tup q (sub q hq)) keep2
    have tp : L2.IsT P w s'.heap p.2 p.1 := isT_keep (tup p (List.mem_of_getElem? hp)) keep2
    have lL : L.length ≤ Dl.length := by
      have := few_of (L.map (·.2)) Dl hS.nd fun x hx => by
        obtain ⟨q, hq, rfl⟩ := List.mem_map.mp hx
        exact inD q (sub q hq)
      simpa using this
    show wpAny _ A.in1 (holding [Value.ref p.1] (setAdd S (.ref p.1)) >>= _) _ _ s'
    apply wpAny_bind
    apply wpAny_holding
    unfold setAdd
    apply wpAny_holding
    apply wpAny_bind
    refine wpAny_pyHash_tuple room tp ?_
    refine add_at (s := { s' with toks := s'.toks + (p.2.length + 1) }) S2 tp room (by omega) fun b h' L' es' ep' t' sb S3 same more => ?_
    have g2 : Got ks (i + 1) L' := by
      by_cases z : p.2 ∈ L.map (·.2)
      · rw [same z]; exact g.same hp z
      · exact g.more hp (more z)
    have keep3 : ∀ b o, h0.get? b = some o → h'.get? b = some o := by
      intro b o q
      rw [sb.2 b (fun z => by rw [z, free] at q; cases q)]
      exact keep2 b o q
    apply wpAny_pure
    refine ⟨plainId_quiet F.plain_set_update_loop _, ih (i + 1) _ (by omega) lt (W.frame _ s' _ _ st' (Nat.le_add_right _ _) fun b hb o q => ?_) keep3 ⟨L', es', ep', t', S3, g2⟩ fun s'' L2 es2 ep2 t2 mv2 S4 g3 keep4 => ?_⟩
    · rw [sb.2 b (fun z : b = S => off (by rw [← z]; exact hb))]; exact q
    · refine fin s'' L2 es2 ep2 t2 (Moved.trans W.gtrans ((mv.mono wid).then_heap (Nat.le_add_right _ _) fun b o hb q => ?_) mv2) S4 g3 keep4
      rw [sb.2 b (fun z : b = S => hb (by rw [z]; exact List.mem_cons_self))]; exact q
theorem set_of_tups {l : Addr} {items : Array Value} (ks : List (Addr × List Int)) (Dl : List (List Int)) {Q : Value → Shared → Prop} (hh : A.handled = none) (hl : s.heap.IsList l items) (hit : items.toList = ks.map fun p => Value.ref p.1)
    (tup : ∀ p ∈ ks, L2.IsT P w s.heap p.2 p.1) (small : Dl.length < 63) (inD : ∀ p ∈ ks, p.2 ∈ Dl) (room : A.units + 3 < cLine)
    (h : ∀ (h' : Heap) (tk : Nat) L es ep t, SetTR P w h' s.heap.objs.size L es ep t → Got ks ks.length L → (∀ b o, s.heap.get? b = some o → h'.get? b = some o) → Q (.ref s.heap.objs.size) { s with heap := h', toks := tk }) :
    wpAny (model P w) A (call (.type "set") [.ref l]) Q E s := by
  have cnt : items.size = ks.length := by simpa using congrArg List.length hit
  obtain ⟨c, tl, hmro⟩ := F.called_set.mro
  have hmade := F.called_set.made
  have hsub := F.called_set.sub
  apply wpAny_call
  apply codeAny_of_tree
  show wpAny _ _ (callAny (.type "set") _) _ _ _
  apply wpAny_pure
  refine ⟨Code.quiet_builtin _ (by decide +kernel), ?_⟩
  apply codeAny_builtin F.entry_type_call
  rw [Around.under_plain (weight_type_call_type "set" [.ref l] []) rfl]
  have h1 := F.called_set.notType
  have h2 := F.called_set.canCreate
  have hct := F.typeCall_set_1 (.ref l)
  repeat (any_goals (first | assumption | wp_step))
  refine codeAny_mono (code_set_led1 (.ref l) (E := E) (Q₁ := fun ob s1 => ob = .ref s.heap.objs.size ∧ s1 = { s with heap := s.heap.push (void w) }) ⟨rfl, rfl⟩) ?_
  intro r s1 hr
  cases r with
  | error e => exact hr
  | ok fl =>
    cases fl with
    | ret ob =>
      obtain ⟨rfl, rfl⟩ := hr
      have hS : (s.heap.push (void w)).get? s.heap.objs.size = some (void w) := Heap.get?_push_size _ rfl
      have hT : Shared.TypeIs { s with heap := s.heap.push (void w) } (.ref s.heap.objs.size) "set" := ⟨_, hS, rfl⟩
      have hli := F.called_set.init.lookup
      have hbi := F.called_set.init.bind (.ref s.heap.objs.size)
      repeat (any_goals (first | assumption | wp_step))
      refine codeAny_mono (codeAny_call_builtin (R := wants (fun r s2 => r = .none ∧ ∃ h' tk L es ep t, s2 = { s with heap := h', toks := tk } ∧ SetTR P w h' s.heap.objs.size L es ep t ∧ Got ks ks.length L ∧
          ∀ b o, s.heap.get? b = some o → h'.get? b = some o) E) F.called_set.init.plain F.entry_set_init (check_set_init_1 hT ?_)) ?_
      · obtain ⟨ol, hol, hcl, nl, hdl⟩ := hl
        obtain ⟨ocls, odict, odata, oslots⟩ := ol
        simp only at hcl hdl
        subst hcl
        subst hdl
        have hol1 : (s.heap.push (void w)).get? l = some { cls := .type "list", dict := odict, data := .seq items nl, slots := oslots } := Heap.get?_push_of_some _ hol
        have hsls := F.sub_list_set
        have hslf := F.sub_list_frozenset
        have hne : (Value.type "list" == Value.type "dict") = false := by decide
        have hl1 : (s.heap.push (void w)).IsList l items := ⟨_, hol1, rfl, nl, rfl⟩
        unfold Builtin.«set.__init__» noKeywords Builtin.Frozenset.updateFrom
        generalize hPI : pyIter = PI
        wp_walk
        subst hPI
        refine wpAny_pyIter_list hl1 ?_
        refine wpAny_bind (wpAny_runValue ?_)
        have lt : l < s.heap.objs.size := Heap.lt_size hol
        have calm3 : A.in1.in1.in1.handled = none := by simp [hh]
        have sz : (s.heap.push (void w)).objs.size = s.heap.objs.size + 1 := Heap.size_push ..
        have apart : l ≠ (s.heap.push (void w)).objs.size := by rw [sz]; exact Nat.ne_of_lt (Nat.lt_succ_of_lt lt)
        have free : s.heap.objs.size ∉ [(s.heap.push (void w)).objs.size, l] := by
          rw [sz]
          simp only [List.mem_cons, List.not_mem_nil, or_false, not_or]
          exact ⟨Nat.ne_of_lt (Nat.lt_succ_self _), Nat.ne_of_gt lt⟩
        have val : ∀ (i : Nat) (v : Value), items[i]? = some v → ∃ p, ks[i]? = some p ∧ v = .ref p.1 := by
          intro i v hv
          have q : items.toList[i]? = some v := by rw [Array.getElem?_toList]; exact hv
          rw [hit, List.getElem?_map] at q
          cases hq : ks[i]? with
          | none => rw [hq] at q; cases q
          | some p => rw [hq] at q; cases q; exact ⟨p, rfl, rfl⟩
        have void_of : ∀ b, s.heap.objs.size ≤ b → s.heap.get? b = none := by
          intro b hb
          cases q : s.heap.get? b with
          | none => rfl
          | some o => exact absurd (Nat.lt_of_lt_of_le (Heap.lt_size q) hb) (Nat.lt_irrefl _)
        refine take_all ((Walks.list calm3 _ l apart items).toS) s.heap.objs.size free ks cnt Dl small inD val s.heap tup (void_of _ (Nat.le_refl _)) (fun b hb => void_of b ?_) room (items.size - 0) 0 _ (by omega) (Nat.zero_le _)
          ⟨⟨_, Heap.get?_push_size _ rfl, rfl, rfl⟩, (hl1.push _)⟩ (fun b o q => Heap.get?_push_of_some _ (Heap.get?_push_of_some _ q)) ?hA ?hB
        case hA =>
          refine ⟨[], #[], 0, _, setTR_fresh ?_, Got.zero ks⟩
          exact Heap.get?_push_of_some _ hS
        case hB =>
          intro s' L es ep t mv hS' g keep
          obtain ⟨h', g2, d', tk', os'⟩ := s'
          obtain rfl : g2 = s.gens := mv.gens
          obtain rfl : d' = s.drawn := mv.drawn
          obtain rfl : os' = s.os := mv.os
          show wpAny _ _ _ _ _ _
          apply wpAny_pure
          show wpAny _ _ (ret Value.none) _ _ _
          rw [cnt] at g
          exact wpAny_pure ⟨rfl, h', tk', L, es, ep, t, rfl, hS', g, keep⟩
        · rw [List.mem_singleton.mp hb, sz]
          exact Nat.le_succ _
      · intro r2 s2 hr2
        cases r2 with
        | error e => exact hr2
        | ok fl2 =>
          cases fl2 with
          | ret v2 =>
            obtain ⟨rfl, h', tk, L, es, ep, t, rfl, hS', g, keep⟩ := hr2
            repeat (any_goals (first | assumption | wp_step))
            exact h _ _ _ _ _ _ hS' g keep
          | _ => exact hr2.elim
    | _ => exact hr.elim
end
end DLSetT
end PySem

set_option maxHeartbeats 4000000
namespace DL
open PySem PySem.Spec PyProof.Rows L2
/-! ## the order of tuples of ints -/
abbrev lx (a b : List Int) : Bool := HT.lexLt a b
theorem lx_irr : ∀ a : List Int, lx a a = false
  | [] => rfl
  | x :: a => by show (if x = x then HT.lexLt a a else _) = false; rw [if_pos rfl]; exact lx_irr a
theorem lx_tr : ∀ {a b c : List Int}, lx a b = true → lx b c = true → lx a c = true
  | [], [], _, h, _ => nomatch h
  | [], _ :: _, [], _, h => nomatch h
  | [], _ :: _, _ :: _, _, _ => rfl
  | _ :: _, [], _, h, _ => nomatch h
  | _ :: _, _ :: _, [], _, h => nomatch h
  | x :: a, y :: b, z :: c, h1, h2 => by
    have h1 : (if x = y then HT.lexLt a b else decide (x < y)) = true := h1
    have h2 : (if y = z then HT.lexLt b c else decide (y < z)) = true := h2
    show (if x = z then HT.lexLt a c else decide (x < z)) = true
    by_cases e1 : x = y
    · rw [if_pos e1] at h1
      by_cases e2 : y = z
      · rw [if_pos e2] at h2
        rw [if_pos (e1.trans e2)]
        exact lx_tr h1 h2
      · rw [if_neg e2] at h2
        rw [if_neg (by rw [e1]; exact e2), e1]
        exact h2
    · rw [if_neg e1, decide_eq_true_eq] at h1
      by_cases e2 : y = z
      · rw [if_neg (by omega), decide_eq_true_eq]
        omega
      · rw [if_neg e2, decide_eq_true_eq] at h2
        rw [if_neg (by omega), decide_eq_true_eq]
        omega
theorem lx_tri : ∀ {a b : List Int}, lx a b = false → lx b a = false → a = b
  | [], [], _, _ => rfl
  | [], _ :: _, h, _ => nomatch h
  | _ :: _, [], _, h => nomatch h
  | x :: a, y :: b, h1, h2 => by
    have h1 : (if x = y then HT.lexLt a b else decide (x < y)) = false := h1
    have h2 : (if y = x then HT.lexLt b a else decide (y < x)) = false := h2
    by_cases e : x = y
    · subst e
      rw [if_pos rfl] at h1 h2
      rw [lx_tri h1 h2]
    · rw [if_neg e, decide_eq_false_iff_not] at h1
      rw [if_neg (fun z => e z.symm), decide_eq_false_iff_not] at h2
      omega
def insL (n : List Int) : List (List Int) → List (List Int)
  | [] => [n]
  | m :: r => bif lx n m then n :: m :: r else bif lx m n then m :: insL n r else m :: r
def ssetL : List (List Int) → List (List Int)
  | [] => []
  | n :: ns => insL n (ssetL ns)
theorem insL_mem (n k : List Int) : ∀ l, k ∈ insL n l ↔ k = n ∨ k ∈ l
  | [] => by simp [insL]
  | m :: r => by
    unfold insL
    have h := insL_mem n k r
    cases h1 : lx n m
    · cases h2 : lx m n
      · have := lx_tri h1 h2
        subst this
        simp
      · simp only [cond_false, cond_true, List.mem_cons, h]
        constructor
        · rintro (h | h | h) <;> simp [h]
        · rintro (h | h | h) <;> simp [h]
    · simp
theorem insL_sorted (n : List Int) : ∀ l, l.Pairwise (fun a b => lx a b = true) → (insL n l).Pairwise (fun a b => lx a b = true)
  | [], _ => by simp [insL]
  | m :: r, h => by
    unfold insL
    rw [List.pairwise_cons] at h
    cases h1 : lx n m
    · cases h2 : lx m n
      · exact List.pairwise_cons.mpr h
      · refine List.pairwise_cons.mpr ⟨fun k hk => ?_, insL_sorted n r h.2⟩
        rcases (insL_mem n k r).mp hk with z | z
        · subst z; exact h2
        · exact h.1 k z
    · refine List.pairwise_cons.mpr ⟨fun k hk => ?_, List.pairwise_cons.mpr h⟩
      rcases List.mem_cons.mp hk with z | z
      · subst z; exact h1
      · exact lx_tr h1 (h.1 k z)
theorem ssetL_sorted : ∀ l, (ssetL l).Pairwise (fun a b => lx a b = true)
  | [] => .nil
  | n :: r => insL_sorted n _ (ssetL_sorted r)
theorem ssetL_mem (k : List Int) : ∀ l, k ∈ ssetL l ↔ k ∈ l
  | [] => by simp [ssetL]
  | n :: r => by
    show k ∈ insL n (ssetL r) ↔ _
    rw [insL_mem, ssetL_mem k r, List.mem_cons]
theorem sorted_oneL : ∀ {a b : List (List Int)}, a.Pairwise (fun a b => lx a b = true) → b.Pairwise (fun a b => lx a b = true) → (∀ k, k ∈ a ↔ k ∈ b) → a = b
  | [], [], _, _, _ => rfl
  | [], y :: b, _, _, h => absurd ((h y).mpr List.mem_cons_self) (by simp)
  | x :: a, [], _, _, h => absurd ((h x).mp List.mem_cons_self) (by simp)
  | x :: a, y :: b, ha, hb, h => by
    rw [List.pairwise_cons] at ha hb
    have no : ∀ {u v : List Int}, lx u v = true → lx v u = true → False := fun h1 h2 => by
      have := lx_tr h1 h2
      rw [lx_irr] at this
      cases this
    have e : x = y := by
      rcases List.mem_cons.mp ((h x).mp List.mem_cons_self) with z | z
      · exact z
      · rcases List.mem_cons.mp ((h y).mpr List.mem_cons_self) with q | q
        · exact q.symm
        · exact (no (ha.1 y q) (hb.1 x z)).elim
    subst e
    have nx : x ∉ a := fun m => by have := ha.1 x m; rw [lx_irr] at this; cases this
    have ny : x ∉ b := fun m => by have := hb.1 x m; rw [lx_irr] at this; cases this
    have t : a = b := sorted_oneL ha.2 hb.2 fun k => by
      have q := h k
      simp only [List.mem_cons] at q
      constructor
      · intro m
        rcases q.mp (.inr m) with z | z
        · subst z; exact absurd m nx
        · exact z
      · intro m
        rcases q.mpr (.inr m) with z | z
        · subst z; exact absurd m ny
        · exact z
    rw [t]
theorem code_lx {B : Int} : ∀ {a b : List Int}, a.length = b.length → TS.Bd B a → TS.Bd B b → TS.code B a ≤ TS.code B b → a ≠ b → lx a b = true
  | [], [], _, _, _, _, n => absurd rfl n
  | [], _ :: _, h, _, _, _, _ => nomatch h
  | _ :: _, [], h, _, _, _, _ => nomatch h
  | x :: a, y :: b, hl, ha, hb, hc, n => by
    have hl2 : a.length = b.length := by simpa using hl
    show (if x = y then HT.lexLt a b else decide (x < y)) = true
    by_cases e : x = y
    · subst e
      rw [if_pos rfl]
      refine code_lx hl2 ha.tail hb.tail ?_ (fun z => n (by rw [z]))
      rcases Int.lt_or_le (TS.code B b) (TS.code B a) with z | z
      · have := (TS.code_same (B := B) (d := x) (r := b) (q := a) hl2.symm).mpr z
        omega
      · exact z
    · rw [if_neg e, decide_eq_true_eq]
      rcases Int.lt_or_le y x with z | z
      · have := TS.code_lt (B := B) hl2.symm hb.tail ha.tail z
        omega
      · omega
def tupsI : List D → Option (List (List Int))
  | [] => some []
  | .tup xs :: r => match intsOf xs, tupsI r with
    | some a, some b => some (a :: b)
    | _, _ => none
  | _ :: _ => none
def tupsOk (L : List (List Int)) : Bool := (match L with | [] => true | a :: _ => decide (1 ≤ a.length) && L.all fun b => decide (b.length = a.length)) && (L.all fun b => b.all fun x => decide (0 ≤ x)) && decide ((ssetL L).length < 63)
theorem bound_of : ∀ L : List (List Int), (∀ b ∈ L, ∀ x ∈ b, 0 ≤ x) → ∃ B : Int, ∀ b ∈ L, TS.Bd B b
  | [], _ => ⟨0, fun b h => nomatch h⟩
  | a :: L, h => by
    obtain ⟨B, hB⟩ := bound_of L fun b hb => h b (List.mem_cons_of_mem _ hb)
    have one : ∀ a : List Int, ∃ C : Int, ∀ x ∈ a, x < C := by
      intro a
      induction a with
      | nil => exact ⟨0, fun x h => nomatch h⟩
      | cons y a ih =>
        obtain ⟨C, hC⟩ := ih
        refine ⟨max C (y + 1), fun x hx => ?_⟩
        rcases List.mem_cons.mp hx with rfl | hx
        · omega
        · have := hC x hx; omega
    obtain ⟨C, hC⟩ := one a
    refine ⟨max B C, fun b hb => ?_⟩
    rcases List.mem_cons.mp hb with rfl | hb
    · exact fun x hx => ⟨h b List.mem_cons_self x hx, by have := hC x hx; omega⟩
    · exact fun x hx => ⟨(hB b hb x hx).1, by have := (hB b hb x hx).2; omega⟩
section
variable {X : Cx} {W : WX} {e a b c : Expr} {es : List Expr} {pos p : Pos} {K : PySem.W.Frag} {ι : List Addr} {F H : Hp} {S : Store} {mg : Str → Option Value}
theorem tupsI_ok : ∀ {xs : List D} {vs : List V} {L : List (List Int)}, WdA K F vs xs → tupsI xs = some L → ∃ ks : List (Addr × List Int), vs = ks.map (fun p => V.ref p.1) ∧ ks.map (·.2) = L ∧ ∀ p ∈ ks, SqT K F p.1 (p.2.map V.int) ∧ Wd K F (.ref p.1) (.tup (p.2.map .int))
  | [], _, _, .nil, e => by cases e; exact ⟨[], rfl, rfl, fun p h => nomatch h⟩
  | d :: xs, _, L, .cons w ws, e => by
    cases w with
    | tup s u =>
      rename_i a us ds
      simp only [tupsI] at e
      split at e
      · rename_i ns r e1 e2
        cases e
        obtain ⟨ks, h1, h2, h3⟩ := tupsI_ok ws e2
        have ev := intsOf_ok u e1
        have ed : ds = ns.map .int := by
          clear h1 h2 h3 s u ev e2 ws
          induction ds generalizing ns with
          | nil => cases e1; rfl
          | cons d ds ih =>
            cases d <;> simp only [intsOf] at e1 <;> try cases e1
            cases q : intsOf ds with
            | none => rw [q] at e1; cases e1
            | some b => rw [q] at e1; cases e1; rw [ih b q]; rfl
        subst ev
        subst ed
        refine ⟨(a, ns) :: ks, by rw [h1]; rfl, by rw [← h2]; rfl, fun p hp => ?_⟩
        rcases List.mem_cons.mp hp with rfl | hp
        · exact ⟨s, .tup s u⟩
        · exact h3 p hp
      · cases e
    | _ => cases e
def rSetT2 (K : PySem.W.Frag) (P : Program) (w : World) : List V → Hp → VK → Prop := fun xs H Q => ∃ (l : Addr) (ks : List (Addr × List Int)) (Dl : List (List Int)), xs = [V.ref l] ∧ SqL K H l (ks.map fun p => V.ref p.1) ∧ (∀ p ∈ ks, SqT K H p.1 (p.2.map V.int)) ∧ Dl.length < 63 ∧ (∀ p ∈ ks, p.2 ∈ Dl) ∧
  ∀ a L, H a = none → (∀ p ∈ L, p ∈ ks) → (∀ p ∈ ks, p.2 ∈ L.map (·.2)) → Q (.ref a) (upd H a (SetTO P w a L))
theorem cr_setT2 (hc : X.calm = true) (hu : X.A.units + 64 < cLine) : CallR X (.type "set") (rSetT2 X.K X.prog X.w) := by
  intro pins s σ H xs us Q I r h
  obtain ⟨l, ks, Dl, rfl, hl, hk, hf, hD, q⟩ := h
  rw [Vals.ref1 r]
  obtain ⟨its, rv, pl, hz⟩ := I.list hl
  have new : H s.heap.objs.size = none := I.hok.fresh (Nat.le_refl _)
  apply PySem.DLSetT.set_of_tups (P := X.prog) (w := X.w) ks Dl (I.ok.hd hc) pl.isList (by simpa using refs_of_vals rv) (fun p hp => I.isT (hk p hp)) hf hD (by omega)
  intro h' tk L es ep t R g k
  refine ⟨.ref s.heap.objs.size, upd H s.heap.objs.size (SetTO X.prog X.w s.heap.objs.size L), ?_, rfl, q _ L new (fun p hp => List.mem_of_mem_take (g.sub p hp)) fun p hp => g.all p (by rw [List.take_length]; exact hp)⟩
  exact I.laid (t' := tk) k (Nat.le_refl _) (setTO_new R.t0)
def sortT (x : DV) (S : Store) : Res (List D) := match rd S x with
  | some (.lst xs) => (match tupsI xs with
    | some L => if tupsOk L = true then .ok ((ssetL L).map fun l => .tup (l.map .int)) S else .bad
    | none => .bad)
  | _ => .bad
def lSortSetT (f : XFn) : LFn := fun ρ S => (f ρ S).bind sortT
theorem ne_sortSetT {f : XFn} {p2 p3 : Pos} (hc : X.calm = true) (hu : X.A.units + 64 < cLine) (h : DE X W a f) (hm : X.mg "sorted" = none) (hm2 : X.mg "set" = none) (hg : Gl X "sorted" := by rfl) (hg2 : Gl X "set" := by rfl)
    (he : starEach (a :: []) X.env = (false, eval a X.env) :: starEach [] X.env := by rfl)
    (he2 : starEach (.Call (.Name "set" p2) [a] [] p3 :: []) X.env = (false, eval (.Call (.Name "set" p2) [a] [] p3) X.env) :: starEach [] X.env := by rfl) :
    NE X W (.Call (.Name "sorted" p) [.Call (.Name "set" p2) [a] [] p3] [] pos) (lSortSetT f) := by
  refine ⟨PE.weak (pe_callB (cr_sortedT hc) hg hm (by decide +kernel) (pa_cons (pe_callTy (cr_setT2 hc hu) hg2 hm2 (by decide +kernel) (pa_cons h.pe pa_nil he) (by decide) (by decide) he rfl) pa_nil he2) (by decide) (by decide) he2 rfl) fun σ H Q ⟨ι, F, ρ, S, r, h⟩ => ?_⟩
  refine tD.bind (g := fun _ => sortT) r h fun v dv ι1 F1 S1 H1 r1 w1 g1 h1 => ?_
  unfold sortT at h1
  cases ed : rd S1 dv with
  | none => simp only [ed] at h1; exact h1.elim
  | some d =>
    have vw := r1.st.vw w1 ed
    cases vw with
    | lst s w =>
      rename_i p0 vs xs
      simp only [ed] at h1
      cases ei : tupsI xs with
      | none => simp only [ei] at h1; exact h1.elim
      | some L =>
        simp only [ei] at h1
        by_cases hl : tupsOk L = true
        · simp only [hl, if_true] at h1
          obtain ⟨ks, rfl, hL, hk⟩ := tupsI_ok w ei
          unfold tupsOk at hl
          simp only [Bool.and_eq_true, List.all_eq_true, decide_eq_true_eq] at hl
          obtain ⟨⟨l1, l2⟩, l3⟩ := hl
          obtain ⟨B, hB⟩ := bound_of L l2
          have mem : ∀ p ∈ ks, p.2 ∈ L := fun p hp => by rw [← hL]; exact List.mem_map_of_mem hp
          refine ⟨p0, ks, ssetL L, rfl, .of s, fun p hp => sameT r1.st.sub (hk p hp).1, l3, fun p hp => (ssetL_mem _ _).mpr (mem p hp), fun a L1 ha sub all => ?_⟩
          obtain ⟨d0, hd0, hlen⟩ : ∃ d0 : Nat, 1 ≤ d0 ∧ ∀ b ∈ L, b.length = d0 := by
            cases L with
            | nil => exact ⟨1, Nat.le_refl _, fun b h => nomatch h⟩
            | cons x L' =>
              simp only [Bool.and_eq_true, decide_eq_true_eq, List.all_eq_true] at l1
              exact ⟨x.length, l1.1, fun b hb => l1.2 b hb⟩
          have sm : Same H1 (upd H1 a (SetTO X.prog X.w a L1)) := fun b u q => by rw [upd_ne (ne_of_none q ha)]; exact q
          refine ⟨a, L1, d0, B, rfl, upd_same, fun p hp => sameT sm (sameT r1.st.sub (hk p (sub p hp)).1), hd0, fun p hp => ⟨hlen _ (mem p (sub p hp)), hB _ (mem p (sub p hp))⟩, fun L2 p' pm nd few pw hp' => ?_⟩
          have in2 : ∀ q ∈ L2, q ∈ ks := fun q hq => sub q (pm.mem_iff.mp hq)
          have eL : L2.map (·.2) = ssetL L := by
            refine sorted_oneL ?_ (ssetL_sorted L) fun k => ?_
            · rw [List.pairwise_map]
              have nd2 : L2.Pairwise (fun a b => a.2 ≠ b.2) := by
                have := nd
                rw [List.Nodup, List.pairwise_map] at this
                exact this
              refine List.Pairwise.imp_of_mem (fun {x y} hx hy hxy => ?_) (List.Pairwise.and pw nd2)
              have h1 := mem x (in2 x hx)
              have h2 := mem y (in2 y hy)
              exact code_lx (by rw [hlen _ h1, hlen _ h2]) (hB _ h1) (hB _ h2) hxy.1 hxy.2
            · rw [ssetL_mem, ← hL]
              constructor
              · intro m
                obtain ⟨q, hq, rfl⟩ := List.mem_map.mp m
                exact List.mem_map_of_mem (in2 q hq)
              · intro m
                obtain ⟨q, hq, rfl⟩ := List.mem_map.mp m
                obtain ⟨q', hq', e⟩ := List.mem_map.mp (all q hq)
                exact List.mem_map.mpr ⟨q', pm.mem_iff.mpr hq', e⟩
          have wd : WdA X.K F1 (L2.map fun q => V.ref q.1) ((ssetL L).map fun l => D.tup (l.map .int)) := by
            rw [← eL]
            have : ∀ M : List (Addr × List Int), (∀ q ∈ M, q ∈ ks) → WdA X.K F1 (M.map fun q => V.ref q.1) ((M.map (·.2)).map fun l => D.tup (l.map .int)) := by
              intro M
              induction M with
              | nil => intro _; exact .nil
              | cons q M ih => intro hM; exact .cons (hk q (hM q List.mem_cons_self)).2 (ih fun z hz => hM z (List.mem_cons_of_mem _ hz))
            exact this L2 in2
          have st2 := r1.st.alone ha (SetTO X.prog X.w a L1)
          exact ne_new st2 (g1.trans (grow_alone ha _)) (Post.grow (r := Res.ok _ S1) h1 (grow_alone ha _)) wd hp'
        · simp only [hl, if_false] at h1; exact h1.elim
    | _ => simp only [ed] at h1; exact h1.elim
end
end DL

set_option maxHeartbeats 4000000
namespace DL
open PySem PySem.Spec PyProof.Rows L2
section
variable {X : Cx} {W : WX} {e a b c : Expr} {es : List Expr} {pos p : Pos} {K : PySem.W.Frag} {ι : List Addr} {F H : Hp} {S : Store} {mg : Str → Option Value}
/-! ## while -/
def whIn (k : Slots → Store → RS) (ρ : Slots) (r : RS) : RS := match r with
  | .nx ρ2 S2 => k ρ2 S2
  | .ct ρ2 S2 => k ρ2 S2
  | .bk ρ2 S2 => .nx ρ2 S2
  | r => r
def whGo (t : TFn) (f : SFn) : Nat → Slots → Store → RS
  | 0, _, _ => .bad
  | n + 1, ρ, S => (t ρ S).bindS ρ fun b S1 => if b then whIn (whGo t f n) ρ (f ρ S1) else .nx ρ S1
def sWhile (t : TFn) (f : SFn) : SFn := whGo t f 1000
theorem ds_while {t : TFn} {f : SFn} {body : List Stmt} (hp : PassesOwn (model X.prog X.w) X.A X.env X.xe) (hc : DT X W c t) (hb : DSs X W body f) : DS X W (.While c body [] pos) (sWhile t f) := by
  obtain ⟨tb, pb, kb⟩ := hb.ps
  refine ⟨_, ps_while hp hc.pt pb, fun D σ H ⟨ι, F, ρ, S, r, h⟩ => ?_⟩
  refine ⟨fun m σ H => ∃ ι F ρ S, RR X.K ι F ρ S σ H ∧ PostS X.K X.mg W ι F H (whGo t f m ρ S) D, ⟨1000, ι, F, ρ, S, r, h⟩, ?_⟩
  rintro m σ1 H1 ⟨ι1, F1, ρ1, S1, r1, h1⟩
  cases m with
  | zero => exact h1.elim
  | succ m =>
    refine tT.bindS (g := fun ρ b S1 => if b then whIn (whGo t f m) ρ (f ρ S1) else .nx ρ S1) r1 h1 fun b ι2 F2 S2 H2 r2 g2 h2 => ?_
    cases b with
    | false =>
      rw [if_neg (by simp)]
      simp only [Bool.false_eq_true, if_false] at h2
      exact h2 σ1 ι2 F2 H2 .refl r2
    | true =>
      rw [if_pos rfl]
      simp only [if_true] at h2
      refine ⟨_, fun σ' H' w => ⟨m, Nat.lt_succ_self _, w⟩, kb _ _ _ ⟨ι2, F2, ρ1, S2, r2, ?_⟩⟩
      unfold whIn at h2
      cases q : f ρ1 S2 with
      | nx ρ3 S3 => rw [q] at h2; exact fun σ3 ι3 F3 H3 g3 r3 => ⟨ι3, F3, ρ3, S3, r3, PostS.grow (r := whGo t f m ρ3 S3) h2 g3⟩
      | ct ρ3 S3 => rw [q] at h2; exact fun σ3 ι3 F3 H3 g3 r3 => ⟨ι3, F3, ρ3, S3, r3, PostS.grow (r := whGo t f m ρ3 S3) h2 g3⟩
      | bk ρ3 S3 => rw [q] at h2; exact h2
      | rt v S3 => rw [q] at h2; exact h2
      | ex cc ρ3 S3 => rw [q] at h2; exact h2
      | bad => rw [q] at h2; exact h2
theorem whGo_more {t : TFn} {f : SFn} : ∀ {n : Nat} {ρ : Slots} {S : Store} {r : RS}, whGo t f n ρ S = r → r ≠ .bad → ∀ m, n ≤ m → whGo t f m ρ S = r
  | 0, ρ, S, r, h, hr, m, _ => absurd h.symm hr
  | n + 1, ρ, S, r, h, hr, 0, hm => by omega
  | n + 1, ρ, S, r, h, hr, m + 1, hm => by
    rw [← h]
    simp only [whGo] at h ⊢
    cases q : t ρ S with
    | ok b S1 =>
      rw [q] at h
      simp only [Res.bindS_ok] at h ⊢
      cases b with
      | false => rfl
      | true =>
        simp only [if_true] at h ⊢
        cases q2 : f ρ S1 with
        | nx ρ2 S2 => rw [q2] at h; simp only [whIn] at h ⊢; rw [h]; exact whGo_more h hr m (by omega)
        | ct ρ2 S2 => rw [q2] at h; simp only [whIn] at h ⊢; rw [h]; exact whGo_more h hr m (by omega)
        | _ => rfl
    | ex c S1 => rfl
    | bad => rfl
theorem sWhile_of {t : TFn} {f : SFn} {n : Nat} {ρ : Slots} {S : Store} {r : RS} (h : whGo t f n ρ S = r) (hr : r ≠ .bad) (hn : n ≤ 1000) : sWhile t f ρ S = r := whGo_more h hr 1000 hn
/-! ## a live list walked by a for -/
def cellN (S : Store) (k n : Nat) : Option (List D) := match S[k]? with
  | some (some c) => if c.length = n then some c else none
  | _ => none
def forGoO (g : GFn) (f : SFn) (k n : Nat) : Nat → Slots → Store → RS
  | 0, ρ, S => match cellN S k n with
    | some _ => .nx ρ S
    | none => .bad
  | m + 1, ρ, S => match cellN S k n with
    | none => .bad
    | some c => match c[n - (m + 1)]? with
      | none => .bad
      | some d => match g d ρ with
        | none => .bad
        | some ρ1 => (match f ρ1 S with
          | .nx ρ2 S2 => forGoO g f k n m ρ2 S2
          | .ct ρ2 S2 => forGoO g f k n m ρ2 S2
          | .bk ρ2 S2 => .nx ρ2 S2
          | r => r)
def forO (g : GFn) (f : SFn) (x : DV) : SFn := fun ρ S => match x with
  | .obj k => (match S[k]? with
    | some (some c) => forGoO g f k c.length c.length ρ S
    | _ => .bad)
  | _ => .bad
def sForO (e : XFn) (g : GFn) (f : SFn) : SFn := fun ρ S => (e ρ S).bindS ρ fun x S1 => forO g f x ρ S1
theorem cellN_at {k n : Nat} {c : List D} (h : cellN S k n = some c) : S[k]? = some (some c) ∧ c.length = n := by
  unfold cellN at h
  split at h
  · rename_i c' q
    split at h
    · rename_i hl; cases h; exact ⟨q, hl⟩
    · cases h
  · cases h
theorem forGoO_nx {g : GFn} {f : SFn} {k n m : Nat} {ρ ρ1 ρ2 : Slots} {S2 : Store} {c : List D} {d : D} (h1 : cellN S k n = some c) (h2 : c[n - (m + 1)]? = some d) (h3 : g d ρ = some ρ1) (h4 : f ρ1 S = .nx ρ2 S2) : forGoO g f k n (m + 1) ρ S = forGoO g f k n m ρ2 S2 := by
  simp only [forGoO, h1, h2, h3, h4]
theorem forGoO_end {g : GFn} {f : SFn} {k n : Nat} {ρ : Slots} {c : List D} (h1 : cellN S k n = some c) : forGoO g f k n 0 ρ S = .nx ρ S := by
  simp only [forGoO, h1]
theorem cell_ref {k : Nat} {a : Addr} {c : List D} (st : StR K ι F S H) (e : S[k]? = some (some c)) (ha : ι[k]? = some a) : ∃ vs, H a = some (.lst vs) ∧ WdA K F vs c := by
  obtain ⟨a', vs, h3, h4, h5, h6⟩ := st.cell _ _ e
  rw [ha] at h3; cases h3
  exact ⟨vs, h4, h6⟩
theorem forGoO_cell {g : GFn} {f : SFn} {k n m : Nat} {ρ : Slots} (h : forGoO g f k n m ρ S ≠ .bad) : ∃ c, S[k]? = some (some c) ∧ c.length = n := by
  cases q : cellN S k n with
  | none => exact absurd (by cases m <;> simp only [forGoO, q]) h
  | some c => exact ⟨c, cellN_at q⟩
theorem PostS.nbad {W : WX} {r : RS} {D : Ends} (h : PostS K mg W ι F H r D) : r ≠ .bad := fun e => by rw [e] at h; exact h.elim
theorem pre_at {ι ι' : List Addr} {k : Nat} {a : Addr} (h : ι <+: ι') (e : ι[k]? = some a) : ι'[k]? = some a := by
  obtain ⟨t, rfl⟩ := h
  rw [List.getElem?_append_left (List.getElem?_eq_some_iff.mp e).1]
  exact e
theorem ds_forO {iter tg : Expr} {body : List Stmt} {l : XFn} {sl : List Nat} {g : GFn} {f : SFn} (hp : PassesOwn (model X.prog X.w) X.A X.env X.xe) (hc : X.calm = true) (hi : DE X W iter l) (hg : DG X tg sl g) (hb : DSs X W body f)
    (hs : ∀ x, foldedSetIterable iter X.env x = pure x := by intro _; rfl) : DS X W (.For tg iter body [] pos) (sForO l g f) := by
  obtain ⟨tg', pg, kg⟩ := hg.pg
  obtain ⟨tb, pb, kb⟩ := hb.ps
  refine ⟨_, ps_for hp hc (pi_seq hi.pe) pg pb hs, fun D σ H ⟨ι, F, ρ, S, r, h⟩ => ?_⟩
  refine tD.bindS (g := fun ρ x S1 => forO g f x ρ S1) r h fun v dv ι1 F1 S1 H1 r1 w1 g1 h1 => ?_
  cases dv with
  | dat d => exact h1.elim
  | scr ns => exact h1.elim
  | exn c p => exact h1.elim
  | obj k =>
    simp only [forO] at h1
    split at h1
    · rename_i c0 q0
      obtain ⟨a, ha, rfl⟩ := w1
      obtain ⟨vs0, hv0, wv0⟩ := cell_ref r1.st q0 ha
      refine ⟨a, rfl, .inl ⟨⟨vs0, .of hv0⟩, ?_⟩⟩
      generalize hn : c0.length = n at h1
      have w : Walk (Itl X.K a) n (fun H => ∃ vs, SqL X.K H a vs ∧ vs.length = n) (fun i H x H' => H' = H ∧ ∀ vs, SqL X.K H a vs → vs[i]? = some x) := by
        refine ⟨fun i H hi ⟨vs, q, hl⟩ => ?_, fun H ⟨vs, q, hl⟩ => ?_, fun i H x H' hi _ y => ?_⟩
        · subst hl; exact (walk_list (K := X.K)).goes i H hi q
        · subst hl; exact (walk_list (K := X.K)).stops H q
        · exact ⟨y.1, y.2⟩
      refine for_it w (fun i σ' H' => ∃ ι2 F2 ρ2 S2, RR X.K ι2 F2 ρ2 S2 σ' H' ∧ Grow ι1 F1 H1 ι2 F2 H' ∧ PostS X.K X.mg W ι2 F2 H' (forGoO g f k n (n - i) ρ2 S2) D)
        ⟨ι1, F1, ρ, S1, r1, .refl, h1⟩ (fun i σ' H' _ ⟨ι2, F2, ρ2, S2, r2, g2, h2⟩ => ?_) (fun i x σ' H' H2 hi ⟨ι2, F2, ρ2, S2, r2, g2, h2⟩ y => ?_) (fun σ' H' ⟨ι2, F2, ρ2, S2, r2, g2, h2⟩ => ?_)
      · obtain ⟨c, q, hl⟩ := forGoO_cell h2.nbad
        obtain ⟨vs, hv, wv⟩ := cell_ref r2.st q (pre_at g2.pre ha)
        exact ⟨vs, .of hv, by rw [wv.length]; exact hl⟩
      · obtain ⟨c, q, hl⟩ := forGoO_cell h2.nbad
        obtain ⟨vs, hv, wv⟩ := cell_ref r2.st q (pre_at g2.pre ha)
        obtain ⟨rfl, y⟩ := y
        obtain ⟨d, hd, wd⟩ := wv.get (y vs (.of hv))
        obtain ⟨m, hm⟩ : ∃ m, n - i = m + 1 := ⟨n - i - 1, by omega⟩
        have e0 : cellN S2 k n = some c := by simp only [cellN, q, hl, if_true]
        have e3 : c[n - (m + 1)]? = some d := by rw [show n - (m + 1) = i by omega]; exact hd
        rw [hm] at h2
        simp only [forGoO, e0, e3] at h2
        have em : m = n - (i + 1) := by omega
        cases e1 : g d ρ2 with
        | none => simp only [e1] at h2; exact h2.elim
        | some ρ3 =>
          simp only [e1] at h2
          refine kg x σ' H2 _ ι2 F2 ρ2 S2 d ρ3 r2 wd e1 fun σ3 r3' _ => kb _ _ _ ⟨ι2, F2, ρ3, S2, r3', ?_⟩
          cases e2 : f ρ3 S2 with
          | nx ρ4 S4 => simp only [e2] at h2; exact fun σ4 ι4 F4 H4 g4 r4 => ⟨ι4, F4, ρ4, S4, r4, g2.trans g4, em ▸ PostS.grow (r := forGoO g f k n m ρ4 S4) h2 g4⟩
          | ct ρ4 S4 => simp only [e2] at h2; exact fun σ4 ι4 F4 H4 g4 r4 => ⟨ι4, F4, ρ4, S4, r4, g2.trans g4, em ▸ PostS.grow (r := forGoO g f k n m ρ4 S4) h2 g4⟩
          | bk ρ4 S4 => simp only [e2] at h2; exact fun σ4 ι4 F4 H4 g4 r4 => h2 σ4 ι4 F4 H4 g4 r4
          | rt dv S4 => simp only [e2] at h2; exact fun v ι4 F4 H4 g4 st4 w4 => h2 v ι4 F4 H4 g4 st4 w4
          | ex cc ρ4 S4 => simp only [e2] at h2; exact fun C σ4 ι4 F4 H4 g4 r4 mm => h2 C σ4 ι4 F4 H4 g4 r4 mm
          | bad => simp only [e2] at h2; exact h2
      · obtain ⟨c, q, hl⟩ := forGoO_cell h2.nbad
        have e0 : cellN S2 k n = some c := by simp only [cellN, q, hl, if_true]
        rw [Nat.sub_self] at h2
        simp only [forGoO, e0] at h2
        exact h2 σ' ι2 F2 H' .refl r2
    · exact h1.elim
/-! ## a comprehension over a live list -/
def lcGoO (g : GFn) (t : TFn) (f : XFn) (ρ : Slots) (k n : Nat) : Nat → Store → Res (List D)
  | 0, S => match cellN S k n with
    | some _ => .ok [] S
    | none => .bad
  | m + 1, S => match cellN S k n with
    | none => .bad
    | some c => match c[n - (m + 1)]? with
      | none => .bad
      | some d => match g d ρ with
        | none => .bad
        | some ρ1 => (t ρ1 S).bindN fun b S1 => if b then (f ρ1 S1).bindN fun y S2 => (match y with
          | .dat z => (lcGoO g t f ρ k n m S2).bindN fun zs S3 => .ok (z :: zs) S3
          | _ => .bad) else lcGoO g t f ρ k n m S1
def lcO (own : List Nat) (g : GFn) (t : TFn) (f : XFn) (ρ : Slots) (x : DV) (S : Store) : Res (List D) := match x with
  | .obj k => (match S[k]? with
    | some (some c) => if c.length ≤ sizeLine then (match lcGoO g t f (wipeS ρ own) k c.length c.length S with
      | .ok zs S' => .ok zs S'
      | _ => .bad) else .bad
    | _ => .bad)
  | _ => .bad
def lLcO (l : XFn) (own : List Nat) (g : GFn) (t : TFn) (f : XFn) : LFn := fun ρ S => (l ρ S).bind fun x S1 => lcO own g t f ρ x S1
theorem lcGoO_cell {g : GFn} {t : TFn} {f : XFn} {k n m : Nat} {ρ : Slots} {zs : List D} {S0 : Store} (h : lcGoO g t f ρ k n m S = .ok zs S0) : ∃ c, S[k]? = some (some c) ∧ c.length = n ∧ cellN S k n = some c := by
  cases q : cellN S k n with
  | none => cases m <;> simp only [lcGoO, q] at h <;> cases h
  | some c => exact ⟨c, (cellN_at q).1, (cellN_at q).2, rfl⟩
theorem lc_entO {own : List (Str × Nat)} {l : XFn} {g : GFn} {t : TFn} {f : XFn} {sl : List Nat} (hsl : ∀ i ∈ sl, i ∈ own.map (·.2)) {σ : L2.St} {H : Hp} {Q : VK} (h : tN X W (lLcO l (own.map (·.2)) g t f) σ H Q) :
    tLc (iSeq X.K (tD X W l)) (tG X.K sl g) (tT X W0 t) (tD X W0 f) (own.map (·.2)) σ H Q := by
  obtain ⟨ι, F, ρ, S, r, h⟩ := h
  unfold tLc iSeq
  have h : Post X.K X.mg (fun c d H' => W c d σ H') ι F H ((l ρ S).bind ((fun ρ x S1 => lcO (own.map fun x => x.2) g t f ρ x S1) ρ)) _ := h
  refine tD.bind r h fun v dv ι1 F1 S1 H1 r1 w1 g1 h1 => ?_
  cases dv with
  | dat d => exact h1.elim
  | scr ns => exact h1.elim
  | exn c p => exact h1.elim
  | obj k =>
    simp only [lcO] at h1
    split at h1
    case h_2 => exact h1.elim
    rename_i c0 q0
    by_cases hl : c0.length ≤ sizeLine
    case neg => simp only [hl, if_false] at h1; exact h1.elim
    simp only [hl, if_true] at h1
    obtain ⟨a, ha, rfl⟩ := w1
    obtain ⟨vs0, hv0, wv0⟩ := cell_ref r1.st q0 ha
    refine ⟨a, rfl, .inl ⟨⟨vs0, .of hv0⟩, fun D hD => ?_⟩⟩
    generalize hn : c0.length = n at h1 hl
    have w : Walk (Itl X.K a) n (fun H => ∃ vs, SqL X.K H a vs ∧ vs.length = n) (fun i H x H' => H' = H ∧ ∀ vs, SqL X.K H a vs → vs[i]? = some x) := by
      refine ⟨fun i H hi ⟨vs, q, hl⟩ => ?_, fun H ⟨vs, q, hl⟩ => ?_, fun i H x H' hi _ y => ?_⟩
      · subst hl; exact (walk_list (K := X.K)).goes i H hi q
      · subst hl; exact (walk_list (K := X.K)).stops H q
      · exact ⟨y.1, y.2⟩
    cases e0 : lcGoO g t f (wipeS ρ (own.map (·.2))) k n n S1 with
    | bad => rw [e0] at h1; exact h1.elim
    | ex c S2 => rw [e0] at h1; exact h1.elim
    | ok zs0 S0 =>
      rw [e0] at h1
      have st1 := r1.st
      have hF1 : F1 D = none := by
        cases q : F1 D with
        | none => rfl
        | some o => rw [st1.sub D o q] at hD; cases hD
      have hι1 : D ∉ ι1 := fun m => st1.full D m hD
      refine lc_it w (fun i H2 => ∃ ι2 F2 S2 acc avs zs, RR X.K ι2 F2 (wipeS ρ (own.map (·.2))) S2 (L2.wipe σ (own.map (·.2))) H2 ∧ Grow ι1 F1 H1 ι2 F2 H2 ∧ H2 D = some (.lst avs) ∧ F2 D = none ∧ D ∉ ι2 ∧ WdA X.K F2 avs acc ∧ acc.length ≤ i ∧
          lcGoO g t f (wipeS ρ (own.map (·.2))) k n (n - i) S2 = .ok zs S0 ∧ acc ++ zs = zs0)
        ⟨ι1, F1, S1, [], [], zs0, (r1.slots (grow_alone hD _) (st1.alone hD _)).wipe _, grow_alone hD _, upd_same, hF1, hι1, .nil, Nat.le_refl _, e0, rfl⟩
        (fun i H2 _ ⟨ι2, F2, S2, acc, avs, zs, r2, g2, hd, hf, hn, wa, hla, el, ea⟩ => by
          obtain ⟨c, q, hl, _⟩ := lcGoO_cell el
          obtain ⟨vs, hv, wv⟩ := cell_ref r2.st q (pre_at g2.pre ha)
          exact ⟨vs, .of hv, by rw [wv.length]; exact hl⟩) (fun i x H2 H3 hi ⟨ι2, F2, S2, acc, avs, zs, r2, g2, hd, hf, hn, wa, hla, el, ea⟩ y => ?_) (fun H2 ⟨ι2, F2, S2, acc, avs, zs, r2, g2, hd, hf, hn, wa, hla, el, ea⟩ => ?_)
      · obtain ⟨c, q, hlc, hcn⟩ := lcGoO_cell el
        obtain ⟨vs, hv, wv⟩ := cell_ref r2.st q (pre_at g2.pre ha)
        obtain ⟨e23, y⟩ := y
        have e23 := e23.symm
        subst e23
        obtain ⟨d, hdi, wd⟩ := wv.get (y vs (.of hv))
        have g3 : Grow ι2 F2 H2 ι2 F2 H2 := .refl
        have st3 := r2.st
        obtain ⟨m, hm⟩ : ∃ m, n - i = m + 1 := ⟨n - i - 1, by omega⟩
        have e3 : c[n - (m + 1)]? = some d := by rw [show n - (m + 1) = i by omega]; exact hdi
        have em : m = n - (i + 1) := by omega
        have keepD : ∀ {ι' F' H'} , Grow ι2 F2 H2 ι' F' H' → H' D = some (.lst avs) ∧ F' D = none ∧ D ∉ ι' := fun gg => ⟨gg.keep D _ hd hn, gg.new D _ hd hf hn, fun m => by
          rcases gg.nio D m with z | z
          · exact hn z
          · rw [hd] at z; cases z⟩
        rw [hm] at el
        simp only [lcGoO, hcn, e3] at el
        rw [em] at el
        have r3 := r2.slots g3 st3
        cases e1 : g d (wipeS ρ (own.map (·.2))) with
        | none => simp only [e1] at el; cases el
        | some ρ3 =>
          simp only [e1] at el
          refine ⟨ι2, F2, _, S2, d, ρ3, r3, wd, e1, fun σ3 r3' o3 => ⟨?_, ?_⟩⟩
          · have hw := o3 (own.map (·.2)) hsl
            rw [hw]
            have idem : ∀ vs : List Nat, ∀ σ : L2.St, (∀ i ∈ vs, σ[i]? = none ∨ σ[i]? = some none) → L2.wipe σ vs = σ := by
              intro vs
              induction vs with
              | nil => intro σ _; rfl
              | cons v vs ih =>
                intro σ hv
                show (L2.wipe σ vs).set v none = σ
                rw [ih σ fun i m => hv i (List.mem_cons_of_mem _ m)]
                apply List.ext_getElem?
                intro j
                rw [List.getElem?_set]
                split
                · rename_i e; subst e
                  rcases hv v List.mem_cons_self with z | z
                  · rw [z]; split
                    · rename_i hlt; rw [List.getElem?_eq_none_iff] at z; omega
                    · rfl
                  · rw [z]; split
                    · rfl
                    · rename_i hlt; have := (List.getElem?_eq_some_iff.mp z).1; omega
                · rfl
            refine idem _ _ fun i m => ?_
            cases q : (L2.wipe σ (own.map (·.2)))[i]? with
            | none => exact .inl rfl
            | some o =>
              cases o with
              | none => exact .inr rfl
              | some x => exact absurd m (wipe_some q).2
          · obtain ⟨b, S3, e2, el⟩ := bindN_of el
            refine ⟨ι2, F2, ρ3, S2, r3', ?_⟩
            show Post X.K X.mg _ ι2 F2 H2 (t ρ3 S2) _
            rw [e2]
            intro ι4 F4 H4 g4 st4
            have g24 := g3.trans g4
            cases b with
            | false =>
              dsimp only
              rw [if_neg (by simp)]
              obtain ⟨k1, k2, k3⟩ := keepD g24
              exact ⟨ι4, F4, S3, acc, avs, zs, r2.slots g24 st4, g2.trans g24, k1, k2, k3, wa.mono g24.sf, by omega, el, ea⟩
            | true =>
              dsimp only
              rw [if_pos rfl]
              simp only [if_true] at el
              obtain ⟨y, S4, e3, el⟩ := bindN_of el
              refine ⟨ι4, F4, ρ3, S3, r3'.slots g4 st4, ?_⟩
              show Post X.K X.mg _ ι4 F4 H4 (f ρ3 S3) _
              rw [e3]
              intro ι5 F5 H5 g5 st5 v wv
              cases y with
              | obj k => cases el
              | scr ns => cases el
              | exn c p => cases el
              | dat z =>
                simp only at el
                obtain ⟨zs', S5, e4, el⟩ := bindN_of el
                cases el
                have g25 := g24.trans g5
                obtain ⟨k1, k2, k3⟩ := keepD g25
                refine ⟨avs, k1, ?_, ι5, F5, S4, acc ++ [z], avs ++ [v], zs', ?_, ?_, upd_same, k2, k3, (wa.mono g25.sf).append (.cons wv .nil), by simp; omega, e4, by rw [← ea]; simp⟩
                · rw [wa.length]; omega
                · have st6 : StR X.K ι5 F5 S4 (upd H5 D (.lst (avs ++ [v]))) := ⟨fun b u e => by
                    rw [upd_ne (fun z => by rw [z, k2] at e; cases e)]; exact st5.sub b u e, st5.len, st5.nd, fun b hb => upd_full (st5.full b hb), fun k es e =>
                    let ⟨a', vs', h1, h2, h3, h4⟩ := st5.cell k es e
                    ⟨a', vs', h1, by rw [upd_ne (fun z => k3 (by rw [← z]; exact List.mem_of_getElem? h1))]; exact h2, h3, h4⟩⟩
                  exact ⟨st6, r2.len, fun i dv e => let ⟨v, h1, h2⟩ := r2.slot i dv e; ⟨v, h1, h2.grow g25⟩⟩
                · have g := g2.trans g25
                  exact ⟨g.pre, g.sf, fun b o e n => by
                    rw [upd_ne (fun z => by rw [z, hD] at e; cases e)]; exact g.keep b o e n, g.new, g.nio, fun b e => g.dom b (upd_none e)⟩
      · obtain ⟨c, q, hlc, hcn⟩ := lcGoO_cell el
        rw [Nat.sub_self] at el
        simp only [lcGoO, hcn] at el
        cases el
        rw [List.append_nil] at ea
        subst ea
        exact h1 ι2 F2 H2 g2 r2.st D avs (g1.dom D hD) hd hf hn wa
theorem ne_lcO {elt tg iter : Expr} {ifs : List Expr} {scope : Scope} {own : List (Str × Nat)} {l : XFn} {g : GFn} {t : TFn} {f : XFn} {sl : List Nat} (hc : X.calm = true) (hN : X.N.Nodup) (hi : DE X W iter l) (ok : BlkOk X.N X.env.scope scope own)
    (hg : ∀ (s : Shared) (H : Hp) (C : Addr) (cl : List (Str × Addr)) (fp : List Addr), DG (X.blk s H scope (compEnvC scope cl C X.env) fp) tg sl g)
    (ht : ∀ (s : Shared) (H : Hp) (C : Addr) (cl : List (Str × Addr)) (fp : List Addr), DTs (X.blk s H scope (compEnvC scope cl C X.env) fp) W0 ifs t)
    (he : ∀ (s : Shared) (H : Hp) (C : Addr) (cl : List (Str × Addr)) (fp : List Addr), DE (X.blk s H scope (compEnvC scope cl C X.env) fp) W0 elt f)
    (hsl : ∀ i ∈ sl, i ∈ own.map (·.2) := by decide) (hs : ∀ x, foldedSetIterable iter X.env x = pure x := by intro _; rfl) :
    NE X W (.ListComp elt [⟨tg, iter, ifs, 0⟩] scope pos) (lLcO l (own.map (·.2)) g t f) :=
  ⟨PE.weak (pe_lc (g := tG X.K sl g) (tt := tT X W0 t) (te := tD X W0 f) hc hN (pi_seq (tg := tg) hi.pe) ok (fun s H C cl fp => (hg s H C cl fp).canon) (fun s H C cl fp => (ht s H C cl fp).pt) (fun s H C cl fp => (he s H C cl fp).pe) hs) fun σ H Q h => lc_entO hsl h⟩
/-- y = [..] -/
theorem ds_setLcO {i : Nat} {y : Str} {py spos : Pos} {elt tg iter : Expr} {ifs : List Expr} {scope : Scope} {own : List (Str × Nat)} {l : XFn} {g : GFn} {t : TFn} {f : XFn} {sl : List Nat} (hc : X.calm = true) (hN : X.N.Nodup)
    (hi : DE X W iter l) (ok : BlkOk X.N X.env.scope scope own)
    (hg : ∀ (s : Shared) (H : Hp) (C : Addr) (cl : List (Str × Addr)) (fp : List Addr), DG (X.blk s H scope (compEnvC scope cl C X.env) fp) tg sl g)
    (ht : ∀ (s : Shared) (H : Hp) (C : Addr) (cl : List (Str × Addr)) (fp : List Addr), DTs (X.blk s H scope (compEnvC scope cl C X.env) fp) W0 ifs t)
    (he : ∀ (s : Shared) (H : Hp) (C : Addr) (cl : List (Str × Addr)) (fp : List Addr), DE (X.blk s H scope (compEnvC scope cl C X.env) fp) W0 elt f)
    (hsl : ∀ i ∈ sl, i ∈ own.map (·.2) := by decide) (hy : X.N[i]? = some y := by rfl) (hyl : X.env.scope.names.lookup y = some .local := by rfl)
    (hsw : swapsWith (.ListComp elt [⟨tg, iter, ifs, 0⟩] scope pos) (some (.Name y py)) spos.line X.env = pure true := by exact sw_true rfl rfl rfl (by decide +kernel)) (hs : ∀ x, foldedSetIterable iter X.env x = pure x := by intro _; rfl) :
    DS X W (.Assign [.Name y py] (.ListComp elt [⟨tg, iter, ifs, 0⟩] scope pos) spos) (sSet i (xN1 (lLcO l (own.map (·.2)) g t f))) :=
  ⟨_, ps_setLc (g := tG X.K sl g) (tt := tT X W0 t) (te := tD X W0 f) hc hN hy hyl hsw (pi_seq (tg := tg) hi.pe) ok (fun s H C cl fp => (hg s H C cl fp).canon) (fun s H C cl fp => (ht s H C cl fp).pt) (fun s H C cl fp => (he s H C cl fp).pe) hs, fun D σ H h => lc_entO hsl h.set.toN⟩
theorem lcO_filter {α : Type} {enc q : α → D} {p : α → Bool} {own : List Nat} {g : GFn} {t : TFn} {f : XFn} {ρ : Slots} {k : Nat} (xs : List α) (hS : S[k]? = some (some (xs.map enc))) (hl : xs.length ≤ sizeLine)
    (h : ∀ a ∈ xs, ∃ ρ1, g (enc a) (wipeS ρ own) = some ρ1 ∧ t ρ1 S = .ok (p a) S ∧ (p a = true → f ρ1 S = .ok (.dat (q a)) S)) : lcO own g t f ρ (.obj k) S = .ok ((xs.filter p).map q) S := by
  have key : ∀ (suf pre : List α), pre ++ suf = xs → lcGoO g t f (wipeS ρ own) k xs.length suf.length S = .ok ((suf.filter p).map q) S := by
    intro suf
    induction suf with
    | nil =>
      intro pre e
      simp only [List.length_nil, lcGoO, cellN, hS, List.length_map, if_true]
      rfl
    | cons a suf ih =>
      intro pre e
      obtain ⟨ρ1, h1, h2, h3⟩ := h a (by rw [← e]; simp)
      have hc : cellN S k xs.length = some (xs.map enc) := by simp only [cellN, hS, List.length_map, if_true]
      have hd : (xs.map enc)[xs.length - (suf.length + 1)]? = some (enc a) := by
        have : xs.length - (suf.length + 1) = pre.length := by rw [← e]; simp
        rw [this, ← e]
        simp
      have r := ih (pre ++ [a]) (by rw [← e]; simp)
      simp only [List.length_cons, lcGoO, hc, hd, h1, h2, Res.bindN_ok]
      cases hp : p a with
      | false => simp only [Bool.false_eq_true, if_false, r, List.filter_cons, hp]
      | true => simp only [if_true, h3 hp, Res.bindN_ok, r, List.filter_cons, hp, List.map_cons]
  have hk := key xs [] rfl
  unfold lcO
  simp only [hS, List.length_map, hl, if_true, hk]
theorem lcO_map {α : Type} {enc q : α → D} {own : List Nat} {g : GFn} {t : TFn} {f : XFn} {ρ : Slots} {k : Nat} (xs : List α) (hS : S[k]? = some (some (xs.map enc))) (hl : xs.length ≤ sizeLine)
    (h : ∀ a ∈ xs, ∃ ρ1, g (enc a) (wipeS ρ own) = some ρ1 ∧ t ρ1 S = .ok true S ∧ f ρ1 S = .ok (.dat (q a)) S) : lcO own g t f ρ (.obj k) S = .ok (xs.map q) S := by
  have := lcO_filter (p := fun _ => true) (q := q) xs hS hl (fun a ha => let ⟨ρ1, h1, h2, h3⟩ := h a ha; ⟨ρ1, h1, h2, fun _ => h3⟩)
  rwa [show xs.filter (fun _ => true) = xs from List.filter_eq_self.mpr fun _ _ => rfl] at this
/-! ## a comprehension within a comprehension -/
theorem lookup_snd {α : Type} [BEq α] {f : α → NameKind → NameKind} (x : α) : ∀ l : List (α × NameKind), ((l.map fun p => (p.1, f p.1 p.2)).lookup x = none ∧ l.lookup x = none) ∨ ∃ y k, (l.map fun p => (p.1, f p.1 p.2)).lookup x = some (f y k) ∧ l.lookup x = some k
  | [] => .inl ⟨rfl, rfl⟩
  | (a, k0) :: l => by
    simp only [List.map_cons, List.lookup]
    cases h : x == a with
    | true => exact .inr ⟨a, k0, rfl, rfl⟩
    | false => exact lookup_snd (f := f) x l
theorem blkOk_in {N : List Str} {sc scope : Scope} {own : List (Str × Nat)} {cl : List (Str × Addr)} {C : Addr} {env : Env} (h : blkC N sc scope own = true) : BlkOk N (compEnvC sc cl C env).scope scope own := by
  have b := blkOk_by h
  refine ⟨b.kind, b.uniq, b.ix, fun y hy e => ?_, b.own⟩
  have f := b.free y hy e
  have key := lookup_snd (f := fun n k => if (k == NameKind.free && env.scope.kind == .function && env.kindOf n == some .cell) then NameKind.cell else k) y.1 sc.names
  have e2 : (compEnvC sc cl C env).scope.names = sc.names.map fun p => (p.1, if (p.2 == NameKind.free && env.scope.kind == .function && env.kindOf p.1 == some .cell) then NameKind.cell else p.2) := by
    show (relabel sc env).names = _
    unfold relabel
    apply List.map_congr_left
    rintro ⟨n, k⟩ _
    dsimp only
    split <;> rfl
  rw [e2]
  rcases key with ⟨k1, k2⟩ | ⟨z, k, k1, k2⟩
  · rw [k2] at f
    rcases f with f | f <;> cases f
  · rw [k1]
    rw [k2] at f
    rcases f with f | f
    · cases f
      left
      rfl
    · cases f
      by_cases q : (NameKind.free == NameKind.free && env.scope.kind == .function && env.kindOf z == some .cell) = true
      · left; rw [if_pos q]
      · right; rw [if_neg q]
/-! ## x in a list of texts -/
def strsOf : List D → Option (List Str)
  | [] => some []
  | .str x :: r => (strsOf r).map (x :: ·)
  | _ => none
def dInS : D → D → Option D
  | .str x, .lst ys => (strsOf ys).map fun ss => .bl (ss.contains x)
  | .str x, .tup ys => (strsOf ys).map fun ss => .bl (ss.contains x)
  | a, b => dIn a b
def dNinS : D → D → Option D
  | .str x, .lst ys => (strsOf ys).map fun ss => .bl (!ss.contains x)
  | .str x, .tup ys => (strsOf ys).map fun ss => .bl (!ss.contains x)
  | a, b => dNin a b
theorem strsOf_ok : ∀ {xs : List D} {vs : List V} {ss : List Str}, WdA K F vs xs → strsOf xs = some ss → vs = ss.map V.str
  | [], _, _, .nil, e => by cases e; rfl
  | d :: xs, _, ss, .cons w ws, e => by
    cases w with
    | str x =>
      simp only [strsOf] at e
      cases q : strsOf xs with
      | none => rw [q] at e; cases e
      | some r => rw [q] at e; cases e; rw [strsOf_ok ws q]; rfl
    | _ => cases e
theorem inV_strs (x : Str) (ss : List Str) : inV (V.str x) (ss.map V.str) = ss.contains x := by
  induction ss with
  | nil => rfl
  | cons y ss ih =>
    have e : eqV (V.str y) (V.str x) = (x == y) := by
      show (y == x) = (x == y)
      by_cases h : x = y
      · subst h; rfl
      · have h2 : ¬ y = x := fun z => h z.symm
        rw [beq_eq_false_iff_ne.mpr h, beq_eq_false_iff_ne.mpr h2]
    have e2 : inV (V.str x) ((y :: ss).map V.str) = (eqV (V.str y) (V.str x) || inV (V.str x) (ss.map V.str)) := rfl
    rw [e2, e, ih, List.contains_cons]
theorem flat_strs (ss : List Str) : (ss.map V.str).all flatV = true := by simp [flatV]
theorem dIn_rule {d1 d2 d3 : D} {v u : V} {Q : VK} (st : StR K ι F S H) (va : Vw K F H v d1) (vb : Vw K F H u d2) (e : dIn d1 d2 = some d3) (q : Ret K ι F H S d3 Q) : rInDD K false v u H Q := by
  have wb := (vb.wd st.sub).dp
  cases d2 <;> simp only [dIn] at e <;> first | (cases e; done) | skip
  all_goals
    split at e
    · rename_i h
      cases e
      obtain ⟨h1, h2, h3⟩ := canIn_of h
      refine ⟨_, _, (va.wd st.sub).dp, by first | exact .inl wb | exact .inr wb, h1, h2, h3, ?_⟩
      rw [any_pys]
      exact q.same st (.bl _)
    · cases e
theorem dNin_rule {d1 d2 d3 : D} {v u : V} {Q : VK} (st : StR K ι F S H) (va : Vw K F H v d1) (vb : Vw K F H u d2) (e : dNin d1 d2 = some d3) (q : Ret K ι F H S d3 Q) : rInDD K true v u H Q := by
  have wb := (vb.wd st.sub).dp
  cases d2 <;> simp only [dNin] at e <;> first | (cases e; done) | skip
  all_goals
    split at e
    · rename_i h
      cases e
      obtain ⟨h1, h2, h3⟩ := canIn_of h
      refine ⟨_, _, (va.wd st.sub).dp, by first | exact .inl wb | exact .inr wb, h1, h2, h3, ?_⟩
      rw [any_pys]
      exact q.same st (.bl _)
    · cases e
theorem op_inS (hu : X.A.units + 65 < cLine) : OpR X (compareOp .In) (fun x y H Q => rInDD X.K false x y H Q ∨ rIn X.K false x y H Q) := (op_inDD hu).or op_in_seq
theorem op_ninS (hu : X.A.units + 65 < cLine) : OpR X (compareOp .NotIn) (fun x y H Q => rInDD X.K true x y H Q ∨ rIn X.K true x y H Q) := (op_ninDD hu).or op_notIn_seq
theorem inS_core {neg : Bool} {x : Str} {y : D} {ys : List D} {ss : List Str} {v u : V} {Q : VK} (st : StR K ι F S H) (va : Vw K F H v (.str x)) (vb : Vw K F H u y) (hy : y = .lst ys ∨ y = .tup ys) (e : strsOf ys = some ss)
    (q : Ret K ι F H S (.bl (if neg then !ss.contains x else ss.contains x)) Q) : rIn K neg v u H Q := by
  cases va
  rcases hy with rfl | rfl
  · cases vb with
    | lst s w =>
      have := strsOf_ok w e
      subst this
      refine ⟨_, _, rfl, .inl (.of s), rfl, flat_strs ss, ?_⟩
      rw [inV_strs]
      exact q.same st (.bl _)
  · cases vb with
    | tup s w =>
      have := strsOf_ok w e
      subst this
      refine ⟨_, _, rfl, .inr (sameT st.sub s), rfl, flat_strs ss, ?_⟩
      rw [inV_strs]
      exact q.same st (.bl _)
theorem dInS_ok : OpOk K (fun x y H Q => rInDD K false x y H Q ∨ rIn K false x y H Q) (o2 dInS) := o2_ok fun ι F H S v u a b c Q st va vb e q => by
  unfold dInS at e
  split at e
  · rename_i x ys
    cases eq : strsOf ys with
    | none => rw [eq] at e; cases e
    | some ss => rw [eq] at e; cases e; exact .inr (inS_core (neg := false) st va vb (.inl rfl) eq q)
  · rename_i x ys
    cases eq : strsOf ys with
    | none => rw [eq] at e; cases e
    | some ss => rw [eq] at e; cases e; exact .inr (inS_core (neg := false) st va vb (.inr rfl) eq q)
  · exact .inl (dIn_rule st va vb e q)
theorem dNinS_ok : OpOk K (fun x y H Q => rInDD K true x y H Q ∨ rIn K true x y H Q) (o2 dNinS) := o2_ok fun ι F H S v u a b c Q st va vb e q => by
  unfold dNinS at e
  split at e
  · rename_i x ys
    cases eq : strsOf ys with
    | none => rw [eq] at e; cases e
    | some ss => rw [eq] at e; cases e; exact .inr (inS_core (neg := true) st va vb (.inl rfl) eq q)
  · rename_i x ys
    cases eq : strsOf ys with
    | none => rw [eq] at e; cases e
    | some ss => rw [eq] at e; cases e; exact .inr (inS_core (neg := true) st va vb (.inr rfl) eq q)
  · exact .inl (dNin_rule st va vb e q)
end
end DL

set_option maxHeartbeats 4000000
namespace L2
open PySem PySem.Spec PyProof.Rows
/-! ## an exception kept behind its clause -/
def ExR (cls : Value) (d : Option Addr) (a : Addr) : HO := .ext fun h => ∃ (oe : Obj) (vs : Array Value), h.get? a = some oe ∧ Zc cls d oe ∧ oe.data = .fields vs
section
variable {X : Cx} {pins : List (Addr × Obj)} {σ : St} {H : Hp} {s : Shared}
theorem Inv.trackE {a : Addr} {o : HO} {oe : Obj} {vs : Array Value} (J : Inv X pins σ H s) (hn : H a = none) (hg : s.heap.get? a = some oe) (hd : oe.data = .fields vs) (hL : a ≠ X.env.locals) (h0 : X.s_0.heap.get? a = none) (hp : ∀ p ∈ X.pn ++ pins, p.1 ≠ a)
    (new : ObjOk X.prog X.w (upd H a o) s.heap a o) : Inv X pins σ (upd H a o) s := by
  have apart : ∀ {b : Addr} {u : HO}, H b = some u → b ≠ a := fun e z => by rw [z, hn] at e; cases e
  refine ⟨J.ok, J.os, J.bare, ⟨J.base.keep, J.base.slot, fun b u e n x => ?_, J.base.there, fun b xs e => ?_, fun b u v e => ?_, fun b ps e => ?_⟩, J.loc, J.cell, ?_, fun x c e => ?_, fun p m => ?_, J.hok.laidN (fun _ _ z => z) hn new, J.len⟩
  · rw [upd_ne (fun z => by rw [z, h0] at e; cases e)]
    exact J.base.free b u e n x
  · have q := J.base.tups b xs e
    rw [upd_ne (apart q)]; exact q
  · have q := J.base.frzs b u v e
    rw [upd_ne (apart q)]; exact q
  · obtain ⟨more, q⟩ := J.base.tbls b ps e
    exact ⟨more, by rw [upd_ne (apart q)]; exact q⟩
  · rw [upd_ne (fun z => hL z.symm)]; exact J.free
  · obtain ⟨v, hc⟩ := J.cell x c e
    rw [upd_ne (fun z => ?_)]
    · exact J.freeC x c e
    · obtain ⟨ob, hc1, hc2⟩ := hc
      rw [z, hg] at hc1
      cases hc1
      rw [hd] at hc2
      cases hc2
  · obtain ⟨q1, q2, q3⟩ := J.pin p m
    exact ⟨q1, by rw [upd_ne (hp p m)]; exact q2, q3⟩
def wKp (K : PySem.W.Frag) (c : Value) (i j : Nat) (Wout : WX) (D : Ends) : WX := fun cls d τ G =>
  ∃ b, PySem.W.exmOne K cls c = some b ∧ (b = true → ∀ a, G a = none → D.nx (((τ.set i (some (.ref a))).set j (some (.ref a))).set i none) (upd G a (ExR cls d a))) ∧ (b = false → Wout cls d τ G)
end
section
variable {X : Cx} {x n : Str} {c : Value} {i j : Nat} {body suite : List Stmt} {b₀ : Stmt} {np hpos tpos : Pos} {tb : WX → TS} {Wout : WX}
theorem ps_try_keep (stk : X.stack = X.env :: X.outer) (frm : X.env.frame = some X.env.locals) (ndp : X.N.Nodup) (ixn : X.N[i]? = some n) (lcl : X.env.kindOf n = some .local) (nmc : Names X x c) (tk : Takes X Wout) (hex : X.ex = []) (hij : i < X.N.length)
    (bod : ∀ (V : WX) (pn : List (Addr × Obj)) (xe : Value → Shared → Prop), Takes (X.tr pn xe) V → PassesOwn (model X.prog X.w) X.A X.env xe → PSs (X.tr pn xe) body (tb V))
    (sui : ∀ (a : Addr) (pn : List (Addr × Obj)), PSs (X.suite a pn) (b₀ :: suite) (tAsg (tVar i) (gName j))) :
    PS X (.Try body [.ExceptHandler (some (.Name x np)) (some n) (b₀ :: suite) hpos] [] [] tpos) (fun D σ H => tb (wKp X.K c i j Wout D) D σ H) := by
  refine ⟨fun pins s σ H D I h => ?_⟩
  have okX := I.ok
  have fr2 : X.A.frames = some (X.env :: X.outer) := by rw [okX.frames, stk]
  have lcn : Loc X.env.scope n := .inl lcl
  refine wpAny_Try_except ?_
  have run0 := (bod (wKp X.K c i j Wout D) (X.pn ++ pins) (fun e s₁ => wpAny (model X.prog X.w) X.A (noteFrame e X.env) (fun _ s₂ => wpAny (model X.prog X.w) X.A (setFlight e none) (fun _ s₃ =>
    wpAny (model X.prog X.w) X.A (handleBy e X.env [.ExceptHandler (some (.Name x np)) (some n) (b₀ :: suite) hpos]) (SP X pins D) X.xe s₃) X.xe s₂) X.xe s₁) (fun u s' xx => ?_) PassesOwn.looking).run [] s σ H D (I.toTry _) h
  refine wpAny_mono run0 (fun f s1 hsp => ?_) (fun e s1 he => he)
  · cases f with
    | next =>
      obtain ⟨τ, G, J', q⟩ := hsp
      exact wpAny_execs_nil ⟨τ, G, J'.ofTry okX, q⟩
    | brk =>
      obtain ⟨τ, G, J', q⟩ := hsp
      exact ⟨τ, G, J'.ofTry okX, q⟩
    | cont =>
      obtain ⟨τ, G, J', q⟩ := hsp
      exact ⟨τ, G, J'.ofTry okX, q⟩
    | ret u =>
      obtain ⟨v, τ, G, J', r, q⟩ := hsp
      exact ⟨v, τ, G, J'.ofTry okX, r, q⟩
  · obtain ⟨a, B, sI, pins', τ, G, cls, d, rfl, J', nb, up, sky, na, os, ag, b, hb1, hyes, hno⟩ := xx
    have J : Inv X pins τ G sI := J'.ofTry okX
    have sk2 : Sky B (X.env :: X.outer) a (Zc cls d) X.env.locals s'.heap := by rw [← stk]; exact sky
    show wpAny (model X.prog X.w) X.A (noteFrame (.ref a) X.env) _ _ _
    refine Sky.land Zc.steady fr2 frm sk2 fun h3 fl3 up3 => ?_
    have J3 : Inv X pins τ G { s' with heap := h3 } := J.landed nb fl3.1 (up.trans up3) os ag
    obtain ⟨oe3, vs3, he3, hz3, hd3⟩ := fl3.there
    have offFr : a ∉ frs (X.env :: X.outer) := fun hm => by
      obtain ⟨_, o', e', hnf⟩ := fl3.2.2.1.mem hm
      rw [he3] at e'; cases e'
      exact hnf _ hd3
    have nL : a ≠ X.env.locals := fun z => offFr (List.mem_filterMap.mpr ⟨X.env, List.mem_cons_self, by rw [frm, z]⟩)
    have nF : a ∉ X.fs := fun hm => by
      obtain ⟨e, he, q⟩ := List.mem_filterMap.mp hm
      exact offFr (List.mem_filterMap.mpr ⟨e, List.mem_cons_of_mem _ he, q⟩)
    have nI : sI.heap.get? a = none := by
      cases q : sI.heap.get? a with
      | none => rfl
      | some u =>
        have z := nb a u q (by rw [stk]; exact offFr)
        rw [fl3.2.1] at z
        cases z
    have n0 : X.s_0.heap.get? a = none := by
      cases q : X.s_0.heap.get? a with
      | none => rfl
      | some u =>
        obtain ⟨o', z⟩ := J.base.there a u q (by rw [hex]; exact List.not_mem_nil)
        rw [nI] at z
        cases z
    have nP : ∀ p ∈ X.pn ++ pins, p.1 ≠ a := fun p m z => by
      have q := (J.pin p m).1
      rw [z, nI] at q
      cases q
    have S3 := J3.suite he3 hd3 na nL nF
    refine wpAny_handleBy_cons (codeAny_handlers_test ?_) (by intro q; cases q)
    have LT : PySem.W.Looks (model X.prog X.w) h3 (typeOf (.ref a)) cls := fun _ _ _ _ k q => wpAny_typeOf_ref (k _ _ he3) (by rw [hz3.1]; exact q)
    have LM := PySem.W.exm_one (M := model X.prog X.w) (J3.kIn) LT hb1
    have seen : ∀ {Q : Value → Shared → Prop} {E : Value → Shared → Prop}, Q c { s' with heap := h3 } → wpAny (model X.prog X.w) (X.A.mark (some (.ref a))) (eval (.Name x np) X.env) Q E { s' with heap := h3 } := fun {Q E} q => by
      obtain ⟨hg, hdbg, hm | ⟨hm, hv, hnn⟩⟩ := nmc
      · exact ld_glob (X := X.suite a ((a, oe3) :: (X.pn ++ pins))) S3 hg hm q hdbg
      · exact ld_blt (X := X.suite a ((a, oe3) :: (X.pn ++ pins))) S3 hg hm hv q hnn hdbg
    refine seen (LM.here ?_)
    cases b with
    | true =>
      refine codeAny_handlers_suite_as ?_
      refine HandSPX.lands_againZ fl3 fun h4 fl4 up4 => ?_
      have J4 : Inv X pins τ G { s' with heap := h4 } := J.landed nb fl4.1 ((up.trans up3).trans up4) os ag
      obtain ⟨oe4, vs4, he4, hz4, hd4⟩ := fl4.there
      have S4 := J4.suite he4 hd4 na nL nF
      refine store_ok (X := X.suite a ((a, oe4) :: (X.pn ++ pins))) (v := .ref a) S4 ndp ixn lcn rfl (fun s5 S5 => ?_) (.inr lcl)
      have hlen : i < τ.length := by rw [J.len]; exact hij
      have go := (sui a ((a, oe4) :: (X.pn ++ pins))).run [] s5 _ G { nx := fun τ' G' => τ' = (τ.set i (some (.ref a))).set j (some (.ref a)) ∧ G' = G, rt := fun _ _ => False, bk := fun _ _ => False, ct := fun _ _ => False } S5
        ⟨.ref a, by rw [List.getElem?_set_self hlen], rfl, rfl⟩
      refine wpAny_mono go (fun f s6 hsp => ?_) (fun _ _ z => False.elim z)
      cases f with
      | next =>
        obtain ⟨τ6, G6, S6, rfl, rfl⟩ := hsp
        refine gone_ok (X := X.suite a ((a, oe4) :: (X.pn ++ pins))) S6 ndp ixn lcl fun s7 S7 => ?_
        have pa := S7.pin (a, oe4) (List.mem_append_left _ List.mem_cons_self)
        have J7 := (S7.unsuite okX).trackE (o := ExR cls d a) pa.2.1 pa.1 hd4 nL n0 nP ⟨⟨oe4, vs4, pa.1, hz4, hd4⟩, ⟨oe4, pa.1⟩, fun g1 g2 ⟨ob, vv, e1, e2, e3⟩ k => ⟨ob, vv, k _ e1, e2, e3⟩⟩
        exact ⟨_, _, J7, hyes rfl a na⟩
      | brk =>
        obtain ⟨_, _, _, z⟩ := hsp
        exact z.elim
      | cont =>
        obtain ⟨_, _, _, z⟩ := hsp
        exact z.elim
      | ret u =>
        obtain ⟨_, _, _, _, _, z⟩ := hsp
        exact z.elim
    | false =>
      show wpAny _ X.A (handleBy (.ref a) X.env []) _ _ _
      refine wpAny_handleBy_nil ?_
      obtain ⟨k1, k2, k3, oe, vs, T, oT, ts', he, hz, hd, h1, hr⟩ := id fl3
      unfold PySem.passOn
      refine wpAny_bind (wpAny_field he hd h1 ?_)
      rw [if_neg (show ¬ ((Value.ref T == Value.none) = true) from by simp)]
      have last : wpAny (model X.prog X.w) X.A (setFlight (.ref a) X.env.frame) (fun _ s4 => wpAny (model X.prog X.w) X.A (throw (.ref a) : Sem Flow) (SP X pins D) X.xe s4) X.xe { s' with heap := h3 } := by
        rw [frm]
        refine HandSPX.setFlight_upZ fl3 fun h4 hh4 up4 => wpAny_throw (tk _ _ ?_)
        exact ⟨a, B, sI, pins, τ, G, cls, d, rfl, J, nb, (up.trans up3).trans up4, .inr (.inr (by rw [stk]; exact hh4)), na, os, ag, hno rfl⟩
      first
        | exact wpAny_bind (wpAny_pure (wpAny_bind last))
        | exact wpAny_bind last
end
end L2
namespace DL
open PySem PySem.Spec PyProof.Rows L2
section
variable {X : Cx} {W : WX} {e a b c : Expr} {es : List Expr} {pos p : Pos} {K : PySem.W.Frag} {ι : List Addr} {F H : Hp} {S : Store} {mg : Str → Option Value}
/-! ## try .. except X as n: y = n -/
def keepS (m : Str → Option Bool) (i j : Nat) : RS → RS
  | .ex c ρ S => (match m c with
    | some true => .nx (((ρ.set i (some (.exn c none))).set j (some (.exn c none))).set i none) S
    | some false => .ex c ρ S
    | none => .bad)
  | r => r
def sTryK (f : SFn) (m : Str → Option Bool) (i j : Nat) : SFn := fun ρ S => keepS m i j (f ρ S)
theorem ds_tryKeep {body : List Stmt} {f : SFn} {m : Str → Option Bool} {x n y : Str} {i j : Nat} {np ep yp ap hp : Pos} (hs : X.stack = X.env :: X.outer) (hf : X.env.frame = some X.env.locals) (hN : X.N.Nodup) (hex : X.ex = []) (tk : Takes X W)
    (hb : ∀ (V : WX) (pn : List (Addr × Obj)) (xe : Value → Shared → Prop), Takes (X.tr pn xe) V → PassesOwn (model X.prog X.w) X.A X.env xe → DSs (X.tr pn xe) V body f)
    (hm : CatD X.K X.mg x m) (hglo : ∀ c, (m c).isSome = true → X.mg c = some (.ref (He.ga X.K c))) (hg : Gl X x) (hi : X.N[i]? = some n := by rfl) (hj : X.N[j]? = some y := by rfl) (hln : X.env.kindOf n = some .local := by rfl) (hdb : (x == ("__debug__" : Str)) = false := by decide) (hil : i < X.N.length := by decide)
    (hvn : Vis X.env.scope n := by first | exact .inl rfl | exact .inr (.inl rfl) | exact .inr (.inr rfl)) (hly : Loc X.env.scope y := by first | exact .inl rfl | exact .inr rfl) (hfy : X.fn y = true ∨ X.env.scope.names.lookup y = some .local := by exact .inl rfl)
    (hdn : (n == ("__debug__" : Str)) = false := by decide) (hcn : (n == ("__classdict__" : Str)) = false := by decide) (hs2 : swapsWithSole [.Name y yp] (.Name n ep) ap.line X.env = pure false := by rfl)
    (hw : swappedStores [.Name y yp] (.Name n ep) X.env = pure none := by rfl) (h1 : (assignEach [.Name y yp] X.env).map (·.2) = [assign (.Name y yp) X.env] := by rfl) :
    DS X W (.Try body [.ExceptHandler (some (.Name x np)) (some n) [.Assign [.Name y yp] (.Name n ep) ap] hp] [] [] pos) (sTryK f m i j) := by
  obtain ⟨V, hV, hcat⟩ := hm.ex
  refine ⟨_, ps_try_keep (tb := fun V => tS X V f) hs hf hN hi hln ⟨hg, hdb, .inl hV⟩ tk hex hil (fun V pn xe t p => (hb V pn xe t p).canon) (fun a pn => pss_one (ps_asg (X := X.suite a pn) (pe_var (X := X.suite a pn) hi hvn hdn hcn) (pg_name (X := X.suite a pn) hN hj hly hfy) hs2 hw h1)), fun D σ H ⟨ι, F, ρ, S, r, q⟩ => ⟨ι, F, ρ, S, r, ?_⟩⟩
  unfold sTryK at q
  cases e : f ρ S with
  | ex c ρ' S' =>
    rw [e] at q
    intro C σ' ι' F' H' g rr mc
    simp only [keepS] at q
    cases em : m c with
    | none => rw [em] at q; exact q.elim
    | some bb =>
      refine ⟨bb, hcat c bb C em mc, fun hbb a ha => ?_, fun hbb => ?_⟩
      · subst hbb
        rw [em] at q
        have eC : C = He.ga X.K c := by
          have z := hglo c (by rw [em]; rfl)
          rw [mc] at z
          cases z
          rfl
        subst eC
        have rp := rr.push ha (ExK X.K c none a)
        have we : WV X.K ι' (upd F' a (ExK X.K c none a)) (.ref a) (.exn c none) := ⟨a, rfl, upd_same⟩
        exact q _ ι' _ _ (g.trans (grow_push rr.st.sub ha _)) (((rp.set we i).set we j).unset i)
      · subst hbb
        rw [em] at q
        exact q C σ' ι' F' H' g rr mc
  | nx ρ' S' => rw [e] at q; exact q
  | rt v S' => rw [e] at q; exact q
  | bk ρ' S' => rw [e] at q; exact q
  | ct ρ' S' => rw [e] at q; exact q
  | bad => rw [e] at q; exact q
/-! ## isinstance of a kept exception -/
def rIsX (K : PySem.W.Frag) : List V → Hp → VK → Prop := fun xs H Q => ∃ (a : Addr) (c : Str) (t : V) (tv : Value) (b : Bool), xs = [.ref a, t] ∧ H a = some (ExK K c none a) ∧ ExcC K (He.ga K c) ∧ (∀ u, RelV t u → u = tv) ∧ PySem.W.kitOne K (.ref (He.ga K c)) tv = some b ∧ Q (.bl b) H
theorem call_isX : CallR X (.builtin "isinstance") (rIsX X.K) := by
  intro pins s σ H xs us Q I r h
  obtain ⟨a, c, t, tv, b, rfl, ha, C, ht, e, q⟩ := h
  cases r with
  | cons rx rr =>
    cases rr with
    | cons rt rr =>
      cases rr
      cases rx
      have ec := ht _ rt
      subst ec
      obtain ⟨⟨oe, vs, h1, hz, hv⟩, _, _⟩ := I.hok a _ ha
      have J : PySem.W.InstAt s.heap a oe (He.ga X.K c) none := by
        obtain ⟨oc, od, oda, osl⟩ := oe
        obtain ⟨z1, z2⟩ := hz
        dsimp only at z1 z2 hv
        subst z1 z2 hv
        exact ⟨h1, rfl, rfl, trivial⟩
      exact PySem.W.kia_one (PySem.W.handS_kitx_exc C.hg C.hk C.hs C.hd C.ha C.hn C.ht C.hm) I.kIn J e (fun z => nomatch z) fun tk => ⟨.bl b, H, I.kept (t' := tk) fun _ _ z => z, rfl, q⟩
/-- of which class it is, by a table -/
def oIsiE (t : List (Str × Bool)) (x : DV) (S : Store) : Res DV := match x with
  | .exn c none => (match t.lookup c with
    | some b => .ok (.dat (.bl b)) S
    | none => .bad)
  | _ => .bad
def xIsiE (t : List (Str × Bool)) (f : XFn) : XFn := fun ρ S => (f ρ S).bind (oIsiE t)
def IsiT (K : PySem.W.Frag) (tv : Value) (t : List (Str × Bool)) : Prop := ∀ c b, t.lookup c = some b → ExcC K (He.ga K c) ∧ PySem.W.kitOne K (.ref (He.ga K c)) tv = some b
theorem isi_core {t : List (Str × Bool)} {f : XFn} {σ : L2.St} {Q : VK} {tv : Value} {u : V} (T : IsiT X.K tv t) (hu : ∀ w, RelV u w → w = tv) {ρ : Slots} (r : RR X.K ι F ρ S σ H)
    (h : Post X.K X.mg (fun c d H' => W c d σ H') ι F H (xIsiE t f ρ S) fun dv ι' F' H' => ∀ z, WV X.K ι' F' z dv → Q z H') : tD X W f σ H fun v H1 => rIsX X.K [v, u] H1 Q := by
  refine tD.bind (g := fun _ => oIsiE t) r h fun v dv ι1 F1 S1 H1 r1 w1 g1 h1 => ?_
  cases dv with
  | dat d => exact h1.elim
  | obj k => exact h1.elim
  | scr ns => exact h1.elim
  | exn c p =>
    cases p with
    | some q => exact h1.elim
    | none =>
      simp only [oIsiE] at h1
      cases q : t.lookup c with
      | none => rw [q] at h1; exact h1.elim
      | some bb =>
        rw [q] at h1
        obtain ⟨a, rfl, ha⟩ := w1
        obtain ⟨hC, hk⟩ := T c bb q
        exact ⟨a, c, u, tv, bb, rfl, r1.st.sub _ _ ha, hC, hu, hk, h1 ι1 F1 H1 .refl r1.st _ (.bl _)⟩
structure IsiD (K : PySem.W.Frag) (mg : Str → Option Value) (y : Str) (t : List (Str × Bool)) : Prop where
  ex : ∃ V, mg y = some (.ref V) ∧ IsiT K (.ref V) t
theorem de_isiE {f : XFn} {y : Str} {t : List (Str × Bool)} {p2 p3 : Pos} (h : DE X W a f) (hm : X.mg "isinstance" = none) (T : IsiD X.K X.mg y t) (hg : Gl X "isinstance" := by rfl) (hgT : Gl X y := by rfl) (hdb : (y == ("__debug__" : Str)) = false := by decide)
    (he : starEach (a :: [.Name y p3]) X.env = (false, eval a X.env) :: starEach [.Name y p3] X.env := by rfl) (he2 : starEach (.Name y p3 :: []) X.env = (false, eval (.Name y p3) X.env) :: starEach [] X.env := by rfl) (hpl : (backTo pos (starEach [.Name y p3] X.env)).any (·.1) = false := by rfl) :
    DE X W (.Call (.Name "isinstance" p2) [a, .Name y p3] [] pos) (xIsiE t f) := by
  obtain ⟨V, hV, hT⟩ := T.ex
  refine ⟨PE.weak (pe_callB call_isX hg hm (by decide +kernel) (pa_cons h.pe (pa_cons (pe_glob (v := .ref V) hgT hV rfl hdb) pa_nil he2) he) (by decide) (by decide) he hpl) fun σ H Q ⟨ι, F, ρ, S, r, h⟩ => ?_⟩
  exact isi_core hT (fun w z => z) r h
theorem de_isiV {f : XFn} {y : Str} {n : String} {t : List (Str × Bool)} {p2 p3 : Pos} (h : DE X W a f) (hm : X.mg "isinstance" = none) (hmT : X.mg y = none) (hv : bootBuiltins y = some (.type n)) (T : IsiT X.K (.type n) t) (hg : Gl X "isinstance" := by rfl) (hgT : Gl X y := by rfl) (hn : y ≠ "__name__" := by decide) (hdb : (y == ("__debug__" : Str)) = false := by decide)
    (he : starEach (a :: [.Name y p3]) X.env = (false, eval a X.env) :: starEach [.Name y p3] X.env := by rfl) (he2 : starEach (.Name y p3 :: []) X.env = (false, eval (.Name y p3) X.env) :: starEach [] X.env := by rfl) (hpl : (backTo pos (starEach [.Name y p3] X.env)).any (·.1) = false := by rfl) :
    DE X W (.Call (.Name "isinstance" p2) [a, .Name y p3] [] pos) (xIsiE t f) := by
  refine ⟨PE.weak (pe_callB call_isX hg hm (by decide +kernel) (pa_cons h.pe (pa_cons (pe_bltn (v := .ty n) hgT hmT hv rfl hn hdb) pa_nil he2) he) (by decide) (by decide) he hpl) fun σ H Q ⟨ι, F, ρ, S, r, h⟩ => ?_⟩
  exact isi_core T (fun w z => z) r h
/-! ## is None, of anything -/
def isNo : D → Bool
  | .non => true
  | _ => false
def oIsNo (neg : Bool) : Op2 := fun x y S => match y with
  | .dat .non => (match x with
    | .dat d => .ok (.dat (.bl (isNo d != neg))) S
    | _ => .ok (.dat (.bl neg)) S)
  | _ => .bad
theorem oIsNo_core {neg : Bool} {v u : V} {x y : DV} {Q : VK} {E : XK} (st : StR K ι F S H) (va : WV K ι F v x) (vb : WV K ι F u y) (h : Post K mg E ι F H (oIsNo neg x y S) fun dv ι' F' H' => ∀ z, WV K ι' F' z dv → Q z H') : u = .non ∧ Q (.bl (decide (v = .non) != neg)) H := by
  unfold oIsNo at h
  split at h
  · cases vb
    refine ⟨rfl, ?_⟩
    cases x with
    | dat d =>
      have e : decide (v = .non) = isNo d := by
        have w : Wd K F v d := va
        cases w <;> rfl
      rw [e]
      exact h ι F H .refl st _ (.bl _)
    | obj k =>
      obtain ⟨a, _, rfl⟩ := va
      have z := h ι F H .refl st _ (.bl neg)
      cases neg <;> exact z
    | scr ns =>
      obtain ⟨a, rfl, _⟩ := va
      have z := h ι F H .refl st _ (.bl neg)
      cases neg <;> exact z
    | exn c p =>
      obtain ⟨a, rfl, _⟩ := va
      have z := h ι F H .refl st _ (.bl neg)
      cases neg <;> exact z
  · exact h.elim
theorem oIs_ok : OpOk K (fun x y H Q => y = .non ∧ Q (.bl (decide (x = .non))) H) (oIsNo false) := fun mg E ι F H S v u x y Q st va vb h => by
  have := oIsNo_core st va vb h
  simpa using this
theorem oNot_ok : OpOk K (fun x y H Q => y = .non ∧ Q (.bl (!decide (x = .non))) H) (oIsNo true) := fun mg E ι F H S v u x y Q st va vb h => by
  have := oIsNo_core st va vb h
  simpa using this
/-! ## what is never reached -/
def xBad : XFn := fun _ _ => .bad
theorem de_bad : DE X W e xBad := ⟨⟨fun _ _ _ _ _ _ ⟨_, _, _, _, _, h⟩ => h.elim⟩⟩
def sBad : SFn := fun _ _ => .bad
theorem dss_bad {st : List Stmt} : DSs X W st sBad := ⟨fun _ _ _ => False, ⟨fun _ _ _ _ _ _ h => h.elim⟩, fun _ _ _ ⟨_, _, _, _, _, h⟩ => h⟩
theorem ds_bad {st : Stmt} : DS X W st sBad := ⟨fun _ _ _ => False, ⟨fun _ _ _ _ _ _ h => h.elim⟩, fun _ _ _ ⟨_, _, _, _, _, h⟩ => h⟩
end
end DL

set_option maxHeartbeats 4000000
namespace DL
open PySem PySem.Spec PyProof.Rows L2
section
variable {X : Cx} {W : WX} {e a b c : Expr} {es : List Expr} {pos p : Pos} {K : PySem.W.Frag} {ι : List Addr} {F H : Hp} {S : Store} {mg : Str → Option Value}
/-! ## l.count(x), l.index(x) -/
def rCountX (K : PySem.W.Frag) : V → List V → Hp → VK → Prop := fun x xs H Q => ∃ (a : Addr) (y : V) (d : PyData) (ds : List PyData), x = V.ref a ∧ xs = [y] ∧ Dp K H (V.ref a) (.list ds) ∧ Dp K H y d ∧ SeqAt.shaped (.list ds) = true ∧ SeqAt.shaped d = true ∧ Q (.int ((ds.countP fun z => PyData.eqv z d : Nat) : Int)) H
theorem mt_countX (hu : X.A.units + 65 < cLine) : MtR X "list.count" (rCountX X.K) := by
  intro pins s σ H x xs v us Q I rx rxs h
  obtain ⟨a, y, d, ds, rfl, rfl, hl, hy, sl, sd, q⟩ := h
  cases rx
  cases rxs with
  | cons ry rt =>
    rename_i uy ut
    cases rt
    obtain ⟨bs, r1⟩ := Dp.reads I d y uy hy ry
    have lay : PyData.canLayAll0 ds = true := SeqAt.canLay_of_shaped sl
    have room : X.A.units + 1 + min (PyData.depthAll ds) d.depth < cLine := room_in_shaped sd hu
    cases hl with
    | lst hs ha =>
      obtain ⟨its, rv, pl, _⟩ := I.list hs
      obtain ⟨as, r4⟩ := Dp.readsAll I ds _ its ha rv
      have pa : PyData.plainAll ds = true := by
        have z := PyData.plain_of_canLay0 (.list ds) (show PyData.canLay0 (.list ds) = true from lay)
        simpa [PyData.plain] using z
      exact PySem.SeqAt.count_list_data (vs := its.toArray) pl.isList (by simpa using r4) r1 pa (PyData.plain_of_canLay0 d (SeqAt.canLay_of_shaped sd)) room ⟨.int ((ds.countP fun z => PyData.eqv z d : Nat) : Int), H, I.tok _, ⟨_, rfl⟩, q⟩
def atX (x : D) (y : D) : Bool := SeqAt.shaped x.py && SeqAt.shaped y.py
def dCount : D → D → Option D
  | .lst xs, y => if atX (.lst xs) y = true then some (.int ((xs.countP fun z => dEqB z y : Nat) : Int)) else none
  | _, _ => none
def dIndex : D → D → Option D
  | .lst xs, y => if atX (.lst xs) y = true then (match xs.findIdx? fun z => dEqB z y with
    | some j => some (.int ((j : Nat) : Int))
    | none => none) else none
  | _, _ => none
theorem pysL : ∀ xs : List D, D.pys xs = xs.map D.py
  | [] => rfl
  | x :: xs => by simp only [D.pys, List.map_cons, pysL xs]
theorem vw_lst {v : V} {xs : List D} (w : Vw K F H v (.lst xs)) : tyV K "list" v H := by
  cases w with
  | lst s ws => exact .inl ⟨rfl, _, .of s⟩
def xMeth (o : D → D → Option D) (f g : XFn) : XFn := x2 (o2 o) f g
/-- the place of the list is read first and then the argument: the argument must leave it as it was -/
def xMth (o : D → D → Option D) (f : XFn) (d : D) : XFn := fun ρ S => (f ρ S).bind fun x S1 => match rd S1 x with
  | some (.lst xs) => res1 (o (.lst xs) d) S1
  | _ => .bad
theorem mth_core {r : V → List V → Hp → VK → Prop} {o : D → D → Option D} {f : XFn} {d : D} {u : V} {σ : L2.St} {Q : VK} {ρ : Slots} (hd : ∀ F : Hp, Wd X.K F u d) (rr : RR X.K ι F ρ S σ H)
    (k : ∀ (ι : List Addr) (F H : Hp) (S : Store) (v : V) (xs : List D) (z : D) (Q : VK), StR X.K ι F S H → Vw X.K F H v (.lst xs) → Wd X.K F u d → o (.lst xs) d = some z → Ret X.K ι F H S z Q → r v [u] H Q)
    (h : Post X.K X.mg (fun c d H' => W c d σ H') ι F H (xMth o f d ρ S) fun dv ι' F' H' => ∀ z, WV X.K ι' F' z dv → Q z H') : tBM X.K "list" r (tD X W f) (fun σ H R => R [u] H) σ H Q := by
  unfold tBM
  refine tD.bind (g := fun _ x S1 => match rd S1 x with
    | some (.lst xs) => res1 (o (.lst xs) d) S1
    | _ => .bad) rr h fun v dv ι1 F1 S1 H1 r1 w1 g1 h1 => ?_
  cases ed : rd S1 dv with
  | none => simp only [ed] at h1; exact h1.elim
  | some x =>
    cases x with
    | lst xs =>
      simp only [ed] at h1
      have vw := r1.st.vw w1 ed
      refine ⟨vw_lst vw, ?_⟩
      cases eo : o (.lst xs) d with
      | none => rw [eo] at h1; exact h1.elim
      | some z =>
        rw [eo] at h1
        exact k ι1 F1 H1 S1 v xs z Q r1.st vw (hd F1) eo fun z' F' H' g st' w => h1 ι1 F' H' g st' z' w
    | _ => simp only [ed] at h1; exact h1.elim
theorem dp_of {v : V} {d : D} (st : StR K ι F S H) (w : Vw K F H v d) : Dp K H v d.py := (w.wd st.sub).dp
theorem de_countB {o : Expr} {f : XFn} {k : Bool} {j : Nat} {apos q : Pos} (hu : X.A.units + 65 < cLine) (ho : DE X W o f)
    (hbase : attributeBase o "count" X.env (eval o X.env) = eval o X.env := by rfl)
    (hfew : ((backTo p (starEach (.Constant (.bool k) j q :: []) X.env)).all (fun x => !x.1) && (backToKw p (keywordEach [] X.env)).all (fun x => x.1.isSome)
      && decide ((Expr.Constant (.bool k) j q :: []).length + ([] : List Keyword).length + (if ([] : List Keyword).isEmpty then 0 else 1) < 30)) = true := by rfl)
    (hline : (apos.endLine == p.line) = true := by rfl) (hse : starEach (.Constant (.bool k) j q :: []) X.env = (false, eval (.Constant (.bool k) j q) X.env) :: starEach [] X.env := by rfl) :
    DE X W (.Call (.Attribute o "count" apos) [.Constant (.bool k) j q] [] p) (xMth dCount f (.bl k)) := by
  refine ⟨PE.weak (pe_bm PySem.F.plainAttrs_list PySem.F.slot_list_count PySem.F.type_list_count (mt_countX hu) ho.pe (pa_cons pe_bl pa_nil hse) hbase hfew hline hse rfl) fun σ H Q ⟨ι, F, ρ, S, r, h⟩ => ?_⟩
  exact mth_core (u := .bl k) (r := rCountX X.K) (fun _ => .bl k) r (fun ι F H S v xs z Q st vw wd eo q => by
    simp only [dCount] at eo
    by_cases hs : atX (.lst xs) (.bl k) = true
    · rw [if_pos hs] at eo
      unfold atX at hs
      cases eo
      simp only [Bool.and_eq_true] at hs
      have dl := dp_of st vw
      have ta : ∃ a, v = .ref a := by cases vw; exact ⟨_, rfl⟩
      obtain ⟨a, rfl⟩ := ta
      refine ⟨a, .bl k, (D.bl k).py, D.pys xs, rfl, rfl, dl, (wd.mono st.sub).dp, hs.1, hs.2, ?_⟩
      have e : (D.pys xs).countP (fun z => PyData.eqv z (D.bl k).py) = xs.countP fun z => dEqB z (.bl k) := by
        rw [pysL, List.countP_map]
        rfl
      rw [e]
      exact q.same st (.int _)
    · rw [if_neg hs] at eo
      cases eo) h
theorem de_indexB {o : Expr} {f : XFn} {k : Bool} {j : Nat} {apos q : Pos} (hu : X.A.units + 65 < cLine) (ho : DE X W o f)
    (hbase : attributeBase o "index" X.env (eval o X.env) = eval o X.env := by rfl)
    (hfew : ((backTo p (starEach (.Constant (.bool k) j q :: []) X.env)).all (fun x => !x.1) && (backToKw p (keywordEach [] X.env)).all (fun x => x.1.isSome)
      && decide ((Expr.Constant (.bool k) j q :: []).length + ([] : List Keyword).length + (if ([] : List Keyword).isEmpty then 0 else 1) < 30)) = true := by rfl)
    (hline : (apos.endLine == p.line) = true := by rfl) (hse : starEach (.Constant (.bool k) j q :: []) X.env = (false, eval (.Constant (.bool k) j q) X.env) :: starEach [] X.env := by rfl) :
    DE X W (.Call (.Attribute o "index" apos) [.Constant (.bool k) j q] [] p) (xMth dIndex f (.bl k)) := by
  refine ⟨PE.weak (pe_bm PySem.F.plainAttrs_list PySem.F.slot_list_index PySem.F.type_list_index (mt_indexD hu) ho.pe (pa_cons pe_bl pa_nil hse) hbase hfew hline hse rfl) fun σ H Q ⟨ι, F, ρ, S, r, h⟩ => ?_⟩
  exact mth_core (u := .bl k) (r := rIndexD X.K) (fun _ => .bl k) r (fun ι F H S v xs z Q st vw wd eo q => by
    simp only [dIndex] at eo
    by_cases hs : atX (.lst xs) (.bl k) = true
    · rw [if_pos hs] at eo
      unfold atX at hs
      simp only [Bool.and_eq_true] at hs
      cases ef : xs.findIdx? fun z => dEqB z (.bl k) with
      | none => rw [ef] at eo; cases eo
      | some n =>
        rw [ef] at eo
        cases eo
        have dl := dp_of st vw
        have ta : ∃ a, v = .ref a := by cases vw; exact ⟨_, rfl⟩
        obtain ⟨a, rfl⟩ := ta
        obtain ⟨h1, h2, h3⟩ := List.findIdx?_eq_some_iff_getElem.mp ef
        refine ⟨a, .bl k, (D.bl k).py, D.pys xs, n, xs[n].py, rfl, rfl, dl, (wd.mono st.sub).dp, hs.1, hs.2, ?_, h2, fun m z' hm hz => ?_, q.same st (.int _)⟩
        · rw [pysL, List.getElem?_map, List.getElem?_eq_getElem h1]; rfl
        · rw [pysL, List.getElem?_map, List.getElem?_eq_getElem (by omega)] at hz
          cases hz
          have := h3 m hm
          simpa [dEqB] using this
    · rw [if_neg hs] at eo
      cases eo) h
end
/-! ## a head with facts of one's own -/
def obsE (n : Nat) (fa : List He.Fa) (fn : List He.DefD) (ex : PySem.W.Frag → Bool) (g : Addr → Option Obj) : He.AlD × Bool := (He.obsD fa fn (He.frG g (He.asD g n)), ex (He.frG g (He.asD g n)))
def hookE (n : Nat) (fa : List He.Fa) (fn : List He.DefD) (ex : PySem.W.Frag → Bool) : PySem.W.Hook where
  α := He.AlD × Bool
  obs := fun s => obsE n fa fn ex s.heap.get?
  val := fun _ => (He.valD fn, true)
  says := fun _ h => ∃ K : PySem.W.Frag, K.In h ∧ He.SaysD fa fn K ∧ ex K = true
  of := fun _ _ e => ⟨_, He.frG_in, congrArg (fun z : He.AlD × Bool => z.1) e, congrArg (fun z : He.AlD × Bool => z.2) e⟩
  keeps := fun _ _ _ ⟨K, hK, c⟩ k => ⟨K, PySem.W.Frag.In.keeps hK k, c⟩
theorem obsE_eq {n : Nat} {fa : List He.Fa} {fn : List He.DefD} {ex : PySem.W.Frag → Bool} {g : Addr → Option Obj} {s : Shared} (h : ∀ a, g a = s.heap.get? a) : obsE n fa fn ex g = (hookE n fa fn ex).obs s := by
  have e : g = s.heap.get? := funext h
  rw [e] <;> rfl
/-! ## facts of classes of exceptions -/
def excB (K : PySem.W.Frag) (x : Str) : Bool := He.eqO (PySem.W.findIn K (.ref (He.ga K x)) "__getattribute__") (some (some (.builtin "BaseException.__getattribute__"))) && (He.eqO (PySem.W.findIn K (.ref (He.ga K x)) "__getattr__") (some none) &&
  (decide (PySem.W.subIn K (.ref (He.ga K x)) (.type "BaseException") = some true) && (PySem.W.hasDictIn K (He.ga K x) && (He.eqO (PySem.W.findIn K (.ref (He.ga K x)) "__class__") (some (some (.builtin "object.__class__"))) &&
  (He.eqO (PySem.W.specialIn K (.builtin "object.__class__") "__get__") (some (some (.builtin "getset_descriptor.__get__"))) && (decide (PySem.W.takesIn K (.builtin "object.__class__") = some true) && decide (PySem.W.mroIn K (He.ga K x) (.type "object") = some true)))))))
theorem excC_of {K : PySem.W.Frag} {x : Str} (h : excB K x = true) : ExcC K (He.ga K x) := by
  unfold excB at h
  simp only [Bool.and_eq_true, decide_eq_true_eq] at h
  obtain ⟨h1, h2, h3, h4, h5, h6, h7, h8⟩ := h
  exact ⟨He.eqO_ok h1, He.eqO_ok h2, h3, h4, He.eqO_ok h5, He.eqO_ok h6, h7, h8⟩
def kitB (K : PySem.W.Frag) (tv : Value) (t : List (Str × Bool)) : Bool := t.all fun q => excB K q.1 && decide (PySem.W.kitOne K (.ref (He.ga K q.1)) tv = some q.2)
theorem isiT_of {K : PySem.W.Frag} {tv : Value} {t : List (Str × Bool)} (h : kitB K tv t = true) : IsiT K tv t := fun c b e => by
  unfold kitB at h
  rw [List.all_eq_true] at h
  have m : (c, b) ∈ t := by
    clear h
    induction t with
    | nil => cases e
    | cons q t ih =>
      obtain ⟨c', b'⟩ := q
      simp only [List.lookup] at e
      split at e
      · rename_i hc
        cases e
        rw [eq_of_beq hc]
        exact List.mem_cons_self
      · exact List.mem_cons_of_mem _ (ih e)
  have z := h _ m
  simp only [Bool.and_eq_true, decide_eq_true_eq] at z
  exact ⟨excC_of z.1, z.2⟩
def kitsB (K : PySem.W.Frag) (ys : List (Str × List (Str × Bool))) : Bool := ys.all fun y => kitB K (.ref (He.ga K y.1)) y.2
theorem isiD_of {K : PySem.W.Frag} {h : Heap} {mg : Str → Option Value} {ys : List (Str × List (Str × Bool))} {y : Str} {t : List (Str × Bool)} (X : K.In h) (G : h.Ns mainGlobals mg) (c : (He.Fa.glo y).ok K = true) (k : kitsB K ys = true) (m : (y, t) ∈ ys) : IsiD K mg y t :=
  ⟨_, He.glo_ok X G c, isiT_of (List.all_eq_true.mp k _ m)⟩
theorem catG {K : PySem.W.Frag} {h : Heap} {mg : Str → Option Value} {l : List (Str × Bool)} (X : K.In h) (G : h.Ns mainGlobals mg) (cs : List Str) (f : ∀ x ∈ cs, (He.Fa.glo x).ok K = true) (hl : l.map (·.1) = cs := by rfl) : ∀ c, (catT l c).isSome = true → mg c = some (.ref (He.ga K c)) := fun c e => by
  refine He.glo_ok X G (f c ?_)
  rw [← hl]
  clear f hl
  unfold catT at e
  induction l with
  | nil => cases e
  | cons q l ih =>
    obtain ⟨c', b'⟩ := q
    simp only [List.lookup] at e
    split at e
    · rename_i hc
      rw [eq_of_beq hc]
      exact List.mem_cons_self
    · exact List.mem_cons_of_mem _ (ih e)
end DL

set_option maxHeartbeats 4000000
namespace PySem.RevS
open PySem PySem.Spec PyProof.Rows HT
section
variable {prog : Program} {w : World} {A : Around} {E : Value → Shared → Prop} {s : Shared}
theorem places_rev (n : Nat) : Builtin.Slice.slicePlaces ((n : Int) - 1) (-1) (-1) = n := by
  unfold Builtin.Slice.slicePlaces
  have h1 : ¬ ((-1 : Int) > 0) := by omega
  simp only [h1, if_false, Int.neg_neg, Int.ediv_one]
  split <;> omega
theorem sliceApplied_rev {sl : Addr} {vs : Value} {n : Nat} {Q : Int × Int × Nat → Shared → Prop} (hs : s.heap.IsSliceOf sl .none .none vs) (ps : IsPart vs (some (-1)))
    (h : Q ((n : Int) - 1, -1, n) s) : wpAny (model prog w) A (Builtin.Slice.sliceApplied (.ref sl) (pure (n : Int))) Q E s := by
  obtain ⟨os, hos, hcs, hds⟩ := id hs
  unfold Builtin.Slice.sliceApplied Builtin.Slice.sliceFields
  refine wpAny_bind (wpAny_bind (wpAny_field hos hds (x := .none) rfl (wpAny_bind (wpAny_field hos hds (x := .none) rfl (wpAny_bind (wpAny_field hos hds (x := vs) rfl (wpAny_pure ?_)))))))
  refine wpAny_bind (slicePart_ ps ?_)
  show wpAny _ _ (if ((-1 : Int) == 0) = true then _ else _) _ _ s
  rw [if_neg (by decide)]
  refine wpAny_bind (slicePart_none (wpAny_bind (slicePart_none (wpAny_bind (wpAny_pure ?_)))))
  show wpAny _ _ (pure ((n : Int) - 1, (-1 : Int), Builtin.Slice.slicePlaces ((n : Int) - 1) (-1) (-1))) _ _ s
  rw [places_rev]
  exact wpAny_pure h
theorem fm_all {β : Type} (g : Nat → β) : ∀ (l : List Nat) (f : Nat → Option β), (∀ m ∈ l, f m = some (g m)) → l.filterMap f = l.map g
  | [], _, _ => rfl
  | a :: r, f, h => by
    rw [List.filterMap_cons, h a (List.mem_cons_self ..), fm_all g r f fun m hm => h m (List.mem_cons_of_mem _ hm)]
    rfl
theorem pick_rev (xs : Array Value) : ((List.range xs.size).filterMap fun (m : Nat) => xs[(((xs.size : Nat) : Int) - 1 + (m : Int) * (-1)).toNat]?).toArray = xs.toList.reverse.toArray := by
  congr 1
  rw [fm_all (fun m => xs.toList.getD (xs.size - 1 - m) .none)]
  · apply List.ext_getElem
    · simp
    · intro i h1 h2
      simp only [List.length_map, List.length_range] at h1
      simp only [List.getElem_map, List.getElem_range, List.getElem_reverse, Array.length_toList, List.getD_eq_getElem?_getD]
      rw [List.getElem?_eq_getElem (by simp; omega)]
      rfl
  · intro m hm
    have hm := List.mem_range.mp hm
    have e : (((xs.size : Nat) : Int) - 1 + (m : Int) * (-1)).toNat = xs.size - 1 - m := by omega
    rw [e, List.getD_eq_getElem?_getD, ← Array.getElem?_toList, List.getElem?_eq_getElem (by simp; omega)]
    rfl
theorem getItem_tuple_rev {t sl : Addr} {items : Array Value} {vs : Value} {Q : Value → Shared → Prop} (ht : IsTup s.heap t items) (hs : s.heap.IsSliceOf sl .none .none vs) (ps : IsPart vs (some (-1)))
    (h : Q (.ref s.heap.objs.size) { s with heap := s.heap.push { cls := .type "tuple", data := .seq items.toList.reverse.toArray } })
    (hsz : items.size ≤ sizeLine) : wpAny (model prog w) A (getItem (.ref t) (.ref sl)) Q E s := by
  have htake : sizeOk (.seq items.toList.reverse.toArray) := by
    show items.toList.reverse.toArray.size ≤ sizeLine
    simpa using hsz
  obtain ⟨os, hos, hcs, hds⟩ := id hs
  have hTs : s.TypeIs (.ref sl) "slice" := ⟨os, hos, hcs⟩
  unfold getItem
  try with_reducible refine wpAny_holding ?_
  first | refine wpAny_bind (wpAny_pure ?_) | skip
  refine wpAny_bind (wpAny_sequenceKey ht.typeIs (by decide) ?_)
  refine wpAny_bind (wpAny_callSpecial?_slot (name := Str.ofString "__getitem__") ht.typeIs PyProof.Rows.slot_tuple_getitem
    (wpAny_call_entry PyProof.Rows.slot_tuple_getitem ht.typeIs entry_tuple_getitem ?_ (args_tuple_getitem _ _)))
  show wpAny _ _ (Builtin.Tuple.tupleItemsOf (.ref t) >>= _) _ _ s
  refine wpAny_bind (tupleItemsOf_ ht ?_)
  refine wpAny_bind (wpAny_typeOf hTs ?_)
  rw [if_pos (by decide)]
  refine wpAny_bind (sliceApplied_rev hs ps ?_)
  have hno : ¬ ((((items.size : Int) - 1) == 0 && (-1 : Int) == 1 && items.size == items.size) = true) := by
    intro q
    rw [Bool.and_eq_true, Bool.and_eq_true] at q
    have : (-1 : Int) = 1 := eq_of_beq q.1.2
    omega
  show wpAny _ _ (if (((items.size : Int) - 1) == 0 && (-1 : Int) == 1 && items.size == items.size) = true then _ else _) _ _ s
  rw [if_neg hno, pick_rev]
  first
    | exact wpAny_bind (m := Builtin.Tuple.tupleExact _) (wpAny_newObj_type (wpAny_pure ⟨_, rfl, wpAny_pure h⟩) htake)
    | exact wpAny_bind (m := Builtin.Tuple.tupleExact _) (wpAny_newObj_type (wpAny_bind (wpAny_pure (wpAny_pure ⟨_, rfl, wpAny_pure h⟩))) htake)
    | exact wpAny_bind (wpAny_bind (m := Builtin.Tuple.tupleExact _) (wpAny_newObj_type (wpAny_pure (wpAny_pure ⟨_, rfl, wpAny_pure h⟩)) htake))
    | exact wpAny_bind (wpAny_bind (m := Builtin.Tuple.tupleExact _) (wpAny_newObj_type (wpAny_pure ⟨_, rfl, wpAny_pure h⟩) htake))
theorem slicePick_rev (xs : Array Value) : slicePick xs none none (some (-1)) = xs.toList.reverse.toArray := by
  rw [← pick_rev]
  congr 1
  unfold slicePick sliceBounds
  simp only [Option.getD_some, show ¬ ((-1 : Int) > 0) by omega, if_false]
  have e : sliceRange ((xs.size : Int) - 1) (-1) (-1) = (List.range xs.size).map fun (k : Nat) => (((xs.size : Nat) : Int) - 1 + (k : Int) * (-1)).toNat := by
    unfold sliceRange
    simp only [show ¬ ((-1 : Int) > 0) by omega, if_false, Int.neg_neg, Int.ediv_one]
    have : (if ((xs.size : Int) - 1) > -1 then ((xs.size : Int) - 1 - -1 - -1 - 1) else 0).toNat = xs.size := by split <;> omega
    rw [this]
    apply List.map_congr_left
    intro k _
    congr 1
    omega
  rw [e, List.filterMap_map]
  rfl
end
end PySem.RevS
namespace L2
open PySem PySem.Spec PyProof.Rows
section
variable {X : Cx} {e c : Expr} {te tc : TE} {pos p2 : Pos}
def rRev (K : PySem.W.Frag) : V → Hp → VK → Prop := fun x H Q => ∃ a xs, x = .ref a ∧ ((SqL K H a xs ∧ ∀ p, H p = none → Q (.ref p) (upd H p (.lst xs.reverse))) ∨ (SqT K H a xs ∧ ∀ p, H p = none → Q (.ref p) (upd H p (.tup xs.reverse))))
def tRev (K : PySem.W.Frag) (te tc : TE) : TE := fun σ H Q => te σ H fun x H1 => tc σ H1 fun y H2 => y = .int (-1) ∧ rRev K x H2 Q
theorem pe_rev (he : PE X e te) (hc : PE X c tc) : PE X (.Subscript e (.Slice none none (some c) p2) pos) (tRev X.K te tc) := by
  refine ⟨fun pins s σ H Q I h => ?_⟩
  refine Subscript_ (thn (he.run pins s σ H _ I h) fun v s1 ⟨x, H1, I1, r1, q1⟩ => ?_)
  refine wpAny_Slice ?_
  rw [evalPart_none]
  refine wpAny_pure ?_
  refine wpAny_pure ?_
  rw [evalPart_some]
  refine thn (hc.run pins s1 σ H1 _ I1 q1) fun u s3 ⟨y, H3, I3, r3, q3⟩ => ?_
  obtain ⟨rfl, q3⟩ := q3
  obtain ⟨t, rfl⟩ := r3
  obtain ⟨a, xs, rfl, q⟩ := q3
  cases r1
  have I4 : Inv X pins σ H3 { s3 with heap := s3.heap.push { cls := .type "slice", data := .fields #[.none, .none, .int (-1) t] } } := I3.kept (t' := s3.toks) fun b ob q => Heap.get?_push_of_some _ q
  have hsl : ({ s3 with heap := s3.heap.push { cls := .type "slice", data := .fields #[.none, .none, .int (-1) t] } } : Shared).heap.IsSliceOf s3.heap.objs.size .none .none (.int (-1) t) := Heap.IsSliceOf.new ..
  generalize hs4 : ({ s3 with heap := s3.heap.push { cls := .type "slice", data := .fields #[.none, .none, .int (-1) t] } } : Shared) = s4 at *
  show wpAny (model X.prog X.w) X.A (subscriptTail e (.Slice none none (some c) p2) (.ref a) (.ref s3.heap.objs.size)) (EP X pins σ Q) X.xe s4
  rcases q with ⟨hx, q⟩ | ⟨hx, q⟩
  · obtain ⟨its, r, ht, hz⟩ := I4.list hx
    refine tail_any (ops := [.ref a, .ref s3.heap.objs.size]) ht.isList.typeIs slot_list_getitem.lookup ?_ (by with_unfolding_all rfl)
    refine wpAny_getItem_list_slice ht.isList hsl .none .none (.int (-1) t) (by simp) ?_ (by rw [List.size_toArray, ← r.length]; exact hz)
    rw [PySem.RevS.slicePick_rev]
    refine ⟨.ref s4.heap.objs.size, _, I4.laid (t' := s4.toks) (o := .lst xs.reverse) (fun b ob q => Heap.get?_push_of_some _ q) (Nat.le_refl _) ?_, rfl, q _ (I4.hok.fresh (Nat.le_refl _))⟩
    exact ⟨by simpa using hz, _, 0, r.reverse, Heap.get?_push_size _ rfl⟩
  · obtain ⟨its, r, ht, hz⟩ := I4.tuple hx
    refine tail_any (ops := [.ref a, .ref s3.heap.objs.size]) ht.typeIs PyProof.Rows.slot_tuple_getitem.lookup ?_ (by with_unfolding_all rfl)
    refine PySem.RevS.getItem_tuple_rev ht hsl (.int (-1) t) ?_ (by rw [List.size_toArray, ← r.length]; exact hz)
    refine ⟨.ref s4.heap.objs.size, _, I4.laid (t' := s4.toks) (o := .tup xs.reverse) (fun b ob q => Heap.get?_push_of_some _ q) (Nat.le_refl _) ?_, rfl, q _ (I4.hok.fresh (Nat.le_refl _))⟩
    exact ⟨by simpa using hz, _, r.reverse, IsTup.new _ _⟩
end
end L2
namespace DL
open PySem PySem.Spec PyProof.Rows L2
section
variable {X : Cx} {W : WX} {e a b c : Expr} {es : List Expr} {pos p p2 : Pos} {K : PySem.W.Frag} {ι : List Addr} {F H : Hp} {S : Store} {mg : Str → Option Value}
/-! ## x[::-1] -/
def rev1 (x : DV) (S : Store) : Res DV := match rd S x with
  | some (.lst xs) => .ok (.dat (.lst xs.reverse)) S
  | some (.tup xs) => .ok (.dat (.tup xs.reverse)) S
  | _ => .bad
def xRev (f : XFn) : XFn := fun ρ S => (f ρ S).bind rev1
theorem WdA.reverse {F : Hp} : ∀ {ds : List D} {vs : List V}, WdA K F vs ds → WdA K F vs.reverse ds.reverse
  | [], _, h => by cases h; exact .nil
  | d :: ds, _, h => by
    cases h with
    | cons a b => simp only [List.reverse_cons]; exact (WdA.reverse b).append (.cons a .nil)
theorem de_rev {f g : XFn} (hg : ∀ ρ S, g ρ S = .ok (.dat (.int (-1))) S) (h : DE X W a f) (hc : DE X W c g) : DE X W (.Subscript a (.Slice none none (some c) p2) pos) (xRev f) := by
  refine ⟨PE.weak (pe_rev h.pe hc.pe) fun σ H Q ⟨ι, F, ρ, S, r, h0⟩ => ?_⟩
  refine tD.bind (g := fun _ => rev1) r h0 fun v dv ι1 F1 S1 H1 r1 w1 g1 h1 => ?_
  refine ⟨ι1, F1, ρ, S1, r1, ?_⟩
  rw [hg]
  intro ι2 F2 H2 g2 st2 u wu
  have r2 : RR X.K ι2 F2 ρ S1 σ H2 := r1.slots g2 st2
  cases wu
  refine ⟨rfl, ?_⟩
  have h2 := Post.grow (r := rev1 dv S1) h1 g2
  unfold rev1 at h2
  cases ed : rd S1 dv with
  | none => simp only [ed] at h2; exact h2.elim
  | some d =>
    have vw := st2.vw (w1.grow g2) ed
    simp only [ed] at h2
    cases vw with
    | lst s w =>
      have q : Ret X.K ι2 F2 H2 S1 (.lst _) Q := fun z F' H' g st' w => h2 ι2 F' H' g st' z w
      exact ⟨_, _, rfl, .inl ⟨.of s, fun p hp => q.lst st2 w.reverse hp⟩⟩
    | tup s w =>
      have q : Ret X.K ι2 F2 H2 S1 (.tup _) Q := fun z F' H' g st' w => h2 ι2 F' H' g st' z w
      exact ⟨_, _, rfl, .inr ⟨sameT st2.sub s, fun p hp => q.tup st2 w.reverse hp⟩⟩
    | _ => exact h2.elim
/-! ## a new list where it stands, to be changed later -/
def xNew (l : LFn) : XFn := fun ρ S => (l ρ S).bind fun ds S1 => .ok (.obj S1.length) (S1 ++ [some ds])
theorem NE.deN {l : LFn} (h : NE X W e l) : DE X W e (xNew l) := ⟨PE.weak h.pe fun σ H Q ⟨ι, F, ρ, S, r, h0⟩ => by
  refine ⟨ι, F, ρ, S, r, ?_⟩
  unfold xNew at h0
  cases q : l ρ S with
  | bad => rw [q] at h0; exact h0
  | ex c S1 => rw [q] at h0; exact h0
  | ok ds S1 =>
    rw [q] at h0
    intro ι' F' H' g st p vs hp hH hF hι w
    exact h0 _ F' H' (grow_add g hp) (st.add hH hF hι w) _ ⟨p, by rw [← st.len]; simp, rfl⟩⟩
/-! ## a, b, .. = x, y, .. -/
def setAll : List Nat → List DV → Slots → Option Slots
  | [], [], ρ => some ρ
  | i :: is, v :: vs, ρ => setAll is vs (ρ.set i (some v))
  | _, _, _ => none
def sTgV (is : List Nat) (fa : AFn) : SFn := fun ρ S => (fa ρ S).bindS ρ fun ds S1 => match setAll is ds ρ with
  | some ρ' => .nx ρ' S1
  | none => .bad
structure DN (X : Cx) (tgs : List Expr) (is : List Nat) : Prop where
  pg : ∃ t, PGs X tgs t ∧ ∀ vs σ H Q ι F ρ S ds ρ', RR X.K ι F ρ S σ H → WVs X.K ι F vs ds → setAll is ds ρ = some ρ' → (∀ σ', RR X.K ι F ρ' S σ' H → Q σ' H) → t vs σ H Q
theorem dn_nil : DN X [] [] := by
  refine ⟨_, pgs_nil, fun vs σ H Q ι F ρ S ds ρ' r w e k => ?_⟩
  cases w with
  | nil => cases e; exact ⟨rfl, k σ r⟩
  | cons a b => cases e
theorem dn_cons {is : List Nat} {i : Nat} {x : Str} (k : DN X es is) (hN : X.N.Nodup) (hi : X.N[i]? = some x := by rfl) (hx : Loc X.env.scope x := by first | exact .inl rfl | exact .inr rfl)
    (hf : X.fn x = true ∨ X.env.scope.names.lookup x = some .local := by first | exact .inl rfl | exact .inr rfl)
    (hs : (assignEach (.Name x p :: es) X.env).map (·.2) = assign (.Name x p) X.env :: (assignEach es X.env).map (·.2) := by rfl) : DN X (.Name x p :: es) (i :: is) := by
  obtain ⟨t, q, j⟩ := k.pg
  refine ⟨_, pgs_cons (pg_name hN hi hx hf) q hs, fun vs σ H Q ι F ρ S ds ρ' r w e k => ?_⟩
  cases w with
  | nil => cases e
  | cons w ws => exact ⟨_, _, rfl, j _ _ H Q ι F _ S _ ρ' (r.set w i) ws e k⟩
theorem setAll_len : ∀ {is : List Nat} {ds : List DV} {ρ ρ' : Slots}, setAll is ds ρ = some ρ' → ds.length = is.length
  | [], [], _, _, _ => rfl
  | i :: is, v :: vs, ρ, ρ', h => by
    simp only [setAll] at h
    simp [setAll_len h]
  | [], _ :: _, _, _, h => by cases h
  | _ :: _, [], _, _, h => by cases h
theorem ds_tgV {tgs : List Expr} {is : List Nat} {fa : AFn} {k k2 : Nat} {p1 : Pos} (hc : X.calm = true) (h : DA X W es fa) (hd : DN X tgs is) (hz : is.length ≤ sizeLine := by decide) (hn : (assignEach tgs X.env).length = is.length := by rfl) (hst : (assignEach tgs X.env).findIdx? (·.1) = none := by rfl)
    (hs : swapsWithSole [.Tuple tgs k p1] (.Tuple es k2 p2) pos.line X.env = pure false := by rfl) (hw : swappedStores [.Tuple tgs k p1] (.Tuple es k2 p2) X.env = pure none := by rfl)
    (h1 : (assignEach [.Tuple tgs k p1] X.env).map (·.2) = [assign (.Tuple tgs k p1) X.env] := by rfl) : DS X W (.Assign [.Tuple tgs k p1] (.Tuple es k2 p2) pos) (sTgV is fa) := by
  obtain ⟨t, pg, j⟩ := hd.pg
  refine ⟨_, ps_asg (pe_tup h.pa) (pg_tup hc pg hn hst) hs hw h1, fun D σ H ⟨ι, F, ρ, S, r, h0⟩ => ?_⟩
  refine ⟨ι, F, ρ, S, r, ?_⟩
  unfold sTgV at h0
  cases q : fa ρ S with
  | bad => rw [q] at h0; exact h0
  | ex c S1 => rw [q] at h0; exact fun C ι' F' H' g' st m => h0 C σ ι' F' H' g' (r.slots g' st) m
  | ok ds S1 =>
    rw [q] at h0
    intro ι1 F1 H1 g1 st vs wv
    simp only [Res.bindS_ok] at h0
    cases e : setAll is ds ρ with
    | none => simp only [e] at h0; exact h0.elim
    | some ρ' =>
      simp only [e] at h0
      have hl := setAll_len e
      refine ⟨by rw [wv.length, hl]; exact hz, fun p hp => ?_⟩
      have r1 := r.slots g1 st
      have r2 := r1.push hp (.tup vs)
      have gp : Grow ι1 F1 H1 ι1 (upd F1 p (.tup vs)) (upd H1 p (.tup vs)) := grow_push st.sub hp _
      refine ⟨p, vs, rfl, .of upd_same, by rw [wv.length, hl], ?_⟩
      exact j vs σ _ _ ι1 _ ρ S1 ds ρ' r2 (wv.grow gp) e fun σ' r' => h0 σ' ι1 _ _ (g1.trans gp) r'
end
/-! ## defs that call themselves -/
section
variable {P : Program} {w : World} {K : PySem.W.Frag} {mg : Str → Option Value} {base : Heap}
theorem def_bad {k n : Nat} {x : Str} {params : Arguments} {body : List Stmt} {scope : Scope} {ps : List Str} (h : ∃ f fd, FunD K x x params body scope [] [] f fd ∧ mg x = some (.ref f))
    (hb : ∀ (kV doc pm : Value) (an : Option Addr) (cdv ct : Value) (us : List Value), us.length = ps.length → bindArgs (PySem.W.fnOf x x params body scope .none kV doc pm an cdv ct) ⟨us, []⟩ = pure (ps.zip us))
    (hn : ps.length = n) : Def P w K mg base k x n (fun _ _ => .bad) := by
  obtain ⟨f, fd, Fd, hm⟩ := h
  exact ⟨f, fd, ps, ⟨fun vs H Q E h => by rw [h.1, hn], fun A outer s H args us vs Q E _ _ _ _ _ h => by
    obtain ⟨_, ι, F, S, ds, _, _, po⟩ := h
    exact po.elim⟩, hm, Fd.kp, Fd.bindsN hb⟩
theorem def_lv {k j n : Nat} {x : Str} {g : Fn} (h : Def P w K mg base k x n g) (e : k = j) : Def P w K mg base j x n g := e ▸ h
end
end DL

set_option maxHeartbeats 4000000
namespace PySem.DLTup0
open PySem PySem.Spec PyProof.Rows
theorem tuple_mul0 (l : Addr) (items : Array Value) (n : Nat) (dd : Option Addr) (sl : Array (Option Value)) (x : Int) (u : Tok) (c0 : (decide (x < -(2 ^ 63)) || decide (x ≥ 2 ^ 63)) = false) (c1 : (items.isEmpty || x == 1) = false) (c2 : (decide (x ≤ 0) || items.isEmpty) = true) :
    Meets (Builtin.«tuple.__mul__» ⟨[.ref l, .int x u], []⟩) (fun _ R s => s.heap.get? l = some { cls := .type "tuple", dict := dd, data := .seq items n, slots := sl } ∧
      R (.ok (.ret (Value.ref s.heap.objs.size))) { s with heap := s.heap.push { cls := Value.type "tuple", data := Data.seq #[] }, toks := s.toks }) :=
  .of_wp fun prog w A R s h => by
    obtain ⟨hp, g, d, tk, os⟩ := s
    obtain ⟨hl, h⟩ := h
    have f1 := AutoSeq1.idx_int
    have hsz : (#[] : Array Value).size ≤ sizeLine := by decide
    wp_walk using wpAny_loadPart' hl
    repeat (first
      | (refine wpAny_ite_false (decide_eq_false (by rw [c0]; exact Bool.false_ne_true)) ?_; wp_walk using wpAny_loadPart' hl)
      | (refine wpAny_ite_false (decide_eq_false (by rw [c1]; exact Bool.false_ne_true)) ?_; wp_walk using wpAny_loadPart' hl)
      | (refine wpAny_ite_true (decide_eq_true c2) ?_; wp_walk using wpAny_loadPart' hl)
      | (refine wpAny_ite_false (decide_eq_false (Nat.not_lt.mpr hsz)) ?_; wp_walk using wpAny_loadPart' hl))
    all_goals exact ⟨_, rfl, h⟩
end PySem.DLTup0
namespace L2
open PySem PySem.Spec PyProof.Rows
def rRep0 (K : PySem.W.Frag) : R2 := fun x y H Q => ∃ l k xs, x = .ref l ∧ y = .int k ∧ SqT K H l xs ∧ xs ≠ [] ∧ -1000 ≤ k ∧ k ≤ 0 ∧ ∀ p, H p = none → Q (.ref p) (upd H p (.tup []))
theorem op_rep0 {X : Cx} : OpR X (binaryOp .Mult) (rRep0 X.K) := by
  intro pins s σ H x y v u Q I rx ry h
  obtain ⟨l, k, xs, rfl, rfl, hT, hne, h1, h2, q⟩ := h
  cases rx
  obtain ⟨t, rfl⟩ := ry
  obtain ⟨its, r, ⟨⟨cls, dd, data, sl⟩, ho, hc, n, hd⟩, hs⟩ := I.tuple hT
  simp only at hc hd
  subst hc hd
  have hle : its.length = xs.length := r.length.symm
  have hn : its ≠ [] := fun e => hne (by
    rw [e] at hle
    exact List.eq_nil_of_length_eq_zero hle.symm)
  have hi : its.toArray.isEmpty = false := by
    cases its with
    | nil => exact absurd rfl hn
    | cons a b => rfl
  have c0 : (decide (k < -(2 ^ 63)) || decide (k ≥ 2 ^ 63)) = false := by
    rw [decide_eq_false (by omega), decide_eq_false (by omega)] <;> rfl
  have c1 : (its.toArray.isEmpty || k == 1) = false := by
    rw [hi, Bool.false_or]
    exact beq_eq_false_iff_ne.mpr (by omega)
  have c2 : (decide (k ≤ 0) || its.toArray.isEmpty) = true := by
    rw [decide_eq_true h2]
    rfl
  refine wpAny_binaryOp_repeat_ref (T := "tuple") (U := "int") (by decide) ⟨_, ho, rfl⟩ (fun s' => typeIs_int s' k t) noFill_tuple_mul F.fills_int_mul F.slot_int_rmul repeat_tuple F.slot_int_index.lookup
    (call_meets F.slot_int_rmul (typeIs_int s k t) F.entry_int_rmul (F.args_int_rmul_2 _ _) (int_rmul_tuple k t l its.toArray n dd sl)
      ⟨ho, rfl, ⟨_, ho, rfl⟩, call_meets F.slot_tuple_mul ⟨_, ho, rfl⟩ F.entry_tuple_mul (F.args_tuple_mul_2 _ _) (PySem.DLTup0.tuple_mul0 l its.toArray n dd sl k t c0 c1 c2) ⟨ho, ?_⟩⟩)
  refine ⟨.ref s.heap.objs.size, _, I.laid (t' := s.toks) (o := .tup []) (fun b ob q => Heap.get?_push_of_some _ q) (Nat.le_refl _) ?_, rfl, q _ (I.hok.fresh (Nat.le_refl _))⟩
  exact ⟨Nat.zero_le _, _, .nil, IsTup.new _ _⟩
end L2
namespace DL
open PySem PySem.Spec PyProof.Rows L2
section
variable {X : Cx} {W : WX} {pos : Pos}
/-! ## tuple * n, any n -/
def dMulZ : D → D → Option D
  | .tup a, .int k => if a ≠ [] ∧ -1000 ≤ k ∧ k ≤ 0 then some (.tup []) else dMulA (.tup a) (.int k)
  | x, y => dMulA x y
abbrev rMulZ (K : PySem.W.Frag) : R2 := fun x y H Q => rMulA K x y H Q ∨ rRep0 K x y H Q
theorem op_mulZ : OpR X (binaryOp .Mult) (rMulZ X.K) := op_mulA.or op_rep0
theorem dMulA_core {K : PySem.W.Frag} {ι : List Addr} {F H : Hp} {S : Store} {v u : V} {a b c : D} {Q : VK} (st : StR K ι F S H) (va : Vw K F H v a) (vb : Vw K F H u b) (e : dMulA a b = some c) (q : Ret K ι F H S c Q) : rMulA K v u H Q := by
  unfold dMulA at e
  split at e
  · split at e
    · rename_i hk
      cases e
      cases va with
      | tup s w =>
        cases vb
        refine .inr ⟨_, _, _, rfl, rfl, sameT st.sub s, ?_, hk.2.1, hk.2.2, q.same st (.tup s w)⟩
        rcases hk.1 with z | z
        · subst z
          cases w
          exact .inl rfl
        · exact .inr z
    · exact .inl (dMul_core st va vb e q)
  · exact .inl (dMul_core st va vb e q)
theorem dMulZ_ok {K : PySem.W.Frag} : OpOk K (rMulZ K) (o2 dMulZ) := o2_ok fun ι F H S v u a b c Q st va vb e q => by
  unfold dMulZ at e
  split at e
  · split at e
    · rename_i hk
      cases e
      cases va with
      | tup s w =>
        cases vb
        refine .inr ⟨_, _, _, rfl, rfl, sameT st.sub s, ?_, hk.2.1, hk.2.2, fun p hp => q.tup st .nil hp⟩
        intro z
        subst z
        cases w
        exact hk.1 rfl
    · exact .inl (dMulA_core st va vb e q)
  · exact .inl (dMulA_core st va vb e q)
/-! ## except X as e: return isinstance(e, C) -/
def isiS (m : Str → Option Bool) (t : List (Str × Bool)) (i : Nat) : RS → RS
  | .ex c ρ S => (match m c with
    | some true => (match t.lookup c, ρ[i]? with
      | some b, some _ => .rt (.dat (.bl b)) S
      | _, _ => .bad)
    | some false => .ex c ρ S
    | none => .bad)
  | r => r
def sTryIs (f : SFn) (m : Str → Option Bool) (t : List (Str × Bool)) (i : Nat) : SFn := fun ρ S => isiS m t i (f ρ S)
def tIs (K : PySem.W.Frag) (i : Nat) (cv : Value) (a : Addr) (cls : Value) (d : Option Addr) : TS := fun D σ H =>
  ∃ (D0 : Addr) (b : Bool), cls = .ref D0 ∧ d = none ∧ ExcC K D0 ∧ σ[i]? = some (some (.ref a)) ∧ PySem.W.kitOne K (.ref D0) cv = some b ∧ D.rt (.bl b) H
theorem ds_tryIs {body : List Stmt} {f : SFn} {m : Str → Option Bool} {t : List (Str × Bool)} {x n y : Str} {i : Nat} {np ep yp ip cp rp hp : Pos} (hs : X.stack = X.env :: X.outer) (hf : X.env.frame = some X.env.locals) (hN : X.N.Nodup) (tk : Takes X W)
    (hb : ∀ (V : WX) (pn : List (Addr × Obj)) (xe : Value → Shared → Prop), Takes (X.tr pn xe) V → PassesOwn (model X.prog X.w) X.A X.env xe → DSs (X.tr pn xe) V body f)
    (hm : CatD X.K X.mg x m) (hglo : ∀ c, (m c).isSome = true → X.mg c = some (.ref (He.ga X.K c))) (T : IsiD X.K X.mg y t) (hmi : X.mg "isinstance" = none) (hil : i < X.N.length) (hg : Gl X x := by rfl) (hi : X.N[i]? = some n := by rfl) (hln : X.env.kindOf n = some .local := by rfl) (hdb : (x == ("__debug__" : Str)) = false := by decide)
    (hvn : Vis X.env.scope n := by first | exact .inl rfl | exact .inr (.inl rfl) | exact .inr (.inr rfl)) (hdn : (n == ("__debug__" : Str)) = false := by decide) (hcn : (n == ("__classdict__" : Str)) = false := by decide)
    (hgi : Gl X "isinstance" := by rfl) (hgT : Gl X y := by rfl) (hdy : (y == ("__debug__" : Str)) = false := by decide)
    (he : starEach (.Name n ep :: [.Name y yp]) X.env = (false, eval (.Name n ep) X.env) :: starEach [.Name y yp] X.env := by rfl) (he2 : starEach (.Name y yp :: []) X.env = (false, eval (.Name y yp) X.env) :: starEach [] X.env := by rfl) (hpl : (backTo cp (starEach [.Name y yp] X.env)).any (·.1) = false := by rfl) :
    DS X W (.Try body [.ExceptHandler (some (.Name x np)) (some n) [.Return (some (.Call (.Name "isinstance" ip) [.Name n ep, .Name y yp] [] cp)) rp] hp] [] [] pos) (sTryIs f m t i) := by
  obtain ⟨V, hV, hcat⟩ := hm.ex
  obtain ⟨V2, hV2, hT⟩ := T.ex
  have sui : ∀ (a : Addr) (oe : Obj) (cls : Value) (d : Option Addr) (pn : List (Addr × Obj)), Zc cls d oe → (∃ vs, oe.data = .fields vs) → PSs (X.suite a ((a, oe) :: pn)) (.Return (some (.Call (.Name "isinstance" ip) [.Name n ep, .Name y yp] [] cp)) rp :: []) (tIs X.K i (.ref V2) a cls d) := by
    intro a oe cls d pn hz hfl
    refine ⟨fun pins s σ H D I h => ?_⟩
    obtain ⟨D0, b, rfl, rfl, C, hσ, hk, q⟩ := h
    have P : PSs (X.suite a ((a, oe) :: pn)) (.Return (some (.Call (.Name "isinstance" ip) [.Name n ep, .Name y yp] [] cp)) rp :: []) _ :=
      pss_one (ps_ret (pe_callB (X := X.suite a ((a, oe) :: pn)) (call_isE C hz hfl) hgi hmi (by decide +kernel) (pa_cons (pe_var (X := X.suite a ((a, oe) :: pn)) hi hvn hdn hcn) (pa_cons (pe_glob (X := X.suite a ((a, oe) :: pn)) (v := .ref V2) hgT hV2 rfl hdy) pa_nil he2) he) (by decide) (by decide) he hpl))
    refine P.run pins s σ H D I ?_
    exact ⟨.ref a, hσ, .ref V2, .ref V2, b, rfl, (fun u r => r), hk, q⟩
  refine ⟨_, ps_try_as (tb := fun V => tS X V f) hs hf hN hi hln ⟨hg, hdb, .inl hV⟩ tk (fun V pn xe t p => (hb V pn xe t p).canon) sui, fun D σ H ⟨ι, F, ρ, S, r, q⟩ => ⟨ι, F, ρ, S, r, ?_⟩⟩
  unfold sTryIs at q
  cases e : f ρ S with
  | ex c ρ' S' =>
    rw [e] at q
    intro C σ' ι' F' H' g rr mc
    simp only [isiS] at q
    cases em : m c with
    | none => rw [em] at q; exact q.elim
    | some bb =>
      refine ⟨bb, hcat c bb C em mc, fun hbb a ha => ?_, fun hbb => ?_⟩
      · subst hbb
        rw [em] at q
        have eC : C = He.ga X.K c := by
          have z := hglo c (by rw [em]; rfl)
          rw [mc] at z
          cases z
          rfl
        subst eC
        simp only at q
        cases el : t.lookup c with
        | none => simp only [el] at q; exact q.elim
        | some b =>
          cases ei : ρ'[i]? with
          | none => simp only [el, ei] at q; exact q.elim
          | some o =>
          simp only [el, ei] at q
          obtain ⟨hC, hk⟩ := hT c b el
          have hlen : i < σ'.length := by rw [← rr.len]; exact (List.getElem?_eq_some_iff.mp ei).1
          exact ⟨_, b, rfl, rfl, hC, by rw [List.getElem?_set_self hlen], hk, q _ ι' F' H' g rr.st (.bl b)⟩
      · subst hbb
        rw [em] at q
        exact q C σ' ι' F' H' g rr mc
  | nx ρ' S' => rw [e] at q; exact q
  | rt v S' => rw [e] at q; exact q
  | bk ρ' S' => rw [e] at q; exact q
  | ct ρ' S' => rw [e] at q; exact q
  | bad => rw [e] at q; exact q
end
end DL

set_option maxHeartbeats 4000000
namespace DL
open PySem PySem.Spec PyProof.Rows L2
/-! # plain laws of the functions -/
def boolK {α : Type} (x : DV) (t e : Res α) : Res α := match x with
  | .dat (.bl b) => bif b then t else e
  | _ => .bad
theorem xAnd_eq (f g : XFn) : xAnd f g = fun ρ S => (f ρ S).bind fun x S1 => boolK x (g ρ S1) (.ok (.dat (.bl false)) S1) := by
  funext ρ S
  unfold xAnd boolK
  congr 1
  funext x S1
  cases x with
  | dat d => cases d with
    | bl b => cases b <;> rfl
    | non => rfl
    | int i => rfl
    | str i => rfl
    | lst i => rfl
    | tup i => rfl
  | obj k => rfl
  | scr ns => rfl
  | exn c p => rfl
theorem xOr_eq (f g : XFn) : xOr f g = fun ρ S => (f ρ S).bind fun x S1 => boolK x (.ok (.dat (.bl true)) S1) (g ρ S1) := by
  funext ρ S
  unfold xOr boolK
  congr 1
  funext x S1
  cases x with
  | dat d => cases d with
    | bl b => cases b <;> rfl
    | non => rfl
    | int i => rfl
    | str i => rfl
    | lst i => rfl
    | tup i => rfl
  | obj k => rfl
  | scr ns => rfl
  | exn c p => rfl
theorem xChain_eq (o o' : Op2) (f g k : XFn) : xChain o o' f g k = fun ρ S => (f ρ S).bind fun x S1 => (g ρ S1).bind fun y S2 => (o x y S2).bind fun z S3 => boolK z ((k ρ S3).bind fun w S4 => o' y w S4) (.ok (.dat (.bl false)) S3) := by
  funext ρ S
  unfold xChain boolK
  congr 1
  funext x S1
  congr 1
  funext x S1
  congr 1
  funext x S1
  cases x with
  | dat d => cases d with
    | bl b => cases b <;> rfl
    | non => rfl
    | int i => rfl
    | str i => rfl
    | lst i => rfl
    | tup i => rfl
  | obj k => rfl
  | scr ns => rfl
  | exn c p => rfl
theorem truth_bl (b : Bool) (S : Store) : truth (.dat (.bl b)) S = .ok b S := rfl
theorem truth_non (S : Store) : truth (.dat .non) S = .ok false S := rfl
theorem truth_int (i : Int) (S : Store) : truth (.dat (.int i)) S = .ok (i != 0) S := rfl
theorem truth_lst (xs : List D) (S : Store) : truth (.dat (.lst xs)) S = .ok (!xs.isEmpty) S := rfl
theorem truth_tup (xs : List D) (S : Store) : truth (.dat (.tup xs)) S = .ok (!xs.isEmpty) S := rfl
theorem if_bool {α : Type} (b : Bool) (x y : α) : (if b = true then x else y) = bif b then x else y := by cases b <;> rfl
theorem ends_nx (n : Nat) (ρ : Slots) (S : Store) : ends n (.nx ρ S) = .ok (.dat .non) (S.take n) := rfl
theorem ends_rt (n : Nat) (v : DV) (S : Store) : ends n (.rt v S) = leave n v S := rfl
theorem ends_ex (n : Nat) (c : Str) (ρ : Slots) (S : Store) : ends n (.ex c ρ S) = .ex c (S.take n) := rfl
theorem leave_dat (n : Nat) (d : D) (S : Store) : leave n (.dat d) S = .ok (.dat d) (S.take n) := rfl
theorem mkTup_d {ds : List DV} {xs : List D} {S : Store} (h : dats ds = some xs) (hl : xs.length ≤ sizeLine) : mkTup ds S = .ok (.dat (.tup xs)) S := by simp [mkTup, h, hl]
theorem mkLst_d {ds : List DV} {xs : List D} {S : Store} (h : dats ds = some xs) (hl : xs.length ≤ sizeLine) : mkLst ds S = .ok (.dat (.lst xs)) S := by simp [mkLst, h, hl]
def szB (n : Nat) : Bool := n.ble 16777216
theorem szB_iff {n : Nat} : n ≤ sizeLine ↔ szB n = true := by simp [szB, sizeLine]
theorem mkTup_eq (ds : List DV) (S : Store) : mkTup ds S = match dats ds with
  | some xs => bif szB xs.length then .ok (.dat (.tup xs)) S else .bad
  | none => .bad := by
  unfold mkTup
  cases dats ds with
  | none => rfl
  | some xs =>
    simp only [szB_iff]
    cases szB xs.length <;> rfl
theorem mkLst_eq (ds : List DV) (S : Store) : mkLst ds S = match dats ds with
  | some xs => bif szB xs.length then .ok (.dat (.lst xs)) S else .bad
  | none => .bad := by
  unfold mkLst
  cases dats ds with
  | none => rfl
  | some xs =>
    simp only [szB_iff]
    cases szB xs.length <;> rfl
theorem szB_s : szB 0 = true ∧ szB 1 = true ∧ szB 2 = true ∧ szB 3 = true ∧ szB 4 = true ∧ szB 5 = true ∧ szB 6 = true ∧ szB 7 = true ∧ szB 8 = true ∧ szB 9 = true ∧ szB 10 = true ∧ szB 11 = true ∧ szB 12 = true ∧ szB 13 = true := by decide
/-! ## applied -/
def RS.seq (r : RS) (g : SFn) : RS := match r with
  | .nx ρ' S' => g ρ' S'
  | r => r
theorem seq_nx (ρ : Slots) (S : Store) (g : SFn) : (RS.nx ρ S).seq g = g ρ S := rfl
theorem seq_rt (v : DV) (S : Store) (g : SFn) : (RS.rt v S).seq g = .rt v S := rfl
theorem seq_ex (c : Str) (ρ : Slots) (S : Store) (g : SFn) : (RS.ex c ρ S).seq g = .ex c ρ S := rfl
theorem seq_bk (ρ : Slots) (S : Store) (g : SFn) : (RS.bk ρ S).seq g = .bk ρ S := rfl
theorem seq_ct (ρ : Slots) (S : Store) (g : SFn) : (RS.ct ρ S).seq g = .ct ρ S := rfl
theorem seq_cond (b : Bool) (x y : RS) (g : SFn) : (bif b then x else y).seq g = bif b then x.seq g else y.seq g := by cases b <;> rfl
theorem ends_cond (n : Nat) (b : Bool) (x y : RS) : ends n (bif b then x else y) = bif b then ends n x else ends n y := by cases b <;> rfl
theorem c_ok {α : Type} (b : Bool) (x y : α) (S : Store) : (bif b then Res.ok x S else Res.ok y S) = Res.ok (bif b then x else y) S := by cases b <;> rfl
theorem c_dat (b : Bool) (x y : D) : (bif b then DV.dat x else DV.dat y) = DV.dat (bif b then x else y) := by cases b <;> rfl
theorem c_bl (b : Bool) (x y : Bool) : (bif b then D.bl x else D.bl y) = D.bl (bif b then x else y) := by cases b <;> rfl
theorem c_int (b : Bool) (x y : Int) : (bif b then D.int x else D.int y) = D.int (bif b then x else y) := by cases b <;> rfl
theorem c_and (b x : Bool) : (bif b then x else false) = (b && x) := by cases b <;> rfl
theorem c_or (b x : Bool) : (bif b then true else x) = (b || x) := by cases b <;> rfl
theorem c_nand (b x : Bool) : (bif b then false else x) = (!b && x) := by cases b <;> rfl
section
variable (ρ : Slots) (S : Store) (f g k : XFn) (fa ga : AFn) (fs gs hs : SFn) (t u : TFn) (l : LFn) (G : GFn)
theorem a_var0 (i : Nat) : xVar i ρ S = match ρ[i]? with
  | some (some dv) => .ok dv S
  | _ => .bad := rfl
theorem a_c (d : D) : xC d ρ S = .ok (.dat d) S := rfl
theorem a_x2 (o : Op2) : x2 o f g ρ S = (f ρ S).bind fun x S1 => (g ρ S1).bind fun y S2 => o x y S2 := rfl
theorem a_o2 (o : D → D → Option D) (x y : D) : o2 o (.dat x) (.dat y) S = res1 (o x y) S := rfl
theorem a_res1 (d : D) : res1 (some d) S = .ok (.dat d) S := rfl
theorem a_xN (o : OpN) : xN o fa ρ S = (fa ρ S).bind o := rfl
theorem a_nil : aNil ρ S = .ok [] S := rfl
theorem a_cons : aCons f fa ρ S = (f ρ S).bind fun d S1 => (fa ρ S1).bind fun ds S2 => .ok (d :: ds) S2 := rfl
theorem a_o1 (o : D → Option D) (d : D) : o1 o [.dat d] S = res1 (o d) S := rfl
theorem a_xN1 : xN1 l ρ S = (l ρ S).bind fun ds S1 => .ok (.dat (.lst ds)) S1 := rfl
theorem a_tup : xTup fa ρ S = (fa ρ S).bind mkTup := rfl
theorem a_lst : xLst fa ρ S = (fa ρ S).bind mkLst := rfl
theorem a_tBl : tBl f ρ S = (f ρ S).bind bool1 := rfl
theorem a_tTr : tTr f ρ S = (f ρ S).bind truth := rfl
theorem a_tNo : tNo t ρ S = (t ρ S).bind fun b S1 => .ok (!b) S1 := rfl
theorem a_tAn : tAn t u ρ S = (t ρ S).bind fun b S1 => bif b then u ρ S1 else .ok false S1 := by
  show (t ρ S).bind _ = _
  congr 1
  funext b S1
  cases b <;> rfl
theorem a_tOr : tOr_ t u ρ S = (t ρ S).bind fun b S1 => bif b then .ok true S1 else u ρ S1 := by
  show (t ρ S).bind _ = _
  congr 1
  funext b S1
  cases b <;> rfl
theorem a_bool1 (b : Bool) : bool1 (.dat (.bl b)) S = .ok b S := rfl
theorem a_boolK {α : Type} (b : Bool) (x y : Res α) : boolK (.dat (.bl b)) x y = bif b then x else y := rfl
theorem a_and : xAnd f g ρ S = (f ρ S).bind fun x S1 => boolK x (g ρ S1) (.ok (.dat (.bl false)) S1) := by rw [xAnd_eq]
theorem a_or : xOr f g ρ S = (f ρ S).bind fun x S1 => boolK x (.ok (.dat (.bl true)) S1) (g ρ S1) := by rw [xOr_eq]
theorem a_chain (o o' : Op2) : xChain o o' f g k ρ S = (f ρ S).bind fun x S1 => (g ρ S1).bind fun y S2 => (o x y S2).bind fun z S3 => boolK z ((k ρ S3).bind fun w S4 => o' y w S4) (.ok (.dat (.bl false)) S3) := by rw [xChain_eq]
theorem a_not : xNot f ρ S = (f ρ S).bind nDV := rfl
theorem a_nDV (b : Bool) : nDV (.dat (.bl b)) S = .ok (.dat (.bl (!b))) S := rfl
theorem a_neg : xNeg f ρ S = (f ρ S).bind neg1 := rfl
theorem a_neg1 (i : Int) : neg1 (.dat (.int i)) S = .ok (.dat (.int (-i))) S := rfl
theorem a_if : xIf t f g ρ S = (t ρ S).bind fun b S1 => bif b then f ρ S1 else g ρ S1 := by
  show (t ρ S).bind _ = _
  congr 1
  funext b S1
  cases b <;> rfl
theorem a_isi (T : String) : xIsi T f ρ S = (f ρ S).bind (oIsi T) := rfl
theorem a_oIsi (T : String) (d : D) : oIsi T (.dat d) S = .ok (.dat (.bl (isiB T d))) S := rfl
theorem a_it : lIt f ρ S = (f ρ S).bind items1 := rfl
theorem a_items_l (xs : List D) : items1 (.dat (.lst xs)) S = .ok xs S := rfl
theorem a_items_t (xs : List D) : items1 (.dat (.tup xs)) S = .ok xs S := rfl
theorem a_yes : tYesD ρ S = .ok true S := rfl
theorem a_seq : sSeq fs gs ρ S = (fs ρ S).seq gs := rfl
theorem a_nils : sNil ρ S = .nx ρ S := rfl
theorem a_ret : sRet f ρ S = (f ρ S).bindS ρ fun v S1 => .rt v S1 := rfl
theorem a_set (i : Nat) : sSet i f ρ S = (f ρ S).bindS ρ fun v S1 => .nx (ρ.set i (some v)) S1 := rfl
theorem a_expr : sExpr f ρ S = (f ρ S).bindS ρ fun _ S1 => .nx ρ S1 := rfl
theorem a_sif : sIf t fs gs ρ S = (t ρ S).bindS ρ fun b S1 => bif b then fs ρ S1 else gs ρ S1 := by
  show (t ρ S).bindS ρ _ = _
  congr 1
  funext b S1
  cases b <;> rfl
theorem a_raise (c : Str) : sRaise c ρ S = .ex c ρ S := rfl
theorem a_par (i j : Nat) : sPar i j f g ρ S = (f ρ S).bindS ρ fun x S1 => (g ρ S1).bindS ρ fun y S2 => .nx ((ρ.set i (some x)).set j (some y)) S2 := rfl
theorem a_tg : sTg G f ρ S = (f ρ S).bindS ρ fun v S1 => match v with
  | .dat d => (match G d ρ with
    | some ρ' => .nx ρ' S1
    | none => .bad)
  | _ => .bad := rfl
theorem a_fn (N : Nat) (ds : List DV) : fnBody N fs ds S = ends S.length (fs (ds.map some ++ List.replicate (N - ds.length) none) S) := rfl
theorem a_gNm (i : Nat) (d : D) : gNm i d ρ = some (ρ.set i (some (.dat d))) := rfl
theorem a_gTp (q : GsFn) (ds : List D) : gTp q (.tup ds) ρ = q ds ρ := rfl
theorem a_gNo : gNo [] ρ = some ρ := rfl
theorem a_gCo (q : GsFn) (d : D) (ds : List D) : gCo G q (d :: ds) ρ = (G d ρ).bind (q ds) := rfl
theorem a_for : sFor l G fs ρ S = (l ρ S).bindS ρ fun ds S1 => forGo G fs ds ρ S1 := rfl
theorem a_lc (own : List Nat) : lLc l own G t f ρ S = (l ρ S).bind fun ds S1 => bif szB ds.length then lcGo G t f (wipeS ρ own) ds S1 else .bad := by
  show (l ρ S).bind _ = _
  congr 1
  funext ds S1
  simp only [szB_iff]
  cases szB ds.length <;> rfl
theorem a_rg1 : lRg1 fa ρ S = (fa ρ S).bind rng1 := rfl
theorem a_rg2 : lRg2 fa ρ S = (fa ρ S).bind rng2 := rfl
theorem a_new (i : Nat) : sNew i l ρ S = (l ρ S).bindS ρ fun ds S1 => .nx (ρ.set i (some (.obj S1.length))) (S1 ++ [some ds]) := rfl
theorem a_llst : lLst fa ρ S = (fa ρ S).bind fun ds S1 => match dats ds with
  | some xs => bif szB xs.length then .ok xs S1 else .bad
  | none => .bad := by
  show (fa ρ S).bind _ = _
  congr 1
  funext ds S1
  cases dats ds with
  | none => rfl
  | some xs =>
    simp only [szB_iff]
    cases szB xs.length <;> rfl
theorem a_dats0 : dats [] = some [] := rfl
theorem a_dats1 (d : D) (r : List DV) : dats (.dat d :: r) = (dats r).map (d :: ·) := rfl
theorem a_ret1 (r : List D) (d : D) : (some r).map (d :: ·) = some (d :: r) := rfl
theorem a_wipe0 : wipeS ρ [] = ρ := rfl
theorem a_wipe1 (i : Nat) (r : List Nat) : wipeS ρ (i :: r) = (wipeS ρ r).set i none := rfl
theorem a_sl (l h : PFn) : xSl f l h ρ S = (f ρ S).bind fun x S1 => (l ρ S1).bind fun lo S2 => (h ρ S2).bind fun hi S3 => oSl x lo hi S3 := rfl
theorem a_pNo : pNo ρ S = .ok none S := rfl
theorem a_pEx : pEx f ρ S = (f ρ S).bind asInt := rfl
theorem a_asInt (i : Int) : asInt (.dat (.int i)) S = .ok (some i) S := rfl
theorem a_frz0 (i : Nat) : sFrz i ρ S = match ρ[i]? with
  | some (some x) => (match cellOf S x with
    | some (k, ds) => .nx (ρ.set i (some (.dat (.lst ds)))) (S.set k none)
    | none => .bad)
  | _ => .bad := rfl
theorem a_zip : lZip f g ρ S = (f ρ S).bind fun x S1 => (g ρ S1).bind fun y S2 => zip2 x y S2 := rfl
theorem zip2_t (xs ys : List D) : zip2 (.dat (.tup xs)) (.dat (.tup ys)) S = .ok (zipD xs ys) S := rfl
theorem zip2_l (xs ys : List D) : zip2 (.dat (.lst xs)) (.dat (.lst ys)) S = .ok (zipD xs ys) S := rfl
theorem a_enum : lEnum f ρ S = (f ρ S).bind enum1 := rfl
theorem enum1_l (xs : List D) : enum1 (.dat (.lst xs)) S = .ok (enumD xs) S := rfl
theorem enum1_t (xs : List D) : enum1 (.dat (.tup xs)) S = .ok (enumD xs) S := rfl
theorem a_sort : lSortSet f ρ S = (f ρ S).bind sortS := rfl
theorem a_rd (d : D) : rd S (.dat d) = some d := rfl
end
theorem lcGo_mapD {G : GFn} {t : TFn} {f : XFn} {ρ : Slots} {S : Store} {q : D → D} : ∀ (xs : List D), (∀ a ∈ xs, ∃ ρ1, G a ρ = some ρ1 ∧ t ρ1 S = .ok true S ∧ f ρ1 S = .ok (.dat (q a)) S) → lcGo G t f ρ xs S = .ok (xs.map q) S
  | [], _ => rfl
  | a :: r, h => by
    obtain ⟨ρ1, h1, h2, h3⟩ := h a (List.mem_cons_self ..)
    have ih := lcGo_mapD (G := G) (t := t) (f := f) (ρ := ρ) (S := S) (q := q) r fun b hb => h b (List.mem_cons_of_mem _ hb)
    simp only [List.map_cons, lcGo, h1, h2, h3, Res.bindN_ok, if_true, ih]
theorem lcGo_filterD {G : GFn} {t : TFn} {f : XFn} {ρ : Slots} {S : Store} {q : D → D} {p : D → Bool} : ∀ (xs : List D), (∀ a ∈ xs, ∃ ρ1, G a ρ = some ρ1 ∧ t ρ1 S = .ok (p a) S ∧ (p a = true → f ρ1 S = .ok (.dat (q a)) S)) → lcGo G t f ρ xs S = .ok ((xs.filter p).map q) S
  | [], _ => rfl
  | a :: r, h => by
    obtain ⟨ρ1, h1, h2, h3⟩ := h a (List.mem_cons_self ..)
    have ih := lcGo_filterD (G := G) (t := t) (f := f) (ρ := ρ) (S := S) (q := q) (p := p) r fun b hb => h b (List.mem_cons_of_mem _ hb)
    cases hp : p a with
    | false => simp only [lcGo, h1, h2, hp, Res.bindN_ok, ih, List.filter_cons, Bool.false_eq_true, if_false]
    | true => simp only [List.map_cons, lcGo, h1, h2, h3 hp, hp, Res.bindN_ok, if_true, ih, List.filter_cons]
theorem lcGo_map {G : GFn} {t : TFn} {f : XFn} {ρ : Slots} {S : Store} {α : Type} {enc : α → D} {q : α → D} : ∀ (xs : List α), (∀ a ∈ xs, ∃ ρ1, G (enc a) ρ = some ρ1 ∧ t ρ1 S = .ok true S ∧ f ρ1 S = .ok (.dat (q a)) S) → lcGo G t f ρ (xs.map enc) S = .ok (xs.map q) S
  | [], _ => rfl
  | a :: r, h => by
    obtain ⟨ρ1, h1, h2, h3⟩ := h a (List.mem_cons_self ..)
    have ih := lcGo_map (G := G) (t := t) (f := f) (ρ := ρ) (S := S) (enc := enc) (q := q) r fun b hb => h b (List.mem_cons_of_mem _ hb)
    simp only [List.map_cons, lcGo, h1, h2, h3, Res.bindN_ok, if_true, ih]
theorem lcGo_filter {G : GFn} {t : TFn} {f : XFn} {ρ : Slots} {S : Store} {α : Type} {enc : α → D} {q : α → D} {p : α → Bool} : ∀ (xs : List α), (∀ a ∈ xs, ∃ ρ1, G (enc a) ρ = some ρ1 ∧ t ρ1 S = .ok (p a) S ∧ (p a = true → f ρ1 S = .ok (.dat (q a)) S)) → lcGo G t f ρ (xs.map enc) S = .ok ((xs.filter p).map q) S
  | [], _ => rfl
  | a :: r, h => by
    obtain ⟨ρ1, h1, h2, h3⟩ := h a (List.mem_cons_self ..)
    have ih := lcGo_filter (G := G) (t := t) (f := f) (ρ := ρ) (S := S) (enc := enc) (q := q) (p := p) r fun b hb => h b (List.mem_cons_of_mem _ hb)
    cases hp : p a with
    | false => simp only [List.map_cons, lcGo, h1, h2, hp, Res.bindN_ok, ih, List.filter_cons, Bool.false_eq_true, if_false]
    | true => simp only [List.map_cons, lcGo, h1, h2, h3 hp, hp, Res.bindN_ok, if_true, ih, List.filter_cons]
theorem boolsOf_map {α : Type} (p : α → Bool) : ∀ xs : List α, boolsOf (xs.map fun a => .bl (p a)) = some (xs.map p)
  | [] => rfl
  | a :: r => by simp [boolsOf, boolsOf_map p r]
theorem dAll_map {α : Type} (p : α → Bool) (xs : List α) : dAll (.lst (xs.map fun a => .bl (p a))) = some (.bl (xs.all p)) := by
  simp [dAll, boolsOf_map, List.all_map, Function.comp_def]
theorem dAny_map {α : Type} (p : α → Bool) (xs : List α) : dAny (.lst (xs.map fun a => .bl (p a))) = some (.bl (xs.any p)) := by
  simp [dAny, boolsOf_map, List.any_map, Function.comp_def]
theorem intsOf_map {α : Type} (p : α → Int) : ∀ xs : List α, intsOf (xs.map fun a => .int (p a)) = some (xs.map p)
  | [] => rfl
  | a :: r => by simp [intsOf, intsOf_map p r]
/-! ## isinstance -/
def D.isI : D → Bool | .int _ => true | .bl _ => true | _ => false
def D.isB : D → Bool | .bl _ => true | _ => false
def D.isT : D → Bool | .tup _ => true | _ => false
def D.isL : D → Bool | .lst _ => true | _ => false
def D.isS : D → Bool | .str _ => true | _ => false
theorem isi_int (d : D) : isiB "int" d = d.isI := by cases d <;> rfl
theorem isi_bool (d : D) : isiB "bool" d = d.isB := by cases d <;> rfl
theorem isi_tuple (d : D) : isiB "tuple" d = d.isT := by cases d <;> rfl
theorem isi_list (d : D) : isiB "list" d = d.isL := by cases d <;> rfl
theorem isi_str (d : D) : isiB "str" d = d.isS := by cases d <;> rfl
/-! ## operators -/
theorem dLt_i (i j : Int) : dLt (.int i) (.int j) = some (.bl (decide (i < j))) := rfl
theorem dLe_i (i j : Int) : dLe (.int i) (.int j) = some (.bl (decide (i ≤ j))) := rfl
theorem dGt_i (i j : Int) : dGt (.int i) (.int j) = some (.bl (decide (i > j))) := rfl
theorem dGe_i (i j : Int) : dGe (.int i) (.int j) = some (.bl (decide (i ≥ j))) := rfl
theorem dAdd_i (i j : Int) : dAdd (.int i) (.int j) = some (.int (i + j)) := rfl
theorem dSub_i (i j : Int) : dSub (.int i) (.int j) = some (.int (i - j)) := rfl
def D.isN : D → Bool | .non => true | _ => false
theorem dIsN_eq (d : D) : dIsN d .non = some (.bl d.isN) := by cases d <;> rfl
theorem dNotN_eq (d : D) : dNotN d .non = some (.bl (!d.isN)) := by cases d <;> rfl
theorem dLen_l (xs : List D) : dLen (.lst xs) = some (.int xs.length) := rfl
theorem dLen_t (xs : List D) : dLen (.tup xs) = some (.int xs.length) := rfl
theorem dIx_l (xs : List D) (i : Int) : dIx (.lst xs) (.int i) = atI xs i := rfl
theorem dIx_t (xs : List D) (i : Int) : dIx (.tup xs) (.int i) = atI xs i := rfl
theorem dList_l (xs : List D) : dList (.lst xs) = some (.lst xs) := rfl
theorem dList_t (xs : List D) : dList (.tup xs) = some (.lst xs) := rfl
theorem dTuple_l (xs : List D) : dTuple (.lst xs) = some (.tup xs) := rfl
theorem dTuple_t (xs : List D) : dTuple (.tup xs) = some (.tup xs) := rfl
/-! ## == of data without truth values -/
mutual
def D.noB : D → Bool
  | .bl _ => false
  | .lst xs => D.noBs xs
  | .tup xs => D.noBs xs
  | _ => true
def D.noBs : List D → Bool
  | [] => true
  | x :: xs => D.noB x && D.noBs xs
end
mutual
theorem eqv_iff : ∀ a b : D, a.noB = true → b.noB = true → (PyData.eqv a.py b.py = true ↔ a = b)
  | .non, b, _, h2 => by cases b <;> simp_all [D.py, PyData.eqv, D.noB]
  | .bl _, _, h1, _ => by simp [D.noB] at h1
  | .int i, b, _, h2 => by cases b <;> simp_all [D.py, PyData.eqv, D.noB]
  | .str i, b, _, h2 => by cases b <;> simp_all [D.py, PyData.eqv, D.noB]
  | .lst xs, b, h1, h2 => by
    cases b with
    | lst ys => simp only [D.py, PyData.eqv, D.lst.injEq]; exact eqvs_iff xs ys (by simpa [D.noB] using h1) (by simpa [D.noB] using h2)
    | _ => simp_all [D.py, PyData.eqv, D.noB]
  | .tup xs, b, h1, h2 => by
    cases b with
    | tup ys => simp only [D.py, PyData.eqv, D.tup.injEq]; exact eqvs_iff xs ys (by simpa [D.noB] using h1) (by simpa [D.noB] using h2)
    | _ => simp_all [D.py, PyData.eqv, D.noB]
theorem eqvs_iff : ∀ a b : List D, D.noBs a = true → D.noBs b = true → (PyData.eqvAll (D.pys a) (D.pys b) = true ↔ a = b)
  | [], [], _, _ => by simp [D.pys, PyData.eqvAll]
  | [], _ :: _, _, _ => by simp [D.pys, PyData.eqvAll]
  | _ :: _, [], _, _ => by simp [D.pys, PyData.eqvAll]
  | x :: xs, y :: ys, h1, h2 => by
    have q1 : x.noB = true ∧ D.noBs xs = true := by simpa [D.noBs] using h1
    have q2 : y.noB = true ∧ D.noBs ys = true := by simpa [D.noBs] using h2
    simp only [D.pys, PyData.eqvAll, Bool.and_eq_true, eqv_iff x y q1.1 q2.1, eqvs_iff xs ys q1.2 q2.2, List.cons.injEq]
end
theorem dEqB_iff {a b : D} (h1 : a.noB = true) (h2 : b.noB = true) : dEqB a b = true ↔ a = b := eqv_iff a b h1 h2
theorem noBs_iff : ∀ {xs : List D}, D.noBs xs = true ↔ ∀ x ∈ xs, x.noB = true
  | [] => by simp [D.noBs]
  | x :: xs => by simp [D.noBs, noBs_iff (xs := xs)]
/-! ## where == is served -/
mutual
def D.fit : Nat → D → Bool
  | _, .non => true
  | _, .bl _ => true
  | _, .int _ => true
  | _, .str x => PyData.strOk x
  | 0, .lst _ => false
  | 0, .tup _ => false
  | n + 1, .lst xs => D.fits n xs
  | n + 1, .tup xs => D.fits n xs
def D.fits : Nat → List D → Bool
  | _, [] => true
  | n, x :: xs => D.fit n x && D.fits n xs
end
theorem fits_iff {n : Nat} : ∀ {xs : List D}, D.fits n xs = true ↔ ∀ x ∈ xs, x.fit n = true
  | [] => by simp [D.fits]
  | x :: xs => by simp [D.fits, fits_iff (xs := xs)]
mutual
theorem fit_py : ∀ (n : Nat) (d : D), d.fit n = true → d.py.canLay0 = true ∧ d.py.depth ≤ n
  | _, .non, _ => by simp [D.py, PyData.canLay0, PyData.depth]
  | _, .bl _, _ => by simp [D.py, PyData.canLay0, PyData.depth]
  | _, .int _, _ => by simp [D.py, PyData.canLay0, PyData.depth]
  | n, .str x, h => by cases n <;> (simp only [D.fit] at h; simp [D.py, PyData.canLay0, PyData.depth, h])
  | 0, .lst _, h => by simp [D.fit] at h
  | 0, .tup _, h => by simp [D.fit] at h
  | n + 1, .lst xs, h => by
    have := fits_py n xs (by simpa [D.fit] using h)
    simp only [D.py, PyData.canLay0, PyData.depth]
    exact ⟨this.1, by omega⟩
  | n + 1, .tup xs, h => by
    have := fits_py n xs (by simpa [D.fit] using h)
    simp only [D.py, PyData.canLay0, PyData.depth]
    exact ⟨this.1, by omega⟩
theorem fits_py : ∀ (n : Nat) (ds : List D), D.fits n ds = true → PyData.canLayAll0 (D.pys ds) = true ∧ PyData.depthAll (D.pys ds) ≤ n
  | _, [], _ => by simp [D.pys, PyData.canLayAll0, PyData.depthAll]
  | n, x :: xs, h => by
    have h' : x.fit n = true ∧ D.fits n xs = true := by simpa [D.fits] using h
    have a := fit_py n x h'.1
    have b := fits_py n xs h'.2
    simp only [D.pys, PyData.canLayAll0, PyData.depthAll, a.1, b.1, Bool.and_self, true_and]
    omega
end
theorem dEq_fit {n m : Nat} {a b : D} (ha : a.fit n = true) (hb : b.fit m = true) (h : n ≤ 64 := by decide) : dEq a b = some (.bl (dEqB a b)) := by
  have p := fit_py n a ha
  have q := fit_py m b hb
  have : canEq a b = true := by
    simp only [canEq, p.1, q.1, Bool.true_and, decide_eq_true_eq]
    omega
  simp only [dEq, this, if_true]
theorem dNe_fit {n m : Nat} {a b : D} (ha : a.fit n = true) (hb : b.fit m = true) (h : n ≤ 64 := by decide) : dNe a b = some (.bl (!dEqB a b)) := by
  have p := fit_py n a ha
  have q := fit_py m b hb
  have : canEq a b = true := by
    simp only [canEq, p.1, q.1, Bool.true_and, decide_eq_true_eq]
    omega
  simp only [dNe, this, if_true]
theorem canIn_fit {n m : Nat} {a : D} {xs : List D} (ha : a.fit n = true) (hb : D.fits m xs = true) (h : n ≤ 64) : canIn a xs = true := by
  have p := fit_py n a ha
  have q := fits_py m xs hb
  simp only [canIn, p.1, q.1, Bool.true_and, decide_eq_true_eq]
  omega
theorem dIn_l {n m : Nat} {a : D} {xs : List D} (ha : a.fit n = true) (hb : D.fits m xs = true) (h : n ≤ 64 := by decide) : dIn a (.lst xs) = some (.bl (dInB a xs)) := by simp only [dIn, canIn_fit ha hb h, if_true]
theorem dIn_t {n m : Nat} {a : D} {xs : List D} (ha : a.fit n = true) (hb : D.fits m xs = true) (h : n ≤ 64 := by decide) : dIn a (.tup xs) = some (.bl (dInB a xs)) := by simp only [dIn, canIn_fit ha hb h, if_true]
theorem dNin_l {n m : Nat} {a : D} {xs : List D} (ha : a.fit n = true) (hb : D.fits m xs = true) (h : n ≤ 64 := by decide) : dNin a (.lst xs) = some (.bl (!dInB a xs)) := by simp only [dNin, canIn_fit ha hb h, if_true]
theorem dNin_t {n m : Nat} {a : D} {xs : List D} (ha : a.fit n = true) (hb : D.fits m xs = true) (h : n ≤ 64 := by decide) : dNin a (.tup xs) = some (.bl (!dInB a xs)) := by simp only [dNin, canIn_fit ha hb h, if_true]
theorem dEq_ii (i j : Int) : dEq (.int i) (.int j) = some (.bl (i == j)) := dEq_fit (n := 0) (m := 0) rfl rfl
theorem dNe_ii (i j : Int) : dNe (.int i) (.int j) = some (.bl (!(i == j))) := dNe_fit (n := 0) (m := 0) rfl rfl
theorem eqs_ints : ∀ a b : List Int, PyData.eqvAll (D.pys (a.map .int)) (D.pys (b.map .int)) = decide (a = b)
  | [], [] => by simp [D.pys, PyData.eqvAll]
  | [], _ :: _ => by simp [D.pys, PyData.eqvAll]
  | _ :: _, [] => by simp [D.pys, PyData.eqvAll]
  | x :: xs, y :: ys => by
    simp only [List.map_cons, D.pys, D.py, PyData.eqvAll, PyData.eqv, eqs_ints xs ys, List.cons.injEq, Bool.decide_and]
    congr 1
theorem fits_ints (n : Nat) : ∀ a : List Int, D.fits n (a.map .int) = true
  | [] => rfl
  | x :: xs => by simp only [List.map_cons, D.fits, D.fit, fits_ints n xs, Bool.and_self]
theorem dEq_ints (a b : List Int) : dEq (.lst (a.map .int)) (.lst (b.map .int)) = some (.bl (decide (a = b))) := by
  rw [dEq_fit (n := 1) (m := 1) (by simp only [D.fit, fits_ints]) (by simp only [D.fit, fits_ints])]
  simp only [dEqB, D.py, PyData.eqv, eqs_ints]
theorem intsOf_ints : ∀ a : List Int, intsOf (a.map .int) = some a
  | [] => rfl
  | x :: xs => by simp only [List.map_cons, intsOf, intsOf_ints xs, Option.map_some]
theorem intsOf_eq : ∀ {ds : List D} {a : List Int}, intsOf ds = some a → ds = a.map .int
  | [], a, h => by cases h; rfl
  | .int i :: r, a, h => by
    simp only [intsOf] at h
    cases q : intsOf r with
    | none => rw [q] at h; cases h
    | some b => rw [q] at h; cases h; simp only [List.map_cons, intsOf_eq q]
  | .non :: _, _, h => by cases h
  | .bl _ :: _, _, h => by cases h
  | .str _ :: _, _, h => by cases h
  | .lst _ :: _, _, h => by cases h
  | .tup _ :: _, _, h => by cases h
theorem sort_ints (a : List Int) (h : a.length < 64) (S : Store) : sortS (.dat (.lst (a.map .int))) S = .ok ((sset a).map .int) S := by simp only [sortS, rd, intsOf_ints, if_pos h]
theorem sort_intsT (a : List Int) (h : a.length < 64) (S : Store) : sortS (.dat (.tup (a.map .int))) S = .ok ((sset a).map .int) S := by simp only [sortS, rd, intsOf_ints, if_pos h]
theorem dInB_ints (i : Int) (a : List Int) : dInB (.int i) (a.map .int) = decide (i ∈ a) := by
  induction a with
  | nil => rfl
  | cons x xs ih =>
    simp only [dInB, List.map_cons, List.any_cons] at ih ⊢
    rw [ih]
    simp only [dEqB, D.py, PyData.eqv, List.mem_cons, Bool.decide_or]
    congr 1
    by_cases h : x = i
    · subst h; simp
    · have h2 : ¬ i = x := fun e => h e.symm
      simp [h, h2]
theorem lit2 : (((0 : Nat) : Int) == 2) = false ∧ (((1 : Nat) : Int) == 2) = false ∧ (((2 : Nat) : Int) == 2) = true ∧ (((3 : Nat) : Int) == 2) = false := ⟨rfl, rfl, rfl, rfl⟩
theorem lit3 : (((0 : Nat) : Int) == 3) = false ∧ (((1 : Nat) : Int) == 3) = false ∧ (((2 : Nat) : Int) == 3) = false ∧ (((3 : Nat) : Int) == 3) = true := ⟨rfl, rfl, rfl, rfl⟩
/-! ## loops -/
theorem forGo_run {α : Type} {enc : α → D} {G : GFn} {f : SFn} (I : List α → Slots → Store → Prop) : ∀ (post pre : List α) (ρ : Slots) (S : Store), I pre ρ S →
    (∀ pre1 a post1 ρ S, pre ++ post = pre1 ++ a :: post1 → I pre1 ρ S → ∃ ρ1 ρ2 S2, G (enc a) ρ = some ρ1 ∧ (f ρ1 S = .nx ρ2 S2 ∨ f ρ1 S = .ct ρ2 S2) ∧ I (pre1 ++ [a]) ρ2 S2) →
    ∃ ρ' S', forGo G f (post.map enc) ρ S = .nx ρ' S' ∧ I (pre ++ post) ρ' S'
  | [], pre, ρ, S, h0, _ => ⟨ρ, S, rfl, by simpa using h0⟩
  | a :: post, pre, ρ, S, h0, hs => by
    obtain ⟨ρ1, ρ2, S2, e1, e2, h1⟩ := hs pre a post ρ S rfl h0
    obtain ⟨ρ', S', e3, h3⟩ := forGo_run (enc := enc) (G := G) (f := f) I post (pre ++ [a]) ρ2 S2 h1 (fun pre1 b post1 ρ S e h => hs pre1 b post1 ρ S (by simpa using e) h)
    refine ⟨ρ', S', ?_, by simpa using h3⟩
    simp only [List.map_cons, forGo, e1]
    rcases e2 with e2 | e2 <;> simp only [e2, e3]
/-- each turn puts more behind the last list of the store -/
theorem for_acc {α β : Type} {enc : α → D} {eb : β → D} {q : α → List β} {G : GFn} {f : SFn} {S0 : Store} {P : Slots → Prop} : ∀ (xs : List α) (ρ : Slots) (ds0 : List D), ds0.length + (xs.flatMap q).length ≤ sizeLine → P ρ →
    (∀ a ∈ xs, ∀ ρ ds, P ρ → ds.length + (q a).length ≤ sizeLine → ∃ ρ1 ρ2, G (enc a) ρ = some ρ1 ∧ f ρ1 (S0 ++ [some ds]) = .nx ρ2 (S0 ++ [some (ds ++ (q a).map eb)]) ∧ P ρ2) →
    ∃ ρ', forGo G f (xs.map enc) ρ (S0 ++ [some ds0]) = .nx ρ' (S0 ++ [some (ds0 ++ (xs.flatMap q).map eb)]) ∧ P ρ'
  | [], ρ, ds0, _, h0, _ => ⟨ρ, by simp [forGo], h0⟩
  | a :: r, ρ, ds0, hb, h0, hs => by
    simp only [List.flatMap_cons, List.length_append] at hb
    obtain ⟨ρ1, ρ2, e1, e2, h1⟩ := hs a (List.mem_cons_self ..) ρ ds0 h0 (by omega)
    obtain ⟨ρ', e3, h3⟩ := for_acc (q := q) (eb := eb) (enc := enc) (G := G) (f := f) (S0 := S0) (P := P) r ρ2 (ds0 ++ (q a).map eb) (by simp only [List.length_append, List.length_map]; omega) h1 (fun b hb => hs b (List.mem_cons_of_mem _ hb))
    refine ⟨ρ', ?_, h3⟩
    simp only [List.map_cons, forGo, e1, e2, e3, List.flatMap_cons, List.map_append, List.append_assoc]
theorem get_end (S0 : Store) (x : Option (List D)) : (S0 ++ [x])[S0.length]? = some x := by simp
theorem set_end (S0 : Store) (x y : Option (List D)) : (S0 ++ [x]).set S0.length y = S0 ++ [y] := by simp
theorem take_end (S0 : Store) (x : Option (List D)) : (S0 ++ [x]).take S0.length = S0 := by simp
theorem app_end {i : Nat} {g : XFn} {ρ : Slots} {S0 : Store} {ds : List D} {d : D} (hi : ρ[i]? = some (some (.obj S0.length))) (hg : g ρ (S0 ++ [some ds]) = .ok (.dat d) (S0 ++ [some ds])) (hl : ds.length < sizeLine) :
    sApp (xVar i) g ρ (S0 ++ [some ds]) = .nx ρ (S0 ++ [some (ds ++ [d])]) := by
  have e1 : xVar i ρ (S0 ++ [some ds]) = .ok (.obj S0.length) (S0 ++ [some ds]) := by unfold xVar; rw [hi]
  simp only [sApp, e1, Res.bindS_ok, cellOf, get_end, hg, putApp, if_pos hl, set_end]
theorem ext_end {i : Nat} {g : XFn} {ρ : Slots} {S0 : Store} {ds es : List D} (hi : ρ[i]? = some (some (.obj S0.length))) (hg : g ρ (S0 ++ [some ds]) = .ok (.dat (.lst es)) (S0 ++ [some ds])) (hl : ds.length + es.length ≤ sizeLine) :
    sExt (xVar i) g ρ (S0 ++ [some ds]) = .nx ρ (S0 ++ [some (ds ++ es)]) := by
  have e1 : xVar i ρ (S0 ++ [some ds]) = .ok (.obj S0.length) (S0 ++ [some ds]) := by unfold xVar; rw [hi]
  simp only [sExt, e1, Res.bindS_ok, cellOf, get_end, hg, putExt, if_pos hl, set_end]
theorem frz_end {i : Nat} {ρ : Slots} {S0 : Store} {ds : List D} (hi : ρ[i]? = some (some (.obj S0.length))) : sFrz i ρ (S0 ++ [some ds]) = .nx (ρ.set i (some (.dat (.lst ds)))) (S0 ++ [none]) := by
  simp only [sFrz, hi, cellOf, get_end, set_end]
theorem range_map (n : Nat) : rangeD 0 n = (List.range n).map fun i => .int ((i : Nat) : Int) := by simp [rangeD]
theorem rng1_n {n : Nat} (h : n ≤ sizeLine) (S : Store) : rng1 [.dat (.int (n : Nat))] S = .ok ((List.range n).map fun i => .int ((i : Nat) : Int)) S := by
  unfold sizeLine at h
  simp only [rng1, if_pos (show -(2 ^ 62) ≤ (n : Int) ∧ (n : Int) < 2 ^ 62 by omega), Int.toNat_natCast, range_map]
theorem leave_end (S0 : Store) (ds : List D) : leave S0.length (.obj S0.length) (S0 ++ [some ds]) = .ok (.obj S0.length) (S0 ++ [some ds]) := by
  simp only [leave, Nat.lt_irrefl, if_false, get_end, take_end]
theorem atI_nat {α : Type} {xs : List α} {n : Nat} (d : α) (h : n < xs.length) : atI xs (n : Nat) = some (xs.getD n d) := by
  have h1 : (n : Int) < xs.length := by omega
  unfold atI ixN
  rw [if_pos (Int.natCast_nonneg n), if_pos h1, List.getD_eq_getElem?_getD]
  simp only [Option.bind_some, Int.toNat_natCast]
  rw [List.getElem?_eq_getElem h]
  rfl
theorem atI_map {α : Type} {xs : List α} {n : Nat} (e : α → D) (d : α) (h : n < xs.length) : atI (xs.map e) (n : Nat) = some (e (xs.getD n d)) := by
  rw [atI_nat (e d) (by simpa using h)]
  simp [List.getD_eq_getElem?_getD, List.getElem?_map, List.getElem?_eq_getElem h]
theorem le_size {n : Nat} (h : n ≤ 16000000) : n ≤ sizeLine := by unfold sizeLine; omega
theorem szB_le {n : Nat} (h : n ≤ 16777216) : szB n = true := szB_iff.mp (by unfold sizeLine; omega)
theorem cellOf_end (S0 : Store) (ds : List D) : cellOf (S0 ++ [some ds]) (.obj S0.length) = some (S0.length, ds) := by simp only [cellOf, get_end]
theorem rd_end (S0 : Store) (ds : List D) : rd (S0 ++ [some ds]) (.obj S0.length) = some (.lst ds) := by simp only [rd, get_end]
theorem a_star (f : XFn) (g : AFn) (ρ : Slots) (S : Store) : aStar f g ρ S = (f ρ S).bind fun x S1 => match rd S1 x with
  | some (.lst xs) => (g ρ S1).bind fun ds S2 => .ok (xs.map .dat ++ ds) S2
  | some (.tup xs) => (g ρ S1).bind fun ds S2 => .ok (xs.map .dat ++ ds) S2
  | _ => .bad := rfl
theorem dats_map : ∀ xs : List D, dats (xs.map .dat) = some xs
  | [] => rfl
  | x :: xs => by simp only [List.map_cons, dats, dats_map xs, Option.map_some]
theorem a_leave_end (S0 : Store) (ds : List D) : leave S0.length (.obj S0.length) (S0 ++ [some ds]) = .ok (.obj S0.length) (S0 ++ [some ds]) := leave_end S0 ds
theorem zipIdx_range {α : Type} (d : α) (xs : List α) : (xs.zipIdx.map fun p => (p.2, p.1)) = (List.range xs.length).map fun k => (k, xs.getD k d) := by
  apply List.ext_getElem
  · simp
  · intro i h1 h2
    simp only [List.length_map, List.length_zipIdx] at h1
    simp [List.getD_eq_getElem?_getD, List.getElem?_eq_getElem h1]
theorem rng2_n {i n : Nat} (hi : i < 1000000000) (h : n ≤ sizeLine) (S : Store) : rng2 [.dat (.int ((i : Nat) + 1)), .dat (.int (n : Nat))] S = .ok ((List.range (n - (i + 1))).map fun k => .int ((i + 1 + k : Nat) : Int)) S := by
  unfold sizeLine at h
  have e : ((n : Int) - ((i : Int) + 1)).toNat = n - (i + 1) := by omega
  simp only [rng2, if_pos (show -(2 ^ 62) ≤ (i : Int) + 1 ∧ (i : Int) + 1 < 2 ^ 62 ∧ -(2 ^ 62) ≤ (n : Int) ∧ (n : Int) < 2 ^ 62 by omega), e, rangeD]
  congr 1
theorem rng2_0 {i : Nat} (hi : i < 1000000000) (S : Store) : rng2 [.dat (.int ((i : Nat) + 1)), .dat (.int 0)] S = .ok [] S := by
  have e : ((0 : Int) - ((i : Int) + 1)).toNat = 0 := by omega
  simp only [rng2, if_pos (show -(2 ^ 62) ≤ (i : Int) + 1 ∧ (i : Int) + 1 < 2 ^ 62 ∧ -(2 ^ 62) ≤ (0 : Int) ∧ (0 : Int) < 2 ^ 62 by omega), e, rangeD, List.range_zero, List.map_nil]
theorem forGo_nil (G : GFn) (f : SFn) (ρ : Slots) (S : Store) : forGo G f [] ρ S = .nx ρ S := rfl
/-! ## numbers -/
theorem log2_lt {n k : Nat} (h : n < 2 ^ k) (hk : 0 < k) : n.log2 < k := by
  by_cases hn : n = 0
  · subst hn
    simpa using hk
  · exact (Nat.log2_lt hn).mpr h
theorem dMul_i {i j : Int} (hi : i.natAbs < 2 ^ 200) (hj : j.natAbs < 2 ^ 200) : dMulA (.int i) (.int j) = some (.int (i * j)) := by
  have a := log2_lt hi (by decide)
  have b := log2_lt hj (by decide)
  have : i.natAbs.log2 + j.natAbs.log2 < 1000000 := by omega
  simp only [dMulA, dMul, if_pos this]
theorem dMod_i {i j : Int} (h : 0 < j) : dMod (.int i) (.int j) = some (.int (i % j)) := by simp only [dMod, if_pos h]
theorem dDiv_i {i j : Int} (h : 0 < j) (h2 : j.natAbs < 2 ^ 200) : dDiv (.int i) (.int j) = some (.int (i / j)) := by
  have := log2_lt h2 (by decide)
  simp only [dDiv, if_pos (show 0 < j ∧ j.natAbs.log2 < 9000 from ⟨h, by omega⟩)]
theorem dPow_i {i : Int} {j : Nat} (h : i.natAbs < 2 ^ 64) (h2 : j ≤ 1000000) : dPow (.int i) (.int (j : Nat)) = some (.int (i ^ j)) := by
  have : (0 : Int) ≤ (j : Nat) ∧ ((j : Nat) : Int) ≤ 1000000 ∧ i.natAbs < 2 ^ 64 := ⟨by omega, by omega, h⟩
  simp only [dPow, if_pos this, Int.toNat_natCast]
theorem dInt_i (i : Int) : dInt (.int i) = some (.int i) := rfl
theorem small_of {i : Int} (h0 : -1000000000000000000000000000000 ≤ i) (h1 : i ≤ 1000000000000000000000000000000) : i.natAbs < 2 ^ 200 := by
  have : i.natAbs ≤ 1000000000000000000000000000000 := by omega
  exact Nat.lt_of_le_of_lt this (by decide)
theorem dAdd_l (a b : List D) : dAdd (.lst a) (.lst b) = bif szB (a.length + b.length) then some (.lst (a ++ b)) else none := by
  simp only [dAdd, szB_iff]
  cases szB (a.length + b.length) <;> rfl
theorem dAdd_t (a b : List D) : dAdd (.tup a) (.tup b) = bif szB (a.length + b.length) then some (.tup (a ++ b)) else none := by
  simp only [dAdd, szB_iff]
  cases szB (a.length + b.length) <;> rfl
theorem a_put (f i g : XFn) (ρ : Slots) (S : Store) : sPut f i g ρ S = (g ρ S).bindS ρ fun y S1 => (f ρ S1).bindS ρ fun x S2 => (i ρ S2).bindS ρ fun n S3 => putIx x n y ρ S3 := rfl
/-! ## the pen: the first list of the store -/
def penL (cells : List Int) (a : Nat) (cur : Int) : List D := [.lst (cells.map .int), .int (a : Nat), .int cur]
theorem pen_rd (o : D → D → Option D) (ds : List D) (T : Store) (y : D) : o2 o (.obj 0) (.dat y) (some ds :: T) = res1 (o (.lst ds) y) (some ds :: T) := rfl
theorem pen_0 (cells : List Int) (a : Nat) (cur : Int) : atI (penL cells a cur) 0 = some (.lst (cells.map .int)) := rfl
theorem pen_1 (cells : List Int) (a : Nat) (cur : Int) : atI (penL cells a cur) 1 = some (.int (a : Nat)) := rfl
theorem pen_2 (cells : List Int) (a : Nat) (cur : Int) : atI (penL cells a cur) 2 = some (.int cur) := rfl
theorem pen_p1 (cells : List Int) (a : Nat) (cur : Int) (ρ : Slots) (T : Store) : putIx (.obj 0) (.dat (.int 1)) (.dat (.int ((a : Nat) + 1))) ρ (some (penL cells a cur) :: T) = .nx ρ (some (penL cells (a + 1) cur) :: T) := rfl
theorem pen_p2 (cells : List Int) (a : Nat) (cur c : Int) (ρ : Slots) (T : Store) : putIx (.obj 0) (.dat (.int 2)) (.dat (.int c)) ρ (some (penL cells a cur) :: T) = .nx ρ (some (penL cells a c) :: T) := rfl
theorem take_cons {α : Type} (x : α) (T : List α) : (x :: T).take (T.length + 1) = x :: T := by simp
def Pen (n : Nat) (T S : Store) : Prop := ∃ cells a cur, S = some (penL cells a cur) :: T ∧ a ≤ n
theorem Pen.mono {n m : Nat} {T S : Store} (h : Pen n T S) (k : n ≤ m) : Pen m T S := by
  obtain ⟨c, a, u, e, l⟩ := h
  exact ⟨c, a, u, e, Nat.le_trans l k⟩
theorem Pen.len {n : Nat} {T S : Store} (h : Pen n T S) : S.length = T.length + 1 := by
  obtain ⟨c, a, u, e, l⟩ := h
  subst e
  rfl
theorem Pen.take {n k : Nat} {T S : Store} (h : Pen n T S) (hk : k = T.length + 1) : S.take k = S := by
  rw [hk, ← h.len, List.take_length]
abbrev LIM : Nat := 2147483648
theorem lc_pen {G : GFn} {t : TFn} {f : XFn} {ρ : Slots} {T : Store} {R : D → D → Prop} {c : Nat} : ∀ (ds : List D) (m : Nat) (S : Store), Pen m T S → m + c * ds.length ≤ LIM →
    (∀ d ∈ ds, ∀ m S, Pen m T S → m + c ≤ LIM → ∃ ρ1 z S1, G d ρ = some ρ1 ∧ t ρ1 S = .ok true S ∧ f ρ1 S = .ok (.dat z) S1 ∧ Pen (m + c) T S1 ∧ R d z) →
    ∃ zs S1, lcGo G t f ρ ds S = .ok zs S1 ∧ Pen (m + c * ds.length) T S1 ∧ zs.length = ds.length ∧ ∀ p ∈ ds.zip zs, R p.1 p.2
  | [], m, S, hp, _, _ => ⟨[], S, rfl, hp, rfl, fun p hp => nomatch hp⟩
  | d :: r, m, S, hp, hb, hs => by
    have hb' : m + c + c * r.length ≤ LIM := by simp only [List.length_cons, Nat.mul_succ] at hb; omega
    obtain ⟨ρ1, z, S1, h1, h2, h3, h4, h5⟩ := hs d (List.mem_cons_self ..) m S hp (by omega)
    obtain ⟨zs, S2, e, p2, l2, q2⟩ := lc_pen (G := G) (t := t) (f := f) (ρ := ρ) (R := R) (c := c) r (m + c) S1 h4 hb' fun b hb => hs b (List.mem_cons_of_mem _ hb)
    refine ⟨z :: zs, S2, ?_, ?_, by simp [l2], ?_⟩
    · simp only [lcGo, h1, h2, Res.bindN_ok, if_true, h3, e]
    · simp only [List.length_cons, Nat.mul_succ]
      exact p2.mono (by omega)
    · intro p hp
      simp only [List.zip_cons_cons, List.mem_cons] at hp
      rcases hp with rfl | hp
      · exact h5
      · exact q2 p hp
theorem for_pen {α : Type} {enc : α → D} {G : GFn} {f : SFn} {T : Store} {c : Nat} (J : List α → Slots → Prop) : ∀ (post pre : List α) (m : Nat) (ρ : Slots) (S : Store), J pre ρ → Pen m T S → m + c * post.length ≤ LIM →
    (∀ pre1 a post1 m ρ S, pre ++ post = pre1 ++ a :: post1 → J pre1 ρ → Pen m T S → m + c ≤ LIM → ∃ ρ1 ρ2 S2, G (enc a) ρ = some ρ1 ∧ f ρ1 S = .nx ρ2 S2 ∧ J (pre1 ++ [a]) ρ2 ∧ Pen (m + c) T S2) →
    ∃ ρ' S', forGo G f (post.map enc) ρ S = .nx ρ' S' ∧ J (pre ++ post) ρ' ∧ Pen (m + c * post.length) T S'
  | [], pre, m, ρ, S, h0, hp, _, _ => ⟨ρ, S, rfl, by simpa using h0, hp⟩
  | a :: post, pre, m, ρ, S, h0, hp, hb, hs => by
    have hb' : m + c + c * post.length ≤ LIM := by simp only [List.length_cons, Nat.mul_succ] at hb; omega
    obtain ⟨ρ1, ρ2, S2, e1, e2, h1, p1⟩ := hs pre a post m ρ S rfl h0 hp (by omega)
    obtain ⟨ρ', S', e3, h3, p3⟩ := for_pen (enc := enc) (G := G) (f := f) (c := c) J post (pre ++ [a]) (m + c) ρ2 S2 h1 p1 hb' (fun pre1 b post1 m ρ S e h => hs pre1 b post1 m ρ S (by simpa using e) h)
    refine ⟨ρ', S', ?_, by simpa using h3, ?_⟩
    · simp only [List.map_cons, forGo, e1, e2, e3]
    · simp only [List.length_cons, Nat.mul_succ]
      exact p3.mono (by omega)
theorem sset_len : ∀ l : List Int, (sset l).length ≤ l.length
  | [] => Nat.le_refl _
  | n :: ns => by
    have ins : ∀ l : List Int, (insS n l).length ≤ l.length + 1 := by
      intro l
      induction l with
      | nil => simp [insS]
      | cons m r ih => simp only [insS]; split <;> (try split) <;> simp <;> omega
    have := ins (sset ns)
    have := sset_len ns
    simp only [sset, List.length_cons]
    omega
theorem sset_idem (l : List Int) : sset (sset l) = sset l := sorted_one (sset_sorted _) (sset_sorted _) fun k => sset_mem k _
theorem sset_of_sorted {l : List Int} (h : l.Pairwise (· < ·)) : sset l = l := sorted_one (sset_sorted _) h fun k => sset_mem k _
theorem sset_pos {l : List Int} (h : l ≠ []) : 1 ≤ (sset l).length := by
  cases l with
  | nil => exact absurd rfl h
  | cons n ns =>
    have : n ∈ sset (n :: ns) := (sset_mem n _).mpr (List.mem_cons_self ..)
    exact List.length_pos_of_mem this
theorem cut_to {α : Type} (xs : List α) (n : Nat) : cutL xs none (some (n : Nat)) = xs.take n := by
  simp only [cutL, HT.sIx_none, HT.sIx_nat, List.drop_zero, Nat.sub_zero]
  rw [List.take_eq_take_iff]
  omega
theorem cut_from {α : Type} (xs : List α) (n : Nat) : cutL xs (some (n : Nat)) none = xs.drop n := by
  simp only [cutL, HT.sIx_none, HT.sIx_nat]
  by_cases h : n ≤ xs.length
  · rw [Nat.min_eq_left h, List.take_of_length_le (by simp)]
  · rw [Nat.min_eq_right (by omega), List.take_of_length_le (by simp), List.drop_eq_nil_of_le (Nat.le_refl _), List.drop_eq_nil_of_le (by omega)]
theorem cut_mid {α : Type} (xs : List α) (n m : Nat) (h : n ≤ m) : cutL xs (some (n : Nat)) (some (m : Nat)) = (xs.drop n).take (m - n) := by
  simp only [cutL, HT.sIx_nat]
  by_cases h1 : n ≤ xs.length
  · rw [Nat.min_eq_left h1, List.take_eq_take_iff]
    simp
    omega
  · have e1 : min n xs.length = xs.length := by omega
    rw [e1, List.drop_eq_nil_of_le (Nat.le_refl _), List.drop_eq_nil_of_le (by omega)]
    simp
theorem rng1_1 {n : Nat} (h : n ≤ 1000000) (S : Store) : rng1 [.dat (.int (1 + (n : Nat)))] S = .ok ((List.range (1 + n)).map fun i => .int ((i : Nat) : Int)) S := by
  have e : (1 + (n : Int)) = ((1 + n : Nat) : Int) := by omega
  rw [e]
  exact rng1_n (le_size (by omega)) S
theorem cut_mid1 {α : Type} (xs : List α) (n : Nat) : cutL xs (some (n : Nat)) (some ((n : Nat) + 1)) = (xs.drop n).take 1 := by
  have := cut_mid xs n (n + 1) (by omega)
  simpa using this
theorem cut_from1 {α : Type} (xs : List α) (n : Nat) : cutL xs (some ((n : Nat) + 1)) none = xs.drop (n + 1) := cut_from xs (n + 1)
theorem oSl_t (xs : List D) (lo hi : Option Int) (S : Store) : oSl (.dat (.tup xs)) lo hi S = .ok (.dat (.tup (cutL xs lo hi))) S := rfl
theorem oSl_l (xs : List D) (lo hi : Option Int) (S : Store) : oSl (.dat (.lst xs)) lo hi S = .ok (.dat (.lst (cutL xs lo hi))) S := rfl
theorem oSl_s (ns : List Int) (lo hi : Option Int) (S : Store) : oSl (.scr ns) lo hi S = .ok (.dat (.lst ((cutL ns lo hi).map .int))) S := rfl
theorem range_at {n a : Nat} {pre post : List Nat} (h : List.range n = pre ++ a :: post) : a = pre.length ∧ a < n := by
  have h1 : pre.length < n := by
    have := congrArg List.length h
    simp at this
    omega
  have h2 : (List.range n)[pre.length]? = (pre ++ a :: post)[pre.length]? := by rw [h]
  rw [List.getElem?_range h1] at h2
  simp at h2
  omega
theorem mix_set {α : Type} (xs ys : List α) (a : Nat) (d : α) (h1 : a < xs.length) (h2 : a < ys.length) : xs.take a ++ (ys.drop a).take 1 ++ xs.drop (a + 1) = xs.set a (ys.getD a d) := by
  have e : (ys.drop a).take 1 = [ys[a]] := by rw [List.drop_eq_getElem_cons h2]; rfl
  rw [List.set_eq_take_append_cons_drop, if_pos h1, e]
  simp [List.getD_eq_getElem?_getD, List.getElem?_eq_getElem h2]
/-! ## repr -/
mutual
def D.tiny : D → Bool
  | .int i => decide (i.natAbs < 10 ^ 40)
  | .lst xs => D.tinys xs
  | .tup xs => D.tinys xs
  | _ => true
def D.tinys : List D → Bool
  | [] => true
  | x :: xs => D.tiny x && D.tinys xs
end
theorem tinys_iff : ∀ {xs : List D}, D.tinys xs = true ↔ ∀ x ∈ xs, x.tiny = true
  | [] => by simp [D.tinys]
  | x :: xs => by simp [D.tinys, tinys_iff (xs := xs)]
mutual
theorem tiny_py : ∀ (d : D), d.tiny = true → d.py.showable = true ∧ d.py.intsShort 41 = true
  | .non, _ => by simp [D.py, PyData.showable, PyData.intsShort]
  | .bl _, _ => by simp [D.py, PyData.showable, PyData.intsShort]
  | .str x, _ => by simp [D.py, PyData.showable, PyData.intsShort]
  | .int i, h => by
    simp only [D.tiny, decide_eq_true_eq] at h
    simp only [D.py, PyData.showable, PyData.intsShort, decide_eq_true_eq]
    refine ⟨Nat.lt_of_lt_of_le (log2_lt (k := 200) (Nat.lt_trans h (by decide)) (by decide)) (by decide), ?_⟩
    have e := int_text_length_le10 (k := 40) (by decide) h
    show (Str.ofString (toString i)).length ≤ 41
    rw [PySem.ofString_length]
    exact e
  | .lst xs, h => by
    have := tinys_py xs (by simpa [D.tiny] using h)
    simpa only [D.py, PyData.showable, PyData.intsShort] using this
  | .tup xs, h => by
    have := tinys_py xs (by simpa [D.tiny] using h)
    simpa only [D.py, PyData.showable, PyData.intsShort] using this
theorem tinys_py : ∀ (ds : List D), D.tinys ds = true → PyData.showableAll (D.pys ds) = true ∧ PyData.intsShortAll 41 (D.pys ds) = true
  | [], _ => by simp [D.pys, PyData.showableAll, PyData.intsShortAll]
  | x :: xs, h => by
    have h' : x.tiny = true ∧ D.tinys xs = true := by simpa [D.tinys] using h
    have a := tiny_py x h'.1
    have b := tinys_py xs h'.2
    simp only [D.pys, PyData.showableAll, PyData.intsShortAll, a.1, a.2, b.1, b.2, Bool.and_self, and_self]
end
theorem canRepr_of {n : Nat} {d : D} (h1 : d.fit n = true) (hn : n ≤ 60) (h2 : d.tiny = true) (h3 : d.py.bulk ≤ 300000) : canRepr d = true := by
  have a := fit_py n d h1
  have b := tiny_py d h2
  have c := PyData.shown_le_bulk 41 (by decide) d.py (PyData.leavesShort_of_canLay0 41 d.py a.1 b.2)
  have e : d.py.shown.length ≤ sizeLine := le_size (by omega)
  have f : d.py.depth ≤ 60 := by omega
  simp only [canRepr, a.1, b.1, decide_eq_true e, decide_eq_true f, Bool.and_self]
theorem bulks_le {c : Nat} : ∀ {xs : List D}, (∀ x ∈ xs, x.py.bulk ≤ c) → PyData.bulkAll (D.pys xs) ≤ xs.length * (c + 1)
  | [], _ => by simp [D.pys, PyData.bulkAll]
  | x :: xs, h => by
    have a := h x (List.mem_cons_self ..)
    have b := bulks_le (xs := xs) fun y hy => h y (List.mem_cons_of_mem _ hy)
    simp only [D.pys, PyData.bulkAll, List.length_cons, Nat.succ_mul]
    omega
theorem dRepr_of {d : D} (h : canRepr d = true) : dRepr d = some (.str d.py.shown) := by simp only [dRepr, h, if_true]
theorem dNeS_same (x : Str) : dNeS (.str x) (.str x) = some (.bl false) := by simp [dNeS]
theorem dEqS_same (x : Str) : dEqS (.str x) (.str x) = some (.bl true) := by simp [dEqS]
theorem o1_end (o : D → Option D) (S0 : Store) (ds : List D) : o1 o [.obj S0.length] (S0 ++ [some ds]) = res1 (o (.lst ds)) (S0 ++ [some ds]) := by simp only [o1, rd_end]
theorem rep_t (xs : List D) : dMulA (.tup xs) (.int 8) = if xs = [] then some (.tup xs) else (if xs.length ≤ 1000 then some (.tup (List.replicate 8 xs).flatten) else none) := by
  simp only [dMulA, dMul]
  by_cases h : xs = []
  · simp [h]
  · simp [h]
end DL

set_option maxHeartbeats 400000
namespace DL
open PySem PySem.Spec PyProof PyProof.Rows L2
theorem strOk_of (s : String) : PyData.strOk (Str.ofString s) = true := by
  rw [Str.ofString_eq_toList]
  unfold PyData.strOk
  simp only [Array.all_toList, List.all_eq_true, Array.all_eq_true_iff_forall_mem, List.mem_toArray, List.mem_map]
  rintro n ⟨c, _, rfl⟩
  have := c.valid
  simp only [decide_eq_true_eq]
  unfold UInt32.isValidChar Nat.isValidChar at this
  show c.val.toNat < _
  omega
theorem strOk_app (a b : Str) : PyData.strOk (a ++ b) = (PyData.strOk a && PyData.strOk b) := by
  show (a.cps ++ b.cps).all _ = _
  rw [Array.all_append]
  rfl
theorem strOk_from : ∀ (ts : List Str) (k : Nat) (acc : Str), PyData.strOk acc = true → (∀ t ∈ ts, PyData.strOk t = true) → PyData.strOk (textFrom k acc ts) = true
  | [], k, acc, h, _ => h
  | t :: r, k, acc, h, hs => by
    refine strOk_from r (k + 1) _ ?_ fun u hu => hs u (List.mem_cons_of_mem _ hu)
    rw [strOk_app, strOk_app, h, hs t (List.mem_cons_self ..), strOk_of]
    rfl
theorem strOk_join : ∀ ts : List Str, (∀ t ∈ ts, PyData.strOk t = true) → PyData.strOk (Str.join ", " ts) = true
  | [], _ => by decide +kernel
  | [x], h => h x (List.mem_cons_self ..)
  | x :: y :: r, h => by
    have := strOk_join (y :: r) fun t ht => h t (List.mem_cons_of_mem _ ht)
    show PyData.strOk (x ++ ", " ++ Str.join ", " (y :: r)) = true
    rw [strOk_app, strOk_app, this, h x (List.mem_cons_self ..)]
    simp [strOk_of]
mutual
def D.noS : D → Bool
  | .str _ => false
  | .lst xs => D.noSs xs
  | .tup xs => D.noSs xs
  | _ => true
def D.noSs : List D → Bool
  | [] => true
  | x :: xs => D.noS x && D.noSs xs
end
theorem noSs_iff : ∀ {xs : List D}, D.noSs xs = true ↔ ∀ x ∈ xs, x.noS = true
  | [] => by simp [D.noSs]
  | x :: xs => by simp [D.noSs, noSs_iff (xs := xs)]
mutual
theorem strOk_shown : ∀ d : D, d.noS = true → PyData.strOk d.py.shown = true
  | .non, _ => by show PyData.strOk (Str.ofString "None") = true; exact strOk_of _
  | .bl b, _ => by
    show PyData.strOk (if b then "True" else "False") = true
    split <;> exact strOk_of _
  | .int i, _ => strOk_of _
  | .str x, h => nomatch h
  | .lst xs, h => by
    show PyData.strOk (listText (PyData.shownAll (D.pys xs))) = true
    unfold listText
    rw [strOk_app, strOk_from _ _ _ (strOk_of _) (strOk_shownAll xs h)]
    simp [strOk_of]
  | .tup xs, h => by
    show PyData.strOk (tupleText (PyData.shownAll (D.pys xs))) = true
    unfold tupleText
    rw [strOk_app, strOk_app, strOk_join _ (strOk_shownAll xs h), strOk_of]
    split <;> simp [strOk_of]
theorem strOk_shownAll : ∀ xs : List D, D.noSs xs = true → ∀ t ∈ PyData.shownAll (D.pys xs), PyData.strOk t = true
  | [], _ => fun t ht => nomatch ht
  | x :: xs, h => fun t ht => by
    simp only [D.noSs, Bool.and_eq_true] at h
    simp only [D.pys, PyData.shownAll, List.mem_cons] at ht
    rcases ht with rfl | ht
    · exact strOk_shown x h.1
    · exact strOk_shownAll xs h.2 t ht
end
end DL

set_option maxHeartbeats 0
namespace T08
open PySem PySem.Spec PyProof.Rows L2 DL
def cat_RuleError : Str → Option Bool := catT [("RuleError", true), ("InvalidColumns", true)]
def isi_InvalidColumns : List (Str × Bool) := [("RuleError", false), ("InvalidColumns", true)]
/-- is_integer: 0=value -/
def s_is_integer : SFn := (sRet (xAnd (xIsi "int" (xVar 0)) (xNot (xIsi "bool" (xVar 0)))))
def g_is_integer : Fn := fnBody 1 s_is_integer
/-- is_value: 0=value -/
def s_is_value : SFn := (sRet (xAnd (xN g_is_integer (aCons (xVar 0) aNil)) (x2 (o2 dGe) (xVar 0) (xC (.int 0)))))
def g_is_value : Fn := fnBody 1 s_is_value
/-- is_column: 0=value 1=one -/
def s_is_column : SFn := (sSeq (sIf (tBl (x2 (o2 dIsN) (xVar 0) (xC .non))) (sRet (xC (.bl true))) sNil)
    (sSeq (sIf (tOr_ (tNo (tTr (xIsi "tuple" (xVar 0)))) (tNo (tBl (xChain (o2 dLe) (o2 dLe) (xC (.int 1)) (xN (o1 dLen) (aCons (xVar 0) aNil)) (xC (.int 3)))))) (sRet (xC (.bl false))) sNil)
    (sSeq (sIf (tNo (tTr (xN (o1 dAll) (aCons (xN1 (lLc (lIt (xVar 0)) [1] (gNm 1) tYesD (xN g_is_value (aCons (xVar 1) aNil)))) aNil)))) (sRet (xC (.bl false))) sNil)
    (sRet (x2 (o2 dEq) (xN (o1 dList) (aCons (xVar 0) aNil)) (xN1 (lSortSet (xVar 0))))))))
def g_is_column : Fn := fnBody 2 s_is_column
/-- is_value_of: 0=column 1=value -/
def s_is_value_of : SFn := (sRet (xAnd (xN g_is_value (aCons (xVar 1) aNil)) (xOr (x2 (o2 dIsN) (xVar 0) (xC .non)) (x2 (o2 dIn) (xVar 1) (xVar 0)))))
def g_is_value_of : Fn := fnBody 2 s_is_value_of
/-- is_columns: 0=value 1=column -/
def s_is_columns : SFn := (sSeq (sIf (tOr_ (tNo (tTr (xIsi "tuple" (xVar 0)))) (tNo (tBl (xChain (o2 dLe) (o2 dLe) (xC (.int 1)) (xN (o1 dLen) (aCons (xVar 0) aNil)) (xC (.int 4)))))) (sRet (xC (.bl false))) sNil)
    (sSeq (sIf (tNo (tTr (xN (o1 dAll) (aCons (xN1 (lLc (lIt (xVar 0)) [1] (gNm 1) tYesD (xN g_is_column (aCons (xVar 1) aNil)))) aNil)))) (sRet (xC (.bl false))) sNil)
    (sRet (x2 (o2 dLe) (xN (o1 dLen) (aCons (xN1 (lLc (lIt (xVar 0)) [1] (gNm 1) (tBl (x2 (o2 dNotN) (xVar 1) (xC .non))) (xVar 1))) aNil)) (xC (.int 2))))))
def g_is_columns : Fn := fnBody 2 s_is_columns
/-- require_columns: 0=value -/
def s_require_columns : SFn := (sIf (tNo (tTr (xN g_is_columns (aCons (xVar 0) aNil)))) (sRaise "InvalidColumns") sNil)
def g_require_columns : Fn := fnBody 1 s_require_columns
/-- is_draft_row: 0=columns 1=value 2=column 3=one -/
def s_is_draft_row : SFn := (sSeq (sIf (tOr_ (tNo (tTr (xIsi "tuple" (xVar 1)))) (tBl (x2 (o2 dNe) (xN (o1 dLen) (aCons (xVar 1) aNil)) (xN (o1 dLen) (aCons (xVar 0) aNil))))) (sRet (xC (.bl false))) sNil)
    (sRet (xN (o1 dAll) (aCons (xN1 (lLc (lZip (xVar 0) (xVar 1)) [2, 3] (gTp (gCo (gNm 2) (gCo (gNm 3) gNo))) tYesD (xOr (x2 (o2 dIsN) (xVar 3) (xC .non)) (xN g_is_value_of (aCons (xVar 2) (aCons (xVar 3) aNil)))))) aNil))))
def g_is_draft_row : Fn := fnBody 4 s_is_draft_row
/-- is_draft_of: 0=columns 1=value 2=closed 3=column 4=row -/
def s_is_draft_of : SFn := (sSeq (sIf (tOr_ (tNo (tTr (xIsi "tuple" (xVar 1)))) (tBl (x2 (o2 dGt) (xN (o1 dLen) (aCons (xVar 1) aNil)) (xC (.int 8))))) (sRet (xC (.bl false))) sNil)
    (sSeq (sIf (tNo (tTr (xN (o1 dAll) (aCons (xN1 (lLc (lIt (xVar 1)) [4] (gNm 4) tYesD (xN g_is_draft_row (aCons (xVar 0) (aCons (xVar 4) aNil))))) aNil)))) (sRet (xC (.bl false))) sNil)
    (sSeq (sSet 2 (xN1 (lLc (lRg1 (aCons (xN (o1 dLen) (aCons (xVar 0) aNil)) aNil)) [3] (gNm 3) (tBl (x2 (o2 dNotN) (x2 (o2 dIx) (xVar 0) (xVar 3)) (xC .non))) (xVar 3))))
    (sRet (x2 (o2 dLe) (xN (o1 dSum) (aCons (xN1 (lLc (lIt (xVar 1)) [4] (gNm 4) tYesD (xN (o1 dLen) (aCons (xN1 (lLc (lIt (xVar 2)) [3] (gNm 3) (tBl (x2 (o2 dIsN) (x2 (o2 dIx) (xVar 4) (xVar 3)) (xC .non))) (xVar 3))) aNil)))) aNil)) (xC (.int 6)))))))
def g_is_draft_of : Fn := fnBody 5 s_is_draft_of
/-- is_draft: 0=columns 1=value -/
def s_is_draft : SFn := (sSeq (sExpr (xN g_require_columns (aCons (xVar 0) aNil)))
    (sRet (xN g_is_draft_of (aCons (xVar 0) (aCons (xVar 1) aNil)))))
def g_is_draft : Fn := fnBody 2 s_is_draft
/-- _law_spread: 0=_law_cell 1=_law_at 2=_law_primes 3=_law_mixed 4=_law_one_here 5=_law_rest 6=_law_two 7=_law_three -/
def s_l_law_spread : SFn := (sSeq (sIf (tBl (x2 (o2 dGe) (xVar 0) (x2 (o2 dPow) (xC (.int 10)) (xC (.int 18))))) (sRet (xVar 0)) sNil)
    (sSeq (sSet 2 (xLst (aCons (xC (.int 2147483629)) (aCons (xC (.int 2147483587)) (aCons (xC (.int 2147483579)) (aCons (xC (.int 2147483563)) (aCons (xC (.int 2147483549)) (aCons (xC (.int 2147483543)) (aCons (xC (.int 2147483497)) aNil)))))))))
    (sSeq (sSet 2 (x2 (o2 dAdd) (xVar 2) (xLst (aCons (xC (.int 2147483489)) (aCons (xC (.int 2147483477)) (aCons (xC (.int 2147483423)) (aCons (xC (.int 2147483399)) (aCons (xC (.int 2147483353)) (aCons (xC (.int 2147483323)) aNil)))))))))
    (sSeq (sSet 3 (x2 (o2 dAdd) (x2 (o2 dAdd) (x2 (o2 dMulA) (x2 (o2 dMod) (xN (o1 dInt) (aCons (xVar 0) aNil)) (xC (.int 1000000007))) (x2 (o2 dAdd) (x2 (o2 dMulA) (xC (.int 2)) (xVar 1)) (xC (.int 69069)))) (x2 (o2 dMulA) (xVar 1) (xC (.int 40503)))) (xC (.int 977))))
    (sSeq (sSet 4 (x2 (o2 dMod) (xN (o1 dInt) (aCons (x2 (o2 dPow) (xVar 3) (xC (.int 3))) aNil)) (x2 (o2 dIx) (xVar 2) (x2 (o2 dMod) (xN (o1 dInt) (aCons (xVar 1) aNil)) (xC (.int 13))))))
    (sSeq (sSet 5 (x2 (o2 dAdd) (x2 (o2 dMod) (xN (o1 dInt) (aCons (xVar 0) aNil)) (xC (.int 65537))) (xC (.int 5))))
    (sSeq (sSet 6 (x2 (o2 dMod) (xN (o1 dInt) (aCons (x2 (o2 dPow) (x2 (o2 dAdd) (x2 (o2 dMulA) (xVar 4) (x2 (o2 dAdd) (xVar 1) (xC (.int 3)))) (xVar 5)) (xC (.int 5))) aNil)) (x2 (o2 dIx) (xVar 2) (x2 (o2 dMod) (xN (o1 dInt) (aCons (x2 (o2 dAdd) (xVar 1) (xC (.int 5))) aNil)) (xC (.int 13))))))
    (sSeq (sSet 7 (x2 (o2 dMod) (xN (o1 dInt) (aCons (x2 (o2 dPow) (x2 (o2 dAdd) (x2 (o2 dAdd) (xVar 6) (x2 (o2 dMod) (xN (o1 dInt) (aCons (xVar 4) aNil)) (xC (.int 1009)))) (xVar 1)) (xC (.int 3))) aNil)) (x2 (o2 dIx) (xVar 2) (x2 (o2 dMod) (xN (o1 dInt) (aCons (x2 (o2 dAdd) (xVar 1) (xC (.int 7))) aNil)) (xC (.int 13))))))
    (sRet (x2 (o2 dAdd) (x2 (o2 dMulA) (x2 (o2 dAdd) (x2 (o2 dMulA) (xVar 4) (xC (.int 2147483647))) (xVar 6)) (xC (.int 2147483647))) (xVar 7)))))))))))
def g_l_law_spread : Fn := fnBody 8 s_l_law_spread
/-- _law_open: 0=_law_script 1=_law_cells 2=_law_k 3=_law_cell -/
def lb1_l_law_open : SFn := (sPut (xVar 1) (x2 (o2 dMod) (xN (o1 dInt) (aCons (xVar 2) aNil)) (xC (.int 12))) (x2 (o2 dAdd) (x2 (o2 dIx) (xVar 1) (x2 (o2 dMod) (xN (o1 dInt) (aCons (xVar 2) aNil)) (xC (.int 12)))) (xVar 3)))
def s_l_law_open : SFn := (sSeq (sNew 1 (lList (xSl (xVar 0) pNo (pEx (xC (.int 12))))))
    (sSeq (sFor (lEnum (xSl (xVar 0) (pEx (xC (.int 12))) (pEx (xC (.int 63))))) (gTp (gCo (gNm 2) (gCo (gNm 3) gNo))) lb1_l_law_open)
    (sSeq (sFrz 1) (sRetN (lLst (aCons (xVar 1) (aCons (xC (.int 0)) (aCons (xC (.int 0)) aNil))))))))
def g_l_law_open : Fn := fnBody 4 s_l_law_open
/-- _law_anew: 0=_law_pen -/
def s_l_law_anew : SFn := (sSeq (sPut (xVar 0) (xC (.int 2)) (xC (.int 0)))
    (sRet (xVar 0)))
def g_l_law_anew : Fn := fnBody 1 s_l_law_anew
/-- _law_take: 0=_law_pen 1=_law_many 2=_law_found 3=_law_at 4=_law_cell -/
def s_l_law_take : SFn := (sSeq (sIf (tBl (x2 (o2 dLt) (x2 (o2 dIx) (xVar 0) (xC (.int 2))) (xVar 1))) (sSeq (sSet 3 (x2 (o2 dIx) (xVar 0) (xC (.int 1))))
    (sSeq (sSet 4 (xC (.int 0)))
    (sSeq (sIf (tBl (x2 (o2 dLt) (xVar 3) (xN (o1 dLen) (aCons (x2 (o2 dIx) (xVar 0) (xC (.int 0))) aNil)))) (sSet 4 (x2 (o2 dIx) (x2 (o2 dIx) (xVar 0) (xC (.int 0))) (xVar 3))) (sIf (tBl (x2 (o2 dGt) (xN (o1 dLen) (aCons (x2 (o2 dIx) (xVar 0) (xC (.int 0))) aNil)) (xC (.int 0)))) (sSet 4 (x2 (o2 dMod) (xN (o1 dInt) (aCons (x2 (o2 dIx) (x2 (o2 dIx) (xVar 0) (xC (.int 0))) (x2 (o2 dMod) (xN (o1 dInt) (aCons (x2 (o2 dAdd) (x2 (o2 dMulA) (xVar 3) (xC (.int 5))) (xC (.int 3))) aNil)) (xN (o1 dLen) (aCons (x2 (o2 dIx) (xVar 0) (xC (.int 0))) aNil)))) aNil)) (x2 (o2 dAdd) (x2 (o2 dPow) (xC (.int 10)) (xC (.int 17))) (xVar 3)))) sNil))
    (sSeq (sPut (xVar 0) (xC (.int 1)) (x2 (o2 dAdd) (xVar 3) (xC (.int 1))))
    (sPut (xVar 0) (xC (.int 2)) (xN g_l_law_spread (aCons (xVar 4) (aCons (xVar 3) aNil)))))))) sNil)
    (sSeq (sSet 2 (x2 (o2 dMod) (xN (o1 dInt) (aCons (x2 (o2 dIx) (xVar 0) (xC (.int 2))) aNil)) (xVar 1)))
    (sSeq (sPut (xVar 0) (xC (.int 2)) (x2 (o2 dDiv) (x2 (o2 dIx) (xVar 0) (xC (.int 2))) (xVar 1)))
    (sRet (xVar 2)))))
def g_l_law_take : Fn := fnBody 5 s_l_law_take
/-- _law_one: 0=_law_pen 1=_law_some -/
def s_l_law_one : SFn := (sRet (x2 (o2 dIx) (xVar 1) (xN g_l_law_take (aCons (xVar 0) (aCons (xN (o1 dLen) (aCons (xVar 1) aNil)) aNil)))))
def g_l_law_one : Fn := fnBody 2 s_l_law_one
/-- _law_is_integer: 0=_law_value_here -/
def s_l_law_is_integer : SFn := (sRet (xAnd (xIsi "int" (xVar 0)) (xNot (xIsi "bool" (xVar 0)))))
def g_l_law_is_integer : Fn := fnBody 1 s_l_law_is_integer
/-- _law_columns: 0=_law_pen 1=_law_most 2=_law_found 3=_law_step 4=_law_some -/
def lb1_l_law_columns : SFn := (sSeq (sSet 4 (xLst (aCons (xTup (aCons (xC (.int 0)) aNil)) (aCons (xTup (aCons (xC (.int 0)) (aCons (xC (.int 1)) aNil))) (aCons (xTup (aCons (xC (.int 0)) (aCons (xC (.int 1)) aNil))) (aCons (xTup (aCons (xC (.int 1)) (aCons (xC (.int 2)) aNil))) (aCons (xTup (aCons (xC (.int 0)) (aCons (xC (.int 2)) aNil))) (aCons (xTup (aCons (xC (.int 0)) (aCons (xC (.int 1)) (aCons (xC (.int 2)) aNil)))) (aCons (xTup (aCons (xC (.int 0)) (aCons (xC (.int 1)) (aCons (xC (.int 99)) aNil)))) (aCons (xTup (aCons (xC (.int 5)) aNil)) aNil))))))))))
    (sSeq (sSet 4 (x2 (o2 dAdd) (xVar 4) (xLst (aCons (xTup (aCons (xC (.int 98)) (aCons (xC (.int 99)) (aCons (x2 (o2 dPow) (xC (.int 10)) (xC (.int 9))) aNil)))) (aCons (xTup (aCons (xC (.int 1)) (aCons (x2 (o2 dPow) (xC (.int 10)) (xC (.int 29))) aNil))) (aCons (xTup (aCons (xC (.int 2024)) (aCons (xC (.int 2025)) (aCons (xC (.int 2026)) aNil)))) aNil))))))
    (sPut (xVar 2) (xN g_l_law_take (aCons (xVar 0) (aCons (xN (o1 dLen) (aCons (xVar 2) aNil)) aNil))) (xN g_l_law_one (aCons (xVar 0) (aCons (xVar 4) aNil))))))
def s_l_law_columns : SFn := (sSeq (sNew 2 (lRep (xLst (aCons (xC .non) aNil)) (x2 (o2 dAdd) (xC (.int 1)) (xN g_l_law_take (aCons (xVar 0) (aCons (xVar 1) aNil))))))
    (sSeq (sFor (lRg1 (aCons (xN g_l_law_one (aCons (xVar 0) (aCons (xLst (aCons (xC (.int 0)) (aCons (xC (.int 1)) (aCons (xC (.int 1)) (aCons (xC (.int 2)) (aCons (xC (.int 2)) aNil)))))) aNil))) aNil)) (gNm 3) lb1_l_law_columns)
    (sRet (xN (o1 dTuple) (aCons (xVar 2) aNil)))))
def g_l_law_columns : Fn := fnBody 5 s_l_law_columns
/-- _law_value: 0=_law_pen 1=_law_column 2=_law_some -/
def s_l_law_value : SFn := (sSeq (sIf (tBl (x2 (o2 dNotN) (xVar 1) (xC .non))) (sRet (xN g_l_law_one (aCons (xVar 0) (aCons (xVar 1) aNil)))) sNil)
    (sSeq (sSet 2 (xLst (aCons (xC (.int 0)) (aCons (xC (.int 0)) (aCons (xC (.int 0)) (aCons (xC (.int 1)) (aCons (xC (.int 1)) (aCons (xC (.int 1)) (aCons (xC (.int 2)) (aCons (xC (.int 2)) (aCons (xC (.int 3)) (aCons (xN g_l_law_take (aCons (xVar 0) (aCons (xC (.int 100)) aNil))) (aCons (xN g_l_law_take (aCons (xVar 0) (aCons (x2 (o2 dPow) (xC (.int 10)) (xC (.int 9))) aNil))) (aCons (x2 (o2 dPow) (xC (.int 10)) (xC (.int 9))) aNil))))))))))))))
    (sRet (xN g_l_law_one (aCons (xVar 0) (aCons (x2 (o2 dAdd) (xVar 2) (xLst (aCons (x2 (o2 dAdd) (x2 (o2 dPow) (xC (.int 10)) (xC (.int 29))) (xN g_l_law_take (aCons (xVar 0) (aCons (xC (.int 2)) aNil)))) aNil))) aNil))))))
def g_l_law_value : Fn := fnBody 3 s_l_law_value
/-- _law_row: 0=_law_pen 1=_law_columns_here 2=_law_column -/
def s_l_law_row : SFn := (sRet (xN (o1 dTuple) (aCons (xN1 (lLc (lIt (xVar 1)) [2] (gNm 2) tYesD (xN g_l_law_value (aCons (xVar 0) (aCons (xVar 2) aNil))))) aNil)))
def g_l_law_row : Fn := fnBody 3 s_l_law_row
/-- _law_is_value: 0=_law_column 1=_law_value_here -/
def s_l_law_is_value : SFn := (sRet (xAnd (xN g_l_law_is_integer (aCons (xVar 1) aNil)) (xAnd (x2 (o2 dGe) (xVar 1) (xC (.int 0))) (xOr (x2 (o2 dIsN) (xVar 0) (xC .non)) (x2 (o2 dIn) (xVar 1) (xVar 0))))))
def g_l_law_is_value : Fn := fnBody 2 s_l_law_is_value
/-- _law_changed: 0=_law_pen 1=_law_value_here 2=_law_some 3=_law_at 4=_law_sort -/
def s_l_law_changed (rec : Fn) : SFn := (sSeq (sIf (tOr_ (tNo (tTr (xIsi "tuple" (xVar 1)))) (tOr_ (tBl (x2 (o2 dEq) (xVar 1) (xTup aNil))) (tBl (x2 (o2 dEq) (xN g_l_law_take (aCons (xVar 0) (aCons (xC (.int 5)) aNil))) (xC (.int 0)))))) (sSeq (sSet 2 (xLst (aCons (xC (.int 0)) (aCons (xC (.int 1)) (aCons (xC (.int 2)) (aCons (xC (.int 3)) (aCons (xC (.int 4)) (aCons (xC (.int 5)) (aCons (xC (.int 99)) (aCons (xC (.int 100)) (aCons (xNeg (xC (.int 1))) (aCons (xC (.bl true)) (aCons (xC (.bl false)) (aCons (xC .non) (aCons (xC (.str "0")) (aCons (xC (.str "")) (aCons (xTup aNil) (aCons (xLst aNil) (aCons (xTup (aCons (xC (.int 0)) aNil)) (aCons (xTup (aCons (xC (.int 0)) (aCons (xC (.int 1)) aNil))) (aCons (xTup (aCons (xC (.int 1)) (aCons (xC (.int 0)) aNil))) (aCons (xTup (aCons (xC (.int 0)) (aCons (xC .non) aNil))) (aCons (xLst (aCons (xC (.int 0)) aNil)) aNil)))))))))))))))))))))))
    (sRet (xN g_l_law_one (aCons (xVar 0) (aCons (x2 (o2 dAdd) (xVar 2) (xLst (aCons (xTup (aCons (xTup (aCons (xC (.int 0)) (aCons (xC (.int 0)) aNil))) aNil)) (aCons (xTup (aCons (xTup (aCons (xC (.int 0)) (aCons (xC .non) aNil))) aNil)) (aCons (xTup (aCons (xTup (aCons (xC (.int 1)) (aCons (xC (.int 1)) aNil))) (aCons (xTup (aCons (xC (.int 0)) (aCons (xC (.int 0)) aNil))) aNil))) (aCons (xTup (aCons (xTup (aCons (xC (.int 0)) (aCons (xC (.int 0)) aNil))) (aCons (xTup (aCons (xC (.int 0)) (aCons (xC (.int 1)) aNil))) aNil))) (aCons (xTup (aCons (xC (.int 0)) (aCons (xC (.int 1)) (aCons (xC (.int 2)) (aCons (xC (.int 3)) aNil))))) aNil))))))) aNil))))) sNil)
    (sSeq (sPar 3 4 (xN g_l_law_take (aCons (xVar 0) (aCons (xN (o1 dLen) (aCons (xVar 1) aNil)) aNil))) (xN g_l_law_take (aCons (xVar 0) (aCons (xC (.int 7)) aNil))))
    (sSeq (sIf (tBl (x2 (o2 dEq) (xVar 4) (xC (.int 0)))) (sRet (x2 (o2 dAdd) (xSl (xVar 1) pNo (pEx (xVar 3))) (xSl (xVar 1) (pEx (x2 (o2 dAdd) (xVar 3) (xC (.int 1)))) pNo))) sNil)
    (sSeq (sIf (tBl (x2 (o2 dEq) (xVar 4) (xC (.int 1)))) (sRet (x2 (o2 dAdd) (x2 (o2 dAdd) (xSl (xVar 1) pNo (pEx (xVar 3))) (xSl (xVar 1) (pEx (xVar 3)) (pEx (x2 (o2 dAdd) (xVar 3) (xC (.int 1)))))) (xSl (xVar 1) (pEx (xVar 3)) pNo))) sNil)
    (sSeq (sIf (tBl (x2 (o2 dEq) (xVar 4) (xC (.int 2)))) (sRet (x2 (o2 dAdd) (x2 (o2 dAdd) (xSl (xVar 1) pNo (pEx (xVar 3))) (xRev (xSl (xVar 1) (pEx (xVar 3)) (pEx (x2 (o2 dAdd) (xVar 3) (xC (.int 2))))))) (xSl (xVar 1) (pEx (x2 (o2 dAdd) (xVar 3) (xC (.int 2)))) pNo))) sNil)
    (sRet (x2 (o2 dAdd) (x2 (o2 dAdd) (xSl (xVar 1) pNo (pEx (xVar 3))) (xTup (aCons (xN (rec) (aCons (xVar 0) (aCons (x2 (o2 dIx) (xVar 1) (xVar 3)) aNil))) aNil))) (xSl (xVar 1) (pEx (x2 (o2 dAdd) (xVar 3) (xC (.int 1)))) pNo))))))))
def r_l_law_changed (rec : Fn) : Fn := fnBody 5 (s_l_law_changed rec)
def f_l_law_changed : Nat → Fn
  | 0 => fun _ _ => .bad
  | n + 1 => r_l_law_changed (f_l_law_changed n)
def g_l_law_changed : Fn := f_l_law_changed 30

/-- _law_bad_columns: 0=_law_pen 1=_law_columns_here 2=_law_some -/
def s_l_law_bad_columns : SFn := (sSeq (sSet 2 (xLst (aCons (xC .non) (aCons (xC (.bl true)) (aCons (xC (.int 0)) (aCons (xC (.str "columns")) (aCons (xC (.str "")) (aCons (xTup aNil) (aCons (xLst aNil) (aCons (xLst (aCons (xC .non) aNil)) (aCons (xN (o1 dList) (aCons (xVar 1) aNil)) (aCons (x2 (o2 dMulA) (xTup (aCons (xC .non) aNil)) (xC (.int 5))) (aCons (xTup (aCons (xC (.int 0)) aNil)) (aCons (xTup (aCons (xTup aNil) aNil)) (aCons (xTup (aCons (xTup (aCons (xC (.int 0)) (aCons (xC (.int 1)) (aCons (xC (.int 2)) (aCons (xC (.int 3)) aNil))))) aNil)) aNil)))))))))))))))
    (sSeq (sSet 2 (x2 (o2 dAdd) (xVar 2) (xLst (aCons (xTup (aCons (xTup (aCons (xC (.int 1)) (aCons (xC (.int 0)) aNil))) aNil)) (aCons (xTup (aCons (xTup (aCons (xC (.int 0)) (aCons (xC (.int 0)) aNil))) aNil)) (aCons (xTup (aCons (xTup (aCons (xNeg (xC (.int 1))) aNil)) aNil)) (aCons (xTup (aCons (xTup (aCons (xC (.int 5)) (aCons (xC (.int 3)) aNil))) aNil)) (aCons (xTup (aCons (xTup (aCons (xC (.bl true)) aNil)) aNil)) (aCons (xTup (aCons (xTup (aCons (xC (.int 0)) (aCons (xC .non) aNil))) aNil)) (aCons (xTup (aCons (xLst (aCons (xC (.int 0)) aNil)) aNil)) aNil))))))))))
    (sSeq (sSet 2 (x2 (o2 dAdd) (xVar 2) (xLst (aCons (xTup (aCons (xC .non) (aCons (xTup (aCons (xC (.int 0)) aNil)) (aCons (xTup (aCons (xC (.int 1)) aNil)) (aCons (xTup (aCons (xC (.int 2)) aNil)) aNil))))) (aCons (xTup (aCons (xC (.str "0")) aNil)) (aCons (xTup (aCons (xC .non) (aCons (xC (.str "a")) aNil))) (aCons (xTup (aCons (xTup (aCons (xC (.int 0)) (aCons (xC (.int 1)) aNil))) (aCons (xTup (aCons (xC (.int 0)) (aCons (xC (.int 1)) aNil))) (aCons (xTup (aCons (xC (.int 0)) (aCons (xC (.int 1)) aNil))) aNil)))) (aCons (xTup (aCons (xTup (aCons (xC (.int 0)) (aCons (xC (.str "1")) aNil))) aNil)) aNil))))))))
    (sRet (xN g_l_law_one (aCons (xVar 0) (aCons (x2 (o2 dAdd) (xVar 2) (xLst (aCons (x2 (o2 dAdd) (xVar 1) (xTup (aCons (xC (.bl true)) aNil))) aNil))) aNil)))))))
def g_l_law_bad_columns : Fn := fnBody 3 s_l_law_bad_columns
/-- _law_draft: 0=_law_pen 1=_law_columns_here 2=_law_step 3=_law_found 4=_law_kept 5=_law_left 6=_law_odds 7=_law_row_here 8=_law_part 9=_law_k 10=_law_value_here 11=_law_is_out -/
def lb1_l_law_draft : SFn := (sSeq (sSet 11 (xAnd (x2 (o2 dEq) (xN g_l_law_take (aCons (xVar 0) (aCons (xVar 6) aNil))) (xC (.int 0))) (xOr (x2 (o2 dIsN) (x2 (o2 dIx) (xVar 1) (xVar 9)) (xC .non)) (x2 (o2 dGt) (xVar 5) (xC (.int 0))))))
    (sSeq (sSet 5 (x2 (o2 dSub) (xVar 5) (xN (o1 dInt) (aCons (xAnd (xVar 11) (x2 (o2 dNotN) (x2 (o2 dIx) (xVar 1) (xVar 9)) (xC .non))) aNil))))
    (sApp (xVar 8) (xIf (tTr (xVar 11)) (xC .non) (xVar 10)))))
def lb2_l_law_draft : SFn := (sSeq (sPar 7 8 (xN g_l_law_row (aCons (xVar 0) (aCons (xVar 1) aNil))) (xNew (lLst aNil)))
    (sSeq (sIf (tAn (tBl (x2 (o2 dGt) (xVar 2) (xC (.int 0)))) (tBl (x2 (o2 dEq) (xN g_l_law_take (aCons (xVar 0) (aCons (xC (.int 2)) aNil))) (xC (.int 0))))) (sSet 7 (xN g_l_law_one (aCons (xVar 0) (aCons (xVar 4) aNil)))) sNil)
    (sSeq (sApp (xVar 4) (xVar 7))
    (sSeq (sFor (lEnum (xVar 7)) (gTp (gCo (gNm 9) (gCo (gNm 10) gNo))) lb1_l_law_draft)
    (sSet 3 (x2 (o2 dAdd) (xVar 3) (xTup (aCons (xN (o1 dTuple) (aCons (xVar 8) aNil)) aNil))))))))
def s_l_law_draft : SFn := (sSeq (sTgV [3, 4, 5, 6] (aCons (xTup aNil) (aCons (xNew (lLst aNil)) (aCons (xN g_l_law_one (aCons (xVar 0) (aCons (xLst (aCons (xC (.int 1)) (aCons (xC (.int 1)) (aCons (xC (.int 2)) aNil)))) aNil))) (aCons (xN g_l_law_one (aCons (xVar 0) (aCons (xLst (aCons (xC (.int 1)) (aCons (xC (.int 2)) (aCons (xC (.int 2)) (aCons (xC (.int 3)) (aCons (xC (.int 5)) aNil)))))) aNil))) aNil)))))
    (sSeq (sFor (lRg1 (aCons (xN g_l_law_one (aCons (xVar 0) (aCons (xLst (aCons (xC (.int 0)) (aCons (xC (.int 1)) (aCons (xC (.int 2)) (aCons (xC (.int 2)) (aCons (xC (.int 3)) (aCons (xC (.int 3)) (aCons (xC (.int 3)) (aCons (xC (.int 4)) (aCons (xC (.int 8)) aNil)))))))))) aNil))) aNil)) (gNm 2) lb2_l_law_draft)
    (sRet (xVar 3))))
def g_l_law_draft : Fn := fnBody 12 s_l_law_draft
/-- _law_bad_draft: 0=_law_pen 1=_law_columns_here 2=_law_many 3=_law_closed 4=_law_some 5=_law_k 6=_law_good 7=_law_least 8=_law_lack 9=_law_own 10=_law_value_here -/
def lb1_l_law_bad_draft : SFn := (sSeq (sSet 8 (x2 (o2 dAdd) (xSl (xN1 (lLc (lRg1 (aCons (xC (.int 3)) aNil)) [10] (gNm 10) (tBl (x2 (o2 dNin) (xVar 10) (x2 (o2 dIx) (xVar 1) (xVar 5)))) (xVar 10))) pNo (pEx (xC (.int 1)))) (xLst (aCons (x2 (o2 dPow) (xC (.int 10)) (xC (.int 30))) aNil))))
    (sSeq (sNew 4 (lCat (xVar 4) (x2 (o2 dMulA) (xLst (aCons (xTup (aCons (x2 (o2 dAdd) (x2 (o2 dAdd) (xSl (xVar 6) pNo (pEx (xVar 5))) (xTup (aCons (x2 (o2 dIx) (xVar 8) (xC (.int 0))) aNil))) (xSl (xVar 6) (pEx (x2 (o2 dAdd) (xVar 5) (xC (.int 1)))) pNo)) aNil)) aNil)) (xC (.int 3)))))
    (sApp (xVar 4) (x2 (o2 dMulZ) (xTup (aCons (xVar 6) aNil)) (x2 (o2 dAdd) (x2 (o2 dDiv) (xC (.int 6)) (xN (o1 dLen) (aCons (xVar 3) aNil))) (xC (.int 1)))))))
def s_l_law_bad_draft : SFn := (sSeq (sSet 2 (xN (o1 dLen) (aCons (xVar 1) aNil)))
    (sSeq (sPar 6 7 (xN (o1 dTuple) (aCons (x2 (o2 dMulA) (xLst (aCons (xC .non) aNil)) (xVar 2)) aNil)) (xN (o1 dTuple) (aCons (xN1 (lLc (lIt (xVar 1)) [9] (gNm 9) tYesD (xIf (tBl (x2 (o2 dIsN) (xVar 9) (xC .non))) (xC (.int 0)) (x2 (o2 dIx) (xVar 9) (xC (.int 0)))))) aNil)))
    (sSeq (sSet 3 (xN1 (lLc (lRg1 (aCons (xVar 2) aNil)) [5] (gNm 5) (tBl (x2 (o2 dNotN) (x2 (o2 dIx) (xVar 1) (xVar 5)) (xC .non))) (xVar 5))))
    (sSeq (sNew 4 (lLst (aCons (xC .non) (aCons (xC (.bl true)) (aCons (xC (.int 0)) (aCons (xC (.str "draft")) (aCons (xLst aNil) (aCons (xLst (aCons (xVar 6) aNil)) (aCons (x2 (o2 dMulA) (xTup (aCons (xVar 7) aNil)) (xC (.int 9))) (aCons (xTup (aCons (x2 (o2 dAdd) (xVar 6) (xTup (aCons (xC .non) aNil))) aNil)) (aCons (xTup (aCons (xSl (xVar 6) (pEx (xC (.int 1))) pNo) aNil)) (aCons (xTup (aCons (xN (o1 dList) (aCons (xVar 6) aNil)) aNil)) aNil))))))))))))
    (sSeq (sNew 4 (lCat (xVar 4) (xLst (aCons (xTup (aCons (xC .non) aNil)) (aCons (xTup (aCons (xTup aNil) aNil)) (aCons (xIf (tBl (x2 (o2 dGt) (xVar 2) (xC (.int 1)))) (xVar 6) (xTup (aCons (xC (.int 0)) aNil))) (aCons (xTup (aCons (x2 (o2 dAdd) (xSl (xVar 6) pNo (pEx (xNeg (xC (.int 1))))) (xTup (aCons (xNeg (xC (.int 1))) aNil))) aNil)) (aCons (xTup (aCons (x2 (o2 dAdd) (xSl (xVar 6) pNo (pEx (xNeg (xC (.int 1))))) (xTup (aCons (xC (.bl true)) aNil))) aNil)) aNil))))))))
    (sSeq (sNew 4 (lCat (xVar 4) (xLst (aCons (xTup (aCons (xVar 6) (aCons (x2 (o2 dAdd) (xSl (xVar 6) pNo (pEx (xNeg (xC (.int 1))))) (xTup (aCons (xC (.str "0")) aNil))) aNil))) (aCons (xTup (aCons (x2 (o2 dAdd) (xSl (xVar 6) pNo (pEx (xNeg (xC (.int 1))))) (xTup (aCons (xTup aNil) aNil))) (aCons (xVar 6) aNil))) (aCons (xTup (aCons (x2 (o2 dAdd) (xTup (aCons (xC (.bl false)) aNil)) (xSl (xVar 6) (pEx (xC (.int 1))) pNo)) aNil)) aNil))))))
    (sSeq (sFor (lIt (xVar 3)) (gNm 5) lb1_l_law_bad_draft)
    (sRet (xN g_l_law_one (aCons (xVar 0) (aCons (xVar 4) aNil)))))))))))
def g_l_law_bad_draft : Fn := fnBody 11 s_l_law_bad_draft
/-- _law_is_draft: 0=_law_columns_here 1=_law_value_here 2=_law_lacking 3=_law_row_here 4=_law_own 5=_law_one_here -/
def lb1_l_law_is_draft : SFn := (sSeq (sIf (tAn (tBl (x2 (o2 dNotN) (xVar 5) (xC .non))) (tNo (tTr (xN g_l_law_is_value (aCons (xVar 4) (aCons (xVar 5) aNil)))))) (sRet (xC (.bl false))) sNil)
    (sSet 2 (x2 (o2 dAdd) (xVar 2) (xN (o1 dInt) (aCons (xAnd (x2 (o2 dIsN) (xVar 5) (xC .non)) (x2 (o2 dNotN) (xVar 4) (xC .non))) aNil)))))
def lb2_l_law_is_draft : SFn := (sSeq (sIf (tOr_ (tNo (tTr (xIsi "tuple" (xVar 3)))) (tBl (x2 (o2 dNe) (xN (o1 dLen) (aCons (xVar 3) aNil)) (xN (o1 dLen) (aCons (xVar 0) aNil))))) (sRet (xC (.bl false))) sNil)
    (sFor (lZip (xVar 0) (xVar 3)) (gTp (gCo (gNm 4) (gCo (gNm 5) gNo))) lb1_l_law_is_draft))
def s_l_law_is_draft : SFn := (sSeq (sIf (tOr_ (tNo (tTr (xIsi "tuple" (xVar 1)))) (tBl (x2 (o2 dGt) (xN (o1 dLen) (aCons (xVar 1) aNil)) (xC (.int 8))))) (sRet (xC (.bl false))) sNil)
    (sSeq (sSet 2 (xC (.int 0)))
    (sSeq (sFor (lIt (xVar 1)) (gNm 3) lb2_l_law_is_draft)
    (sRet (x2 (o2 dLe) (xVar 2) (xC (.int 6)))))))
def g_l_law_is_draft : Fn := fnBody 6 s_l_law_is_draft
/-- _law_right: 0=_law_columns_here 1=_law_value_here 2=_law_kept 3=_law_due -/
def s_l_law_right : SFn := (sSeq (sPar 2 3 (xN (o1 dRepr) (aCons (xTup (aCons (xVar 0) (aCons (xVar 1) aNil))) aNil)) (xN g_l_law_is_draft (aCons (xVar 0) (aCons (xVar 1) aNil))))
    (sRet (xAnd (x2 (o2 dEqS) (xN (o1 dRepr) (aCons (xN g_is_draft (aCons (xVar 0) (aCons (xVar 1) aNil))) aNil)) (xN (o1 dRepr) (aCons (xVar 3) aNil))) (x2 (o2 dEqS) (xN (o1 dRepr) (aCons (xTup (aCons (xVar 0) (aCons (xVar 1) aNil))) aNil)) (xVar 2)))))
def g_l_law_right : Fn := fnBody 4 s_l_law_right
/-- _law_refused: 0=_law_columns_here 1=_law_value_here 2=e -/
def s_l_law_refused : SFn := (sSeq (sTryIs (sExpr (xN g_is_draft (aCons (xVar 0) (aCons (xVar 1) aNil)))) cat_RuleError isi_InvalidColumns 2)
    (sRet (xC (.bl false))))
def g_l_law_refused : Fn := fnBody 3 s_l_law_refused
/-- law: 0=_law_script 1=_law_pen 2=_law_turn 3=_law_columns_here 4=_law_draft_here 5=_law_step 6=_law_row_here 7=_law_none 8=_law_some 9=_law_value_here 10=_law_near -/
def lb1_law : SFn := (sSeq (sSet 10 (xN g_l_law_changed (aCons (xVar 1) (aCons (xVar 4) aNil))))
    (sSeq (sSet 10 (xIf (tBl (x2 (o2 dEq) (xN g_l_law_take (aCons (xVar 1) (aCons (xC (.int 4)) aNil))) (xC (.int 0)))) (xN g_l_law_changed (aCons (xVar 1) (aCons (xVar 10) aNil))) (xVar 10)))
    (sIf (tNo (tTr (xN g_l_law_right (aCons (xVar 3) (aCons (xVar 10) aNil))))) (sRet (xC (.bl false))) sNil)))
def lb2_law : SFn := (sIf (tNo (tTr (xN g_l_law_right (aCons (xVar 3) (aCons (xVar 9) aNil))))) (sRet (xC (.bl false))) sNil)
def lb3_law : SFn := (sSeq (sSet 3 (xN g_l_law_columns (aCons (xN g_l_law_anew (aCons (xVar 1) aNil)) (aCons (xC (.int 4)) aNil))))
    (sSeq (sSet 4 (xN g_l_law_draft (aCons (xVar 1) (aCons (xVar 3) aNil))))
    (sSeq (sFor (lRg1 (aCons (xC (.int 6)) aNil)) (gNm 5) lb1_law)
    (sSeq (sSet 6 (xN g_l_law_row (aCons (xVar 1) (aCons (xVar 3) aNil))))
    (sSeq (sSet 7 (x2 (o2 dMulZ) (xTup (aCons (x2 (o2 dMulZ) (xTup (aCons (xC .non) aNil)) (xN (o1 dLen) (aCons (xVar 3) aNil))) aNil)) (xN g_l_law_take (aCons (xVar 1) (aCons (xC (.int 9)) aNil)))))
    (sSeq (sNew 8 (lLst (aCons (xVar 4) (aCons (x2 (o2 dMulZ) (xTup (aCons (xVar 6) aNil)) (xN g_l_law_take (aCons (xVar 1) (aCons (xC (.int 10)) aNil)))) (aCons (x2 (o2 dAdd) (xVar 4) (xTup (aCons (xVar 6) aNil))) (aCons (xN g_l_law_bad_draft (aCons (xVar 1) (aCons (xVar 3) aNil))) (aCons (xVar 7) aNil)))))))
    (sSeq (sApp (xVar 8) (xSl (x2 (o2 dAdd) (xVar 7) (xVar 4)) pNo (pEx (xC (.int 8)))))
    (sSeq (sFor (lIt (x2 (o2 dAdd) (xVar 8) (xLst (aCons (xN (o1 dList) (aCons (xVar 4) aNil)) (aCons (xVar 6) aNil))))) (gNm 9) lb2_law)
    (sIf (tNo (tTr (xN g_l_law_refused (aCons (xN g_l_law_bad_columns (aCons (xVar 1) (aCons (xVar 3) aNil))) (aCons (xN g_l_law_one (aCons (xVar 1) (aCons (xLst (aCons (xVar 4) (aCons (xC .non) aNil))) aNil))) aNil))))) (sRet (xC (.bl false))) sNil)))))))))
def s_law : SFn := (sSeq (sSet 1 (xN g_l_law_open (aCons (xVar 0) aNil)))
    (sSeq (sFor (lRg1 (aCons (xC (.int 12)) aNil)) (gNm 2) lb3_law)
    (sRet (xC (.bl true)))))
def g_law : Fn := fnBody 11 s_law
end T08

set_option maxHeartbeats 0
namespace T08
open PySem PySem.Spec PyProof.Rows L2 DL
def top (i : Nat) : Stmt := PySem.Challenge.pw_whererules_k08_what_is_a_draft.main.body.getD i (.Pass ⟨0, 0, 0, 0⟩)
structure Txt (K : PySem.W.Frag) (mg : Str → Option Value) : Prop where
  b_all : mg "all" = none
  b_bool : mg "bool" = none
  b_enumerate : mg "enumerate" = none
  b_int : mg "int" = none
  b_isinstance : mg "isinstance" = none
  b_len : mg "len" = none
  b_list : mg "list" = none
  b_range : mg "range" = none
  b_repr : mg "repr" = none
  b_set : mg "set" = none
  b_sorted : mg "sorted" = none
  b_sum : mg "sum" = none
  b_tuple : mg "tuple" = none
  b_zip : mg "zip" = none
  i_MOST_COLUMNS : ∃ t, mg "MOST_COLUMNS" = some (.int 4 t)
  i_MOST_ROWS : ∃ t, mg "MOST_ROWS" = some (.int 8 t)
  i_MOST_LACKING : ∃ t, mg "MOST_LACKING" = some (.int 6 t)
  e_InvalidColumns : ExcD K mg "InvalidColumns"
  c_RuleError : CatD K mg "RuleError" cat_RuleError
  y_InvalidColumns : IsiD K mg "InvalidColumns" isi_InvalidColumns
  k_RuleError : ∀ c, (cat_RuleError c).isSome = true → mg c = some (.ref (He.ga K c))
  d_is_integer : ∃ f fd, FunD K "is_integer" "is_integer" (defArgs (top 1)) (defBody (top 1)) (defScope (top 1)) [] [] f fd ∧ mg "is_integer" = some (.ref f)
  d_is_value : ∃ f fd, FunD K "is_value" "is_value" (defArgs (top 8)) (defBody (top 8)) (defScope (top 8)) [] [] f fd ∧ mg "is_value" = some (.ref f)
  d_is_column : ∃ f fd, FunD K "is_column" "is_column" (defArgs (top 9)) (defBody (top 9)) (defScope (top 9)) [] [] f fd ∧ mg "is_column" = some (.ref f)
  d_is_value_of : ∃ f fd, FunD K "is_value_of" "is_value_of" (defArgs (top 10)) (defBody (top 10)) (defScope (top 10)) [] [] f fd ∧ mg "is_value_of" = some (.ref f)
  d_is_columns : ∃ f fd, FunD K "is_columns" "is_columns" (defArgs (top 11)) (defBody (top 11)) (defScope (top 11)) [] [] f fd ∧ mg "is_columns" = some (.ref f)
  d_require_columns : ∃ f fd, FunD K "require_columns" "require_columns" (defArgs (top 12)) (defBody (top 12)) (defScope (top 12)) [] [] f fd ∧ mg "require_columns" = some (.ref f)
  d_is_draft_row : ∃ f fd, FunD K "is_draft_row" "is_draft_row" (defArgs (top 15)) (defBody (top 15)) (defScope (top 15)) [] [] f fd ∧ mg "is_draft_row" = some (.ref f)
  d_is_draft_of : ∃ f fd, FunD K "is_draft_of" "is_draft_of" (defArgs (top 16)) (defBody (top 16)) (defScope (top 16)) [] [] f fd ∧ mg "is_draft_of" = some (.ref f)
  d_is_draft : ∃ f fd, FunD K "is_draft" "is_draft" (defArgs (top 17)) (defBody (top 17)) (defScope (top 17)) [] [] f fd ∧ mg "is_draft" = some (.ref f)
  d_l_law_spread : ∃ f fd, FunD K "_law_spread" "_law_spread" (defArgs (top 19)) (defBody (top 19)) (defScope (top 19)) [] [] f fd ∧ mg "_law_spread" = some (.ref f)
  d_l_law_open : ∃ f fd, FunD K "_law_open" "_law_open" (defArgs (top 20)) (defBody (top 20)) (defScope (top 20)) [] [] f fd ∧ mg "_law_open" = some (.ref f)
  d_l_law_anew : ∃ f fd, FunD K "_law_anew" "_law_anew" (defArgs (top 21)) (defBody (top 21)) (defScope (top 21)) [] [] f fd ∧ mg "_law_anew" = some (.ref f)
  d_l_law_take : ∃ f fd, FunD K "_law_take" "_law_take" (defArgs (top 22)) (defBody (top 22)) (defScope (top 22)) [] [] f fd ∧ mg "_law_take" = some (.ref f)
  d_l_law_one : ∃ f fd, FunD K "_law_one" "_law_one" (defArgs (top 23)) (defBody (top 23)) (defScope (top 23)) [] [] f fd ∧ mg "_law_one" = some (.ref f)
  d_l_law_is_integer : ∃ f fd, FunD K "_law_is_integer" "_law_is_integer" (defArgs (top 24)) (defBody (top 24)) (defScope (top 24)) [] [] f fd ∧ mg "_law_is_integer" = some (.ref f)
  d_l_law_columns : ∃ f fd, FunD K "_law_columns" "_law_columns" (defArgs (top 25)) (defBody (top 25)) (defScope (top 25)) [] [] f fd ∧ mg "_law_columns" = some (.ref f)
  d_l_law_value : ∃ f fd, FunD K "_law_value" "_law_value" (defArgs (top 26)) (defBody (top 26)) (defScope (top 26)) [] [] f fd ∧ mg "_law_value" = some (.ref f)
  d_l_law_row : ∃ f fd, FunD K "_law_row" "_law_row" (defArgs (top 27)) (defBody (top 27)) (defScope (top 27)) [] [] f fd ∧ mg "_law_row" = some (.ref f)
  d_l_law_is_value : ∃ f fd, FunD K "_law_is_value" "_law_is_value" (defArgs (top 28)) (defBody (top 28)) (defScope (top 28)) [] [] f fd ∧ mg "_law_is_value" = some (.ref f)
  d_l_law_changed : ∃ f fd, FunD K "_law_changed" "_law_changed" (defArgs (top 29)) (defBody (top 29)) (defScope (top 29)) [] [] f fd ∧ mg "_law_changed" = some (.ref f)
  d_l_law_bad_columns : ∃ f fd, FunD K "_law_bad_columns" "_law_bad_columns" (defArgs (top 30)) (defBody (top 30)) (defScope (top 30)) [] [] f fd ∧ mg "_law_bad_columns" = some (.ref f)
  d_l_law_draft : ∃ f fd, FunD K "_law_draft" "_law_draft" (defArgs (top 31)) (defBody (top 31)) (defScope (top 31)) [] [] f fd ∧ mg "_law_draft" = some (.ref f)
  d_l_law_bad_draft : ∃ f fd, FunD K "_law_bad_draft" "_law_bad_draft" (defArgs (top 32)) (defBody (top 32)) (defScope (top 32)) [] [] f fd ∧ mg "_law_bad_draft" = some (.ref f)
  d_l_law_is_draft : ∃ f fd, FunD K "_law_is_draft" "_law_is_draft" (defArgs (top 33)) (defBody (top 33)) (defScope (top 33)) [] [] f fd ∧ mg "_law_is_draft" = some (.ref f)
  d_l_law_right : ∃ f fd, FunD K "_law_right" "_law_right" (defArgs (top 34)) (defBody (top 34)) (defScope (top 34)) [] [] f fd ∧ mg "_law_right" = some (.ref f)
  d_l_law_refused : ∃ f fd, FunD K "_law_refused" "_law_refused" (defArgs (top 35)) (defBody (top 35)) (defScope (top 35)) [] [] f fd ∧ mg "_law_refused" = some (.ref f)
  d_law : ∃ f fd, FunD K "law" "law" (defArgs (top 36)) (defBody (top 36)) (defScope (top 36)) [] [] f fd ∧ mg "law" = some (.ref f)
variable {P : Program} {w : World} {K : PySem.W.Frag} {mg : Str → Option Value} {base : Heap}
theorem sc_is_integer : FnScope (["value"] : List Str) (["value"] : List Str) (defScope (top 1)) := ⟨rfl, rfl, rfl, by decide +kernel, rfl, by decide +kernel, by decide +kernel⟩
theorem ok_is_integer (T : Txt K mg) : Def P w K mg base 1 "is_integer" 1 g_is_integer := def_D T.d_is_integer sc_is_integer (fun _ _ _ _ _ _ us hl => match us, hl with | [_], _ => rfl) (fun f cdv A outer s H E hr hG =>
    (dss_one (ds_ret (de_and (de_isi (de_var (i := 0)) T.b_isinstance T.b_int (by decide +kernel)) (de_one (de_not (de_isi (de_var (i := 0)) T.b_isinstance T.b_bool (by decide +kernel))))))))
theorem sc_is_value : FnScope (["value"] : List Str) (["value"] : List Str) (defScope (top 8)) := ⟨rfl, rfl, rfl, by decide +kernel, rfl, by decide +kernel, by decide +kernel⟩
theorem ok_is_value (T : Txt K mg) : Def P w K mg base 2 "is_value" 1 g_is_value := def_D T.d_is_value sc_is_value (fun _ _ _ _ _ _ us hl => match us, hl with | [_], _ => rfl) (fun f cdv A outer s H E hr hG =>
    (dss_one (ds_ret (de_and (de_call (ok_is_integer T) (hr.mono (by decide)) hG (takes_of rfl rfl rfl rfl) (da_cons (de_var (i := 0)) da_nil) (hlen := (al_cons al_nil))) (de_one (de_cmp op_ge dGe_ok (de_var (i := 0)) de_int))))))
theorem sc_is_column : FnScope (["value", "one"] : List Str) (["value"] : List Str) (defScope (top 9)) := ⟨rfl, rfl, rfl, by decide +kernel, rfl, by decide +kernel, by decide +kernel⟩
theorem ok_is_column (T : Txt K mg) : Def P w K mg base 3 "is_column" 1 g_is_column := def_D T.d_is_column sc_is_column (fun _ _ _ _ _ _ us hl => match us, hl with | [_], _ => rfl) (fun f cdv A outer s H E hr hG =>
    (dss_cons (ds_if (dt_cmp op_isN dIsN_ok (de_var (i := 0)) de_non) (dss_one (ds_ret de_bl)) dss_nil)
    (dss_cons (ds_if (dw_or (dt_not (dt_of (de_isi (de_var (i := 0)) T.b_isinstance T.b_tuple (by decide +kernel)))) (dw_or1 (dt_not (dt_chain op_le op_le dLe_ok dLe_ok de_int (de_callB call_len dLen_ok T.b_len (by decide +kernel) (da_cons (de_var (i := 0)) da_nil)) de_int)))).dt (dss_one (ds_ret de_bl)) dss_nil)
    (dss_cons (ds_if (dt_not (dt_of (de_callB (cr_all rfl) dAll_ok T.b_all (by decide +kernel) (da_cons (ne_lc (own := [("one", 1)]) rfl sc_is_column.nd (di_seq (de_var (i := 0))) (blkOk_by (N := ["value", "one"]) (sc := defScope (top 9)) (by decide +kernel)) (fun _ _ _ _ _ => (dg_name (i := 1) sc_is_column.nd)) (fun _ _ _ _ _ => dts_nil) (fun _ _ _ _ _ => (de_call (ok_is_value T) (hr.mono (by decide)) hG takes0 (da_cons (de_var (i := 1)) da_nil) (hlen := (al_cons al_nil))))).de da_nil)))) (dss_one (ds_ret de_bl)) dss_nil)
    (dss_one (ds_ret (de_cmp (op_eqDD (ru64 hr)) dEq_ok (de_callTy call_list_of dList_ok T.b_list (by decide +kernel) (da_cons (de_var (i := 0)) da_nil)) (ne_sortSet rfl (de_var (i := 0)) T.b_sorted T.b_set).de)))))))
theorem sc_is_value_of : FnScope (["column", "value"] : List Str) (["column", "value"] : List Str) (defScope (top 10)) := ⟨rfl, rfl, rfl, by decide +kernel, rfl, by decide +kernel, by decide +kernel⟩
theorem ok_is_value_of (T : Txt K mg) : Def P w K mg base 3 "is_value_of" 2 g_is_value_of := def_D T.d_is_value_of sc_is_value_of (fun _ _ _ _ _ _ us hl => match us, hl with | [_, _], _ => rfl) (fun f cdv A outer s H E hr hG =>
    (dss_one (ds_ret (de_and (de_call (ok_is_value T) (hr.mono (by decide)) hG (takes_of rfl rfl rfl rfl) (da_cons (de_var (i := 1)) da_nil) (hlen := (al_cons al_nil))) (de_one (de_or (de_cmp op_isN dIsN_ok (de_var (i := 0)) de_non) (de_one (de_cmp (op_inDD (ru65 hr)) dIn_ok (de_var (i := 1)) (de_var (i := 0))))))))))
theorem sc_is_columns : FnScope (["value", "column"] : List Str) (["value"] : List Str) (defScope (top 11)) := ⟨rfl, rfl, rfl, by decide +kernel, rfl, by decide +kernel, by decide +kernel⟩
theorem ok_is_columns (T : Txt K mg) : Def P w K mg base 4 "is_columns" 1 g_is_columns := def_D T.d_is_columns sc_is_columns (fun _ _ _ _ _ _ us hl => match us, hl with | [_], _ => rfl) (fun f cdv A outer s H E hr hG =>
    (dss_cons (ds_if (dw_or (dt_not (dt_of (de_isi (de_var (i := 0)) T.b_isinstance T.b_tuple (by decide +kernel)))) (dw_or1 (dt_not (dt_chain op_le op_le dLe_ok dLe_ok de_int (de_callB call_len dLen_ok T.b_len (by decide +kernel) (da_cons (de_var (i := 0)) da_nil)) (DL.de_globInt (by rfl) T.i_MOST_COLUMNS))))).dt (dss_one (ds_ret de_bl)) dss_nil)
    (dss_cons (ds_if (dt_not (dt_of (de_callB (cr_all rfl) dAll_ok T.b_all (by decide +kernel) (da_cons (ne_lc (own := [("column", 1)]) rfl sc_is_columns.nd (di_seq (de_var (i := 0))) (blkOk_by (N := ["value", "column"]) (sc := defScope (top 11)) (by decide +kernel)) (fun _ _ _ _ _ => (dg_name (i := 1) sc_is_columns.nd)) (fun _ _ _ _ _ => dts_nil) (fun _ _ _ _ _ => (de_call (ok_is_column T) (hr.mono (by decide)) hG takes0 (da_cons (de_var (i := 1)) da_nil) (hlen := (al_cons al_nil))))).de da_nil)))) (dss_one (ds_ret de_bl)) dss_nil)
    (dss_one (ds_ret (de_cmp op_le dLe_ok (de_callB call_len dLen_ok T.b_len (by decide +kernel) (da_cons (ne_lc (own := [("column", 1)]) rfl sc_is_columns.nd (di_seq (de_var (i := 0))) (blkOk_by (N := ["value", "column"]) (sc := defScope (top 11)) (by decide +kernel)) (fun _ _ _ _ _ => (dg_name (i := 1) sc_is_columns.nd)) (fun _ _ _ _ _ => (dts_one (dt_cmp op_notN dNotN_ok (de_var (i := 1)) de_non))) (fun _ _ _ _ _ => (de_var (i := 1)))).de da_nil)) de_int))))))
theorem sc_require_columns : FnScope (["value"] : List Str) (["value"] : List Str) (defScope (top 12)) := ⟨rfl, rfl, rfl, by decide +kernel, rfl, by decide +kernel, by decide +kernel⟩
theorem ok_require_columns (T : Txt K mg) : Def P w K mg base 5 "require_columns" 1 g_require_columns := def_D T.d_require_columns sc_require_columns (fun _ _ _ _ _ _ us hl => match us, hl with | [_], _ => rfl) (fun f cdv A outer s H E hr hG =>
    (dss_one (ds_if (dt_not (dt_of (de_call (ok_is_columns T) (hr.mono (by decide)) hG (takes_of rfl rfl rfl rfl) (da_cons (de_var (i := 0)) da_nil) (hlen := (al_cons al_nil))))) (dss_one (ds_raise rfl (takes_of rfl rfl rfl rfl) T.e_InvalidColumns)) dss_nil)))
theorem sc_is_draft_row : FnScope (["columns", "value", "column", "one"] : List Str) (["columns", "value"] : List Str) (defScope (top 15)) := ⟨rfl, rfl, rfl, by decide +kernel, rfl, by decide +kernel, by decide +kernel⟩
theorem ok_is_draft_row (T : Txt K mg) : Def P w K mg base 4 "is_draft_row" 2 g_is_draft_row := def_D T.d_is_draft_row sc_is_draft_row (fun _ _ _ _ _ _ us hl => match us, hl with | [_, _], _ => rfl) (fun f cdv A outer s H E hr hG =>
    (dss_cons (ds_if (dw_or (dt_not (dt_of (de_isi (de_var (i := 1)) T.b_isinstance T.b_tuple (by decide +kernel)))) (dw_or1 (dt_cmp (op_neDD (ru64 hr)) dNe_ok (de_callB call_len dLen_ok T.b_len (by decide +kernel) (da_cons (de_var (i := 1)) da_nil)) (de_callB call_len dLen_ok T.b_len (by decide +kernel) (da_cons (de_var (i := 0)) da_nil))))).dt (dss_one (ds_ret de_bl)) dss_nil)
    (dss_one (ds_ret (de_callB (cr_all rfl) dAll_ok T.b_all (by decide +kernel) (da_cons (ne_lc (own := [("column", 2), ("one", 3)]) rfl sc_is_draft_row.nd (di_zip (de_var (i := 0)) (de_var (i := 1)) T.b_zip) (blkOk_by (N := ["columns", "value", "column", "one"]) (sc := defScope (top 15)) (by decide +kernel)) (fun _ _ _ _ _ => (dg_tup rfl (dgs_cons (dg_name (i := 2) sc_is_draft_row.nd) (dgs_cons (dg_name (i := 3) sc_is_draft_row.nd) dgs_nil)) (gLen_cons (gLen_cons gLen_nil)))) (fun _ _ _ _ _ => dts_nil) (fun _ _ _ _ _ => (de_or (de_cmp op_isN dIsN_ok (de_var (i := 3)) de_non) (de_one (de_call (ok_is_value_of T) (hr.mono (by decide)) hG takes0 (da_cons (de_var (i := 2)) (da_cons (de_var (i := 3)) da_nil)) (hlen := (al_cons (al_cons al_nil)))))))).de da_nil))))))
theorem sc_is_draft_of : FnScope (["columns", "value", "closed", "column", "row"] : List Str) (["columns", "value"] : List Str) (defScope (top 16)) := ⟨rfl, rfl, rfl, by decide +kernel, rfl, by decide +kernel, by decide +kernel⟩
theorem ok_is_draft_of (T : Txt K mg) : Def P w K mg base 5 "is_draft_of" 2 g_is_draft_of := def_D T.d_is_draft_of sc_is_draft_of (fun _ _ _ _ _ _ us hl => match us, hl with | [_, _], _ => rfl) (fun f cdv A outer s H E hr hG =>
    (dss_cons (ds_if (dw_or (dt_not (dt_of (de_isi (de_var (i := 1)) T.b_isinstance T.b_tuple (by decide +kernel)))) (dw_or1 (dt_cmp op_gt dGt_ok (de_callB call_len dLen_ok T.b_len (by decide +kernel) (da_cons (de_var (i := 1)) da_nil)) (DL.de_globInt (by rfl) T.i_MOST_ROWS)))).dt (dss_one (ds_ret de_bl)) dss_nil)
    (dss_cons (ds_if (dt_not (dt_of (de_callB (cr_all rfl) dAll_ok T.b_all (by decide +kernel) (da_cons (ne_lc (own := [("row", 4)]) rfl sc_is_draft_of.nd (di_seq (de_var (i := 1))) (blkOk_by (N := ["columns", "value", "closed", "column", "row"]) (sc := defScope (top 16)) (by decide +kernel)) (fun _ _ _ _ _ => (dg_name (i := 4) sc_is_draft_of.nd)) (fun _ _ _ _ _ => dts_nil) (fun _ _ _ _ _ => (de_call (ok_is_draft_row T) (hr.mono (by decide)) hG takes0 (da_cons (de_var (i := 0)) (da_cons (de_var (i := 4)) da_nil)) (hlen := (al_cons (al_cons al_nil)))))).de da_nil)))) (dss_one (ds_ret de_bl)) dss_nil)
    (dss_cons (ds_set (i := 2) (ne_lc (own := [("column", 3)]) rfl sc_is_draft_of.nd (di_range1 (da_cons (de_callB call_len dLen_ok T.b_len (by decide +kernel) (da_cons (de_var (i := 0)) da_nil)) da_nil) T.b_range) (blkOk_by (N := ["columns", "value", "closed", "column", "row"]) (sc := defScope (top 16)) (by decide +kernel)) (fun _ _ _ _ _ => (dg_name (i := 3) sc_is_draft_of.nd)) (fun _ _ _ _ _ => (dts_one (dt_cmp op_notN dNotN_ok (de_ix (de_var (i := 0)) (de_var (i := 3))) de_non))) (fun _ _ _ _ _ => (de_var (i := 3)))).de sc_is_draft_of.nd)
    (dss_one (ds_ret (de_cmp op_le dLe_ok (de_callB (cr_sum rfl) dSum_ok T.b_sum (by decide +kernel) (da_cons (ne_lc (own := [("row", 4)]) rfl sc_is_draft_of.nd (di_seq (de_var (i := 1))) (blkOk_by (N := ["columns", "value", "closed", "column", "row"]) (sc := defScope (top 16)) (by decide +kernel)) (fun _ _ _ _ _ => (dg_name (i := 4) sc_is_draft_of.nd)) (fun _ _ _ _ _ => dts_nil) (fun _ _ _ _ _ => (de_callB call_len dLen_ok T.b_len (by decide +kernel) (da_cons (ne_lc (own := [("column", 3)]) rfl sc_is_draft_of.nd (di_seq (de_var (i := 2))) (blkOk_in (N := ["columns", "value", "closed", "column", "row"]) (by decide +kernel)) (fun _ _ _ _ _ => (dg_name (i := 3) sc_is_draft_of.nd)) (fun _ _ _ _ _ => (dts_one (dt_cmp op_isN dIsN_ok (de_ix (de_var (i := 4)) (de_var (i := 3))) de_non))) (fun _ _ _ _ _ => (de_var (i := 3)))).de da_nil)))).de da_nil)) (DL.de_globInt (by rfl) T.i_MOST_LACKING))))))))
theorem sc_is_draft : FnScope (["columns", "value"] : List Str) (["columns", "value"] : List Str) (defScope (top 17)) := ⟨rfl, rfl, rfl, by decide +kernel, rfl, by decide +kernel, by decide +kernel⟩
theorem ok_is_draft (T : Txt K mg) : Def P w K mg base 6 "is_draft" 2 g_is_draft := def_D T.d_is_draft sc_is_draft (fun _ _ _ _ _ _ us hl => match us, hl with | [_, _], _ => rfl) (fun f cdv A outer s H E hr hG =>
    (dss_cons (ds_expr (de_call (ok_require_columns T) (hr.mono (by decide)) hG (takes_of rfl rfl rfl rfl) (da_cons (de_var (i := 0)) da_nil) (hlen := (al_cons al_nil))))
    (dss_one (ds_ret (de_call (ok_is_draft_of T) (hr.mono (by decide)) hG (takes_of rfl rfl rfl rfl) (da_cons (de_var (i := 0)) (da_cons (de_var (i := 1)) da_nil)) (hlen := (al_cons (al_cons al_nil))))))))
theorem sc_l_law_spread : FnScope (["_law_cell", "_law_at", "_law_primes", "_law_mixed", "_law_one_here", "_law_rest", "_law_two", "_law_three"] : List Str) (["_law_cell", "_law_at"] : List Str) (defScope (top 19)) := ⟨rfl, rfl, rfl, by decide +kernel, rfl, by decide +kernel, by decide +kernel⟩
theorem ok_l_law_spread (T : Txt K mg) : Def P w K mg base 1 "_law_spread" 2 g_l_law_spread := def_D T.d_l_law_spread sc_l_law_spread (fun _ _ _ _ _ _ us hl => match us, hl with | [_, _], _ => rfl) (fun f cdv A outer s H E hr hG =>
    (dss_cons (ds_if (dt_cmp op_ge dGe_ok (de_var (i := 0)) (de_op op_pow dPow_ok de_int de_int)) (dss_one (ds_ret (de_var (i := 0)))) dss_nil)
    (dss_cons (ds_set (i := 2) (de_lst (da_cons de_int (da_cons de_int (da_cons de_int (da_cons de_int (da_cons de_int (da_cons de_int (da_cons de_int da_nil)))))))) sc_l_law_spread.nd)
    (dss_cons (ds_set (i := 2) (de_op op_addD dAdd_ok (de_var (i := 2)) (de_lst (da_cons de_int (da_cons de_int (da_cons de_int (da_cons de_int (da_cons de_int (da_cons de_int da_nil)))))))) sc_l_law_spread.nd)
    (dss_cons (ds_set (i := 3) (de_op op_addD dAdd_ok (de_op op_addD dAdd_ok (de_op op_mulA dMulA_ok (de_op op_mod dMod_ok (de_callTy call_int1 dInt_ok T.b_int (by decide +kernel) (da_cons (de_var (i := 0)) da_nil)) de_int) (de_op op_addD dAdd_ok (de_op op_mulA dMulA_ok de_int (de_var (i := 1))) de_int)) (de_op op_mulA dMulA_ok (de_var (i := 1)) de_int)) de_int) sc_l_law_spread.nd)
    (dss_cons (ds_set (i := 4) (de_op op_mod dMod_ok (de_callTy call_int1 dInt_ok T.b_int (by decide +kernel) (da_cons (de_op op_pow dPow_ok (de_var (i := 3)) de_int) da_nil)) (de_ix (de_var (i := 2)) (de_op op_mod dMod_ok (de_callTy call_int1 dInt_ok T.b_int (by decide +kernel) (da_cons (de_var (i := 1)) da_nil)) de_int))) sc_l_law_spread.nd)
    (dss_cons (ds_set (i := 5) (de_op op_addD dAdd_ok (de_op op_mod dMod_ok (de_callTy call_int1 dInt_ok T.b_int (by decide +kernel) (da_cons (de_var (i := 0)) da_nil)) de_int) de_int) sc_l_law_spread.nd)
    (dss_cons (ds_set (i := 6) (de_op op_mod dMod_ok (de_callTy call_int1 dInt_ok T.b_int (by decide +kernel) (da_cons (de_op op_pow dPow_ok (de_op op_addD dAdd_ok (de_op op_mulA dMulA_ok (de_var (i := 4)) (de_op op_addD dAdd_ok (de_var (i := 1)) de_int)) (de_var (i := 5))) de_int) da_nil)) (de_ix (de_var (i := 2)) (de_op op_mod dMod_ok (de_callTy call_int1 dInt_ok T.b_int (by decide +kernel) (da_cons (de_op op_addD dAdd_ok (de_var (i := 1)) de_int) da_nil)) de_int))) sc_l_law_spread.nd)
    (dss_cons (ds_set (i := 7) (de_op op_mod dMod_ok (de_callTy call_int1 dInt_ok T.b_int (by decide +kernel) (da_cons (de_op op_pow dPow_ok (de_op op_addD dAdd_ok (de_op op_addD dAdd_ok (de_var (i := 6)) (de_op op_mod dMod_ok (de_callTy call_int1 dInt_ok T.b_int (by decide +kernel) (da_cons (de_var (i := 4)) da_nil)) de_int)) (de_var (i := 1))) de_int) da_nil)) (de_ix (de_var (i := 2)) (de_op op_mod dMod_ok (de_callTy call_int1 dInt_ok T.b_int (by decide +kernel) (da_cons (de_op op_addD dAdd_ok (de_var (i := 1)) de_int) da_nil)) de_int))) sc_l_law_spread.nd)
    (dss_one (ds_ret (de_op op_addD dAdd_ok (de_op op_mulA dMulA_ok (de_op op_addD dAdd_ok (de_op op_mulA dMulA_ok (de_var (i := 4)) de_int) (de_var (i := 6))) de_int) (de_var (i := 7))))))))))))))
theorem sc_l_law_open : FnScope (["_law_script", "_law_cells", "_law_k", "_law_cell"] : List Str) (["_law_script"] : List Str) (defScope (top 20)) := ⟨rfl, rfl, rfl, by decide +kernel, rfl, by decide +kernel, by decide +kernel⟩
theorem ok_l_law_open (T : Txt K mg) : Def P w K mg base 1 "_law_open" 1 g_l_law_open := def_D T.d_l_law_open sc_l_law_open (fun _ _ _ _ _ _ us hl => match us, hl with | [_], _ => rfl) (fun f cdv A outer s H E hr hG =>
    (dss_cons (ds_new (i := 1) (ne_list (p2 := ⟨0, 0, 0, 0⟩) (de_sl (de_var (i := 0)) dp_no (dp_ex de_int)) T.b_list) sc_l_law_open.nd (hf := .inr rfl))
    (dss_cons (ds_for (passes_of rfl) rfl (di_enum (de_sl (de_var (i := 0)) (dp_ex de_int) (dp_ex de_int)) T.b_enumerate) (dg_tup rfl (dgs_cons (dg_name (i := 2) sc_l_law_open.nd) (dgs_cons (dg_name (i := 3) sc_l_law_open.nd) dgs_nil)) (gLen_cons (gLen_cons gLen_nil))) (dss_one (ds_put (de_var (i := 1)) (de_op op_mod dMod_ok (de_callTy call_int1 dInt_ok T.b_int (by decide +kernel) (da_cons (de_var (i := 2)) da_nil)) de_int) (de_op op_addD dAdd_ok (de_ix (de_var (i := 1)) (de_op op_mod dMod_ok (de_callTy call_int1 dInt_ok T.b_int (by decide +kernel) (da_cons (de_var (i := 2)) da_nil)) de_int)) (de_var (i := 3))))))
    (dss_frz (i := 1) (dss_one (ds_retN (ne_lst (da_cons (de_var (i := 1)) (da_cons de_int (da_cons de_int da_nil))))))))))
theorem sc_l_law_anew : FnScope (["_law_pen"] : List Str) (["_law_pen"] : List Str) (defScope (top 21)) := ⟨rfl, rfl, rfl, by decide +kernel, rfl, by decide +kernel, by decide +kernel⟩
theorem ok_l_law_anew (T : Txt K mg) : Def P w K mg base 1 "_law_anew" 1 g_l_law_anew := def_D T.d_l_law_anew sc_l_law_anew (fun _ _ _ _ _ _ us hl => match us, hl with | [_], _ => rfl) (fun f cdv A outer s H E hr hG =>
    (dss_cons (ds_put (de_var (i := 0)) de_int de_int)
    (dss_one (ds_ret (de_var (i := 0))))))
theorem sc_l_law_take : FnScope (["_law_pen", "_law_many", "_law_found", "_law_at", "_law_cell"] : List Str) (["_law_pen", "_law_many"] : List Str) (defScope (top 22)) := ⟨rfl, rfl, rfl, by decide +kernel, rfl, by decide +kernel, by decide +kernel⟩
theorem ok_l_law_take (T : Txt K mg) : Def P w K mg base 2 "_law_take" 2 g_l_law_take := def_D T.d_l_law_take sc_l_law_take (fun _ _ _ _ _ _ us hl => match us, hl with | [_, _], _ => rfl) (fun f cdv A outer s H E hr hG =>
    (dss_cons (ds_if (dt_cmp op_lt dLt_ok (de_ix (de_var (i := 0)) de_int) (de_var (i := 1))) (dss_cons (ds_set (i := 3) (de_ix (de_var (i := 0)) de_int) sc_l_law_take.nd)
    (dss_cons (ds_set (i := 4) de_int sc_l_law_take.nd)
    (dss_cons (ds_if (dt_cmp op_lt dLt_ok (de_var (i := 3)) (de_callB call_len dLen_ok T.b_len (by decide +kernel) (da_cons (de_ix (de_var (i := 0)) de_int) da_nil))) (dss_one (ds_set (i := 4) (de_ix (de_ix (de_var (i := 0)) de_int) (de_var (i := 3))) sc_l_law_take.nd)) (dss_one (ds_if (dt_cmp op_gt dGt_ok (de_callB call_len dLen_ok T.b_len (by decide +kernel) (da_cons (de_ix (de_var (i := 0)) de_int) da_nil)) de_int) (dss_one (ds_set (i := 4) (de_op op_mod dMod_ok (de_callTy call_int1 dInt_ok T.b_int (by decide +kernel) (da_cons (de_ix (de_ix (de_var (i := 0)) de_int) (de_op op_mod dMod_ok (de_callTy call_int1 dInt_ok T.b_int (by decide +kernel) (da_cons (de_op op_addD dAdd_ok (de_op op_mulA dMulA_ok (de_var (i := 3)) de_int) de_int) da_nil)) (de_callB call_len dLen_ok T.b_len (by decide +kernel) (da_cons (de_ix (de_var (i := 0)) de_int) da_nil)))) da_nil)) (de_op op_addD dAdd_ok (de_op op_pow dPow_ok de_int de_int) (de_var (i := 3)))) sc_l_law_take.nd)) dss_nil)))
    (dss_cons (ds_put (de_var (i := 0)) de_int (de_op op_addD dAdd_ok (de_var (i := 3)) de_int))
    (dss_one (ds_put (de_var (i := 0)) de_int (de_call (ok_l_law_spread T) (hr.mono (by decide)) hG (takes_of rfl rfl rfl rfl) (da_cons (de_var (i := 4)) (da_cons (de_var (i := 3)) da_nil)) (hlen := (al_cons (al_cons al_nil)))))))))) dss_nil)
    (dss_cons (ds_set (i := 2) (de_op op_mod dMod_ok (de_callTy call_int1 dInt_ok T.b_int (by decide +kernel) (da_cons (de_ix (de_var (i := 0)) de_int) da_nil)) (de_var (i := 1))) sc_l_law_take.nd)
    (dss_cons (ds_put (de_var (i := 0)) de_int (de_op op_fdivW dDiv_ok (de_ix (de_var (i := 0)) de_int) (de_var (i := 1))))
    (dss_one (ds_ret (de_var (i := 2))))))))
theorem sc_l_law_one : FnScope (["_law_pen", "_law_some"] : List Str) (["_law_pen", "_law_some"] : List Str) (defScope (top 23)) := ⟨rfl, rfl, rfl, by decide +kernel, rfl, by decide +kernel, by decide +kernel⟩
theorem ok_l_law_one (T : Txt K mg) : Def P w K mg base 3 "_law_one" 2 g_l_law_one := def_D T.d_l_law_one sc_l_law_one (fun _ _ _ _ _ _ us hl => match us, hl with | [_, _], _ => rfl) (fun f cdv A outer s H E hr hG =>
    (dss_one (ds_ret (de_ix (de_var (i := 1)) (de_call (ok_l_law_take T) (hr.mono (by decide)) hG (takes_of rfl rfl rfl rfl) (da_cons (de_var (i := 0)) (da_cons (de_callB call_len dLen_ok T.b_len (by decide +kernel) (da_cons (de_var (i := 1)) da_nil)) da_nil)) (hlen := (al_cons (al_cons al_nil))))))))
theorem sc_l_law_is_integer : FnScope (["_law_value_here"] : List Str) (["_law_value_here"] : List Str) (defScope (top 24)) := ⟨rfl, rfl, rfl, by decide +kernel, rfl, by decide +kernel, by decide +kernel⟩
theorem ok_l_law_is_integer (T : Txt K mg) : Def P w K mg base 1 "_law_is_integer" 1 g_l_law_is_integer := def_D T.d_l_law_is_integer sc_l_law_is_integer (fun _ _ _ _ _ _ us hl => match us, hl with | [_], _ => rfl) (fun f cdv A outer s H E hr hG =>
    (dss_one (ds_ret (de_and (de_isi (de_var (i := 0)) T.b_isinstance T.b_int (by decide +kernel)) (de_one (de_not (de_isi (de_var (i := 0)) T.b_isinstance T.b_bool (by decide +kernel))))))))
theorem sc_l_law_columns : FnScope (["_law_pen", "_law_most", "_law_found", "_law_step", "_law_some"] : List Str) (["_law_pen", "_law_most"] : List Str) (defScope (top 25)) := ⟨rfl, rfl, rfl, by decide +kernel, rfl, by decide +kernel, by decide +kernel⟩
theorem ok_l_law_columns (T : Txt K mg) : Def P w K mg base 4 "_law_columns" 2 g_l_law_columns := def_D T.d_l_law_columns sc_l_law_columns (fun _ _ _ _ _ _ us hl => match us, hl with | [_, _], _ => rfl) (fun f cdv A outer s H E hr hG =>
    (dss_cons (ds_new (i := 2) (ne_rep (de_lst (da_cons de_non da_nil)) (de_op op_addD dAdd_ok de_int (de_call (ok_l_law_take T) (hr.mono (by decide)) hG (takes_of rfl rfl rfl rfl) (da_cons (de_var (i := 0)) (da_cons (de_var (i := 1)) da_nil)) (hlen := (al_cons (al_cons al_nil)))))) sc_l_law_columns.nd (hf := .inr rfl))
    (dss_cons (ds_for (passes_of rfl) rfl (di_range1 (da_cons (de_call (ok_l_law_one T) (hr.mono (by decide)) hG (takes_of rfl rfl rfl rfl) (da_cons (de_var (i := 0)) (da_cons (de_lst (da_cons de_int (da_cons de_int (da_cons de_int (da_cons de_int (da_cons de_int da_nil)))))) da_nil)) (hlen := (al_cons (al_cons al_nil)))) da_nil) T.b_range) (dg_name (i := 3) sc_l_law_columns.nd) (dss_cons (ds_set (i := 4) (de_lst (da_cons (de_tup (da_cons de_int da_nil)) (da_cons (de_tup (da_cons de_int (da_cons de_int da_nil))) (da_cons (de_tup (da_cons de_int (da_cons de_int da_nil))) (da_cons (de_tup (da_cons de_int (da_cons de_int da_nil))) (da_cons (de_tup (da_cons de_int (da_cons de_int da_nil))) (da_cons (de_tup (da_cons de_int (da_cons de_int (da_cons de_int da_nil)))) (da_cons (de_tup (da_cons de_int (da_cons de_int (da_cons de_int da_nil)))) (da_cons (de_tup (da_cons de_int da_nil)) da_nil))))))))) sc_l_law_columns.nd)
    (dss_cons (ds_set (i := 4) (de_op op_addD dAdd_ok (de_var (i := 4)) (de_lst (da_cons (de_tup (da_cons de_int (da_cons de_int (da_cons (de_op op_pow dPow_ok de_int de_int) da_nil)))) (da_cons (de_tup (da_cons de_int (da_cons (de_op op_pow dPow_ok de_int de_int) da_nil))) (da_cons (de_tup (da_cons de_int (da_cons de_int (da_cons de_int da_nil)))) da_nil))))) sc_l_law_columns.nd)
    (dss_one (ds_put (de_var (i := 2)) (de_call (ok_l_law_take T) (hr.mono (by decide)) hG (takes_of rfl rfl rfl rfl) (da_cons (de_var (i := 0)) (da_cons (de_callB call_len dLen_ok T.b_len (by decide +kernel) (da_cons (de_var (i := 2)) da_nil)) da_nil)) (hlen := (al_cons (al_cons al_nil)))) (de_call (ok_l_law_one T) (hr.mono (by decide)) hG (takes_of rfl rfl rfl rfl) (da_cons (de_var (i := 0)) (da_cons (de_var (i := 4)) da_nil)) (hlen := (al_cons (al_cons al_nil)))))))))
    (dss_one (ds_ret (de_callTy call_tuple_of dTuple_ok T.b_tuple (by decide +kernel) (da_cons (de_var (i := 2)) da_nil)))))))
theorem sc_l_law_value : FnScope (["_law_pen", "_law_column", "_law_some"] : List Str) (["_law_pen", "_law_column"] : List Str) (defScope (top 26)) := ⟨rfl, rfl, rfl, by decide +kernel, rfl, by decide +kernel, by decide +kernel⟩
theorem ok_l_law_value (T : Txt K mg) : Def P w K mg base 4 "_law_value" 2 g_l_law_value := def_D T.d_l_law_value sc_l_law_value (fun _ _ _ _ _ _ us hl => match us, hl with | [_, _], _ => rfl) (fun f cdv A outer s H E hr hG =>
    (dss_cons (ds_if (dt_cmp op_notN dNotN_ok (de_var (i := 1)) de_non) (dss_one (ds_ret (de_call (ok_l_law_one T) (hr.mono (by decide)) hG (takes_of rfl rfl rfl rfl) (da_cons (de_var (i := 0)) (da_cons (de_var (i := 1)) da_nil)) (hlen := (al_cons (al_cons al_nil)))))) dss_nil)
    (dss_cons (ds_set (i := 2) (de_lst (da_cons de_int (da_cons de_int (da_cons de_int (da_cons de_int (da_cons de_int (da_cons de_int (da_cons de_int (da_cons de_int (da_cons de_int (da_cons (de_call (ok_l_law_take T) (hr.mono (by decide)) hG (takes_of rfl rfl rfl rfl) (da_cons (de_var (i := 0)) (da_cons de_int da_nil)) (hlen := (al_cons (al_cons al_nil)))) (da_cons (de_call (ok_l_law_take T) (hr.mono (by decide)) hG (takes_of rfl rfl rfl rfl) (da_cons (de_var (i := 0)) (da_cons (de_op op_pow dPow_ok de_int de_int) da_nil)) (hlen := (al_cons (al_cons al_nil)))) (da_cons (de_op op_pow dPow_ok de_int de_int) da_nil))))))))))))) sc_l_law_value.nd)
    (dss_one (ds_ret (de_call (ok_l_law_one T) (hr.mono (by decide)) hG (takes_of rfl rfl rfl rfl) (da_cons (de_var (i := 0)) (da_cons (de_op op_addD dAdd_ok (de_var (i := 2)) (de_lst (da_cons (de_op op_addD dAdd_ok (de_op op_pow dPow_ok de_int de_int) (de_call (ok_l_law_take T) (hr.mono (by decide)) hG (takes_of rfl rfl rfl rfl) (da_cons (de_var (i := 0)) (da_cons de_int da_nil)) (hlen := (al_cons (al_cons al_nil))))) da_nil))) da_nil)) (hlen := (al_cons (al_cons al_nil)))))))))
theorem sc_l_law_row : FnScope (["_law_pen", "_law_columns_here", "_law_column"] : List Str) (["_law_pen", "_law_columns_here"] : List Str) (defScope (top 27)) := ⟨rfl, rfl, rfl, by decide +kernel, rfl, by decide +kernel, by decide +kernel⟩
theorem ok_l_law_row (T : Txt K mg) : Def P w K mg base 5 "_law_row" 2 g_l_law_row := def_D T.d_l_law_row sc_l_law_row (fun _ _ _ _ _ _ us hl => match us, hl with | [_, _], _ => rfl) (fun f cdv A outer s H E hr hG =>
    (dss_one (ds_ret (de_callTy call_tuple_of dTuple_ok T.b_tuple (by decide +kernel) (da_cons (ne_lc (own := [("_law_column", 2)]) rfl sc_l_law_row.nd (di_seq (de_var (i := 1))) (blkOk_by (N := ["_law_pen", "_law_columns_here", "_law_column"]) (sc := defScope (top 27)) (by decide +kernel)) (fun _ _ _ _ _ => (dg_name (i := 2) sc_l_law_row.nd)) (fun _ _ _ _ _ => dts_nil) (fun _ _ _ _ _ => (de_call (ok_l_law_value T) (hr.mono (by decide)) hG takes0 (da_cons (de_var (i := 0)) (da_cons (de_var (i := 2)) da_nil)) (hlen := (al_cons (al_cons al_nil)))))).de da_nil)))))
theorem sc_l_law_is_value : FnScope (["_law_column", "_law_value_here"] : List Str) (["_law_column", "_law_value_here"] : List Str) (defScope (top 28)) := ⟨rfl, rfl, rfl, by decide +kernel, rfl, by decide +kernel, by decide +kernel⟩
theorem ok_l_law_is_value (T : Txt K mg) : Def P w K mg base 2 "_law_is_value" 2 g_l_law_is_value := def_D T.d_l_law_is_value sc_l_law_is_value (fun _ _ _ _ _ _ us hl => match us, hl with | [_, _], _ => rfl) (fun f cdv A outer s H E hr hG =>
    (dss_one (ds_ret (de_and (de_call (ok_l_law_is_integer T) (hr.mono (by decide)) hG (takes_of rfl rfl rfl rfl) (da_cons (de_var (i := 1)) da_nil) (hlen := (al_cons al_nil))) (de_and (de_cmp op_ge dGe_ok (de_var (i := 1)) de_int) (de_one (de_or (de_cmp op_isN dIsN_ok (de_var (i := 0)) de_non) (de_one (de_cmp (op_inDD (ru65 hr)) dIn_ok (de_var (i := 1)) (de_var (i := 0)))))))))))
theorem sc_l_law_changed : FnScope (["_law_pen", "_law_value_here", "_law_some", "_law_at", "_law_sort"] : List Str) (["_law_pen", "_law_value_here"] : List Str) (defScope (top 29)) := ⟨rfl, rfl, rfl, by decide +kernel, rfl, by decide +kernel, by decide +kernel⟩
theorem okr_l_law_changed (T : Txt K mg) (n : Nat) (rec : Fn) (hd : Def P w K mg base (3 + 1 * n) "_law_changed" 2 rec) : Def P w K mg base (3 + 1 * n + 0 + 1) "_law_changed" 2 (r_l_law_changed rec) := def_D T.d_l_law_changed sc_l_law_changed (fun _ _ _ _ _ _ us hl => match us, hl with | [_, _], _ => rfl) (fun f cdv A outer s H E hr hG =>
    (dss_cons (ds_if (dw_or (dt_not (dt_of (de_isi (de_var (i := 1)) T.b_isinstance T.b_tuple (by decide +kernel)))) (dw_or (dt_cmp (op_eqDD (ru64 hr)) dEq_ok (de_var (i := 1)) (de_tup da_nil)) (dw_or1 (dt_cmp (op_eqDD (ru64 hr)) dEq_ok (de_call (ok_l_law_take T) (hr.mono (by omega)) hG (takes_of rfl rfl rfl rfl) (da_cons (de_var (i := 0)) (da_cons de_int da_nil)) (hlen := (al_cons (al_cons al_nil)))) de_int)))).dt (dss_cons (ds_set (i := 2) (de_lst (da_cons de_int (da_cons de_int (da_cons de_int (da_cons de_int (da_cons de_int (da_cons de_int (da_cons de_int (da_cons de_int (da_cons (de_neg de_int) (da_cons de_bl (da_cons de_bl (da_cons de_non (da_cons de_str (da_cons de_str (da_cons (de_tup da_nil) (da_cons (de_lst da_nil) (da_cons (de_tup (da_cons de_int da_nil)) (da_cons (de_tup (da_cons de_int (da_cons de_int da_nil))) (da_cons (de_tup (da_cons de_int (da_cons de_int da_nil))) (da_cons (de_tup (da_cons de_int (da_cons de_non da_nil))) (da_cons (de_lst (da_cons de_int da_nil)) da_nil)))))))))))))))))))))) sc_l_law_changed.nd)
    (dss_one (ds_ret (de_call (ok_l_law_one T) (hr.mono (by omega)) hG (takes_of rfl rfl rfl rfl) (da_cons (de_var (i := 0)) (da_cons (de_op op_addD dAdd_ok (de_var (i := 2)) (de_lst (da_cons (de_tup (da_cons (de_tup (da_cons de_int (da_cons de_int da_nil))) da_nil)) (da_cons (de_tup (da_cons (de_tup (da_cons de_int (da_cons de_non da_nil))) da_nil)) (da_cons (de_tup (da_cons (de_tup (da_cons de_int (da_cons de_int da_nil))) (da_cons (de_tup (da_cons de_int (da_cons de_int da_nil))) da_nil))) (da_cons (de_tup (da_cons (de_tup (da_cons de_int (da_cons de_int da_nil))) (da_cons (de_tup (da_cons de_int (da_cons de_int da_nil))) da_nil))) (da_cons (de_tup (da_cons de_int (da_cons de_int (da_cons de_int (da_cons de_int da_nil))))) da_nil))))))) da_nil)) (hlen := (al_cons (al_cons al_nil))))))) dss_nil)
    (dss_cons (ds_par (i := 3) (j := 4) rfl (de_call (ok_l_law_take T) (hr.mono (by omega)) hG (takes_of rfl rfl rfl rfl) (da_cons (de_var (i := 0)) (da_cons (de_callB call_len dLen_ok T.b_len (by decide +kernel) (da_cons (de_var (i := 1)) da_nil)) da_nil)) (hlen := (al_cons (al_cons al_nil)))) (de_call (ok_l_law_take T) (hr.mono (by omega)) hG (takes_of rfl rfl rfl rfl) (da_cons (de_var (i := 0)) (da_cons de_int da_nil)) (hlen := (al_cons (al_cons al_nil)))) sc_l_law_changed.nd)
    (dss_cons (ds_if (dt_cmp (op_eqDD (ru64 hr)) dEq_ok (de_var (i := 4)) de_int) (dss_one (ds_ret (de_op op_addD dAdd_ok (de_sl (de_var (i := 1)) dp_no (dp_ex (de_var (i := 3)))) (de_sl (de_var (i := 1)) (dp_ex (de_op op_addD dAdd_ok (de_var (i := 3)) de_int)) dp_no)))) dss_nil)
    (dss_cons (ds_if (dt_cmp (op_eqDD (ru64 hr)) dEq_ok (de_var (i := 4)) de_int) (dss_one (ds_ret (de_op op_addD dAdd_ok (de_op op_addD dAdd_ok (de_sl (de_var (i := 1)) dp_no (dp_ex (de_var (i := 3)))) (de_sl (de_var (i := 1)) (dp_ex (de_var (i := 3))) (dp_ex (de_op op_addD dAdd_ok (de_var (i := 3)) de_int)))) (de_sl (de_var (i := 1)) (dp_ex (de_var (i := 3))) dp_no)))) dss_nil)
    (dss_cons (ds_if (dt_cmp (op_eqDD (ru64 hr)) dEq_ok (de_var (i := 4)) de_int) (dss_one (ds_ret (de_op op_addD dAdd_ok (de_op op_addD dAdd_ok (de_sl (de_var (i := 1)) dp_no (dp_ex (de_var (i := 3)))) (de_rev (g := (xNeg (xC (.int 1)))) (fun _ _ => rfl) (de_sl (de_var (i := 1)) (dp_ex (de_var (i := 3))) (dp_ex (de_op op_addD dAdd_ok (de_var (i := 3)) de_int))) (de_neg de_int))) (de_sl (de_var (i := 1)) (dp_ex (de_op op_addD dAdd_ok (de_var (i := 3)) de_int)) dp_no)))) dss_nil)
    (dss_one (ds_ret (de_op op_addD dAdd_ok (de_op op_addD dAdd_ok (de_sl (de_var (i := 1)) dp_no (dp_ex (de_var (i := 3)))) (de_tup (da_cons (de_call (hd) (hr.mono (by omega)) hG (takes_of rfl rfl rfl rfl) (da_cons (de_var (i := 0)) (da_cons (de_ix (de_var (i := 1)) (de_var (i := 3))) da_nil)) (hlen := (al_cons (al_cons al_nil)))) da_nil))) (de_sl (de_var (i := 1)) (dp_ex (de_op op_addD dAdd_ok (de_var (i := 3)) de_int)) dp_no))))))))))
theorem okf_l_law_changed (T : Txt K mg) : ∀ n : Nat, Def P w K mg base (3 + 1 * n) "_law_changed" 2 (f_l_law_changed n)
  | 0 => def_bad T.d_l_law_changed (fun _ _ _ _ _ _ us hl => match us, hl with | [_, _], _ => rfl) (ps := (["_law_pen", "_law_value_here"] : List Str)) rfl
  | n + 1 => def_lv (okr_l_law_changed T n _ (okf_l_law_changed T n)) (by omega)
theorem ok_l_law_changed (T : Txt K mg) : Def P w K mg base 33 "_law_changed" 2 g_l_law_changed := okf_l_law_changed T 30
theorem sc_l_law_bad_columns : FnScope (["_law_pen", "_law_columns_here", "_law_some"] : List Str) (["_law_pen", "_law_columns_here"] : List Str) (defScope (top 30)) := ⟨rfl, rfl, rfl, by decide +kernel, rfl, by decide +kernel, by decide +kernel⟩
theorem ok_l_law_bad_columns (T : Txt K mg) : Def P w K mg base 4 "_law_bad_columns" 2 g_l_law_bad_columns := def_D T.d_l_law_bad_columns sc_l_law_bad_columns (fun _ _ _ _ _ _ us hl => match us, hl with | [_, _], _ => rfl) (fun f cdv A outer s H E hr hG =>
    (dss_cons (ds_set (i := 2) (de_lst (da_cons de_non (da_cons de_bl (da_cons de_int (da_cons de_str (da_cons de_str (da_cons (de_tup da_nil) (da_cons (de_lst da_nil) (da_cons (de_lst (da_cons de_non da_nil)) (da_cons (de_callTy call_list_of dList_ok T.b_list (by decide +kernel) (da_cons (de_var (i := 1)) da_nil)) (da_cons (de_op op_mulA dMulA_ok (de_tup (da_cons de_non da_nil)) de_int) (da_cons (de_tup (da_cons de_int da_nil)) (da_cons (de_tup (da_cons (de_tup da_nil) da_nil)) (da_cons (de_tup (da_cons (de_tup (da_cons de_int (da_cons de_int (da_cons de_int (da_cons de_int da_nil))))) da_nil)) da_nil)))))))))))))) sc_l_law_bad_columns.nd)
    (dss_cons (ds_set (i := 2) (de_op op_addD dAdd_ok (de_var (i := 2)) (de_lst (da_cons (de_tup (da_cons (de_tup (da_cons de_int (da_cons de_int da_nil))) da_nil)) (da_cons (de_tup (da_cons (de_tup (da_cons de_int (da_cons de_int da_nil))) da_nil)) (da_cons (de_tup (da_cons (de_tup (da_cons (de_neg de_int) da_nil)) da_nil)) (da_cons (de_tup (da_cons (de_tup (da_cons de_int (da_cons de_int da_nil))) da_nil)) (da_cons (de_tup (da_cons (de_tup (da_cons de_bl da_nil)) da_nil)) (da_cons (de_tup (da_cons (de_tup (da_cons de_int (da_cons de_non da_nil))) da_nil)) (da_cons (de_tup (da_cons (de_lst (da_cons de_int da_nil)) da_nil)) da_nil))))))))) sc_l_law_bad_columns.nd)
    (dss_cons (ds_set (i := 2) (de_op op_addD dAdd_ok (de_var (i := 2)) (de_lst (da_cons (de_tup (da_cons de_non (da_cons (de_tup (da_cons de_int da_nil)) (da_cons (de_tup (da_cons de_int da_nil)) (da_cons (de_tup (da_cons de_int da_nil)) da_nil))))) (da_cons (de_tup (da_cons de_str da_nil)) (da_cons (de_tup (da_cons de_non (da_cons de_str da_nil))) (da_cons (de_tup (da_cons (de_tup (da_cons de_int (da_cons de_int da_nil))) (da_cons (de_tup (da_cons de_int (da_cons de_int da_nil))) (da_cons (de_tup (da_cons de_int (da_cons de_int da_nil))) da_nil)))) (da_cons (de_tup (da_cons (de_tup (da_cons de_int (da_cons de_str da_nil))) da_nil)) da_nil))))))) sc_l_law_bad_columns.nd)
    (dss_one (ds_ret (de_call (ok_l_law_one T) (hr.mono (by decide)) hG (takes_of rfl rfl rfl rfl) (da_cons (de_var (i := 0)) (da_cons (de_op op_addD dAdd_ok (de_var (i := 2)) (de_lst (da_cons (de_op op_addD dAdd_ok (de_var (i := 1)) (de_tup (da_cons de_bl da_nil))) da_nil))) da_nil)) (hlen := (al_cons (al_cons al_nil))))))))))
theorem sc_l_law_draft : FnScope (["_law_pen", "_law_columns_here", "_law_step", "_law_found", "_law_kept", "_law_left", "_law_odds", "_law_row_here", "_law_part", "_law_k", "_law_value_here", "_law_is_out"] : List Str) (["_law_pen", "_law_columns_here"] : List Str) (defScope (top 31)) := ⟨rfl, rfl, rfl, by decide +kernel, rfl, by decide +kernel, by decide +kernel⟩
theorem ok_l_law_draft (T : Txt K mg) : Def P w K mg base 6 "_law_draft" 2 g_l_law_draft := def_D T.d_l_law_draft sc_l_law_draft (fun _ _ _ _ _ _ us hl => match us, hl with | [_, _], _ => rfl) (fun f cdv A outer s H E hr hG =>
    (dss_cons (ds_tgV rfl (da_cons (de_tup da_nil) (da_cons (ne_lst da_nil).deN (da_cons (de_call (ok_l_law_one T) (hr.mono (by decide)) hG (takes_of rfl rfl rfl rfl) (da_cons (de_var (i := 0)) (da_cons (de_lst (da_cons de_int (da_cons de_int (da_cons de_int da_nil)))) da_nil)) (hlen := (al_cons (al_cons al_nil)))) (da_cons (de_call (ok_l_law_one T) (hr.mono (by decide)) hG (takes_of rfl rfl rfl rfl) (da_cons (de_var (i := 0)) (da_cons (de_lst (da_cons de_int (da_cons de_int (da_cons de_int (da_cons de_int (da_cons de_int da_nil)))))) da_nil)) (hlen := (al_cons (al_cons al_nil)))) da_nil)))) (dn_cons (i := 3) (dn_cons (i := 4) (dn_cons (i := 5) (dn_cons (i := 6) dn_nil sc_l_law_draft.nd) sc_l_law_draft.nd) sc_l_law_draft.nd) sc_l_law_draft.nd))
    (dss_cons (ds_for (passes_of rfl) rfl (di_range1 (da_cons (de_call (ok_l_law_one T) (hr.mono (by decide)) hG (takes_of rfl rfl rfl rfl) (da_cons (de_var (i := 0)) (da_cons (de_lst (da_cons de_int (da_cons de_int (da_cons de_int (da_cons de_int (da_cons de_int (da_cons de_int (da_cons de_int (da_cons de_int (da_cons de_int da_nil)))))))))) da_nil)) (hlen := (al_cons (al_cons al_nil)))) da_nil) T.b_range) (dg_name (i := 2) sc_l_law_draft.nd) (dss_cons (ds_par (i := 7) (j := 8) rfl (de_call (ok_l_law_row T) (hr.mono (by decide)) hG (takes_of rfl rfl rfl rfl) (da_cons (de_var (i := 0)) (da_cons (de_var (i := 1)) da_nil)) (hlen := (al_cons (al_cons al_nil)))) (ne_lst da_nil).deN sc_l_law_draft.nd)
    (dss_cons (ds_if (dw_and (dt_cmp op_gt dGt_ok (de_var (i := 2)) de_int) (dw_and1 (dt_cmp (op_eqDD (ru64 hr)) dEq_ok (de_call (ok_l_law_take T) (hr.mono (by decide)) hG (takes_of rfl rfl rfl rfl) (da_cons (de_var (i := 0)) (da_cons de_int da_nil)) (hlen := (al_cons (al_cons al_nil)))) de_int))).dt (dss_one (ds_set (i := 7) (de_call (ok_l_law_one T) (hr.mono (by decide)) hG (takes_of rfl rfl rfl rfl) (da_cons (de_var (i := 0)) (da_cons (de_var (i := 4)) da_nil)) (hlen := (al_cons (al_cons al_nil)))) sc_l_law_draft.nd)) dss_nil)
    (dss_cons (ds_append (de_var (i := 4)) (de_var (i := 7)))
    (dss_cons (ds_for (passes_of rfl) rfl (di_enum (de_var (i := 7)) T.b_enumerate) (dg_tup rfl (dgs_cons (dg_name (i := 9) sc_l_law_draft.nd) (dgs_cons (dg_name (i := 10) sc_l_law_draft.nd) dgs_nil)) (gLen_cons (gLen_cons gLen_nil))) (dss_cons (ds_set (i := 11) (de_and (de_cmp (op_eqDD (ru64 hr)) dEq_ok (de_call (ok_l_law_take T) (hr.mono (by decide)) hG (takes_of rfl rfl rfl rfl) (da_cons (de_var (i := 0)) (da_cons (de_var (i := 6)) da_nil)) (hlen := (al_cons (al_cons al_nil)))) de_int) (de_one (de_or (de_cmp op_isN dIsN_ok (de_ix (de_var (i := 1)) (de_var (i := 9))) de_non) (de_one (de_cmp op_gt dGt_ok (de_var (i := 5)) de_int))))) sc_l_law_draft.nd)
    (dss_cons (ds_set (i := 5) (de_op op_sub dSub_ok (de_var (i := 5)) (de_callTy call_int1 dInt_ok T.b_int (by decide +kernel) (da_cons (de_and (de_var (i := 11)) (de_one (de_cmp op_notN dNotN_ok (de_ix (de_var (i := 1)) (de_var (i := 9))) de_non))) da_nil))) sc_l_law_draft.nd)
    (dss_one (ds_append (de_var (i := 8)) (de_if (dt_of (de_var (i := 11))) de_non (de_var (i := 10))))))))
    (dss_one (ds_set (i := 3) (de_op op_addD dAdd_ok (de_var (i := 3)) (de_tup (da_cons (de_callTy call_tuple_of dTuple_ok T.b_tuple (by decide +kernel) (da_cons (de_var (i := 8)) da_nil)) da_nil))) sc_l_law_draft.nd)))))))
    (dss_one (ds_ret (de_var (i := 3)))))))
theorem sc_l_law_bad_draft : FnScope (["_law_pen", "_law_columns_here", "_law_many", "_law_closed", "_law_some", "_law_k", "_law_good", "_law_least", "_law_lack", "_law_own", "_law_value_here"] : List Str) (["_law_pen", "_law_columns_here"] : List Str) (defScope (top 32)) := ⟨rfl, rfl, rfl, by decide +kernel, rfl, by decide +kernel, by decide +kernel⟩
theorem ok_l_law_bad_draft (T : Txt K mg) : Def P w K mg base 4 "_law_bad_draft" 2 g_l_law_bad_draft := def_D T.d_l_law_bad_draft sc_l_law_bad_draft (fun _ _ _ _ _ _ us hl => match us, hl with | [_, _], _ => rfl) (fun f cdv A outer s H E hr hG =>
    (dss_cons (ds_set (i := 2) (de_callB call_len dLen_ok T.b_len (by decide +kernel) (da_cons (de_var (i := 1)) da_nil)) sc_l_law_bad_draft.nd)
    (dss_cons (ds_par (i := 6) (j := 7) rfl (de_callTy call_tuple_of dTuple_ok T.b_tuple (by decide +kernel) (da_cons (de_op op_mulA dMulA_ok (de_lst (da_cons de_non da_nil)) (de_var (i := 2))) da_nil)) (de_callTy call_tuple_of dTuple_ok T.b_tuple (by decide +kernel) (da_cons (ne_lc (own := [("_law_own", 9)]) rfl sc_l_law_bad_draft.nd (di_seq (de_var (i := 1))) (blkOk_by (N := ["_law_pen", "_law_columns_here", "_law_many", "_law_closed", "_law_some", "_law_k", "_law_good", "_law_least", "_law_lack", "_law_own", "_law_value_here"]) (sc := defScope (top 32)) (by decide +kernel)) (fun _ _ _ _ _ => (dg_name (i := 9) sc_l_law_bad_draft.nd)) (fun _ _ _ _ _ => dts_nil) (fun _ _ _ _ _ => (de_if (dt_cmp op_isN dIsN_ok (de_var (i := 9)) de_non) de_int (de_ix (de_var (i := 9)) de_int)))).de da_nil)) sc_l_law_bad_draft.nd)
    (dss_cons (ds_setLc (i := 3) (own := [("_law_k", 5)]) rfl sc_l_law_bad_draft.nd (di_range1 (da_cons (de_var (i := 2)) da_nil) T.b_range) (blkOk_by (N := ["_law_pen", "_law_columns_here", "_law_many", "_law_closed", "_law_some", "_law_k", "_law_good", "_law_least", "_law_lack", "_law_own", "_law_value_here"]) (sc := defScope (top 32)) (by decide +kernel)) (fun _ _ _ _ _ => (dg_name (i := 5) sc_l_law_bad_draft.nd)) (fun _ _ _ _ _ => (dts_one (dt_cmp op_notN dNotN_ok (de_ix (de_var (i := 1)) (de_var (i := 5))) de_non))) (fun _ _ _ _ _ => (de_var (i := 5))))
    (dss_cons (ds_new (i := 4) (ne_lst (da_cons de_non (da_cons de_bl (da_cons de_int (da_cons de_str (da_cons (de_lst da_nil) (da_cons (de_lst (da_cons (de_var (i := 6)) da_nil)) (da_cons (de_op op_mulA dMulA_ok (de_tup (da_cons (de_var (i := 7)) da_nil)) de_int) (da_cons (de_tup (da_cons (de_op op_addD dAdd_ok (de_var (i := 6)) (de_tup (da_cons de_non da_nil))) da_nil)) (da_cons (de_tup (da_cons (de_sl (de_var (i := 6)) (dp_ex de_int) dp_no) da_nil)) (da_cons (de_tup (da_cons (de_callTy call_list_of dList_ok T.b_list (by decide +kernel) (da_cons (de_var (i := 6)) da_nil)) da_nil)) da_nil))))))))))) sc_l_law_bad_draft.nd (hf := .inr rfl))
    (dss_cons (ds_new (i := 4) (ne_cat (de_var (i := 4)) (de_lst (da_cons (de_tup (da_cons de_non da_nil)) (da_cons (de_tup (da_cons (de_tup da_nil) da_nil)) (da_cons (de_if (dt_cmp op_gt dGt_ok (de_var (i := 2)) de_int) (de_var (i := 6)) (de_tup (da_cons de_int da_nil))) (da_cons (de_tup (da_cons (de_op op_addD dAdd_ok (de_sl (de_var (i := 6)) dp_no (dp_ex (de_neg de_int))) (de_tup (da_cons (de_neg de_int) da_nil))) da_nil)) (da_cons (de_tup (da_cons (de_op op_addD dAdd_ok (de_sl (de_var (i := 6)) dp_no (dp_ex (de_neg de_int))) (de_tup (da_cons de_bl da_nil))) da_nil)) da_nil))))))) sc_l_law_bad_draft.nd (hf := .inr rfl))
    (dss_cons (ds_new (i := 4) (ne_cat (de_var (i := 4)) (de_lst (da_cons (de_tup (da_cons (de_var (i := 6)) (da_cons (de_op op_addD dAdd_ok (de_sl (de_var (i := 6)) dp_no (dp_ex (de_neg de_int))) (de_tup (da_cons de_str da_nil))) da_nil))) (da_cons (de_tup (da_cons (de_op op_addD dAdd_ok (de_sl (de_var (i := 6)) dp_no (dp_ex (de_neg de_int))) (de_tup (da_cons (de_tup da_nil) da_nil))) (da_cons (de_var (i := 6)) da_nil))) (da_cons (de_tup (da_cons (de_op op_addD dAdd_ok (de_tup (da_cons de_bl da_nil)) (de_sl (de_var (i := 6)) (dp_ex de_int) dp_no)) da_nil)) da_nil))))) sc_l_law_bad_draft.nd (hf := .inr rfl))
    (dss_cons (ds_for (passes_of rfl) rfl (di_seq (de_var (i := 3))) (dg_name (i := 5) sc_l_law_bad_draft.nd) (dss_cons (ds_set (i := 8) (de_op op_addD dAdd_ok (de_sl (ne_lc (own := [("_law_value_here", 10)]) rfl sc_l_law_bad_draft.nd (di_range1 (da_cons de_int da_nil) T.b_range) (blkOk_by (N := ["_law_pen", "_law_columns_here", "_law_many", "_law_closed", "_law_some", "_law_k", "_law_good", "_law_least", "_law_lack", "_law_own", "_law_value_here"]) (sc := defScope (top 32)) (by decide +kernel)) (fun _ _ _ _ _ => (dg_name (i := 10) sc_l_law_bad_draft.nd)) (fun _ _ _ _ _ => (dts_one (dt_cmp (op_ninDD (ru65 hr)) dNin_ok (de_var (i := 10)) (de_ix (de_var (i := 1)) (de_var (i := 5)))))) (fun _ _ _ _ _ => (de_var (i := 10)))).de dp_no (dp_ex de_int)) (de_lst (da_cons (de_op op_pow dPow_ok de_int de_int) da_nil))) sc_l_law_bad_draft.nd)
    (dss_cons (ds_new (i := 4) (ne_cat (de_var (i := 4)) (de_op op_mulA dMulA_ok (de_lst (da_cons (de_tup (da_cons (de_op op_addD dAdd_ok (de_op op_addD dAdd_ok (de_sl (de_var (i := 6)) dp_no (dp_ex (de_var (i := 5)))) (de_tup (da_cons (de_ix (de_var (i := 8)) de_int) da_nil))) (de_sl (de_var (i := 6)) (dp_ex (de_op op_addD dAdd_ok (de_var (i := 5)) de_int)) dp_no)) da_nil)) da_nil)) de_int)) sc_l_law_bad_draft.nd (hf := .inr rfl))
    (dss_one (ds_append (de_var (i := 4)) (de_op op_mulZ dMulZ_ok (de_tup (da_cons (de_var (i := 6)) da_nil)) (de_op op_addD dAdd_ok (de_op op_fdivW dDiv_ok de_int (de_callB call_len dLen_ok T.b_len (by decide +kernel) (da_cons (de_var (i := 3)) da_nil))) de_int)))))))
    (dss_one (ds_ret (de_call (ok_l_law_one T) (hr.mono (by decide)) hG (takes_of rfl rfl rfl rfl) (da_cons (de_var (i := 0)) (da_cons (de_var (i := 4)) da_nil)) (hlen := (al_cons (al_cons al_nil))))))))))))))
theorem sc_l_law_is_draft : FnScope (["_law_columns_here", "_law_value_here", "_law_lacking", "_law_row_here", "_law_own", "_law_one_here"] : List Str) (["_law_columns_here", "_law_value_here"] : List Str) (defScope (top 33)) := ⟨rfl, rfl, rfl, by decide +kernel, rfl, by decide +kernel, by decide +kernel⟩
theorem ok_l_law_is_draft (T : Txt K mg) : Def P w K mg base 3 "_law_is_draft" 2 g_l_law_is_draft := def_D T.d_l_law_is_draft sc_l_law_is_draft (fun _ _ _ _ _ _ us hl => match us, hl with | [_, _], _ => rfl) (fun f cdv A outer s H E hr hG =>
    (dss_cons (ds_if (dw_or (dt_not (dt_of (de_isi (de_var (i := 1)) T.b_isinstance T.b_tuple (by decide +kernel)))) (dw_or1 (dt_cmp op_gt dGt_ok (de_callB call_len dLen_ok T.b_len (by decide +kernel) (da_cons (de_var (i := 1)) da_nil)) de_int))).dt (dss_one (ds_ret de_bl)) dss_nil)
    (dss_cons (ds_set (i := 2) de_int sc_l_law_is_draft.nd)
    (dss_cons (ds_for (passes_of rfl) rfl (di_seq (de_var (i := 1))) (dg_name (i := 3) sc_l_law_is_draft.nd) (dss_cons (ds_if (dw_or (dt_not (dt_of (de_isi (de_var (i := 3)) T.b_isinstance T.b_tuple (by decide +kernel)))) (dw_or1 (dt_cmp (op_neDD (ru64 hr)) dNe_ok (de_callB call_len dLen_ok T.b_len (by decide +kernel) (da_cons (de_var (i := 3)) da_nil)) (de_callB call_len dLen_ok T.b_len (by decide +kernel) (da_cons (de_var (i := 0)) da_nil))))).dt (dss_one (ds_ret de_bl)) dss_nil)
    (dss_one (ds_for (passes_of rfl) rfl (di_zip (de_var (i := 0)) (de_var (i := 3)) T.b_zip) (dg_tup rfl (dgs_cons (dg_name (i := 4) sc_l_law_is_draft.nd) (dgs_cons (dg_name (i := 5) sc_l_law_is_draft.nd) dgs_nil)) (gLen_cons (gLen_cons gLen_nil))) (dss_cons (ds_if (dw_and (dt_cmp op_notN dNotN_ok (de_var (i := 5)) de_non) (dw_and1 (dt_not (dt_of (de_call (ok_l_law_is_value T) (hr.mono (by decide)) hG (takes_of rfl rfl rfl rfl) (da_cons (de_var (i := 4)) (da_cons (de_var (i := 5)) da_nil)) (hlen := (al_cons (al_cons al_nil)))))))).dt (dss_one (ds_ret de_bl)) dss_nil)
    (dss_one (ds_set (i := 2) (de_op op_addD dAdd_ok (de_var (i := 2)) (de_callTy call_int1 dInt_ok T.b_int (by decide +kernel) (da_cons (de_and (de_cmp op_isN dIsN_ok (de_var (i := 5)) de_non) (de_one (de_cmp op_notN dNotN_ok (de_var (i := 4)) de_non))) da_nil))) sc_l_law_is_draft.nd)))))))
    (dss_one (ds_ret (de_cmp op_le dLe_ok (de_var (i := 2)) de_int)))))))
theorem sc_l_law_right : FnScope (["_law_columns_here", "_law_value_here", "_law_kept", "_law_due"] : List Str) (["_law_columns_here", "_law_value_here"] : List Str) (defScope (top 34)) := ⟨rfl, rfl, rfl, by decide +kernel, rfl, by decide +kernel, by decide +kernel⟩
theorem ok_l_law_right (T : Txt K mg) : Def P w K mg base 7 "_law_right" 2 g_l_law_right := def_D T.d_l_law_right sc_l_law_right (fun _ _ _ _ _ _ us hl => match us, hl with | [_, _], _ => rfl) (fun f cdv A outer s H E hr hG =>
    (dss_cons (ds_par (i := 2) (j := 3) rfl (de_callB (cr_repr hG (ru64 hr)) dRepr_ok T.b_repr (by decide +kernel) (da_cons (de_tup (da_cons (de_var (i := 0)) (da_cons (de_var (i := 1)) da_nil))) da_nil)) (de_call (ok_l_law_is_draft T) (hr.mono (by decide)) hG (takes_of rfl rfl rfl rfl) (da_cons (de_var (i := 0)) (da_cons (de_var (i := 1)) da_nil)) (hlen := (al_cons (al_cons al_nil)))) sc_l_law_right.nd)
    (dss_one (ds_ret (de_and (de_cmp (op_eqS (ru64 hr)) dEqS_ok (de_callB (cr_repr hG (ru64 hr)) dRepr_ok T.b_repr (by decide +kernel) (da_cons (de_call (ok_is_draft T) (hr.mono (by decide)) hG (takes_of rfl rfl rfl rfl) (da_cons (de_var (i := 0)) (da_cons (de_var (i := 1)) da_nil)) (hlen := (al_cons (al_cons al_nil)))) da_nil)) (de_callB (cr_repr hG (ru64 hr)) dRepr_ok T.b_repr (by decide +kernel) (da_cons (de_var (i := 3)) da_nil))) (de_one (de_cmp (op_eqS (ru64 hr)) dEqS_ok (de_callB (cr_repr hG (ru64 hr)) dRepr_ok T.b_repr (by decide +kernel) (da_cons (de_tup (da_cons (de_var (i := 0)) (da_cons (de_var (i := 1)) da_nil))) da_nil)) (de_var (i := 2)))))))))
theorem sc_l_law_refused : FnScope (["_law_columns_here", "_law_value_here", "e"] : List Str) (["_law_columns_here", "_law_value_here"] : List Str) (defScope (top 35)) := ⟨rfl, rfl, rfl, by decide +kernel, rfl, by decide +kernel, by decide +kernel⟩
theorem ok_l_law_refused (T : Txt K mg) : Def P w K mg base 7 "_law_refused" 2 g_l_law_refused := def_D T.d_l_law_refused sc_l_law_refused (fun _ _ _ _ _ _ us hl => match us, hl with | [_, _], _ => rfl) (fun f cdv A outer s H E hr hG =>
    (dss_cons (ds_tryIs (i := 2) rfl rfl sc_l_law_refused.nd (takes_of rfl rfl rfl rfl) (fun _ _ _ t_ p_ => (dss_one (ds_expr (de_call (ok_is_draft T) (hr.mono (by decide)) hG t_ (da_cons (de_var (i := 0)) (da_cons (de_var (i := 1)) da_nil)) (hlen := (al_cons (al_cons al_nil))))))) T.c_RuleError T.k_RuleError T.y_InvalidColumns T.b_isinstance (show 2 < 3 by decide))
    (dss_one (ds_ret de_bl))))
theorem sc_law : FnScope (["_law_script", "_law_pen", "_law_turn", "_law_columns_here", "_law_draft_here", "_law_step", "_law_row_here", "_law_none", "_law_some", "_law_value_here", "_law_near"] : List Str) (["_law_script"] : List Str) (defScope (top 36)) := ⟨rfl, rfl, rfl, by decide +kernel, rfl, by decide +kernel, by decide +kernel⟩
theorem bd_law (T : Txt K mg) (f : Addr) (cdv : Value) (A : Around) (outer : List Env) (s : Shared) (H : Hp) (E : XK) (hr : Room 33 (A.deeper (envOfC "law" (defScope (top 36)) s.heap.objs.size f cdv))) (hG : A.guards = some []) :
    DSs (cxOf (L2.CX P w) P w K mg base (["_law_script", "_law_pen", "_law_turn", "_law_columns_here", "_law_draft_here", "_law_step", "_law_row_here", "_law_none", "_law_some", "_law_value_here", "_law_near"] : List Str) "law" (defScope (top 36)) f cdv A outer s H E) (fun cls d _ H => E cls d H) (defBody (top 36)) s_law :=
    (dss_cons (ds_set (i := 1) (de_call (ok_l_law_open T) (hr.mono (by decide)) hG (takes_of rfl rfl rfl rfl) (da_cons (de_var (i := 0)) da_nil) (hlen := (al_cons al_nil))) sc_law.nd)
    (dss_cons (ds_for (passes_of rfl) rfl (di_range1 (da_cons de_int da_nil) T.b_range) (dg_name (i := 2) sc_law.nd) (dss_cons (ds_set (i := 3) (de_call (ok_l_law_columns T) (hr.mono (by decide)) hG (takes_of rfl rfl rfl rfl) (da_cons (de_call (ok_l_law_anew T) (hr.mono (by decide)) hG (takes_of rfl rfl rfl rfl) (da_cons (de_var (i := 1)) da_nil) (hlen := (al_cons al_nil))) (da_cons de_int da_nil)) (hlen := (al_cons (al_cons al_nil)))) sc_law.nd)
    (dss_cons (ds_set (i := 4) (de_call (ok_l_law_draft T) (hr.mono (by decide)) hG (takes_of rfl rfl rfl rfl) (da_cons (de_var (i := 1)) (da_cons (de_var (i := 3)) da_nil)) (hlen := (al_cons (al_cons al_nil)))) sc_law.nd)
    (dss_cons (ds_for (passes_of rfl) rfl (di_range1 (da_cons de_int da_nil) T.b_range) (dg_name (i := 5) sc_law.nd) (dss_cons (ds_set (i := 10) (de_call (ok_l_law_changed T) (hr.mono (by decide)) hG (takes_of rfl rfl rfl rfl) (da_cons (de_var (i := 1)) (da_cons (de_var (i := 4)) da_nil)) (hlen := (al_cons (al_cons al_nil)))) sc_law.nd)
    (dss_cons (ds_set (i := 10) (de_if (dt_cmp (op_eqDD (ru64 hr)) dEq_ok (de_call (ok_l_law_take T) (hr.mono (by decide)) hG (takes_of rfl rfl rfl rfl) (da_cons (de_var (i := 1)) (da_cons de_int da_nil)) (hlen := (al_cons (al_cons al_nil)))) de_int) (de_call (ok_l_law_changed T) (hr.mono (by decide)) hG (takes_of rfl rfl rfl rfl) (da_cons (de_var (i := 1)) (da_cons (de_var (i := 10)) da_nil)) (hlen := (al_cons (al_cons al_nil)))) (de_var (i := 10))) sc_law.nd)
    (dss_one (ds_if (dt_not (dt_of (de_call (ok_l_law_right T) (hr.mono (by decide)) hG (takes_of rfl rfl rfl rfl) (da_cons (de_var (i := 3)) (da_cons (de_var (i := 10)) da_nil)) (hlen := (al_cons (al_cons al_nil)))))) (dss_one (ds_ret de_bl)) dss_nil)))))
    (dss_cons (ds_set (i := 6) (de_call (ok_l_law_row T) (hr.mono (by decide)) hG (takes_of rfl rfl rfl rfl) (da_cons (de_var (i := 1)) (da_cons (de_var (i := 3)) da_nil)) (hlen := (al_cons (al_cons al_nil)))) sc_law.nd)
    (dss_cons (ds_set (i := 7) (de_op op_mulZ dMulZ_ok (de_tup (da_cons (de_op op_mulZ dMulZ_ok (de_tup (da_cons de_non da_nil)) (de_callB call_len dLen_ok T.b_len (by decide +kernel) (da_cons (de_var (i := 3)) da_nil))) da_nil)) (de_call (ok_l_law_take T) (hr.mono (by decide)) hG (takes_of rfl rfl rfl rfl) (da_cons (de_var (i := 1)) (da_cons de_int da_nil)) (hlen := (al_cons (al_cons al_nil))))) sc_law.nd)
    (dss_cons (ds_new (i := 8) (ne_lst (da_cons (de_var (i := 4)) (da_cons (de_op op_mulZ dMulZ_ok (de_tup (da_cons (de_var (i := 6)) da_nil)) (de_call (ok_l_law_take T) (hr.mono (by decide)) hG (takes_of rfl rfl rfl rfl) (da_cons (de_var (i := 1)) (da_cons de_int da_nil)) (hlen := (al_cons (al_cons al_nil))))) (da_cons (de_op op_addD dAdd_ok (de_var (i := 4)) (de_tup (da_cons (de_var (i := 6)) da_nil))) (da_cons (de_call (ok_l_law_bad_draft T) (hr.mono (by decide)) hG (takes_of rfl rfl rfl rfl) (da_cons (de_var (i := 1)) (da_cons (de_var (i := 3)) da_nil)) (hlen := (al_cons (al_cons al_nil)))) (da_cons (de_var (i := 7)) da_nil)))))) sc_law.nd (hf := .inr rfl))
    (dss_cons (ds_append (de_var (i := 8)) (de_sl (de_op op_addD dAdd_ok (de_var (i := 7)) (de_var (i := 4))) dp_no (dp_ex de_int)))
    (dss_cons (ds_for (passes_of rfl) rfl (di_seq (de_op op_addD dAdd_ok (de_var (i := 8)) (de_lst (da_cons (de_callTy call_list_of dList_ok T.b_list (by decide +kernel) (da_cons (de_var (i := 4)) da_nil)) (da_cons (de_var (i := 6)) da_nil))))) (dg_name (i := 9) sc_law.nd) (dss_one (ds_if (dt_not (dt_of (de_call (ok_l_law_right T) (hr.mono (by decide)) hG (takes_of rfl rfl rfl rfl) (da_cons (de_var (i := 3)) (da_cons (de_var (i := 9)) da_nil)) (hlen := (al_cons (al_cons al_nil)))))) (dss_one (ds_ret de_bl)) dss_nil)))
    (dss_one (ds_if (dt_not (dt_of (de_call (ok_l_law_refused T) (hr.mono (by decide)) hG (takes_of rfl rfl rfl rfl) (da_cons (de_call (ok_l_law_bad_columns T) (hr.mono (by decide)) hG (takes_of rfl rfl rfl rfl) (da_cons (de_var (i := 1)) (da_cons (de_var (i := 3)) da_nil)) (hlen := (al_cons (al_cons al_nil)))) (da_cons (de_call (ok_l_law_one T) (hr.mono (by decide)) hG (takes_of rfl rfl rfl rfl) (da_cons (de_var (i := 1)) (da_cons (de_lst (da_cons (de_var (i := 4)) (da_cons de_non da_nil))) da_nil)) (hlen := (al_cons (al_cons al_nil)))) da_nil)) (hlen := (al_cons (al_cons al_nil)))))) (dss_one (ds_ret de_bl)) dss_nil)))))))))))
    (dss_one (ds_ret de_bl))))
end T08

set_option maxHeartbeats 0
namespace T08
open PySem PySem.Spec PyProof.Rows L2 DL
def mkD (x : Str) (i : Nat) : He.DefD := ⟨(x, none), x, x, defArgs (top i), defBody (top i), defScope (top i), [], []⟩
def fn : List He.DefD := ([mkD "is_integer" 1, mkD "is_value" 8, mkD "is_column" 9, mkD "is_value_of" 10, mkD "is_columns" 11, mkD "require_columns" 12, mkD "is_draft_row" 15, mkD "is_draft_of" 16, mkD "is_draft" 17, mkD "_law_spread" 19, mkD "_law_open" 20, mkD "_law_anew" 21, mkD "_law_take" 22, mkD "_law_one" 23, mkD "_law_is_integer" 24, mkD "_law_columns" 25, mkD "_law_value" 26, mkD "_law_row" 27, mkD "_law_is_value" 28, mkD "_law_changed" 29, mkD "_law_bad_columns" 30, mkD "_law_draft" 31, mkD "_law_bad_draft" 32, mkD "_law_is_draft" 33, mkD "_law_right" 34, mkD "_law_refused" 35, mkD "law" 36] : List He.DefD)
def fa : List He.Fa := ([.free "all", .free "bool", .free "enumerate", .free "int", .free "isinstance", .free "len", .free "list", .free "range", .free "repr", .free "set", .free "sorted", .free "sum", .free "tuple", .free "zip", .int "MOST_COLUMNS" 4, .int "MOST_ROWS" 8, .int "MOST_LACKING" 6, .glo "InvalidColumns", .exc "InvalidColumns", .glo "RuleError", .glo "InvalidColumns", .glo "RuleError", .exm "InvalidColumns" "RuleError" true, .exm "RuleError" "RuleError" true, .glo "is_integer", .glo "is_value", .glo "is_column", .glo "is_value_of", .glo "is_columns", .glo "require_columns"] : List He.Fa) ++ ([.glo "is_draft_row", .glo "is_draft_of", .glo "is_draft", .glo "_law_spread", .glo "_law_open", .glo "_law_anew", .glo "_law_take", .glo "_law_one", .glo "_law_is_integer", .glo "_law_columns", .glo "_law_value", .glo "_law_row", .glo "_law_is_value", .glo "_law_changed", .glo "_law_bad_columns", .glo "_law_draft", .glo "_law_bad_draft", .glo "_law_is_draft", .glo "_law_right", .glo "_law_refused", .glo "law"] : List He.Fa)
def loose : List Str := (["is_integer", "is_value", "is_column", "is_value_of", "is_columns", "require_columns", "is_draft_row", "is_draft_of", "is_draft", "_law_spread", "_law_open", "_law_anew", "_law_take", "_law_one", "_law_is_integer", "_law_columns", "_law_value", "_law_row", "_law_is_value", "_law_changed", "_law_bad_columns", "_law_draft", "_law_bad_draft", "_law_is_draft", "_law_right", "_law_refused", "RuleError", "InvalidColumns", "MOST_COLUMNS", "MOST_ROWS"] : List Str) ++ (["MOST_LACKING"] : List Str)
abbrev R : PySem.W.OpenRow := PySem.W.OpenLaw.row PySem.Challenge.rw_whererules_k08_what_is_a_draft
def ys : List (Str × List (Str × Bool)) := [("InvalidColumns", isi_InvalidColumns)]
def ex (K : PySem.W.Frag) : Bool := kitsB K ys && kitB K (.type "ValueError") []
theorem exo_1 {K : PySem.W.Frag} (h : ex K = true) : kitsB K ys = true := (Bool.and_eq_true_iff.mp h).1
theorem exo_2 {K : PySem.W.Frag} (h : ex K = true) : kitB K (.type "ValueError") [] = true := (Bool.and_eq_true_iff.mp h).2
abbrev hk : PySem.W.Hook := DL.hookE 5 fa fn ex
def ob (s : PySem.W.SharedT) : He.AlD × Bool := DL.obsE 5 fa fn ex (HandSHeadRun.getT s)
theorem ob_eq (s : PySem.W.SharedT) : ob s = hk.obs s.abs := DL.obsE_eq (HandSHeadRun.getT_eq s)
theorem run (w : World) : HandSHeadRun.RunEq R (PySem.W.view R.prog [36]) hk ob 20000 loose w := by
  intro os
  kernel_rfl
theorem txt_of {K : PySem.W.Frag} {h : Heap} {mg : Str → Option Value} (X : K.In h) (G : h.Ns mainGlobals mg) (c : He.SaysD fa fn K) (xo : ex K = true) : Txt K mg where
  b_all := He.free_ok X G (c.fact 0 (f := .free "all") rfl)
  b_bool := He.free_ok X G (c.fact 1 (f := .free "bool") rfl)
  b_enumerate := He.free_ok X G (c.fact 2 (f := .free "enumerate") rfl)
  b_int := He.free_ok X G (c.fact 3 (f := .free "int") rfl)
  b_isinstance := He.free_ok X G (c.fact 4 (f := .free "isinstance") rfl)
  b_len := He.free_ok X G (c.fact 5 (f := .free "len") rfl)
  b_list := He.free_ok X G (c.fact 6 (f := .free "list") rfl)
  b_range := He.free_ok X G (c.fact 7 (f := .free "range") rfl)
  b_repr := He.free_ok X G (c.fact 8 (f := .free "repr") rfl)
  b_set := He.free_ok X G (c.fact 9 (f := .free "set") rfl)
  b_sorted := He.free_ok X G (c.fact 10 (f := .free "sorted") rfl)
  b_sum := He.free_ok X G (c.fact 11 (f := .free "sum") rfl)
  b_tuple := He.free_ok X G (c.fact 12 (f := .free "tuple") rfl)
  b_zip := He.free_ok X G (c.fact 13 (f := .free "zip") rfl)
  i_MOST_COLUMNS := He.int_ok X G (c.fact 14 (f := .int "MOST_COLUMNS" 4) rfl)
  i_MOST_ROWS := He.int_ok X G (c.fact 15 (f := .int "MOST_ROWS" 8) rfl)
  i_MOST_LACKING := He.int_ok X G (c.fact 16 (f := .int "MOST_LACKING" 6) rfl)
  e_InvalidColumns := excD_of X G (c.fact 17 (f := .glo "InvalidColumns") rfl) (c.fact 18 (f := .exc "InvalidColumns") rfl)
  c_RuleError := catD_of X G (c.fact 21 (f := .glo "RuleError") rfl) (.cons (c.fact 19 (f := .glo "RuleError") rfl) (c.fact 23 (f := .exm "RuleError" "RuleError" true) rfl) (.cons (c.fact 20 (f := .glo "InvalidColumns") rfl) (c.fact 22 (f := .exm "InvalidColumns" "RuleError" true) rfl) .nil))
  y_InvalidColumns := isiD_of X G (c.fact 20 (f := .glo "InvalidColumns") rfl) (exo_1 xo) (List.mem_of_getElem? (i := 0) rfl)
  k_RuleError := catG X G ["RuleError", "InvalidColumns"] (fun x hx => by
    simp only [List.mem_cons, List.not_mem_nil, or_false] at hx
    rcases hx with rfl | rfl
    · exact c.fact 19 (f := .glo "RuleError") rfl
    · exact c.fact 20 (f := .glo "InvalidColumns") rfl)
  d_is_integer := let ⟨fd, F⟩ := c.def_ 0 (d := mkD "is_integer" 1) rfl; ⟨_, fd, F, He.glo_ok X G (c.fact 24 (f := .glo "is_integer") rfl)⟩
  d_is_value := let ⟨fd, F⟩ := c.def_ 1 (d := mkD "is_value" 8) rfl; ⟨_, fd, F, He.glo_ok X G (c.fact 25 (f := .glo "is_value") rfl)⟩
  d_is_column := let ⟨fd, F⟩ := c.def_ 2 (d := mkD "is_column" 9) rfl; ⟨_, fd, F, He.glo_ok X G (c.fact 26 (f := .glo "is_column") rfl)⟩
  d_is_value_of := let ⟨fd, F⟩ := c.def_ 3 (d := mkD "is_value_of" 10) rfl; ⟨_, fd, F, He.glo_ok X G (c.fact 27 (f := .glo "is_value_of") rfl)⟩
  d_is_columns := let ⟨fd, F⟩ := c.def_ 4 (d := mkD "is_columns" 11) rfl; ⟨_, fd, F, He.glo_ok X G (c.fact 28 (f := .glo "is_columns") rfl)⟩
  d_require_columns := let ⟨fd, F⟩ := c.def_ 5 (d := mkD "require_columns" 12) rfl; ⟨_, fd, F, He.glo_ok X G (c.fact 29 (f := .glo "require_columns") rfl)⟩
  d_is_draft_row := let ⟨fd, F⟩ := c.def_ 6 (d := mkD "is_draft_row" 15) rfl; ⟨_, fd, F, He.glo_ok X G (c.fact 30 (f := .glo "is_draft_row") rfl)⟩
  d_is_draft_of := let ⟨fd, F⟩ := c.def_ 7 (d := mkD "is_draft_of" 16) rfl; ⟨_, fd, F, He.glo_ok X G (c.fact 31 (f := .glo "is_draft_of") rfl)⟩
  d_is_draft := let ⟨fd, F⟩ := c.def_ 8 (d := mkD "is_draft" 17) rfl; ⟨_, fd, F, He.glo_ok X G (c.fact 32 (f := .glo "is_draft") rfl)⟩
  d_l_law_spread := let ⟨fd, F⟩ := c.def_ 9 (d := mkD "_law_spread" 19) rfl; ⟨_, fd, F, He.glo_ok X G (c.fact 33 (f := .glo "_law_spread") rfl)⟩
  d_l_law_open := let ⟨fd, F⟩ := c.def_ 10 (d := mkD "_law_open" 20) rfl; ⟨_, fd, F, He.glo_ok X G (c.fact 34 (f := .glo "_law_open") rfl)⟩
  d_l_law_anew := let ⟨fd, F⟩ := c.def_ 11 (d := mkD "_law_anew" 21) rfl; ⟨_, fd, F, He.glo_ok X G (c.fact 35 (f := .glo "_law_anew") rfl)⟩
  d_l_law_take := let ⟨fd, F⟩ := c.def_ 12 (d := mkD "_law_take" 22) rfl; ⟨_, fd, F, He.glo_ok X G (c.fact 36 (f := .glo "_law_take") rfl)⟩
  d_l_law_one := let ⟨fd, F⟩ := c.def_ 13 (d := mkD "_law_one" 23) rfl; ⟨_, fd, F, He.glo_ok X G (c.fact 37 (f := .glo "_law_one") rfl)⟩
  d_l_law_is_integer := let ⟨fd, F⟩ := c.def_ 14 (d := mkD "_law_is_integer" 24) rfl; ⟨_, fd, F, He.glo_ok X G (c.fact 38 (f := .glo "_law_is_integer") rfl)⟩
  d_l_law_columns := let ⟨fd, F⟩ := c.def_ 15 (d := mkD "_law_columns" 25) rfl; ⟨_, fd, F, He.glo_ok X G (c.fact 39 (f := .glo "_law_columns") rfl)⟩
  d_l_law_value := let ⟨fd, F⟩ := c.def_ 16 (d := mkD "_law_value" 26) rfl; ⟨_, fd, F, He.glo_ok X G (c.fact 40 (f := .glo "_law_value") rfl)⟩
  d_l_law_row := let ⟨fd, F⟩ := c.def_ 17 (d := mkD "_law_row" 27) rfl; ⟨_, fd, F, He.glo_ok X G (c.fact 41 (f := .glo "_law_row") rfl)⟩
  d_l_law_is_value := let ⟨fd, F⟩ := c.def_ 18 (d := mkD "_law_is_value" 28) rfl; ⟨_, fd, F, He.glo_ok X G (c.fact 42 (f := .glo "_law_is_value") rfl)⟩
  d_l_law_changed := let ⟨fd, F⟩ := c.def_ 19 (d := mkD "_law_changed" 29) rfl; ⟨_, fd, F, He.glo_ok X G (c.fact 43 (f := .glo "_law_changed") rfl)⟩
  d_l_law_bad_columns := let ⟨fd, F⟩ := c.def_ 20 (d := mkD "_law_bad_columns" 30) rfl; ⟨_, fd, F, He.glo_ok X G (c.fact 44 (f := .glo "_law_bad_columns") rfl)⟩
  d_l_law_draft := let ⟨fd, F⟩ := c.def_ 21 (d := mkD "_law_draft" 31) rfl; ⟨_, fd, F, He.glo_ok X G (c.fact 45 (f := .glo "_law_draft") rfl)⟩
  d_l_law_bad_draft := let ⟨fd, F⟩ := c.def_ 22 (d := mkD "_law_bad_draft" 32) rfl; ⟨_, fd, F, He.glo_ok X G (c.fact 46 (f := .glo "_law_bad_draft") rfl)⟩
  d_l_law_is_draft := let ⟨fd, F⟩ := c.def_ 23 (d := mkD "_law_is_draft" 33) rfl; ⟨_, fd, F, He.glo_ok X G (c.fact 47 (f := .glo "_law_is_draft") rfl)⟩
  d_l_law_right := let ⟨fd, F⟩ := c.def_ 24 (d := mkD "_law_right" 34) rfl; ⟨_, fd, F, He.glo_ok X G (c.fact 48 (f := .glo "_law_right") rfl)⟩
  d_l_law_refused := let ⟨fd, F⟩ := c.def_ 25 (d := mkD "_law_refused" 35) rfl; ⟨_, fd, F, He.glo_ok X G (c.fact 49 (f := .glo "_law_refused") rfl)⟩
  d_law := let ⟨fd, F⟩ := c.def_ 26 (d := mkD "law" 36) rfl; ⟨_, fd, F, He.glo_ok X G (c.fact 50 (f := .glo "law") rfl)⟩
end T08

set_option maxHeartbeats 400000
namespace T08
open PySem PySem.Spec PyProof.Rows L2 DL
theorem atI_in {α : Type} {xs : List α} {i : Int} (h0 : 0 ≤ i) (h1 : i < xs.length) : atI xs i = some (xs[i.toNat]'(by omega)) := by
  unfold atI ixN
  rw [if_pos h0, if_pos h1]
  simp only [Option.bind_some]
  rw [List.getElem?_eq_getElem]
theorem at2_0 {α : Type} (a b : α) : atI [a, b] 0 = some a := rfl
theorem at2_1 {α : Type} (a b : α) : atI [a, b] 1 = some b := rfl
theorem at3_0 {α : Type} (a b c : α) : atI [a, b, c] 0 = some a := rfl
theorem getD_mem {α : Type} {xs : List α} {n : Nat} {d : α} (h : n < xs.length) : xs.getD n d ∈ xs := by
  rw [List.getD_eq_getElem?_getD, List.getElem?_eq_getElem h]
  exact List.getElem_mem _
theorem atI_getD {α : Type} {xs : List α} {i : Int} (d : α) (h0 : 0 ≤ i) (h1 : i < xs.length) : atI xs i = some (xs.getD i.toNat d) := by
  rw [atI_in h0 h1, List.getD_eq_getElem?_getD, List.getElem?_eq_getElem (by omega)]
  rfl
theorem zipD_map (xs ys : List D) : zipD xs ys = (xs.zip ys).map fun p => pairD p.1 p.2 := by simp [zipD, List.zip, List.map_zipWith]
theorem flat_len {α β : Type} {m : Nat} {f : α → List β} : ∀ {l : List α}, (∀ x ∈ l, (f x).length ≤ m) → (l.flatMap f).length ≤ l.length * m
  | [], _ => by simp
  | x :: r, h => by
    have ih := flat_len (l := r) fun y hy => h y (List.mem_cons_of_mem _ hy)
    have := h x (List.mem_cons_self ..)
    simp only [List.flatMap_cons, List.length_append, List.length_cons, Nat.succ_mul]
    omega
theorem enum_map {α : Type} (e : α → D) (xs : List α) : enumD (xs.map e) = (xs.zipIdx.map fun p => (p.2, p.1)).map fun p => pairD (.int ((p.1 : Nat) : Int)) (e p.2) := by
  unfold enumD
  rw [List.map_map]
  apply List.ext_getElem
  · simp
  · intro i h1 h2
    simp
theorem eqs_nil {xs : List D} {m : Nat} (h : D.fits m xs = true) : dEq (.lst xs) (.lst []) = some (.bl xs.isEmpty) := by
  have p := fits_py m xs h
  have q : canEq (.lst xs) (.lst []) = true := by
    simp [canEq, D.py, D.pys, PyData.canLay0, PyData.canLayAll0, PyData.depth, PyData.depthAll, p.1]
  simp only [dEq, q, if_true]
  cases xs <;> rfl
theorem ints_of {zs : List D} (h : ∀ z ∈ zs, ∃ v : Int, z = .int v) : ∃ r : List Int, zs = r.map .int := by
  induction zs with
  | nil => exact ⟨[], rfl⟩
  | cons z zs ih =>
    obtain ⟨v, rfl⟩ := h z (List.mem_cons_self ..)
    obtain ⟨r, rfl⟩ := ih fun y hy => h y (List.mem_cons_of_mem _ hy)
    exact ⟨v :: r, rfl⟩
theorem bool_repr (b : Bool) : ∃ x, dRepr (.bl b) = some (.str x) := ⟨_, dRepr_of (canRepr_of (n := 0) rfl (by decide) rfl (by simp [D.py, PyData.bulk]))⟩
theorem a_retN (l : LFn) (ρ : Slots) (S : Store) : sRetN l ρ S = (l ρ S).bindS ρ fun ds S1 => .rt (.obj S1.length) (S1 ++ [some ds]) := rfl
theorem a_list (f : XFn) (ρ : Slots) (S : Store) : lList f ρ S = (f ρ S).bind fun x S1 => match rd S1 x with
  | some (.lst xs) => .ok xs S1
  | some (.tup xs) => .ok xs S1
  | _ => .bad := rfl
theorem range_split (n i : Nat) (h : i < n) : List.range n = List.range (i + 1) ++ (List.range (n - (i + 1))).map fun k => i + 1 + k := by
  apply List.ext_getElem
  · simp; omega
  · intro k h1 h2
    simp only [List.getElem_range, List.getElem_append, List.length_range, List.getElem_map]
    split <;> omega
theorem flat_filter {α β : Type} (p : α → Bool) (f : α → List β) : ∀ l : List α, (l.filter p).flatMap f = l.flatMap fun x => if p x = true then f x else []
  | [] => rfl
  | x :: r => by
    simp only [List.filter_cons, List.flatMap_cons, ← flat_filter p f r]
    cases p x <;> simp
theorem flat_congr {α β : Type} {f g : α → List β} : ∀ {l : List α}, (∀ x ∈ l, f x = g x) → l.flatMap f = l.flatMap g
  | [], _ => rfl
  | x :: r, h => by rw [List.flatMap_cons, List.flatMap_cons, h x (List.mem_cons_self ..), flat_congr fun y hy => h y (List.mem_cons_of_mem _ hy)]
theorem flat_nil {α β : Type} {f : α → List β} : ∀ {l : List α}, (∀ x ∈ l, f x = []) → l.flatMap f = []
  | [], _ => rfl
  | x :: r, h => by rw [List.flatMap_cons, h x (List.mem_cons_self ..), flat_nil fun y hy => h y (List.mem_cons_of_mem _ hy)]; rfl
theorem map_filter_flat {α β : Type} (p : α → Bool) (f : α → β) : ∀ l : List α, (l.filter p).map f = l.flatMap fun x => if p x = true then [f x] else []
  | [] => rfl
  | x :: r => by
    simp only [List.filter_cons, List.flatMap_cons, ← map_filter_flat p f r]
    cases p x <;> simp
/-! ## try, slices, equality, loops that end early -/
def RS.tryS (r : RS) (hs : Hds) : RS := match r with
  | .ex c ρ' S' => tryGo hs c ρ' S'
  | r => r
theorem a_try (f : SFn) (hs : Hds) (ρ : Slots) (S : Store) : sTry f hs ρ S = RS.tryS (f ρ S) hs := rfl
theorem try_rt (v : DV) (S : Store) (hs : Hds) : RS.tryS (.rt v S) hs = .rt v S := rfl
theorem try_nx (ρ : Slots) (S : Store) (hs : Hds) : RS.tryS (.nx ρ S) hs = .nx ρ S := rfl
theorem try_ex (c : Str) (ρ : Slots) (S : Store) (hs : Hds) : RS.tryS (.ex c ρ S) hs = tryGo hs c ρ S := rfl
theorem tryGo_y {m : Str → Option Bool} {h : SFn} {r : Hds} {c : Str} (e : m c = some true) (ρ : Slots) (S : Store) : tryGo ((m, h) :: r) c ρ S = calmS (h ρ S) := by simp only [tryGo, e]
theorem tryGo_n {m : Str → Option Bool} {h : SFn} {r : Hds} {c : Str} (e : m c = some false) (ρ : Slots) (S : Store) : tryGo ((m, h) :: r) c ρ S = tryGo r c ρ S := by simp only [tryGo, e]
theorem calm_rt (v : DV) (S : Store) : calmS (.rt v S) = .rt v S := rfl
theorem calm_nx (ρ : Slots) (S : Store) : calmS (.nx ρ S) = .nx ρ S := rfl
theorem cut_1 {α : Type} (xs : List α) : cutL xs (some 1) none = xs.drop 1 := cut_from xs 1
theorem cut_t1 {α : Type} (xs : List α) : cutL xs none (some 1) = xs.take 1 := cut_to xs 1
theorem dEq_p {n m : Nat} {a b : D} {p : Bool} (ha : a.fit n = true) (hb : b.fit m = true) (na : a.noB = true) (nb : b.noB = true) (h : p = true ↔ a = b) (hn : n ≤ 64 := by decide) : dEq a b = some (.bl p) := by
  rw [dEq_fit ha hb hn]
  have e : dEqB a b = p := by
    have := dEqB_iff na nb
    cases hp : dEqB a b <;> cases q : p <;> simp_all
  rw [e]
theorem dNe_p {n m : Nat} {a b : D} {p : Bool} (ha : a.fit n = true) (hb : b.fit m = true) (na : a.noB = true) (nb : b.noB = true) (h : p = true ↔ a = b) (hn : n ≤ 64 := by decide) : dNe a b = some (.bl (!p)) := by
  rw [dNe_fit ha hb hn]
  have e : dEqB a b = p := by
    have := dEqB_iff na nb
    cases hp : dEqB a b <;> cases q : p <;> simp_all
  rw [e]
theorem dInB_iff {d : D} {xs : List D} (nd : d.noB = true) (nx : D.noBs xs = true) : dInB d xs = true ↔ d ∈ xs := by
  unfold dInB
  rw [List.any_eq_true]
  constructor
  · rintro ⟨x, hx, h⟩
    have := (dEqB_iff (noBs_iff.mp nx x hx) nd).mp h
    exact this ▸ hx
  · intro h
    exact ⟨d, h, (dEqB_iff nd nd).mpr rfl⟩
theorem dIn_lp {n m : Nat} {d : D} {xs : List D} {p : Bool} (hd : d.fit n = true) (hx : D.fits m xs = true) (nd : d.noB = true) (nx : D.noBs xs = true) (h : p = true ↔ d ∈ xs) (hn : n ≤ 64 := by decide) : dIn d (.lst xs) = some (.bl p) := by
  rw [dIn_l hd hx hn]
  have := dInB_iff nd nx
  have e : dInB d xs = p := by cases hp : dInB d xs <;> cases q : p <;> simp_all
  rw [e]
theorem dIn_tp {n m : Nat} {d : D} {xs : List D} {p : Bool} (hd : d.fit n = true) (hx : D.fits m xs = true) (nd : d.noB = true) (nx : D.noBs xs = true) (h : p = true ↔ d ∈ xs) (hn : n ≤ 64 := by decide) : dIn d (.tup xs) = some (.bl p) := by
  rw [dIn_t hd hx hn]
  have := dInB_iff nd nx
  have e : dInB d xs = p := by cases hp : dInB d xs <;> cases q : p <;> simp_all
  rw [e]
theorem for_all {α : Type} {enc : α → D} {G : GFn} {f : SFn} {P : Slots → Prop} {p : α → Bool} {v : DV} {S : Store} : ∀ (xs : List α) (ρ : Slots), P ρ →
    (∀ a ∈ xs, ∀ ρ, P ρ → ∃ ρ1, G (enc a) ρ = some ρ1 ∧ (p a = true → ∃ ρ2, f ρ1 S = .nx ρ2 S ∧ P ρ2) ∧ (p a = false → f ρ1 S = .rt v S)) →
    (xs.all p = true → ∃ ρ', forGo G f (xs.map enc) ρ S = .nx ρ' S ∧ P ρ') ∧ (xs.all p = false → forGo G f (xs.map enc) ρ S = .rt v S)
  | [], ρ, h0, _ => ⟨fun _ => ⟨ρ, rfl, h0⟩, fun h => nomatch h⟩
  | a :: r, ρ, h0, hs => by
    obtain ⟨ρ1, e1, h1, h2⟩ := hs a (List.mem_cons_self ..) ρ h0
    simp only [List.map_cons, forGo, e1, List.all_cons]
    cases hp : p a with
    | false => simp only [h2 hp, Bool.false_and, Bool.false_eq_true, false_imp_iff, true_and, implies_true]
    | true =>
      obtain ⟨ρ2, e2, p2⟩ := h1 hp
      simp only [e2, Bool.true_and]
      exact for_all (enc := enc) (G := G) (f := f) (P := P) (p := p) r ρ2 p2 fun b hb => hs b (List.mem_cons_of_mem _ hb)
theorem pen_snoc {n : Nat} {T S : Store} {ds : Option (List D)} : Pen n (T ++ [ds]) S ↔ ∃ S0, S = S0 ++ [ds] ∧ Pen n T S0 := by
  constructor
  · rintro ⟨c, a, u, rfl, h⟩
    exact ⟨some (penL c a u) :: T, rfl, c, a, u, rfl, h⟩
  · rintro ⟨S0, rfl, c, a, u, rfl, h⟩
    exact ⟨c, a, u, rfl, h⟩
mutual
theorem fit_mono : ∀ {n m : Nat} {d : D}, n ≤ m → d.fit n = true → d.fit m = true
  | _, _, .non, _, _ => by simp [D.fit]
  | _, _, .bl _, _, _ => by simp [D.fit]
  | _, _, .int _, _, _ => by simp [D.fit]
  | n, m, .str x, _, h => by cases n <;> cases m <;> simpa [D.fit] using h
  | 0, _, .lst _, _, h => by simp [D.fit] at h
  | 0, _, .tup _, _, h => by simp [D.fit] at h
  | n + 1, 0, _, h, _ => by omega
  | n + 1, m + 1, .lst xs, h, k => by simp only [D.fit] at k ⊢; exact fits_mono (by omega) k
  | n + 1, m + 1, .tup xs, h, k => by simp only [D.fit] at k ⊢; exact fits_mono (by omega) k
theorem fits_mono : ∀ {n m : Nat} {ds : List D}, n ≤ m → D.fits n ds = true → D.fits m ds = true
  | _, _, [], _, _ => by simp [D.fits]
  | n, m, x :: xs, h, k => by
    simp only [D.fits, Bool.and_eq_true] at k ⊢
    exact ⟨fit_mono h k.1, fits_mono h k.2⟩
end
theorem atI_0 (x : D) (l : List D) : atI (x :: l) 0 = some x := by
  rw [atI_in (by decide) (by simp)]
  rfl
theorem pen_cut {n k : Nat} {T U S : Store} (h : Pen n (T ++ U) S) (hk : k = T.length + 1) : Pen n T (S.take k) := by
  obtain ⟨c, a, u, rfl, l⟩ := h
  subst hk
  exact ⟨c, a, u, by simp, l⟩
theorem a_cat (f g : XFn) (ρ : Slots) (S : Store) : lCat f g ρ S = (f ρ S).bind fun x S1 => (g ρ S1).bind fun y S2 => cat2 x y S2 := rfl
theorem cat2_end (S0 : Store) (ds ys : List D) : cat2 (.obj S0.length) (.dat (.lst ys)) (S0 ++ [some ds]) = bif szB (ds.length + ys.length) then .ok (ds ++ ys) (S0 ++ [some ds]) else .bad := by
  have e : rd (S0 ++ [some ds]) (.dat (.lst ys)) = some (.lst ys) := rfl
  simp only [cat2, rd_end, e, szB_iff]
  cases szB (ds.length + ys.length) <;> rfl
theorem app_pen {i : Nat} {g : XFn} {ρ : Slots} {S0 S1 : Store} {ds : List D} {d : D} (hi : ρ[i]? = some (some (.obj S0.length))) (hg : g ρ (S0 ++ [some ds]) = .ok (.dat d) (S1 ++ [some ds])) (h1 : S1.length = S0.length) (hl : ds.length < sizeLine) :
    sApp (xVar i) g ρ (S0 ++ [some ds]) = .nx ρ (S1 ++ [some (ds ++ [d])]) := by
  have e1 : xVar i ρ (S0 ++ [some ds]) = .ok (.obj S0.length) (S0 ++ [some ds]) := by unfold xVar; rw [hi]
  have e2 : cellOf (S1 ++ [some ds]) (.obj S0.length) = some (S0.length, ds) := by rw [← h1]; exact cellOf_end S1 ds
  simp only [sApp, e1, Res.bindS_ok, cellOf_end, hg, putApp, e2, if_pos hl]
  rw [← h1, set_end]
/-- a draw that leaves the last list of the store as it is -/
theorem pen_end {n : Nat} {T S : Store} {ds : Option (List D)} (h : Pen n (T ++ [ds]) S) : ∃ S0, S = S0 ++ [ds] ∧ Pen n T S0 ∧ S0.length = T.length + 1 := by
  obtain ⟨S0, e, p⟩ := pen_snoc.mp h
  exact ⟨S0, e, p, p.len⟩
theorem is_integer_ok (d : D) (S : Store) : g_is_integer [.dat d] S = .ok (.dat (.bl (d.isI && !d.isB))) S := by
  unfold g_is_integer s_is_integer
  simp -implicitDefEqProofs only [a_fn, a_seq, seq_nx, seq_rt, seq_ex, seq_bk, seq_ct, seq_cond, ends_cond, c_ok, c_dat, c_bl, c_int, c_and, c_or, c_nand, a_sif, a_ret, a_set, a_nils, a_tg, a_expr, a_raise, a_par, Res.bind_ok, Res.bind_ex, Res.bindS_ok, Res.bindS_ex, a_var0, a_c, a_x2, a_o2, a_res1, a_xN, a_cons, a_nil, a_o1, a_xN1, a_tup, a_lst, mkTup_eq, mkLst_eq, a_dats0, a_dats1, a_ret1, a_tBl, a_tTr, a_tNo, a_tAn, a_tOr, a_bool1, truth_bl, truth_non, truth_int, truth_lst, truth_tup, a_and, a_or, a_chain, a_boolK, a_not, a_nDV, a_neg, a_neg1, a_if, a_isi, a_oIsi, isi_int, isi_bool, isi_tuple, isi_list, isi_str, a_it, a_items_l, a_items_t, a_lc, a_wipe0, a_wipe1, a_gNm, a_gTp, a_gCo, a_gNo, a_yes, a_for, a_rg1, a_rg2, a_new, a_llst, a_rd, Option.bind_some, ends_nx, ends_rt, ends_ex, leave_dat, List.map_cons, List.map_nil, List.length_cons, List.length_nil, Nat.reduceSub, Nat.reduceAdd, List.replicate_succ, List.replicate_zero, List.cons_append, List.nil_append, List.append_nil, List.getElem?_cons_zero, List.getElem?_cons_succ, List.set_cons_zero, List.set_cons_succ, List.take_length, cond_true, cond_false, Bool.not_true, Bool.not_false, dLt_i, dLe_i, dGt_i, dGe_i, dAdd_i, dSub_i, dIsN_eq, dNotN_eq, dLen_l, dLen_t, dIx_l, dIx_t, dList_l, dList_t, dTuple_l, dTuple_t, szB_s, o1_end, oSl_t, oSl_l, oSl_s, a_sort, dInt_i, a_put, pen_rd, pen_0, pen_1, pen_2, pen_p1, pen_p2, take_cons, forGo_nil, a_star, dats_map, a_leave_end, Option.map_some, cellOf_end, rd_end, set_end, take_end, lit2, lit3, Bool.true_and, Bool.false_and, Bool.and_true, Bool.and_false, Bool.true_or, Bool.false_or, Bool.or_true, Bool.or_false, Bool.not_not, a_sl, a_pNo, a_pEx, a_asInt, a_frz0, a_zip, zip2_t, zip2_l, a_enum, enum1_l, enum1_t]
def isBtw (d : D) (a b : Int) : Bool := match d with | .int i => decide (a ≤ i) && decide (i ≤ b) | _ => false
def isVal : D → Bool | .int i => decide (i ≥ 0) | _ => false
theorem is_value_ok (d : D) (S : Store) : g_is_value [.dat d] S = .ok (.dat (.bl (isVal d))) S := by
  unfold g_is_value s_is_value
  simp -implicitDefEqProofs only [a_fn, a_seq, seq_nx, seq_rt, seq_ex, seq_bk, seq_ct, seq_cond, ends_cond, c_ok, c_dat, c_bl, c_int, c_and, c_or, c_nand, a_sif, a_ret, a_set, a_nils, a_tg, a_expr, a_raise, a_par, Res.bind_ok, Res.bind_ex, Res.bindS_ok, Res.bindS_ex, a_var0, a_c, a_x2, a_o2, a_res1, a_xN, a_cons, a_nil, a_o1, a_xN1, a_tup, a_lst, mkTup_eq, mkLst_eq, a_dats0, a_dats1, a_ret1, a_tBl, a_tTr, a_tNo, a_tAn, a_tOr, a_bool1, truth_bl, truth_non, truth_int, truth_lst, truth_tup, a_and, a_or, a_chain, a_boolK, a_not, a_nDV, a_neg, a_neg1, a_if, a_isi, a_oIsi, isi_int, isi_bool, isi_tuple, isi_list, isi_str, a_it, a_items_l, a_items_t, a_lc, a_wipe0, a_wipe1, a_gNm, a_gTp, a_gCo, a_gNo, a_yes, a_for, a_rg1, a_rg2, a_new, a_llst, a_rd, Option.bind_some, ends_nx, ends_rt, ends_ex, leave_dat, List.map_cons, List.map_nil, List.length_cons, List.length_nil, Nat.reduceSub, Nat.reduceAdd, List.replicate_succ, List.replicate_zero, List.cons_append, List.nil_append, List.append_nil, List.getElem?_cons_zero, List.getElem?_cons_succ, List.set_cons_zero, List.set_cons_succ, List.take_length, cond_true, cond_false, Bool.not_true, Bool.not_false, dLt_i, dLe_i, dGt_i, dGe_i, dAdd_i, dSub_i, dIsN_eq, dNotN_eq, dLen_l, dLen_t, dIx_l, dIx_t, dList_l, dList_t, dTuple_l, dTuple_t, szB_s, o1_end, oSl_t, oSl_l, oSl_s, a_sort, dInt_i, a_put, pen_rd, pen_0, pen_1, pen_2, pen_p1, pen_p2, take_cons, forGo_nil, a_star, dats_map, a_leave_end, Option.map_some, cellOf_end, rd_end, set_end, take_end, lit2, lit3, Bool.true_and, Bool.false_and, Bool.and_true, Bool.and_false, Bool.true_or, Bool.false_or, Bool.or_true, Bool.or_false, Bool.not_not, a_sl, a_pNo, a_pEx, a_asInt, a_frz0, a_zip, zip2_t, zip2_l, a_enum, enum1_l, enum1_t, is_integer_ok]
  cases d <;> simp -implicitDefEqProofs only [D.isI, D.isB, isVal, a_fn, a_seq, seq_nx, seq_rt, seq_ex, seq_bk, seq_ct, seq_cond, ends_cond, c_ok, c_dat, c_bl, c_int, c_and, c_or, c_nand, a_sif, a_ret, a_set, a_nils, a_tg, a_expr, a_raise, a_par, Res.bind_ok, Res.bind_ex, Res.bindS_ok, Res.bindS_ex, a_var0, a_c, a_x2, a_o2, a_res1, a_xN, a_cons, a_nil, a_o1, a_xN1, a_tup, a_lst, mkTup_eq, mkLst_eq, a_dats0, a_dats1, a_ret1, a_tBl, a_tTr, a_tNo, a_tAn, a_tOr, a_bool1, truth_bl, truth_non, truth_int, truth_lst, truth_tup, a_and, a_or, a_chain, a_boolK, a_not, a_nDV, a_neg, a_neg1, a_if, a_isi, a_oIsi, isi_int, isi_bool, isi_tuple, isi_list, isi_str, a_it, a_items_l, a_items_t, a_lc, a_wipe0, a_wipe1, a_gNm, a_gTp, a_gCo, a_gNo, a_yes, a_for, a_rg1, a_rg2, a_new, a_llst, a_rd, Option.bind_some, ends_nx, ends_rt, ends_ex, leave_dat, List.map_cons, List.map_nil, List.length_cons, List.length_nil, Nat.reduceSub, Nat.reduceAdd, List.replicate_succ, List.replicate_zero, List.cons_append, List.nil_append, List.append_nil, List.getElem?_cons_zero, List.getElem?_cons_succ, List.set_cons_zero, List.set_cons_succ, List.take_length, cond_true, cond_false, Bool.not_true, Bool.not_false, dLt_i, dLe_i, dGt_i, dGe_i, dAdd_i, dSub_i, dIsN_eq, dNotN_eq, dLen_l, dLen_t, dIx_l, dIx_t, dList_l, dList_t, dTuple_l, dTuple_t, szB_s, o1_end, oSl_t, oSl_l, oSl_s, a_sort, dInt_i, a_put, pen_rd, pen_0, pen_1, pen_2, pen_p1, pen_p2, take_cons, forGo_nil, a_star, dats_map, a_leave_end, Option.map_some, cellOf_end, rd_end, set_end, take_end, lit2, lit3, Bool.true_and, Bool.false_and, Bool.and_true, Bool.and_false, Bool.true_or, Bool.false_or, Bool.or_true, Bool.or_false, Bool.not_not, a_sl, a_pNo, a_pEx, a_asInt, a_frz0, a_zip, zip2_t, zip2_l, a_enum, enum1_l, enum1_t]
theorem vals_ints : ∀ {xs : List D}, xs.all isVal = true → ∃ a : List Int, xs = a.map .int ∧ ∀ i ∈ a, 0 ≤ i
  | [], _ => ⟨[], rfl, by simp⟩
  | x :: xs, h => by
    simp only [List.all_cons, Bool.and_eq_true] at h
    obtain ⟨a, e, p⟩ := vals_ints h.2
    have h1 := h.1
    cases x <;> simp only [isVal, decide_eq_true_eq, Bool.false_eq_true] at h1
    rename_i i
    exact ⟨i :: a, by rw [e]; rfl, by simp only [List.mem_cons]; exact fun j q => q.elim (fun e => e ▸ h1) (p j)⟩
def colB (xs : List D) : Bool := match intsOf xs with | some ns => decide (ns = sset ns) | none => false
def isCol : D → Bool
  | .non => true
  | .tup xs => (decide (1 ≤ (xs.length : Int)) && decide ((xs.length : Int) ≤ 3)) && (xs.all isVal && colB xs)
  | _ => false
theorem is_column_ok (d : D) (S : Store) : g_is_column [.dat d] S = .ok (.dat (.bl (isCol d))) S := by
  unfold g_is_column s_is_column
  simp -implicitDefEqProofs only [a_fn, a_seq, seq_nx, seq_rt, seq_ex, seq_bk, seq_ct, seq_cond, ends_cond, c_ok, c_dat, c_bl, c_int, c_and, c_or, c_nand, a_sif, a_ret, a_set, a_nils, a_tg, a_expr, a_raise, a_par, Res.bind_ok, Res.bind_ex, Res.bindS_ok, Res.bindS_ex, a_var0, a_c, a_x2, a_o2, a_res1, a_xN, a_cons, a_nil, a_o1, a_xN1, a_tup, a_lst, mkTup_eq, mkLst_eq, a_dats0, a_dats1, a_ret1, a_tBl, a_tTr, a_tNo, a_tAn, a_tOr, a_bool1, truth_bl, truth_non, truth_int, truth_lst, truth_tup, a_and, a_or, a_chain, a_boolK, a_not, a_nDV, a_neg, a_neg1, a_if, a_isi, a_oIsi, isi_int, isi_bool, isi_tuple, isi_list, isi_str, a_it, a_items_l, a_items_t, a_lc, a_wipe0, a_wipe1, a_gNm, a_gTp, a_gCo, a_gNo, a_yes, a_for, a_rg1, a_rg2, a_new, a_llst, a_rd, Option.bind_some, ends_nx, ends_rt, ends_ex, leave_dat, List.map_cons, List.map_nil, List.length_cons, List.length_nil, Nat.reduceSub, Nat.reduceAdd, List.replicate_succ, List.replicate_zero, List.cons_append, List.nil_append, List.append_nil, List.getElem?_cons_zero, List.getElem?_cons_succ, List.set_cons_zero, List.set_cons_succ, List.take_length, cond_true, cond_false, Bool.not_true, Bool.not_false, dLt_i, dLe_i, dGt_i, dGe_i, dAdd_i, dSub_i, dIsN_eq, dNotN_eq, dLen_l, dLen_t, dIx_l, dIx_t, dList_l, dList_t, dTuple_l, dTuple_t, szB_s, o1_end, oSl_t, oSl_l, oSl_s, a_sort, dInt_i, a_put, pen_rd, pen_0, pen_1, pen_2, pen_p1, pen_p2, take_cons, forGo_nil, a_star, dats_map, a_leave_end, Option.map_some, cellOf_end, rd_end, set_end, take_end, lit2, lit3, Bool.true_and, Bool.false_and, Bool.and_true, Bool.and_false, Bool.true_or, Bool.false_or, Bool.or_true, Bool.or_false, Bool.not_not, a_sl, a_pNo, a_pEx, a_asInt, a_frz0, a_zip, zip2_t, zip2_l, a_enum, enum1_l, enum1_t]
  cases d 
  case tup xs =>
    simp -implicitDefEqProofs only [D.isN, D.isT, isCol, a_fn, a_seq, seq_nx, seq_rt, seq_ex, seq_bk, seq_ct, seq_cond, ends_cond, c_ok, c_dat, c_bl, c_int, c_and, c_or, c_nand, a_sif, a_ret, a_set, a_nils, a_tg, a_expr, a_raise, a_par, Res.bind_ok, Res.bind_ex, Res.bindS_ok, Res.bindS_ex, a_var0, a_c, a_x2, a_o2, a_res1, a_xN, a_cons, a_nil, a_o1, a_xN1, a_tup, a_lst, mkTup_eq, mkLst_eq, a_dats0, a_dats1, a_ret1, a_tBl, a_tTr, a_tNo, a_tAn, a_tOr, a_bool1, truth_bl, truth_non, truth_int, truth_lst, truth_tup, a_and, a_or, a_chain, a_boolK, a_not, a_nDV, a_neg, a_neg1, a_if, a_isi, a_oIsi, isi_int, isi_bool, isi_tuple, isi_list, isi_str, a_it, a_items_l, a_items_t, a_lc, a_wipe0, a_wipe1, a_gNm, a_gTp, a_gCo, a_gNo, a_yes, a_for, a_rg1, a_rg2, a_new, a_llst, a_rd, Option.bind_some, ends_nx, ends_rt, ends_ex, leave_dat, List.map_cons, List.map_nil, List.length_cons, List.length_nil, Nat.reduceSub, Nat.reduceAdd, List.replicate_succ, List.replicate_zero, List.cons_append, List.nil_append, List.append_nil, List.getElem?_cons_zero, List.getElem?_cons_succ, List.set_cons_zero, List.set_cons_succ, List.take_length, cond_true, cond_false, Bool.not_true, Bool.not_false, dLt_i, dLe_i, dGt_i, dGe_i, dAdd_i, dSub_i, dIsN_eq, dNotN_eq, dLen_l, dLen_t, dIx_l, dIx_t, dList_l, dList_t, dTuple_l, dTuple_t, szB_s, o1_end, oSl_t, oSl_l, oSl_s, a_sort, dInt_i, a_put, pen_rd, pen_0, pen_1, pen_2, pen_p1, pen_p2, take_cons, forGo_nil, a_star, dats_map, a_leave_end, Option.map_some, cellOf_end, rd_end, set_end, take_end, lit2, lit3, Bool.true_and, Bool.false_and, Bool.and_true, Bool.and_false, Bool.true_or, Bool.false_or, Bool.or_true, Bool.or_false, Bool.not_not, a_sl, a_pNo, a_pEx, a_asInt, a_frz0, a_zip, zip2_t, zip2_l, a_enum, enum1_l, enum1_t]
    cases h : (decide (1 ≤ (xs.length : Int)) && decide ((xs.length : Int) ≤ 3))
    · simp -implicitDefEqProofs only [a_fn, a_seq, seq_nx, seq_rt, seq_ex, seq_bk, seq_ct, seq_cond, ends_cond, c_ok, c_dat, c_bl, c_int, c_and, c_or, c_nand, a_sif, a_ret, a_set, a_nils, a_tg, a_expr, a_raise, a_par, Res.bind_ok, Res.bind_ex, Res.bindS_ok, Res.bindS_ex, a_var0, a_c, a_x2, a_o2, a_res1, a_xN, a_cons, a_nil, a_o1, a_xN1, a_tup, a_lst, mkTup_eq, mkLst_eq, a_dats0, a_dats1, a_ret1, a_tBl, a_tTr, a_tNo, a_tAn, a_tOr, a_bool1, truth_bl, truth_non, truth_int, truth_lst, truth_tup, a_and, a_or, a_chain, a_boolK, a_not, a_nDV, a_neg, a_neg1, a_if, a_isi, a_oIsi, isi_int, isi_bool, isi_tuple, isi_list, isi_str, a_it, a_items_l, a_items_t, a_lc, a_wipe0, a_wipe1, a_gNm, a_gTp, a_gCo, a_gNo, a_yes, a_for, a_rg1, a_rg2, a_new, a_llst, a_rd, Option.bind_some, ends_nx, ends_rt, ends_ex, leave_dat, List.map_cons, List.map_nil, List.length_cons, List.length_nil, Nat.reduceSub, Nat.reduceAdd, List.replicate_succ, List.replicate_zero, List.cons_append, List.nil_append, List.append_nil, List.getElem?_cons_zero, List.getElem?_cons_succ, List.set_cons_zero, List.set_cons_succ, List.take_length, cond_true, cond_false, Bool.not_true, Bool.not_false, dLt_i, dLe_i, dGt_i, dGe_i, dAdd_i, dSub_i, dIsN_eq, dNotN_eq, dLen_l, dLen_t, dIx_l, dIx_t, dList_l, dList_t, dTuple_l, dTuple_t, szB_s, o1_end, oSl_t, oSl_l, oSl_s, a_sort, dInt_i, a_put, pen_rd, pen_0, pen_1, pen_2, pen_p1, pen_p2, take_cons, forGo_nil, a_star, dats_map, a_leave_end, Option.map_some, cellOf_end, rd_end, set_end, take_end, lit2, lit3, Bool.true_and, Bool.false_and, Bool.and_true, Bool.and_false, Bool.true_or, Bool.false_or, Bool.or_true, Bool.or_false, Bool.not_not, a_sl, a_pNo, a_pEx, a_asInt, a_frz0, a_zip, zip2_t, zip2_l, a_enum, enum1_l, enum1_t]
    · have hl : szB xs.length = true := by
        rw [← szB_iff]
        simp only [Bool.and_eq_true, decide_eq_true_eq] at h
        unfold sizeLine
        omega
      rw [hl]
      simp -implicitDefEqProofs only [a_fn, a_seq, seq_nx, seq_rt, seq_ex, seq_bk, seq_ct, seq_cond, ends_cond, c_ok, c_dat, c_bl, c_int, c_and, c_or, c_nand, a_sif, a_ret, a_set, a_nils, a_tg, a_expr, a_raise, a_par, Res.bind_ok, Res.bind_ex, Res.bindS_ok, Res.bindS_ex, a_var0, a_c, a_x2, a_o2, a_res1, a_xN, a_cons, a_nil, a_o1, a_xN1, a_tup, a_lst, mkTup_eq, mkLst_eq, a_dats0, a_dats1, a_ret1, a_tBl, a_tTr, a_tNo, a_tAn, a_tOr, a_bool1, truth_bl, truth_non, truth_int, truth_lst, truth_tup, a_and, a_or, a_chain, a_boolK, a_not, a_nDV, a_neg, a_neg1, a_if, a_isi, a_oIsi, isi_int, isi_bool, isi_tuple, isi_list, isi_str, a_it, a_items_l, a_items_t, a_lc, a_wipe0, a_wipe1, a_gNm, a_gTp, a_gCo, a_gNo, a_yes, a_for, a_rg1, a_rg2, a_new, a_llst, a_rd, Option.bind_some, ends_nx, ends_rt, ends_ex, leave_dat, List.map_cons, List.map_nil, List.length_cons, List.length_nil, Nat.reduceSub, Nat.reduceAdd, List.replicate_succ, List.replicate_zero, List.cons_append, List.nil_append, List.append_nil, List.getElem?_cons_zero, List.getElem?_cons_succ, List.set_cons_zero, List.set_cons_succ, List.take_length, cond_true, cond_false, Bool.not_true, Bool.not_false, dLt_i, dLe_i, dGt_i, dGe_i, dAdd_i, dSub_i, dIsN_eq, dNotN_eq, dLen_l, dLen_t, dIx_l, dIx_t, dList_l, dList_t, dTuple_l, dTuple_t, szB_s, o1_end, oSl_t, oSl_l, oSl_s, a_sort, dInt_i, a_put, pen_rd, pen_0, pen_1, pen_2, pen_p1, pen_p2, take_cons, forGo_nil, a_star, dats_map, a_leave_end, Option.map_some, cellOf_end, rd_end, set_end, take_end, lit2, lit3, Bool.true_and, Bool.false_and, Bool.and_true, Bool.and_false, Bool.true_or, Bool.false_or, Bool.or_true, Bool.or_false, Bool.not_not, a_sl, a_pNo, a_pEx, a_asInt, a_frz0, a_zip, zip2_t, zip2_l, a_enum, enum1_l, enum1_t]
      rw [lcGo_mapD (q := fun d => .bl (isVal d)) xs ?h]
      case h => intro d _; exact ⟨_, rfl, rfl, by simp -implicitDefEqProofs only [a_fn, a_seq, seq_nx, seq_rt, seq_ex, seq_bk, seq_ct, seq_cond, ends_cond, c_ok, c_dat, c_bl, c_int, c_and, c_or, c_nand, a_sif, a_ret, a_set, a_nils, a_tg, a_expr, a_raise, a_par, Res.bind_ok, Res.bind_ex, Res.bindS_ok, Res.bindS_ex, a_var0, a_c, a_x2, a_o2, a_res1, a_xN, a_cons, a_nil, a_o1, a_xN1, a_tup, a_lst, mkTup_eq, mkLst_eq, a_dats0, a_dats1, a_ret1, a_tBl, a_tTr, a_tNo, a_tAn, a_tOr, a_bool1, truth_bl, truth_non, truth_int, truth_lst, truth_tup, a_and, a_or, a_chain, a_boolK, a_not, a_nDV, a_neg, a_neg1, a_if, a_isi, a_oIsi, isi_int, isi_bool, isi_tuple, isi_list, isi_str, a_it, a_items_l, a_items_t, a_lc, a_wipe0, a_wipe1, a_gNm, a_gTp, a_gCo, a_gNo, a_yes, a_for, a_rg1, a_rg2, a_new, a_llst, a_rd, Option.bind_some, ends_nx, ends_rt, ends_ex, leave_dat, List.map_cons, List.map_nil, List.length_cons, List.length_nil, Nat.reduceSub, Nat.reduceAdd, List.replicate_succ, List.replicate_zero, List.cons_append, List.nil_append, List.append_nil, List.getElem?_cons_zero, List.getElem?_cons_succ, List.set_cons_zero, List.set_cons_succ, List.take_length, cond_true, cond_false, Bool.not_true, Bool.not_false, dLt_i, dLe_i, dGt_i, dGe_i, dAdd_i, dSub_i, dIsN_eq, dNotN_eq, dLen_l, dLen_t, dIx_l, dIx_t, dList_l, dList_t, dTuple_l, dTuple_t, szB_s, o1_end, oSl_t, oSl_l, oSl_s, a_sort, dInt_i, a_put, pen_rd, pen_0, pen_1, pen_2, pen_p1, pen_p2, take_cons, forGo_nil, a_star, dats_map, a_leave_end, Option.map_some, cellOf_end, rd_end, set_end, take_end, lit2, lit3, Bool.true_and, Bool.false_and, Bool.and_true, Bool.and_false, Bool.true_or, Bool.false_or, Bool.or_true, Bool.or_false, Bool.not_not, a_sl, a_pNo, a_pEx, a_asInt, a_frz0, a_zip, zip2_t, zip2_l, a_enum, enum1_l, enum1_t, is_value_ok]⟩
      simp -implicitDefEqProofs only [a_fn, a_seq, seq_nx, seq_rt, seq_ex, seq_bk, seq_ct, seq_cond, ends_cond, c_ok, c_dat, c_bl, c_int, c_and, c_or, c_nand, a_sif, a_ret, a_set, a_nils, a_tg, a_expr, a_raise, a_par, Res.bind_ok, Res.bind_ex, Res.bindS_ok, Res.bindS_ex, a_var0, a_c, a_x2, a_o2, a_res1, a_xN, a_cons, a_nil, a_o1, a_xN1, a_tup, a_lst, mkTup_eq, mkLst_eq, a_dats0, a_dats1, a_ret1, a_tBl, a_tTr, a_tNo, a_tAn, a_tOr, a_bool1, truth_bl, truth_non, truth_int, truth_lst, truth_tup, a_and, a_or, a_chain, a_boolK, a_not, a_nDV, a_neg, a_neg1, a_if, a_isi, a_oIsi, isi_int, isi_bool, isi_tuple, isi_list, isi_str, a_it, a_items_l, a_items_t, a_lc, a_wipe0, a_wipe1, a_gNm, a_gTp, a_gCo, a_gNo, a_yes, a_for, a_rg1, a_rg2, a_new, a_llst, a_rd, Option.bind_some, ends_nx, ends_rt, ends_ex, leave_dat, List.map_cons, List.map_nil, List.length_cons, List.length_nil, Nat.reduceSub, Nat.reduceAdd, List.replicate_succ, List.replicate_zero, List.cons_append, List.nil_append, List.append_nil, List.getElem?_cons_zero, List.getElem?_cons_succ, List.set_cons_zero, List.set_cons_succ, List.take_length, cond_true, cond_false, Bool.not_true, Bool.not_false, dLt_i, dLe_i, dGt_i, dGe_i, dAdd_i, dSub_i, dIsN_eq, dNotN_eq, dLen_l, dLen_t, dIx_l, dIx_t, dList_l, dList_t, dTuple_l, dTuple_t, szB_s, o1_end, oSl_t, oSl_l, oSl_s, a_sort, dInt_i, a_put, pen_rd, pen_0, pen_1, pen_2, pen_p1, pen_p2, take_cons, forGo_nil, a_star, dats_map, a_leave_end, Option.map_some, cellOf_end, rd_end, set_end, take_end, lit2, lit3, Bool.true_and, Bool.false_and, Bool.and_true, Bool.and_false, Bool.true_or, Bool.false_or, Bool.or_true, Bool.or_false, Bool.not_not, a_sl, a_pNo, a_pEx, a_asInt, a_frz0, a_zip, zip2_t, zip2_l, a_enum, enum1_l, enum1_t, dAll_map]
      cases hv : xs.all isVal
      · simp -implicitDefEqProofs only [a_fn, a_seq, seq_nx, seq_rt, seq_ex, seq_bk, seq_ct, seq_cond, ends_cond, c_ok, c_dat, c_bl, c_int, c_and, c_or, c_nand, a_sif, a_ret, a_set, a_nils, a_tg, a_expr, a_raise, a_par, Res.bind_ok, Res.bind_ex, Res.bindS_ok, Res.bindS_ex, a_var0, a_c, a_x2, a_o2, a_res1, a_xN, a_cons, a_nil, a_o1, a_xN1, a_tup, a_lst, mkTup_eq, mkLst_eq, a_dats0, a_dats1, a_ret1, a_tBl, a_tTr, a_tNo, a_tAn, a_tOr, a_bool1, truth_bl, truth_non, truth_int, truth_lst, truth_tup, a_and, a_or, a_chain, a_boolK, a_not, a_nDV, a_neg, a_neg1, a_if, a_isi, a_oIsi, isi_int, isi_bool, isi_tuple, isi_list, isi_str, a_it, a_items_l, a_items_t, a_lc, a_wipe0, a_wipe1, a_gNm, a_gTp, a_gCo, a_gNo, a_yes, a_for, a_rg1, a_rg2, a_new, a_llst, a_rd, Option.bind_some, ends_nx, ends_rt, ends_ex, leave_dat, List.map_cons, List.map_nil, List.length_cons, List.length_nil, Nat.reduceSub, Nat.reduceAdd, List.replicate_succ, List.replicate_zero, List.cons_append, List.nil_append, List.append_nil, List.getElem?_cons_zero, List.getElem?_cons_succ, List.set_cons_zero, List.set_cons_succ, List.take_length, cond_true, cond_false, Bool.not_true, Bool.not_false, dLt_i, dLe_i, dGt_i, dGe_i, dAdd_i, dSub_i, dIsN_eq, dNotN_eq, dLen_l, dLen_t, dIx_l, dIx_t, dList_l, dList_t, dTuple_l, dTuple_t, szB_s, o1_end, oSl_t, oSl_l, oSl_s, a_sort, dInt_i, a_put, pen_rd, pen_0, pen_1, pen_2, pen_p1, pen_p2, take_cons, forGo_nil, a_star, dats_map, a_leave_end, Option.map_some, cellOf_end, rd_end, set_end, take_end, lit2, lit3, Bool.true_and, Bool.false_and, Bool.and_true, Bool.and_false, Bool.true_or, Bool.false_or, Bool.or_true, Bool.or_false, Bool.not_not, a_sl, a_pNo, a_pEx, a_asInt, a_frz0, a_zip, zip2_t, zip2_l, a_enum, enum1_l, enum1_t]
      · obtain ⟨a, rfl, ha⟩ := vals_ints hv
        simp -implicitDefEqProofs only [a_fn, a_seq, seq_nx, seq_rt, seq_ex, seq_bk, seq_ct, seq_cond, ends_cond, c_ok, c_dat, c_bl, c_int, c_and, c_or, c_nand, a_sif, a_ret, a_set, a_nils, a_tg, a_expr, a_raise, a_par, Res.bind_ok, Res.bind_ex, Res.bindS_ok, Res.bindS_ex, a_var0, a_c, a_x2, a_o2, a_res1, a_xN, a_cons, a_nil, a_o1, a_xN1, a_tup, a_lst, mkTup_eq, mkLst_eq, a_dats0, a_dats1, a_ret1, a_tBl, a_tTr, a_tNo, a_tAn, a_tOr, a_bool1, truth_bl, truth_non, truth_int, truth_lst, truth_tup, a_and, a_or, a_chain, a_boolK, a_not, a_nDV, a_neg, a_neg1, a_if, a_isi, a_oIsi, isi_int, isi_bool, isi_tuple, isi_list, isi_str, a_it, a_items_l, a_items_t, a_lc, a_wipe0, a_wipe1, a_gNm, a_gTp, a_gCo, a_gNo, a_yes, a_for, a_rg1, a_rg2, a_new, a_llst, a_rd, Option.bind_some, ends_nx, ends_rt, ends_ex, leave_dat, List.map_cons, List.map_nil, List.length_cons, List.length_nil, Nat.reduceSub, Nat.reduceAdd, List.replicate_succ, List.replicate_zero, List.cons_append, List.nil_append, List.append_nil, List.getElem?_cons_zero, List.getElem?_cons_succ, List.set_cons_zero, List.set_cons_succ, List.take_length, cond_true, cond_false, Bool.not_true, Bool.not_false, dLt_i, dLe_i, dGt_i, dGe_i, dAdd_i, dSub_i, dIsN_eq, dNotN_eq, dLen_l, dLen_t, dIx_l, dIx_t, dList_l, dList_t, dTuple_l, dTuple_t, szB_s, o1_end, oSl_t, oSl_l, oSl_s, a_sort, dInt_i, a_put, pen_rd, pen_0, pen_1, pen_2, pen_p1, pen_p2, take_cons, forGo_nil, a_star, dats_map, a_leave_end, Option.map_some, cellOf_end, rd_end, set_end, take_end, lit2, lit3, Bool.true_and, Bool.false_and, Bool.and_true, Bool.and_false, Bool.true_or, Bool.false_or, Bool.or_true, Bool.or_false, Bool.not_not, a_sl, a_pNo, a_pEx, a_asInt, a_frz0, a_zip, zip2_t, zip2_l, a_enum, enum1_l, enum1_t, a_sort]
        rw [sort_intsT a (by simp only [List.length_map, Bool.and_eq_true, decide_eq_true_eq] at h; omega)]
        simp -implicitDefEqProofs only [a_fn, a_seq, seq_nx, seq_rt, seq_ex, seq_bk, seq_ct, seq_cond, ends_cond, c_ok, c_dat, c_bl, c_int, c_and, c_or, c_nand, a_sif, a_ret, a_set, a_nils, a_tg, a_expr, a_raise, a_par, Res.bind_ok, Res.bind_ex, Res.bindS_ok, Res.bindS_ex, a_var0, a_c, a_x2, a_o2, a_res1, a_xN, a_cons, a_nil, a_o1, a_xN1, a_tup, a_lst, mkTup_eq, mkLst_eq, a_dats0, a_dats1, a_ret1, a_tBl, a_tTr, a_tNo, a_tAn, a_tOr, a_bool1, truth_bl, truth_non, truth_int, truth_lst, truth_tup, a_and, a_or, a_chain, a_boolK, a_not, a_nDV, a_neg, a_neg1, a_if, a_isi, a_oIsi, isi_int, isi_bool, isi_tuple, isi_list, isi_str, a_it, a_items_l, a_items_t, a_lc, a_wipe0, a_wipe1, a_gNm, a_gTp, a_gCo, a_gNo, a_yes, a_for, a_rg1, a_rg2, a_new, a_llst, a_rd, Option.bind_some, ends_nx, ends_rt, ends_ex, leave_dat, List.map_cons, List.map_nil, List.length_cons, List.length_nil, Nat.reduceSub, Nat.reduceAdd, List.replicate_succ, List.replicate_zero, List.cons_append, List.nil_append, List.append_nil, List.getElem?_cons_zero, List.getElem?_cons_succ, List.set_cons_zero, List.set_cons_succ, List.take_length, cond_true, cond_false, Bool.not_true, Bool.not_false, dLt_i, dLe_i, dGt_i, dGe_i, dAdd_i, dSub_i, dIsN_eq, dNotN_eq, dLen_l, dLen_t, dIx_l, dIx_t, dList_l, dList_t, dTuple_l, dTuple_t, szB_s, o1_end, oSl_t, oSl_l, oSl_s, a_sort, dInt_i, a_put, pen_rd, pen_0, pen_1, pen_2, pen_p1, pen_p2, take_cons, forGo_nil, a_star, dats_map, a_leave_end, Option.map_some, cellOf_end, rd_end, set_end, take_end, lit2, lit3, Bool.true_and, Bool.false_and, Bool.and_true, Bool.and_false, Bool.true_or, Bool.false_or, Bool.or_true, Bool.or_false, Bool.not_not, a_sl, a_pNo, a_pEx, a_asInt, a_frz0, a_zip, zip2_t, zip2_l, a_enum, enum1_l, enum1_t, dEq_ints, colB, intsOf_ints]
  all_goals simp -implicitDefEqProofs only [D.isN, D.isT, isCol, a_fn, a_seq, seq_nx, seq_rt, seq_ex, seq_bk, seq_ct, seq_cond, ends_cond, c_ok, c_dat, c_bl, c_int, c_and, c_or, c_nand, a_sif, a_ret, a_set, a_nils, a_tg, a_expr, a_raise, a_par, Res.bind_ok, Res.bind_ex, Res.bindS_ok, Res.bindS_ex, a_var0, a_c, a_x2, a_o2, a_res1, a_xN, a_cons, a_nil, a_o1, a_xN1, a_tup, a_lst, mkTup_eq, mkLst_eq, a_dats0, a_dats1, a_ret1, a_tBl, a_tTr, a_tNo, a_tAn, a_tOr, a_bool1, truth_bl, truth_non, truth_int, truth_lst, truth_tup, a_and, a_or, a_chain, a_boolK, a_not, a_nDV, a_neg, a_neg1, a_if, a_isi, a_oIsi, isi_int, isi_bool, isi_tuple, isi_list, isi_str, a_it, a_items_l, a_items_t, a_lc, a_wipe0, a_wipe1, a_gNm, a_gTp, a_gCo, a_gNo, a_yes, a_for, a_rg1, a_rg2, a_new, a_llst, a_rd, Option.bind_some, ends_nx, ends_rt, ends_ex, leave_dat, List.map_cons, List.map_nil, List.length_cons, List.length_nil, Nat.reduceSub, Nat.reduceAdd, List.replicate_succ, List.replicate_zero, List.cons_append, List.nil_append, List.append_nil, List.getElem?_cons_zero, List.getElem?_cons_succ, List.set_cons_zero, List.set_cons_succ, List.take_length, cond_true, cond_false, Bool.not_true, Bool.not_false, dLt_i, dLe_i, dGt_i, dGe_i, dAdd_i, dSub_i, dIsN_eq, dNotN_eq, dLen_l, dLen_t, dIx_l, dIx_t, dList_l, dList_t, dTuple_l, dTuple_t, szB_s, o1_end, oSl_t, oSl_l, oSl_s, a_sort, dInt_i, a_put, pen_rd, pen_0, pen_1, pen_2, pen_p1, pen_p2, take_cons, forGo_nil, a_star, dats_map, a_leave_end, Option.map_some, cellOf_end, rd_end, set_end, take_end, lit2, lit3, Bool.true_and, Bool.false_and, Bool.and_true, Bool.and_false, Bool.true_or, Bool.false_or, Bool.or_true, Bool.or_false, Bool.not_not, a_sl, a_pNo, a_pEx, a_asInt, a_frz0, a_zip, zip2_t, zip2_l, a_enum, enum1_l, enum1_t]
theorem isCol_cases {c : D} (h : isCol c = true) : c = .non ∨ ∃ ns : List Int, c = .tup (ns.map .int) ∧ 1 ≤ ns.length ∧ ns.length ≤ 3 ∧ (∀ i ∈ ns, 0 ≤ i) ∧ ns = sset ns := by
  cases c <;> simp only [isCol, Bool.false_eq_true] at h
  · exact .inl rfl
  · simp only [Bool.and_eq_true, decide_eq_true_eq] at h
    obtain ⟨⟨h1, h2⟩, h3, h4⟩ := h
    obtain ⟨a, rfl, ha⟩ := vals_ints h3
    simp only [List.length_map] at h1 h2
    simp only [colB, intsOf_ints, decide_eq_true_eq] at h4
    exact .inr ⟨a, rfl, by omega, by omega, ha, h4⟩
def inC (d : D) : D → Bool | .tup xs => dInB d xs | _ => false
def isValOf (c d : D) : Bool := isVal d && (c.isN || inC d c)
theorem is_value_of_ok (c d : D) (hc : isCol c = true) (S : Store) : g_is_value_of [.dat c, .dat d] S = .ok (.dat (.bl (isValOf c d))) S := by
  unfold g_is_value_of s_is_value_of
  simp -implicitDefEqProofs only [a_fn, a_seq, seq_nx, seq_rt, seq_ex, seq_bk, seq_ct, seq_cond, ends_cond, c_ok, c_dat, c_bl, c_int, c_and, c_or, c_nand, a_sif, a_ret, a_set, a_nils, a_tg, a_expr, a_raise, a_par, Res.bind_ok, Res.bind_ex, Res.bindS_ok, Res.bindS_ex, a_var0, a_c, a_x2, a_o2, a_res1, a_xN, a_cons, a_nil, a_o1, a_xN1, a_tup, a_lst, mkTup_eq, mkLst_eq, a_dats0, a_dats1, a_ret1, a_tBl, a_tTr, a_tNo, a_tAn, a_tOr, a_bool1, truth_bl, truth_non, truth_int, truth_lst, truth_tup, a_and, a_or, a_chain, a_boolK, a_not, a_nDV, a_neg, a_neg1, a_if, a_isi, a_oIsi, isi_int, isi_bool, isi_tuple, isi_list, isi_str, a_it, a_items_l, a_items_t, a_lc, a_wipe0, a_wipe1, a_gNm, a_gTp, a_gCo, a_gNo, a_yes, a_for, a_rg1, a_rg2, a_new, a_llst, a_rd, Option.bind_some, ends_nx, ends_rt, ends_ex, leave_dat, List.map_cons, List.map_nil, List.length_cons, List.length_nil, Nat.reduceSub, Nat.reduceAdd, List.replicate_succ, List.replicate_zero, List.cons_append, List.nil_append, List.append_nil, List.getElem?_cons_zero, List.getElem?_cons_succ, List.set_cons_zero, List.set_cons_succ, List.take_length, cond_true, cond_false, Bool.not_true, Bool.not_false, dLt_i, dLe_i, dGt_i, dGe_i, dAdd_i, dSub_i, dIsN_eq, dNotN_eq, dLen_l, dLen_t, dIx_l, dIx_t, dList_l, dList_t, dTuple_l, dTuple_t, szB_s, o1_end, oSl_t, oSl_l, oSl_s, a_sort, dInt_i, a_put, pen_rd, pen_0, pen_1, pen_2, pen_p1, pen_p2, take_cons, forGo_nil, a_star, dats_map, a_leave_end, Option.map_some, cellOf_end, rd_end, set_end, take_end, lit2, lit3, Bool.true_and, Bool.false_and, Bool.and_true, Bool.and_false, Bool.true_or, Bool.false_or, Bool.or_true, Bool.or_false, Bool.not_not, a_sl, a_pNo, a_pEx, a_asInt, a_frz0, a_zip, zip2_t, zip2_l, a_enum, enum1_l, enum1_t, is_value_ok]
  cases hv : isVal d
  · simp -implicitDefEqProofs only [isValOf, hv, a_fn, a_seq, seq_nx, seq_rt, seq_ex, seq_bk, seq_ct, seq_cond, ends_cond, c_ok, c_dat, c_bl, c_int, c_and, c_or, c_nand, a_sif, a_ret, a_set, a_nils, a_tg, a_expr, a_raise, a_par, Res.bind_ok, Res.bind_ex, Res.bindS_ok, Res.bindS_ex, a_var0, a_c, a_x2, a_o2, a_res1, a_xN, a_cons, a_nil, a_o1, a_xN1, a_tup, a_lst, mkTup_eq, mkLst_eq, a_dats0, a_dats1, a_ret1, a_tBl, a_tTr, a_tNo, a_tAn, a_tOr, a_bool1, truth_bl, truth_non, truth_int, truth_lst, truth_tup, a_and, a_or, a_chain, a_boolK, a_not, a_nDV, a_neg, a_neg1, a_if, a_isi, a_oIsi, isi_int, isi_bool, isi_tuple, isi_list, isi_str, a_it, a_items_l, a_items_t, a_lc, a_wipe0, a_wipe1, a_gNm, a_gTp, a_gCo, a_gNo, a_yes, a_for, a_rg1, a_rg2, a_new, a_llst, a_rd, Option.bind_some, ends_nx, ends_rt, ends_ex, leave_dat, List.map_cons, List.map_nil, List.length_cons, List.length_nil, Nat.reduceSub, Nat.reduceAdd, List.replicate_succ, List.replicate_zero, List.cons_append, List.nil_append, List.append_nil, List.getElem?_cons_zero, List.getElem?_cons_succ, List.set_cons_zero, List.set_cons_succ, List.take_length, cond_true, cond_false, Bool.not_true, Bool.not_false, dLt_i, dLe_i, dGt_i, dGe_i, dAdd_i, dSub_i, dIsN_eq, dNotN_eq, dLen_l, dLen_t, dIx_l, dIx_t, dList_l, dList_t, dTuple_l, dTuple_t, szB_s, o1_end, oSl_t, oSl_l, oSl_s, a_sort, dInt_i, a_put, pen_rd, pen_0, pen_1, pen_2, pen_p1, pen_p2, take_cons, forGo_nil, a_star, dats_map, a_leave_end, Option.map_some, cellOf_end, rd_end, set_end, take_end, lit2, lit3, Bool.true_and, Bool.false_and, Bool.and_true, Bool.and_false, Bool.true_or, Bool.false_or, Bool.or_true, Bool.or_false, Bool.not_not, a_sl, a_pNo, a_pEx, a_asInt, a_frz0, a_zip, zip2_t, zip2_l, a_enum, enum1_l, enum1_t]
  · rcases isCol_cases hc with rfl | ⟨ns, rfl, _⟩
    · simp -implicitDefEqProofs only [isValOf, hv, a_fn, a_seq, seq_nx, seq_rt, seq_ex, seq_bk, seq_ct, seq_cond, ends_cond, c_ok, c_dat, c_bl, c_int, c_and, c_or, c_nand, a_sif, a_ret, a_set, a_nils, a_tg, a_expr, a_raise, a_par, Res.bind_ok, Res.bind_ex, Res.bindS_ok, Res.bindS_ex, a_var0, a_c, a_x2, a_o2, a_res1, a_xN, a_cons, a_nil, a_o1, a_xN1, a_tup, a_lst, mkTup_eq, mkLst_eq, a_dats0, a_dats1, a_ret1, a_tBl, a_tTr, a_tNo, a_tAn, a_tOr, a_bool1, truth_bl, truth_non, truth_int, truth_lst, truth_tup, a_and, a_or, a_chain, a_boolK, a_not, a_nDV, a_neg, a_neg1, a_if, a_isi, a_oIsi, isi_int, isi_bool, isi_tuple, isi_list, isi_str, a_it, a_items_l, a_items_t, a_lc, a_wipe0, a_wipe1, a_gNm, a_gTp, a_gCo, a_gNo, a_yes, a_for, a_rg1, a_rg2, a_new, a_llst, a_rd, Option.bind_some, ends_nx, ends_rt, ends_ex, leave_dat, List.map_cons, List.map_nil, List.length_cons, List.length_nil, Nat.reduceSub, Nat.reduceAdd, List.replicate_succ, List.replicate_zero, List.cons_append, List.nil_append, List.append_nil, List.getElem?_cons_zero, List.getElem?_cons_succ, List.set_cons_zero, List.set_cons_succ, List.take_length, cond_true, cond_false, Bool.not_true, Bool.not_false, dLt_i, dLe_i, dGt_i, dGe_i, dAdd_i, dSub_i, dIsN_eq, dNotN_eq, dLen_l, dLen_t, dIx_l, dIx_t, dList_l, dList_t, dTuple_l, dTuple_t, szB_s, o1_end, oSl_t, oSl_l, oSl_s, a_sort, dInt_i, a_put, pen_rd, pen_0, pen_1, pen_2, pen_p1, pen_p2, take_cons, forGo_nil, a_star, dats_map, a_leave_end, Option.map_some, cellOf_end, rd_end, set_end, take_end, lit2, lit3, Bool.true_and, Bool.false_and, Bool.and_true, Bool.and_false, Bool.true_or, Bool.false_or, Bool.or_true, Bool.or_false, Bool.not_not, a_sl, a_pNo, a_pEx, a_asInt, a_frz0, a_zip, zip2_t, zip2_l, a_enum, enum1_l, enum1_t, D.isN]
    · have : dIn d (.tup (ns.map .int)) = some (.bl (dInB d (ns.map .int))) := dIn_t (n := 1) (m := 0) (by cases d <;> first | rfl | cases hv) (fits_ints 0 ns)
      simp -implicitDefEqProofs only [isValOf, hv, a_fn, a_seq, seq_nx, seq_rt, seq_ex, seq_bk, seq_ct, seq_cond, ends_cond, c_ok, c_dat, c_bl, c_int, c_and, c_or, c_nand, a_sif, a_ret, a_set, a_nils, a_tg, a_expr, a_raise, a_par, Res.bind_ok, Res.bind_ex, Res.bindS_ok, Res.bindS_ex, a_var0, a_c, a_x2, a_o2, a_res1, a_xN, a_cons, a_nil, a_o1, a_xN1, a_tup, a_lst, mkTup_eq, mkLst_eq, a_dats0, a_dats1, a_ret1, a_tBl, a_tTr, a_tNo, a_tAn, a_tOr, a_bool1, truth_bl, truth_non, truth_int, truth_lst, truth_tup, a_and, a_or, a_chain, a_boolK, a_not, a_nDV, a_neg, a_neg1, a_if, a_isi, a_oIsi, isi_int, isi_bool, isi_tuple, isi_list, isi_str, a_it, a_items_l, a_items_t, a_lc, a_wipe0, a_wipe1, a_gNm, a_gTp, a_gCo, a_gNo, a_yes, a_for, a_rg1, a_rg2, a_new, a_llst, a_rd, Option.bind_some, ends_nx, ends_rt, ends_ex, leave_dat, List.map_cons, List.map_nil, List.length_cons, List.length_nil, Nat.reduceSub, Nat.reduceAdd, List.replicate_succ, List.replicate_zero, List.cons_append, List.nil_append, List.append_nil, List.getElem?_cons_zero, List.getElem?_cons_succ, List.set_cons_zero, List.set_cons_succ, List.take_length, cond_true, cond_false, Bool.not_true, Bool.not_false, dLt_i, dLe_i, dGt_i, dGe_i, dAdd_i, dSub_i, dIsN_eq, dNotN_eq, dLen_l, dLen_t, dIx_l, dIx_t, dList_l, dList_t, dTuple_l, dTuple_t, szB_s, o1_end, oSl_t, oSl_l, oSl_s, a_sort, dInt_i, a_put, pen_rd, pen_0, pen_1, pen_2, pen_p1, pen_p2, take_cons, forGo_nil, a_star, dats_map, a_leave_end, Option.map_some, cellOf_end, rd_end, set_end, take_end, lit2, lit3, Bool.true_and, Bool.false_and, Bool.and_true, Bool.and_false, Bool.true_or, Bool.false_or, Bool.or_true, Bool.or_false, Bool.not_not, a_sl, a_pNo, a_pEx, a_asInt, a_frz0, a_zip, zip2_t, zip2_l, a_enum, enum1_l, enum1_t, D.isN, this, inC]
def isCols : D → Bool
  | .tup xs => (decide (1 ≤ (xs.length : Int)) && decide ((xs.length : Int) ≤ 4)) && (xs.all isCol && decide (((xs.filter fun c => !c.isN).length : Int) ≤ 2))
  | _ => false
theorem is_columns_ok (d : D) (S : Store) : g_is_columns [.dat d] S = .ok (.dat (.bl (isCols d))) S := by
  unfold g_is_columns s_is_columns
  simp -implicitDefEqProofs only [a_fn, a_seq, seq_nx, seq_rt, seq_ex, seq_bk, seq_ct, seq_cond, ends_cond, c_ok, c_dat, c_bl, c_int, c_and, c_or, c_nand, a_sif, a_ret, a_set, a_nils, a_tg, a_expr, a_raise, a_par, Res.bind_ok, Res.bind_ex, Res.bindS_ok, Res.bindS_ex, a_var0, a_c, a_x2, a_o2, a_res1, a_xN, a_cons, a_nil, a_o1, a_xN1, a_tup, a_lst, mkTup_eq, mkLst_eq, a_dats0, a_dats1, a_ret1, a_tBl, a_tTr, a_tNo, a_tAn, a_tOr, a_bool1, truth_bl, truth_non, truth_int, truth_lst, truth_tup, a_and, a_or, a_chain, a_boolK, a_not, a_nDV, a_neg, a_neg1, a_if, a_isi, a_oIsi, isi_int, isi_bool, isi_tuple, isi_list, isi_str, a_it, a_items_l, a_items_t, a_lc, a_wipe0, a_wipe1, a_gNm, a_gTp, a_gCo, a_gNo, a_yes, a_for, a_rg1, a_rg2, a_new, a_llst, a_rd, Option.bind_some, ends_nx, ends_rt, ends_ex, leave_dat, List.map_cons, List.map_nil, List.length_cons, List.length_nil, Nat.reduceSub, Nat.reduceAdd, List.replicate_succ, List.replicate_zero, List.cons_append, List.nil_append, List.append_nil, List.getElem?_cons_zero, List.getElem?_cons_succ, List.set_cons_zero, List.set_cons_succ, List.take_length, cond_true, cond_false, Bool.not_true, Bool.not_false, dLt_i, dLe_i, dGt_i, dGe_i, dAdd_i, dSub_i, dIsN_eq, dNotN_eq, dLen_l, dLen_t, dIx_l, dIx_t, dList_l, dList_t, dTuple_l, dTuple_t, szB_s, o1_end, oSl_t, oSl_l, oSl_s, a_sort, dInt_i, a_put, pen_rd, pen_0, pen_1, pen_2, pen_p1, pen_p2, take_cons, forGo_nil, a_star, dats_map, a_leave_end, Option.map_some, cellOf_end, rd_end, set_end, take_end, lit2, lit3, Bool.true_and, Bool.false_and, Bool.and_true, Bool.and_false, Bool.true_or, Bool.false_or, Bool.or_true, Bool.or_false, Bool.not_not, a_sl, a_pNo, a_pEx, a_asInt, a_frz0, a_zip, zip2_t, zip2_l, a_enum, enum1_l, enum1_t]
  cases d
  case tup xs =>
    simp -implicitDefEqProofs only [D.isT, isCols, a_fn, a_seq, seq_nx, seq_rt, seq_ex, seq_bk, seq_ct, seq_cond, ends_cond, c_ok, c_dat, c_bl, c_int, c_and, c_or, c_nand, a_sif, a_ret, a_set, a_nils, a_tg, a_expr, a_raise, a_par, Res.bind_ok, Res.bind_ex, Res.bindS_ok, Res.bindS_ex, a_var0, a_c, a_x2, a_o2, a_res1, a_xN, a_cons, a_nil, a_o1, a_xN1, a_tup, a_lst, mkTup_eq, mkLst_eq, a_dats0, a_dats1, a_ret1, a_tBl, a_tTr, a_tNo, a_tAn, a_tOr, a_bool1, truth_bl, truth_non, truth_int, truth_lst, truth_tup, a_and, a_or, a_chain, a_boolK, a_not, a_nDV, a_neg, a_neg1, a_if, a_isi, a_oIsi, isi_int, isi_bool, isi_tuple, isi_list, isi_str, a_it, a_items_l, a_items_t, a_lc, a_wipe0, a_wipe1, a_gNm, a_gTp, a_gCo, a_gNo, a_yes, a_for, a_rg1, a_rg2, a_new, a_llst, a_rd, Option.bind_some, ends_nx, ends_rt, ends_ex, leave_dat, List.map_cons, List.map_nil, List.length_cons, List.length_nil, Nat.reduceSub, Nat.reduceAdd, List.replicate_succ, List.replicate_zero, List.cons_append, List.nil_append, List.append_nil, List.getElem?_cons_zero, List.getElem?_cons_succ, List.set_cons_zero, List.set_cons_succ, List.take_length, cond_true, cond_false, Bool.not_true, Bool.not_false, dLt_i, dLe_i, dGt_i, dGe_i, dAdd_i, dSub_i, dIsN_eq, dNotN_eq, dLen_l, dLen_t, dIx_l, dIx_t, dList_l, dList_t, dTuple_l, dTuple_t, szB_s, o1_end, oSl_t, oSl_l, oSl_s, a_sort, dInt_i, a_put, pen_rd, pen_0, pen_1, pen_2, pen_p1, pen_p2, take_cons, forGo_nil, a_star, dats_map, a_leave_end, Option.map_some, cellOf_end, rd_end, set_end, take_end, lit2, lit3, Bool.true_and, Bool.false_and, Bool.and_true, Bool.and_false, Bool.true_or, Bool.false_or, Bool.or_true, Bool.or_false, Bool.not_not, a_sl, a_pNo, a_pEx, a_asInt, a_frz0, a_zip, zip2_t, zip2_l, a_enum, enum1_l, enum1_t]
    cases h : (decide (1 ≤ (xs.length : Int)) && decide ((xs.length : Int) ≤ 4))
    · simp -implicitDefEqProofs only [a_fn, a_seq, seq_nx, seq_rt, seq_ex, seq_bk, seq_ct, seq_cond, ends_cond, c_ok, c_dat, c_bl, c_int, c_and, c_or, c_nand, a_sif, a_ret, a_set, a_nils, a_tg, a_expr, a_raise, a_par, Res.bind_ok, Res.bind_ex, Res.bindS_ok, Res.bindS_ex, a_var0, a_c, a_x2, a_o2, a_res1, a_xN, a_cons, a_nil, a_o1, a_xN1, a_tup, a_lst, mkTup_eq, mkLst_eq, a_dats0, a_dats1, a_ret1, a_tBl, a_tTr, a_tNo, a_tAn, a_tOr, a_bool1, truth_bl, truth_non, truth_int, truth_lst, truth_tup, a_and, a_or, a_chain, a_boolK, a_not, a_nDV, a_neg, a_neg1, a_if, a_isi, a_oIsi, isi_int, isi_bool, isi_tuple, isi_list, isi_str, a_it, a_items_l, a_items_t, a_lc, a_wipe0, a_wipe1, a_gNm, a_gTp, a_gCo, a_gNo, a_yes, a_for, a_rg1, a_rg2, a_new, a_llst, a_rd, Option.bind_some, ends_nx, ends_rt, ends_ex, leave_dat, List.map_cons, List.map_nil, List.length_cons, List.length_nil, Nat.reduceSub, Nat.reduceAdd, List.replicate_succ, List.replicate_zero, List.cons_append, List.nil_append, List.append_nil, List.getElem?_cons_zero, List.getElem?_cons_succ, List.set_cons_zero, List.set_cons_succ, List.take_length, cond_true, cond_false, Bool.not_true, Bool.not_false, dLt_i, dLe_i, dGt_i, dGe_i, dAdd_i, dSub_i, dIsN_eq, dNotN_eq, dLen_l, dLen_t, dIx_l, dIx_t, dList_l, dList_t, dTuple_l, dTuple_t, szB_s, o1_end, oSl_t, oSl_l, oSl_s, a_sort, dInt_i, a_put, pen_rd, pen_0, pen_1, pen_2, pen_p1, pen_p2, take_cons, forGo_nil, a_star, dats_map, a_leave_end, Option.map_some, cellOf_end, rd_end, set_end, take_end, lit2, lit3, Bool.true_and, Bool.false_and, Bool.and_true, Bool.and_false, Bool.true_or, Bool.false_or, Bool.or_true, Bool.or_false, Bool.not_not, a_sl, a_pNo, a_pEx, a_asInt, a_frz0, a_zip, zip2_t, zip2_l, a_enum, enum1_l, enum1_t]
    · have hl : szB xs.length = true := by
        rw [← szB_iff]
        simp only [Bool.and_eq_true, decide_eq_true_eq] at h
        unfold sizeLine
        omega
      rw [hl]
      simp -implicitDefEqProofs only [a_fn, a_seq, seq_nx, seq_rt, seq_ex, seq_bk, seq_ct, seq_cond, ends_cond, c_ok, c_dat, c_bl, c_int, c_and, c_or, c_nand, a_sif, a_ret, a_set, a_nils, a_tg, a_expr, a_raise, a_par, Res.bind_ok, Res.bind_ex, Res.bindS_ok, Res.bindS_ex, a_var0, a_c, a_x2, a_o2, a_res1, a_xN, a_cons, a_nil, a_o1, a_xN1, a_tup, a_lst, mkTup_eq, mkLst_eq, a_dats0, a_dats1, a_ret1, a_tBl, a_tTr, a_tNo, a_tAn, a_tOr, a_bool1, truth_bl, truth_non, truth_int, truth_lst, truth_tup, a_and, a_or, a_chain, a_boolK, a_not, a_nDV, a_neg, a_neg1, a_if, a_isi, a_oIsi, isi_int, isi_bool, isi_tuple, isi_list, isi_str, a_it, a_items_l, a_items_t, a_lc, a_wipe0, a_wipe1, a_gNm, a_gTp, a_gCo, a_gNo, a_yes, a_for, a_rg1, a_rg2, a_new, a_llst, a_rd, Option.bind_some, ends_nx, ends_rt, ends_ex, leave_dat, List.map_cons, List.map_nil, List.length_cons, List.length_nil, Nat.reduceSub, Nat.reduceAdd, List.replicate_succ, List.replicate_zero, List.cons_append, List.nil_append, List.append_nil, List.getElem?_cons_zero, List.getElem?_cons_succ, List.set_cons_zero, List.set_cons_succ, List.take_length, cond_true, cond_false, Bool.not_true, Bool.not_false, dLt_i, dLe_i, dGt_i, dGe_i, dAdd_i, dSub_i, dIsN_eq, dNotN_eq, dLen_l, dLen_t, dIx_l, dIx_t, dList_l, dList_t, dTuple_l, dTuple_t, szB_s, o1_end, oSl_t, oSl_l, oSl_s, a_sort, dInt_i, a_put, pen_rd, pen_0, pen_1, pen_2, pen_p1, pen_p2, take_cons, forGo_nil, a_star, dats_map, a_leave_end, Option.map_some, cellOf_end, rd_end, set_end, take_end, lit2, lit3, Bool.true_and, Bool.false_and, Bool.and_true, Bool.and_false, Bool.true_or, Bool.false_or, Bool.or_true, Bool.or_false, Bool.not_not, a_sl, a_pNo, a_pEx, a_asInt, a_frz0, a_zip, zip2_t, zip2_l, a_enum, enum1_l, enum1_t]
      rw [lcGo_mapD (q := fun d => .bl (isCol d)) xs ?h]
      case h => intro d _; exact ⟨_, rfl, rfl, by simp -implicitDefEqProofs only [a_fn, a_seq, seq_nx, seq_rt, seq_ex, seq_bk, seq_ct, seq_cond, ends_cond, c_ok, c_dat, c_bl, c_int, c_and, c_or, c_nand, a_sif, a_ret, a_set, a_nils, a_tg, a_expr, a_raise, a_par, Res.bind_ok, Res.bind_ex, Res.bindS_ok, Res.bindS_ex, a_var0, a_c, a_x2, a_o2, a_res1, a_xN, a_cons, a_nil, a_o1, a_xN1, a_tup, a_lst, mkTup_eq, mkLst_eq, a_dats0, a_dats1, a_ret1, a_tBl, a_tTr, a_tNo, a_tAn, a_tOr, a_bool1, truth_bl, truth_non, truth_int, truth_lst, truth_tup, a_and, a_or, a_chain, a_boolK, a_not, a_nDV, a_neg, a_neg1, a_if, a_isi, a_oIsi, isi_int, isi_bool, isi_tuple, isi_list, isi_str, a_it, a_items_l, a_items_t, a_lc, a_wipe0, a_wipe1, a_gNm, a_gTp, a_gCo, a_gNo, a_yes, a_for, a_rg1, a_rg2, a_new, a_llst, a_rd, Option.bind_some, ends_nx, ends_rt, ends_ex, leave_dat, List.map_cons, List.map_nil, List.length_cons, List.length_nil, Nat.reduceSub, Nat.reduceAdd, List.replicate_succ, List.replicate_zero, List.cons_append, List.nil_append, List.append_nil, List.getElem?_cons_zero, List.getElem?_cons_succ, List.set_cons_zero, List.set_cons_succ, List.take_length, cond_true, cond_false, Bool.not_true, Bool.not_false, dLt_i, dLe_i, dGt_i, dGe_i, dAdd_i, dSub_i, dIsN_eq, dNotN_eq, dLen_l, dLen_t, dIx_l, dIx_t, dList_l, dList_t, dTuple_l, dTuple_t, szB_s, o1_end, oSl_t, oSl_l, oSl_s, a_sort, dInt_i, a_put, pen_rd, pen_0, pen_1, pen_2, pen_p1, pen_p2, take_cons, forGo_nil, a_star, dats_map, a_leave_end, Option.map_some, cellOf_end, rd_end, set_end, take_end, lit2, lit3, Bool.true_and, Bool.false_and, Bool.and_true, Bool.and_false, Bool.true_or, Bool.false_or, Bool.or_true, Bool.or_false, Bool.not_not, a_sl, a_pNo, a_pEx, a_asInt, a_frz0, a_zip, zip2_t, zip2_l, a_enum, enum1_l, enum1_t, is_column_ok]⟩
      simp -implicitDefEqProofs only [a_fn, a_seq, seq_nx, seq_rt, seq_ex, seq_bk, seq_ct, seq_cond, ends_cond, c_ok, c_dat, c_bl, c_int, c_and, c_or, c_nand, a_sif, a_ret, a_set, a_nils, a_tg, a_expr, a_raise, a_par, Res.bind_ok, Res.bind_ex, Res.bindS_ok, Res.bindS_ex, a_var0, a_c, a_x2, a_o2, a_res1, a_xN, a_cons, a_nil, a_o1, a_xN1, a_tup, a_lst, mkTup_eq, mkLst_eq, a_dats0, a_dats1, a_ret1, a_tBl, a_tTr, a_tNo, a_tAn, a_tOr, a_bool1, truth_bl, truth_non, truth_int, truth_lst, truth_tup, a_and, a_or, a_chain, a_boolK, a_not, a_nDV, a_neg, a_neg1, a_if, a_isi, a_oIsi, isi_int, isi_bool, isi_tuple, isi_list, isi_str, a_it, a_items_l, a_items_t, a_lc, a_wipe0, a_wipe1, a_gNm, a_gTp, a_gCo, a_gNo, a_yes, a_for, a_rg1, a_rg2, a_new, a_llst, a_rd, Option.bind_some, ends_nx, ends_rt, ends_ex, leave_dat, List.map_cons, List.map_nil, List.length_cons, List.length_nil, Nat.reduceSub, Nat.reduceAdd, List.replicate_succ, List.replicate_zero, List.cons_append, List.nil_append, List.append_nil, List.getElem?_cons_zero, List.getElem?_cons_succ, List.set_cons_zero, List.set_cons_succ, List.take_length, cond_true, cond_false, Bool.not_true, Bool.not_false, dLt_i, dLe_i, dGt_i, dGe_i, dAdd_i, dSub_i, dIsN_eq, dNotN_eq, dLen_l, dLen_t, dIx_l, dIx_t, dList_l, dList_t, dTuple_l, dTuple_t, szB_s, o1_end, oSl_t, oSl_l, oSl_s, a_sort, dInt_i, a_put, pen_rd, pen_0, pen_1, pen_2, pen_p1, pen_p2, take_cons, forGo_nil, a_star, dats_map, a_leave_end, Option.map_some, cellOf_end, rd_end, set_end, take_end, lit2, lit3, Bool.true_and, Bool.false_and, Bool.and_true, Bool.and_false, Bool.true_or, Bool.false_or, Bool.or_true, Bool.or_false, Bool.not_not, a_sl, a_pNo, a_pEx, a_asInt, a_frz0, a_zip, zip2_t, zip2_l, a_enum, enum1_l, enum1_t, dAll_map]
      rw [lcGo_filterD (p := fun c => !c.isN) (q := id) xs ?h]
      case h => intro d _; exact ⟨_, rfl, by simp -implicitDefEqProofs only [a_fn, a_seq, seq_nx, seq_rt, seq_ex, seq_bk, seq_ct, seq_cond, ends_cond, c_ok, c_dat, c_bl, c_int, c_and, c_or, c_nand, a_sif, a_ret, a_set, a_nils, a_tg, a_expr, a_raise, a_par, Res.bind_ok, Res.bind_ex, Res.bindS_ok, Res.bindS_ex, a_var0, a_c, a_x2, a_o2, a_res1, a_xN, a_cons, a_nil, a_o1, a_xN1, a_tup, a_lst, mkTup_eq, mkLst_eq, a_dats0, a_dats1, a_ret1, a_tBl, a_tTr, a_tNo, a_tAn, a_tOr, a_bool1, truth_bl, truth_non, truth_int, truth_lst, truth_tup, a_and, a_or, a_chain, a_boolK, a_not, a_nDV, a_neg, a_neg1, a_if, a_isi, a_oIsi, isi_int, isi_bool, isi_tuple, isi_list, isi_str, a_it, a_items_l, a_items_t, a_lc, a_wipe0, a_wipe1, a_gNm, a_gTp, a_gCo, a_gNo, a_yes, a_for, a_rg1, a_rg2, a_new, a_llst, a_rd, Option.bind_some, ends_nx, ends_rt, ends_ex, leave_dat, List.map_cons, List.map_nil, List.length_cons, List.length_nil, Nat.reduceSub, Nat.reduceAdd, List.replicate_succ, List.replicate_zero, List.cons_append, List.nil_append, List.append_nil, List.getElem?_cons_zero, List.getElem?_cons_succ, List.set_cons_zero, List.set_cons_succ, List.take_length, cond_true, cond_false, Bool.not_true, Bool.not_false, dLt_i, dLe_i, dGt_i, dGe_i, dAdd_i, dSub_i, dIsN_eq, dNotN_eq, dLen_l, dLen_t, dIx_l, dIx_t, dList_l, dList_t, dTuple_l, dTuple_t, szB_s, o1_end, oSl_t, oSl_l, oSl_s, a_sort, dInt_i, a_put, pen_rd, pen_0, pen_1, pen_2, pen_p1, pen_p2, take_cons, forGo_nil, a_star, dats_map, a_leave_end, Option.map_some, cellOf_end, rd_end, set_end, take_end, lit2, lit3, Bool.true_and, Bool.false_and, Bool.and_true, Bool.and_false, Bool.true_or, Bool.false_or, Bool.or_true, Bool.or_false, Bool.not_not, a_sl, a_pNo, a_pEx, a_asInt, a_frz0, a_zip, zip2_t, zip2_l, a_enum, enum1_l, enum1_t], fun _ => by simp -implicitDefEqProofs only [a_fn, a_seq, seq_nx, seq_rt, seq_ex, seq_bk, seq_ct, seq_cond, ends_cond, c_ok, c_dat, c_bl, c_int, c_and, c_or, c_nand, a_sif, a_ret, a_set, a_nils, a_tg, a_expr, a_raise, a_par, Res.bind_ok, Res.bind_ex, Res.bindS_ok, Res.bindS_ex, a_var0, a_c, a_x2, a_o2, a_res1, a_xN, a_cons, a_nil, a_o1, a_xN1, a_tup, a_lst, mkTup_eq, mkLst_eq, a_dats0, a_dats1, a_ret1, a_tBl, a_tTr, a_tNo, a_tAn, a_tOr, a_bool1, truth_bl, truth_non, truth_int, truth_lst, truth_tup, a_and, a_or, a_chain, a_boolK, a_not, a_nDV, a_neg, a_neg1, a_if, a_isi, a_oIsi, isi_int, isi_bool, isi_tuple, isi_list, isi_str, a_it, a_items_l, a_items_t, a_lc, a_wipe0, a_wipe1, a_gNm, a_gTp, a_gCo, a_gNo, a_yes, a_for, a_rg1, a_rg2, a_new, a_llst, a_rd, Option.bind_some, ends_nx, ends_rt, ends_ex, leave_dat, List.map_cons, List.map_nil, List.length_cons, List.length_nil, Nat.reduceSub, Nat.reduceAdd, List.replicate_succ, List.replicate_zero, List.cons_append, List.nil_append, List.append_nil, List.getElem?_cons_zero, List.getElem?_cons_succ, List.set_cons_zero, List.set_cons_succ, List.take_length, cond_true, cond_false, Bool.not_true, Bool.not_false, dLt_i, dLe_i, dGt_i, dGe_i, dAdd_i, dSub_i, dIsN_eq, dNotN_eq, dLen_l, dLen_t, dIx_l, dIx_t, dList_l, dList_t, dTuple_l, dTuple_t, szB_s, o1_end, oSl_t, oSl_l, oSl_s, a_sort, dInt_i, a_put, pen_rd, pen_0, pen_1, pen_2, pen_p1, pen_p2, take_cons, forGo_nil, a_star, dats_map, a_leave_end, Option.map_some, cellOf_end, rd_end, set_end, take_end, lit2, lit3, Bool.true_and, Bool.false_and, Bool.and_true, Bool.and_false, Bool.true_or, Bool.false_or, Bool.or_true, Bool.or_false, Bool.not_not, a_sl, a_pNo, a_pEx, a_asInt, a_frz0, a_zip, zip2_t, zip2_l, a_enum, enum1_l, enum1_t, id]⟩
      simp -implicitDefEqProofs only [a_fn, a_seq, seq_nx, seq_rt, seq_ex, seq_bk, seq_ct, seq_cond, ends_cond, c_ok, c_dat, c_bl, c_int, c_and, c_or, c_nand, a_sif, a_ret, a_set, a_nils, a_tg, a_expr, a_raise, a_par, Res.bind_ok, Res.bind_ex, Res.bindS_ok, Res.bindS_ex, a_var0, a_c, a_x2, a_o2, a_res1, a_xN, a_cons, a_nil, a_o1, a_xN1, a_tup, a_lst, mkTup_eq, mkLst_eq, a_dats0, a_dats1, a_ret1, a_tBl, a_tTr, a_tNo, a_tAn, a_tOr, a_bool1, truth_bl, truth_non, truth_int, truth_lst, truth_tup, a_and, a_or, a_chain, a_boolK, a_not, a_nDV, a_neg, a_neg1, a_if, a_isi, a_oIsi, isi_int, isi_bool, isi_tuple, isi_list, isi_str, a_it, a_items_l, a_items_t, a_lc, a_wipe0, a_wipe1, a_gNm, a_gTp, a_gCo, a_gNo, a_yes, a_for, a_rg1, a_rg2, a_new, a_llst, a_rd, Option.bind_some, ends_nx, ends_rt, ends_ex, leave_dat, List.map_cons, List.map_nil, List.length_cons, List.length_nil, Nat.reduceSub, Nat.reduceAdd, List.replicate_succ, List.replicate_zero, List.cons_append, List.nil_append, List.append_nil, List.getElem?_cons_zero, List.getElem?_cons_succ, List.set_cons_zero, List.set_cons_succ, List.take_length, cond_true, cond_false, Bool.not_true, Bool.not_false, dLt_i, dLe_i, dGt_i, dGe_i, dAdd_i, dSub_i, dIsN_eq, dNotN_eq, dLen_l, dLen_t, dIx_l, dIx_t, dList_l, dList_t, dTuple_l, dTuple_t, szB_s, o1_end, oSl_t, oSl_l, oSl_s, a_sort, dInt_i, a_put, pen_rd, pen_0, pen_1, pen_2, pen_p1, pen_p2, take_cons, forGo_nil, a_star, dats_map, a_leave_end, Option.map_some, cellOf_end, rd_end, set_end, take_end, lit2, lit3, Bool.true_and, Bool.false_and, Bool.and_true, Bool.and_false, Bool.true_or, Bool.false_or, Bool.or_true, Bool.or_false, Bool.not_not, a_sl, a_pNo, a_pEx, a_asInt, a_frz0, a_zip, zip2_t, zip2_l, a_enum, enum1_l, enum1_t, List.map_id]
      cases hv : xs.all isCol <;> simp -implicitDefEqProofs only [a_fn, a_seq, seq_nx, seq_rt, seq_ex, seq_bk, seq_ct, seq_cond, ends_cond, c_ok, c_dat, c_bl, c_int, c_and, c_or, c_nand, a_sif, a_ret, a_set, a_nils, a_tg, a_expr, a_raise, a_par, Res.bind_ok, Res.bind_ex, Res.bindS_ok, Res.bindS_ex, a_var0, a_c, a_x2, a_o2, a_res1, a_xN, a_cons, a_nil, a_o1, a_xN1, a_tup, a_lst, mkTup_eq, mkLst_eq, a_dats0, a_dats1, a_ret1, a_tBl, a_tTr, a_tNo, a_tAn, a_tOr, a_bool1, truth_bl, truth_non, truth_int, truth_lst, truth_tup, a_and, a_or, a_chain, a_boolK, a_not, a_nDV, a_neg, a_neg1, a_if, a_isi, a_oIsi, isi_int, isi_bool, isi_tuple, isi_list, isi_str, a_it, a_items_l, a_items_t, a_lc, a_wipe0, a_wipe1, a_gNm, a_gTp, a_gCo, a_gNo, a_yes, a_for, a_rg1, a_rg2, a_new, a_llst, a_rd, Option.bind_some, ends_nx, ends_rt, ends_ex, leave_dat, List.map_cons, List.map_nil, List.length_cons, List.length_nil, Nat.reduceSub, Nat.reduceAdd, List.replicate_succ, List.replicate_zero, List.cons_append, List.nil_append, List.append_nil, List.getElem?_cons_zero, List.getElem?_cons_succ, List.set_cons_zero, List.set_cons_succ, List.take_length, cond_true, cond_false, Bool.not_true, Bool.not_false, dLt_i, dLe_i, dGt_i, dGe_i, dAdd_i, dSub_i, dIsN_eq, dNotN_eq, dLen_l, dLen_t, dIx_l, dIx_t, dList_l, dList_t, dTuple_l, dTuple_t, szB_s, o1_end, oSl_t, oSl_l, oSl_s, a_sort, dInt_i, a_put, pen_rd, pen_0, pen_1, pen_2, pen_p1, pen_p2, take_cons, forGo_nil, a_star, dats_map, a_leave_end, Option.map_some, cellOf_end, rd_end, set_end, take_end, lit2, lit3, Bool.true_and, Bool.false_and, Bool.and_true, Bool.and_false, Bool.true_or, Bool.false_or, Bool.or_true, Bool.or_false, Bool.not_not, a_sl, a_pNo, a_pEx, a_asInt, a_frz0, a_zip, zip2_t, zip2_l, a_enum, enum1_l, enum1_t, hl]
  all_goals simp -implicitDefEqProofs only [D.isT, isCols, a_fn, a_seq, seq_nx, seq_rt, seq_ex, seq_bk, seq_ct, seq_cond, ends_cond, c_ok, c_dat, c_bl, c_int, c_and, c_or, c_nand, a_sif, a_ret, a_set, a_nils, a_tg, a_expr, a_raise, a_par, Res.bind_ok, Res.bind_ex, Res.bindS_ok, Res.bindS_ex, a_var0, a_c, a_x2, a_o2, a_res1, a_xN, a_cons, a_nil, a_o1, a_xN1, a_tup, a_lst, mkTup_eq, mkLst_eq, a_dats0, a_dats1, a_ret1, a_tBl, a_tTr, a_tNo, a_tAn, a_tOr, a_bool1, truth_bl, truth_non, truth_int, truth_lst, truth_tup, a_and, a_or, a_chain, a_boolK, a_not, a_nDV, a_neg, a_neg1, a_if, a_isi, a_oIsi, isi_int, isi_bool, isi_tuple, isi_list, isi_str, a_it, a_items_l, a_items_t, a_lc, a_wipe0, a_wipe1, a_gNm, a_gTp, a_gCo, a_gNo, a_yes, a_for, a_rg1, a_rg2, a_new, a_llst, a_rd, Option.bind_some, ends_nx, ends_rt, ends_ex, leave_dat, List.map_cons, List.map_nil, List.length_cons, List.length_nil, Nat.reduceSub, Nat.reduceAdd, List.replicate_succ, List.replicate_zero, List.cons_append, List.nil_append, List.append_nil, List.getElem?_cons_zero, List.getElem?_cons_succ, List.set_cons_zero, List.set_cons_succ, List.take_length, cond_true, cond_false, Bool.not_true, Bool.not_false, dLt_i, dLe_i, dGt_i, dGe_i, dAdd_i, dSub_i, dIsN_eq, dNotN_eq, dLen_l, dLen_t, dIx_l, dIx_t, dList_l, dList_t, dTuple_l, dTuple_t, szB_s, o1_end, oSl_t, oSl_l, oSl_s, a_sort, dInt_i, a_put, pen_rd, pen_0, pen_1, pen_2, pen_p1, pen_p2, take_cons, forGo_nil, a_star, dats_map, a_leave_end, Option.map_some, cellOf_end, rd_end, set_end, take_end, lit2, lit3, Bool.true_and, Bool.false_and, Bool.and_true, Bool.and_false, Bool.true_or, Bool.false_or, Bool.or_true, Bool.or_false, Bool.not_not, a_sl, a_pNo, a_pEx, a_asInt, a_frz0, a_zip, zip2_t, zip2_l, a_enum, enum1_l, enum1_t]
theorem isCols_cases {d : D} (h : isCols d = true) : ∃ cs : List D, d = .tup cs ∧ 1 ≤ cs.length ∧ cs.length ≤ 4 ∧ ∀ c ∈ cs, isCol c = true := by
  cases d <;> simp only [isCols, Bool.false_eq_true] at h
  rename_i xs
  simp only [Bool.and_eq_true, decide_eq_true_eq, List.all_eq_true] at h
  exact ⟨xs, rfl, by omega, by omega, h.2.1⟩
theorem require_columns_ok (d : D) (S : Store) : g_require_columns [.dat d] S = bif isCols d then .ok (.dat .non) S else .ex "InvalidColumns" S := by
  unfold g_require_columns s_require_columns
  simp -implicitDefEqProofs only [a_fn, a_seq, seq_nx, seq_rt, seq_ex, seq_bk, seq_ct, seq_cond, ends_cond, c_ok, c_dat, c_bl, c_int, c_and, c_or, c_nand, a_sif, a_ret, a_set, a_nils, a_tg, a_expr, a_raise, a_par, Res.bind_ok, Res.bind_ex, Res.bindS_ok, Res.bindS_ex, a_var0, a_c, a_x2, a_o2, a_res1, a_xN, a_cons, a_nil, a_o1, a_xN1, a_tup, a_lst, mkTup_eq, mkLst_eq, a_dats0, a_dats1, a_ret1, a_tBl, a_tTr, a_tNo, a_tAn, a_tOr, a_bool1, truth_bl, truth_non, truth_int, truth_lst, truth_tup, a_and, a_or, a_chain, a_boolK, a_not, a_nDV, a_neg, a_neg1, a_if, a_isi, a_oIsi, isi_int, isi_bool, isi_tuple, isi_list, isi_str, a_it, a_items_l, a_items_t, a_lc, a_wipe0, a_wipe1, a_gNm, a_gTp, a_gCo, a_gNo, a_yes, a_for, a_rg1, a_rg2, a_new, a_llst, a_rd, Option.bind_some, ends_nx, ends_rt, ends_ex, leave_dat, List.map_cons, List.map_nil, List.length_cons, List.length_nil, Nat.reduceSub, Nat.reduceAdd, List.replicate_succ, List.replicate_zero, List.cons_append, List.nil_append, List.append_nil, List.getElem?_cons_zero, List.getElem?_cons_succ, List.set_cons_zero, List.set_cons_succ, List.take_length, cond_true, cond_false, Bool.not_true, Bool.not_false, dLt_i, dLe_i, dGt_i, dGe_i, dAdd_i, dSub_i, dIsN_eq, dNotN_eq, dLen_l, dLen_t, dIx_l, dIx_t, dList_l, dList_t, dTuple_l, dTuple_t, szB_s, o1_end, oSl_t, oSl_l, oSl_s, a_sort, dInt_i, a_put, pen_rd, pen_0, pen_1, pen_2, pen_p1, pen_p2, take_cons, forGo_nil, a_star, dats_map, a_leave_end, Option.map_some, cellOf_end, rd_end, set_end, take_end, lit2, lit3, Bool.true_and, Bool.false_and, Bool.and_true, Bool.and_false, Bool.true_or, Bool.false_or, Bool.or_true, Bool.or_false, Bool.not_not, a_sl, a_pNo, a_pEx, a_asInt, a_frz0, a_zip, zip2_t, zip2_l, a_enum, enum1_l, enum1_t, is_columns_ok]
  cases isCols d <;> simp -implicitDefEqProofs only [a_fn, a_seq, seq_nx, seq_rt, seq_ex, seq_bk, seq_ct, seq_cond, ends_cond, c_ok, c_dat, c_bl, c_int, c_and, c_or, c_nand, a_sif, a_ret, a_set, a_nils, a_tg, a_expr, a_raise, a_par, Res.bind_ok, Res.bind_ex, Res.bindS_ok, Res.bindS_ex, a_var0, a_c, a_x2, a_o2, a_res1, a_xN, a_cons, a_nil, a_o1, a_xN1, a_tup, a_lst, mkTup_eq, mkLst_eq, a_dats0, a_dats1, a_ret1, a_tBl, a_tTr, a_tNo, a_tAn, a_tOr, a_bool1, truth_bl, truth_non, truth_int, truth_lst, truth_tup, a_and, a_or, a_chain, a_boolK, a_not, a_nDV, a_neg, a_neg1, a_if, a_isi, a_oIsi, isi_int, isi_bool, isi_tuple, isi_list, isi_str, a_it, a_items_l, a_items_t, a_lc, a_wipe0, a_wipe1, a_gNm, a_gTp, a_gCo, a_gNo, a_yes, a_for, a_rg1, a_rg2, a_new, a_llst, a_rd, Option.bind_some, ends_nx, ends_rt, ends_ex, leave_dat, List.map_cons, List.map_nil, List.length_cons, List.length_nil, Nat.reduceSub, Nat.reduceAdd, List.replicate_succ, List.replicate_zero, List.cons_append, List.nil_append, List.append_nil, List.getElem?_cons_zero, List.getElem?_cons_succ, List.set_cons_zero, List.set_cons_succ, List.take_length, cond_true, cond_false, Bool.not_true, Bool.not_false, dLt_i, dLe_i, dGt_i, dGe_i, dAdd_i, dSub_i, dIsN_eq, dNotN_eq, dLen_l, dLen_t, dIx_l, dIx_t, dList_l, dList_t, dTuple_l, dTuple_t, szB_s, o1_end, oSl_t, oSl_l, oSl_s, a_sort, dInt_i, a_put, pen_rd, pen_0, pen_1, pen_2, pen_p1, pen_p2, take_cons, forGo_nil, a_star, dats_map, a_leave_end, Option.map_some, cellOf_end, rd_end, set_end, take_end, lit2, lit3, Bool.true_and, Bool.false_and, Bool.and_true, Bool.and_false, Bool.true_or, Bool.false_or, Bool.or_true, Bool.or_false, Bool.not_not, a_sl, a_pNo, a_pEx, a_asInt, a_frz0, a_zip, zip2_t, zip2_l, a_enum, enum1_l, enum1_t]
theorem isBtw_int {d : D} {a b : Int} (h : isBtw d a b = true) : ∃ i, d = .int i ∧ a ≤ i ∧ i ≤ b := by
  cases d <;> simp only [isBtw, Bool.false_eq_true, Bool.and_eq_true, decide_eq_true_eq] at h
  exact ⟨_, rfl, h.1, h.2⟩
def colAt (cs : List D) : D → D | .int i => cs.getD i.toNat .non | _ => .non
def isRow (cs : List D) : D → Bool
  | .tup xs => ((xs.length : Int) == cs.length) && (cs.zip xs).all fun p => isValOf p.1 p.2
  | _ => false
def isTab (cs : List D) : D → Bool
  | .tup xs => !decide ((xs.length : Int) > 8) && xs.all (isRow cs)
  | _ => false
def isEnt (cs : List D) : D → Bool
  | .tup [a, b] => isBtw a 0 (cs.length - 1) && (b.isN || isValOf (colAt cs a) b)
  | _ => false
def fstI : D → Int | .tup (.int i :: _) => i | _ => 0
def itemsD : D → List D | .tup xs => xs | .lst xs => xs | _ => []
def isGiv (cs : List D) : D → Bool
  | .tup xs => xs.all (isEnt cs) && decide (xs.map fstI = sset (xs.map fstI))
  | _ => false
theorem isEnt_cases {cs : List D} {d : D} (h : isEnt cs d = true) : ∃ i b, d = .tup [.int i, b] ∧ 0 ≤ i ∧ i < cs.length ∧ (b = .non ∨ isValOf (cs.getD i.toNat .non) b = true) := by
  unfold isEnt at h
  split at h
  · simp only [Bool.and_eq_true] at h
    obtain ⟨i, rfl, h0, h1⟩ := isBtw_int h.1
    rename_i b
    refine ⟨i, b, rfl, h0, by omega, ?_⟩
    have h2 := h.2
    cases b <;> first | exact .inl rfl | (right; simpa [D.isN, colAt] using h2)
  · cases h
def isRul (cs : List D) : D → Bool
  | .tup [g, c, w] => isGiv cs g && ((isBtw c 0 (cs.length - 1) && !(inC c (.tup ((itemsD g).map fun e => .int (fstI e))))) && (w.isN || (isValOf (colAt cs c) w && (itemsD g).all fun e => match e with | .tup [_, b] => !b.isN | _ => false)))
  | _ => false
theorem isGiv_cases {cs : List D} {d : D} (h : isGiv cs d = true) : ∃ xs, d = .tup xs ∧ (∀ x ∈ xs, isEnt cs x = true) ∧ xs.map fstI = sset (xs.map fstI) := by
  cases d <;> simp only [isGiv, Bool.false_eq_true, Bool.and_eq_true, decide_eq_true_eq, List.all_eq_true] at h
  exact ⟨_, rfl, h.1, h.2⟩
def short (d : D) : Prop := match d with | .tup (g :: _) => (itemsD g).length < 64 | _ => True
def isRuls (cs : List D) : D → Bool
  | .tup xs => !decide ((xs.length : Int) > 8) && xs.all (isRul cs)
  | _ => false
abbrev Ent := Nat × Option Int
abbrev Giv := List Ent
structure Rul where
  g : Giv
  c : Nat
  w : Option Int
abbrev Row := List Int
abbrev Tab := List Row
def oD : Option Int → D | none => .non | some i => .int i
def eD (p : Ent) : D := .tup [.int (p.1 : Nat), oD p.2]
def gD (g : Giv) : D := .tup (g.map eD)
def rowD (r : Row) : D := .tup (r.map .int)
def tabD (t : Tab) : D := .tup (t.map rowD)
def rulD (r : Rul) : D := .tup [gD r.g, .int (r.c : Nat), oD r.w]
def mEnt (r : Row) (p : Ent) : Bool := match p.2 with | none => true | some v => r.getD p.1 0 == v
def matches_ (g : Giv) (r : Row) : Bool := g.all (mEnt r)
def agree (g : Giv) (r s : Row) : Bool := g.all fun p => r.getD p.1 0 == s.getD p.1 0
def okG (n : Nat) (g : Giv) : Prop := (∀ p ∈ g, p.1 < n) ∧ g.length ≤ 64
theorem okG_sz {n : Nat} {g : Giv} (h : okG n g) : szB g.length = true := by
  rw [← szB_iff]
  have := h.2
  unfold sizeLine
  omega
theorem oD_isN (o : Option Int) : (oD o).isN = o.isNone := by cases o <;> rfl
theorem dEq_io (i : Int) (o : Option Int) : dEq (.int i) (oD o) = some (.bl (match o with | none => false | some v => i == v)) := by
  cases o with
  | none => exact dEq_fit (n := 0) (m := 0) rfl rfl
  | some v => exact dEq_ii i v
theorem dNe_io (i : Int) (o : Option Int) : dNe (.int i) (oD o) = some (.bl (match o with | none => true | some v => !(i == v))) := by
  cases o with
  | none => exact dNe_fit (n := 0) (m := 0) rfl rfl
  | some v => exact dNe_ii i v
structure okR (n : Nat) (r : Rul) : Prop where
  g : okG n r.g
  c : r.c < n
structure okT (n : Nat) (t : Tab) : Prop where
  len : t.length ≤ 8
  row : ∀ r ∈ t, r.length = n
theorem okT.get {n i : Nat} {t : Tab} (h : okT n t) (hi : i < t.length) : (t.getD i []).length = n := h.row _ (getD_mem hi)
def lD (l : List Nat) : D := .tup (l.map fun i => .int ((i : Nat) : Int))
def rulsD (rs : List Rul) : D := .tup (rs.map rulD)
structure okRs (n : Nat) (rs : List Rul) : Prop where
  len : rs.length ≤ 8
  ok : ∀ r ∈ rs, okR n r
theorem short_rulD {n : Nat} {r : Rul} (h : okR n r) (h2 : r.g.length < 64) : short (rulD r) := by
  show (itemsD (gD r.g)).length < 64
  simpa [itemsD, gD] using h2
theorem fits_lD : ∀ l : List (List Nat), D.fits 1 (l.map lD) = true := fun l => fits_iff.mpr fun x hx => by
  obtain ⟨a, _, rfl⟩ := List.mem_map.mp hx
  show D.fits 0 (a.map fun i => .int ((i : Nat) : Int)) = true
  exact fits_iff.mpr fun y hy => by
    obtain ⟨b, _, rfl⟩ := List.mem_map.mp hy
    rfl
theorem fits_nats (l : List Nat) : D.fits 0 (l.map fun i => .int ((i : Nat) : Int)) = true := fits_iff.mpr fun y hy => by
  obtain ⟨b, _, rfl⟩ := List.mem_map.mp hy
  rfl
/-! ## rules as data: plain, small -/
theorem oD_inj {a b : Option Int} : oD a = oD b ↔ a = b := by cases a <;> cases b <;> simp [oD]
theorem eD_inj {p q : Ent} : eD p = eD q ↔ p = q := by
  obtain ⟨a, b⟩ := p; obtain ⟨c, d⟩ := q
  simp only [eD, D.tup.injEq, List.cons.injEq, D.int.injEq, oD_inj, and_true, Prod.mk.injEq]
  constructor
  · rintro ⟨h1, h2⟩; exact ⟨by omega, h2⟩
  · rintro ⟨h1, h2⟩; exact ⟨by omega, h2⟩
theorem mapE_inj : ∀ {g h : Giv}, g.map eD = h.map eD ↔ g = h
  | [], [] => by simp
  | [], _ :: _ => by simp
  | _ :: _, [] => by simp
  | p :: g, q :: h => by simp only [List.map_cons, List.cons.injEq, eD_inj, mapE_inj]
theorem gD_inj {g h : Giv} : gD g = gD h ↔ g = h := by simp only [gD, D.tup.injEq, mapE_inj]
theorem oD_noB (o : Option Int) : (oD o).noB = true := by cases o <;> rfl
theorem oD_fit (n : Nat) (o : Option Int) : (oD o).fit n = true := by cases o <;> cases n <;> rfl
theorem eD_noB (p : Ent) : (eD p).noB = true := by simp [eD, D.noB, D.noBs, oD_noB]
theorem eD_fit (n : Nat) (p : Ent) : (eD p).fit (n + 1) = true := by simp [eD, D.fit, D.fits, oD_fit]
theorem mapE_noB (g : Giv) : D.noBs (g.map eD) = true := noBs_iff.mpr fun x hx => by obtain ⟨p, _, rfl⟩ := List.mem_map.mp hx; exact eD_noB p
theorem mapE_fit (n : Nat) (g : Giv) : D.fits (n + 1) (g.map eD) = true := fits_iff.mpr fun x hx => by obtain ⟨p, _, rfl⟩ := List.mem_map.mp hx; exact eD_fit n p
theorem gD_noB (g : Giv) : (gD g).noB = true := by simp only [gD, D.noB, mapE_noB]
theorem gD_fit (n : Nat) (g : Giv) : (gD g).fit (n + 2) = true := by simp only [gD, D.fit, mapE_fit]
theorem rulD_noB (r : Rul) : (rulD r).noB = true := by simp [rulD, D.noB, D.noBs, gD_noB, oD_noB]
theorem rulD_fit (n : Nat) (r : Rul) : (rulD r).fit (n + 3) = true := by simp [rulD, D.fit, D.fits, gD_fit, oD_fit]
theorem mem_mapE {p : Ent} {g : Giv} : eD p ∈ g.map eD ↔ p ∈ g := by
  rw [List.mem_map]
  constructor
  · rintro ⟨q, hq, e⟩; exact eD_inj.mp e ▸ hq
  · intro h; exact ⟨p, h, rfl⟩
end T08

set_option maxHeartbeats 400000
namespace T08
open PySem PySem.Spec PyProof.Rows L2 DL
/-! ## small values -/
abbrev BIG : Int := 10000000000000000000000000000000000000000
def okC (c : D) : Prop := isCol c = true ∧ c.tiny = true ∧ ∀ ns : List Int, c = .tup (ns.map .int) → ∀ v ∈ ns, v < 1000000000000000000000000000000
def okV (c : D) (v : Int) : Prop := isValOf c (.int v) = true ∧ v < BIG
theorem isVal_nn {c : D} {v : Int} (h : isValOf c (.int v) = true) : 0 ≤ v := by
  simp only [isValOf, isVal, Bool.and_eq_true, decide_eq_true_eq] at h
  exact h.1
theorem okV.tiny {c : D} {v : Int} (h : okV c v) : (D.int v).tiny = true := by
  have := isVal_nn h.1
  have := h.2
  simp only [D.tiny, decide_eq_true_eq]
  have e : (10 : Nat) ^ 40 = 10000000000000000000000000000000000000000 := by decide
  unfold BIG at this
  omega
theorem nn_tiny {n : Nat} (h : n ≤ 1000000) : (D.int (n : Nat)).tiny = true := by
  simp only [D.tiny, decide_eq_true_eq]
  have e : (10 : Nat) ^ 40 = 10000000000000000000000000000000000000000 := by decide
  omega
theorem nn_t {n : Nat} (h : n ≤ 1000000) : decide (((n : Nat) : Int).natAbs < 10 ^ 40) = true := nn_tiny h
theorem okV.t {c : D} {v : Int} (h : okV c v) : decide (v.natAbs < 10 ^ 40) = true := h.tiny
def primes : List Int := [2147483629, 2147483587, 2147483579, 2147483563, 2147483549, 2147483543, 2147483497, 2147483489, 2147483477, 2147483423, 2147483399, 2147483353, 2147483323]
theorem prime_at (k : Int) : ∃ p : Int, atI [D.int 2147483629, D.int 2147483587, D.int 2147483579, D.int 2147483563, D.int 2147483549, D.int 2147483543, D.int 2147483497, D.int 2147483489, D.int 2147483477, D.int 2147483423, D.int 2147483399, D.int 2147483353, D.int 2147483323] (k % 13) = some (.int p) ∧ 0 < p ∧ p < 2147483648 := by
  have h0 : 0 ≤ k % 13 := Int.emod_nonneg _ (by decide)
  have h1 : k % 13 < 13 := Int.emod_lt_of_pos _ (by decide)
  have e : atI (primes.map D.int) (((k % 13).toNat : Nat) : Int) = some (D.int (primes.getD (k % 13).toNat 0)) := atI_map D.int 0 (by simp [primes]; omega)
  rw [Int.toNat_of_nonneg h0] at e
  have hm : primes.getD (k % 13).toNat 0 ∈ primes := by
    rw [List.getD_eq_getElem?_getD, List.getElem?_eq_getElem (by simp [primes]; omega)]
    exact List.getElem_mem _
  have hb : ∀ p ∈ primes, 0 < p ∧ p < 2147483648 := by decide
  exact ⟨_, e, hb _ hm⟩
theorem p10_18 : dPow (.int 10) (.int 18) = some (.int 1000000000000000000) := dPow_i (i := 10) (j := 18) (by decide) (by decide)
theorem p10_17 : dPow (.int 10) (.int 17) = some (.int 100000000000000000) := dPow_i (i := 10) (j := 17) (by decide) (by decide)
theorem p10_29 : dPow (.int 10) (.int 29) = some (.int 100000000000000000000000000000) := dPow_i (i := 10) (j := 29) (by decide) (by decide)
theorem pow_s {i : Int} (h0 : 0 ≤ i) (h1 : i < 18446744073709551616) : dPow (.int i) (.int 3) = some (.int (i ^ 3)) ∧ dPow (.int i) (.int 5) = some (.int (i ^ 5)) := by
  have : i.natAbs < 2 ^ 64 := by
    have : i.natAbs < 18446744073709551616 := by omega
    exact this
  exact ⟨dPow_i (j := 3) this (by decide), dPow_i (j := 5) this (by decide)⟩
theorem spread_ok (c : Int) (a : Nat) (ha : a ≤ 2147483648) (S : Store) : ∃ r : Int, g_l_law_spread [.dat (.int c), .dat (.int (a : Nat))] S = .ok (.dat (.int r)) S := by
  unfold g_l_law_spread s_l_law_spread
  simp -implicitDefEqProofs only [a_fn, a_seq, seq_nx, seq_rt, seq_ex, seq_bk, seq_ct, seq_cond, ends_cond, c_ok, c_dat, c_bl, c_int, c_and, c_or, c_nand, a_sif, a_ret, a_set, a_nils, a_tg, a_expr, a_raise, a_par, Res.bind_ok, Res.bind_ex, Res.bindS_ok, Res.bindS_ex, a_var0, a_c, a_x2, a_o2, a_res1, a_xN, a_cons, a_nil, a_o1, a_xN1, a_tup, a_lst, mkTup_eq, mkLst_eq, a_dats0, a_dats1, a_ret1, a_tBl, a_tTr, a_tNo, a_tAn, a_tOr, a_bool1, truth_bl, truth_non, truth_int, truth_lst, truth_tup, a_and, a_or, a_chain, a_boolK, a_not, a_nDV, a_neg, a_neg1, a_if, a_isi, a_oIsi, isi_int, isi_bool, isi_tuple, isi_list, isi_str, a_it, a_items_l, a_items_t, a_lc, a_wipe0, a_wipe1, a_gNm, a_gTp, a_gCo, a_gNo, a_yes, a_for, a_rg1, a_rg2, a_new, a_llst, a_rd, Option.bind_some, ends_nx, ends_rt, ends_ex, leave_dat, List.map_cons, List.map_nil, List.length_cons, List.length_nil, Nat.reduceSub, Nat.reduceAdd, List.replicate_succ, List.replicate_zero, List.cons_append, List.nil_append, List.append_nil, List.getElem?_cons_zero, List.getElem?_cons_succ, List.set_cons_zero, List.set_cons_succ, List.take_length, cond_true, cond_false, Bool.not_true, Bool.not_false, dLt_i, dLe_i, dGt_i, dGe_i, dAdd_i, dSub_i, dIsN_eq, dNotN_eq, dLen_l, dLen_t, dIx_l, dIx_t, dList_l, dList_t, dTuple_l, dTuple_t, szB_s, o1_end, oSl_t, oSl_l, oSl_s, a_sort, dInt_i, a_put, pen_rd, pen_0, pen_1, pen_2, pen_p1, pen_p2, take_cons, forGo_nil, a_star, dats_map, a_leave_end, Option.map_some, cellOf_end, rd_end, set_end, take_end, lit2, lit3, Bool.true_and, Bool.false_and, Bool.and_true, Bool.and_false, Bool.true_or, Bool.false_or, Bool.or_true, Bool.or_false, Bool.not_not, a_sl, a_pNo, a_pEx, a_asInt, a_frz0, a_zip, zip2_t, zip2_l, a_enum, enum1_l, enum1_t, p10_18]
  cases decide (c ≥ 1000000000000000000)
  · simp -implicitDefEqProofs only [a_fn, a_seq, seq_nx, seq_rt, seq_ex, seq_bk, seq_ct, seq_cond, ends_cond, c_ok, c_dat, c_bl, c_int, c_and, c_or, c_nand, a_sif, a_ret, a_set, a_nils, a_tg, a_expr, a_raise, a_par, Res.bind_ok, Res.bind_ex, Res.bindS_ok, Res.bindS_ex, a_var0, a_c, a_x2, a_o2, a_res1, a_xN, a_cons, a_nil, a_o1, a_xN1, a_tup, a_lst, mkTup_eq, mkLst_eq, a_dats0, a_dats1, a_ret1, a_tBl, a_tTr, a_tNo, a_tAn, a_tOr, a_bool1, truth_bl, truth_non, truth_int, truth_lst, truth_tup, a_and, a_or, a_chain, a_boolK, a_not, a_nDV, a_neg, a_neg1, a_if, a_isi, a_oIsi, isi_int, isi_bool, isi_tuple, isi_list, isi_str, a_it, a_items_l, a_items_t, a_lc, a_wipe0, a_wipe1, a_gNm, a_gTp, a_gCo, a_gNo, a_yes, a_for, a_rg1, a_rg2, a_new, a_llst, a_rd, Option.bind_some, ends_nx, ends_rt, ends_ex, leave_dat, List.map_cons, List.map_nil, List.length_cons, List.length_nil, Nat.reduceSub, Nat.reduceAdd, List.replicate_succ, List.replicate_zero, List.cons_append, List.nil_append, List.append_nil, List.getElem?_cons_zero, List.getElem?_cons_succ, List.set_cons_zero, List.set_cons_succ, List.take_length, cond_true, cond_false, Bool.not_true, Bool.not_false, dLt_i, dLe_i, dGt_i, dGe_i, dAdd_i, dSub_i, dIsN_eq, dNotN_eq, dLen_l, dLen_t, dIx_l, dIx_t, dList_l, dList_t, dTuple_l, dTuple_t, szB_s, o1_end, oSl_t, oSl_l, oSl_s, a_sort, dInt_i, a_put, pen_rd, pen_0, pen_1, pen_2, pen_p1, pen_p2, take_cons, forGo_nil, a_star, dats_map, a_leave_end, Option.map_some, cellOf_end, rd_end, set_end, take_end, lit2, lit3, Bool.true_and, Bool.false_and, Bool.and_true, Bool.and_false, Bool.true_or, Bool.false_or, Bool.or_true, Bool.or_false, Bool.not_not, a_sl, a_pNo, a_pEx, a_asInt, a_frz0, a_zip, zip2_t, zip2_l, a_enum, enum1_l, enum1_t, dAdd_l]
    have m0 : dMod (.int c) (.int 1000000007) = some (.int (c % 1000000007)) := dMod_i (by decide)
    have m1 : dMulA (.int 2) (.int (a : Nat)) = some (.int (2 * (a : Nat))) := dMul_i (small_of (by decide) (by decide)) (small_of (by omega) (by omega))
    have b0 : 0 ≤ c % 1000000007 := Int.emod_nonneg _ (by decide)
    have b1 : c % 1000000007 < 1000000007 := Int.emod_lt_of_pos _ (by decide)
    generalize c % 1000000007 = u at *
    have m2 : dMulA (.int u) (.int (2 * (a : Nat) + 69069)) = some (.int (u * (2 * (a : Nat) + 69069))) := dMul_i (small_of (by omega) (by omega)) (small_of (by omega) (by omega))
    have m3 : dMulA (.int (a : Nat)) (.int 40503) = some (.int ((a : Nat) * 40503)) := dMul_i (small_of (by omega) (by omega)) (small_of (by decide) (by decide))
    have b2 : 0 ≤ u * (2 * (a : Nat) + 69069) := Int.mul_nonneg b0 (by omega)
    have b3 : u * (2 * (a : Nat) + 69069) ≤ 1000000007 * 4295036365 := Int.mul_le_mul (by omega) (by omega) (by omega) (by decide)
    simp -implicitDefEqProofs only [a_fn, a_seq, seq_nx, seq_rt, seq_ex, seq_bk, seq_ct, seq_cond, ends_cond, c_ok, c_dat, c_bl, c_int, c_and, c_or, c_nand, a_sif, a_ret, a_set, a_nils, a_tg, a_expr, a_raise, a_par, Res.bind_ok, Res.bind_ex, Res.bindS_ok, Res.bindS_ex, a_var0, a_c, a_x2, a_o2, a_res1, a_xN, a_cons, a_nil, a_o1, a_xN1, a_tup, a_lst, mkTup_eq, mkLst_eq, a_dats0, a_dats1, a_ret1, a_tBl, a_tTr, a_tNo, a_tAn, a_tOr, a_bool1, truth_bl, truth_non, truth_int, truth_lst, truth_tup, a_and, a_or, a_chain, a_boolK, a_not, a_nDV, a_neg, a_neg1, a_if, a_isi, a_oIsi, isi_int, isi_bool, isi_tuple, isi_list, isi_str, a_it, a_items_l, a_items_t, a_lc, a_wipe0, a_wipe1, a_gNm, a_gTp, a_gCo, a_gNo, a_yes, a_for, a_rg1, a_rg2, a_new, a_llst, a_rd, Option.bind_some, ends_nx, ends_rt, ends_ex, leave_dat, List.map_cons, List.map_nil, List.length_cons, List.length_nil, Nat.reduceSub, Nat.reduceAdd, List.replicate_succ, List.replicate_zero, List.cons_append, List.nil_append, List.append_nil, List.getElem?_cons_zero, List.getElem?_cons_succ, List.set_cons_zero, List.set_cons_succ, List.take_length, cond_true, cond_false, Bool.not_true, Bool.not_false, dLt_i, dLe_i, dGt_i, dGe_i, dAdd_i, dSub_i, dIsN_eq, dNotN_eq, dLen_l, dLen_t, dIx_l, dIx_t, dList_l, dList_t, dTuple_l, dTuple_t, szB_s, o1_end, oSl_t, oSl_l, oSl_s, a_sort, dInt_i, a_put, pen_rd, pen_0, pen_1, pen_2, pen_p1, pen_p2, take_cons, forGo_nil, a_star, dats_map, a_leave_end, Option.map_some, cellOf_end, rd_end, set_end, take_end, lit2, lit3, Bool.true_and, Bool.false_and, Bool.and_true, Bool.and_false, Bool.true_or, Bool.false_or, Bool.or_true, Bool.or_false, Bool.not_not, a_sl, a_pNo, a_pEx, a_asInt, a_frz0, a_zip, zip2_t, zip2_l, a_enum, enum1_l, enum1_t, m0, m1, m2, m3]
    generalize u * (2 * (a : Nat) + 69069) = x at *
    have q1 := (pow_s (i := x + (a : Nat) * 40503 + 977) (by omega) (by omega)).1
    have r0 : dMod (.int (a : Nat)) (.int 13) = some (.int (((a : Nat) : Int) % 13)) := dMod_i (by decide)
    obtain ⟨p, ep, p0, p1⟩ := prime_at (a : Nat)
    simp -implicitDefEqProofs only [a_fn, a_seq, seq_nx, seq_rt, seq_ex, seq_bk, seq_ct, seq_cond, ends_cond, c_ok, c_dat, c_bl, c_int, c_and, c_or, c_nand, a_sif, a_ret, a_set, a_nils, a_tg, a_expr, a_raise, a_par, Res.bind_ok, Res.bind_ex, Res.bindS_ok, Res.bindS_ex, a_var0, a_c, a_x2, a_o2, a_res1, a_xN, a_cons, a_nil, a_o1, a_xN1, a_tup, a_lst, mkTup_eq, mkLst_eq, a_dats0, a_dats1, a_ret1, a_tBl, a_tTr, a_tNo, a_tAn, a_tOr, a_bool1, truth_bl, truth_non, truth_int, truth_lst, truth_tup, a_and, a_or, a_chain, a_boolK, a_not, a_nDV, a_neg, a_neg1, a_if, a_isi, a_oIsi, isi_int, isi_bool, isi_tuple, isi_list, isi_str, a_it, a_items_l, a_items_t, a_lc, a_wipe0, a_wipe1, a_gNm, a_gTp, a_gCo, a_gNo, a_yes, a_for, a_rg1, a_rg2, a_new, a_llst, a_rd, Option.bind_some, ends_nx, ends_rt, ends_ex, leave_dat, List.map_cons, List.map_nil, List.length_cons, List.length_nil, Nat.reduceSub, Nat.reduceAdd, List.replicate_succ, List.replicate_zero, List.cons_append, List.nil_append, List.append_nil, List.getElem?_cons_zero, List.getElem?_cons_succ, List.set_cons_zero, List.set_cons_succ, List.take_length, cond_true, cond_false, Bool.not_true, Bool.not_false, dLt_i, dLe_i, dGt_i, dGe_i, dAdd_i, dSub_i, dIsN_eq, dNotN_eq, dLen_l, dLen_t, dIx_l, dIx_t, dList_l, dList_t, dTuple_l, dTuple_t, szB_s, o1_end, oSl_t, oSl_l, oSl_s, a_sort, dInt_i, a_put, pen_rd, pen_0, pen_1, pen_2, pen_p1, pen_p2, take_cons, forGo_nil, a_star, dats_map, a_leave_end, Option.map_some, cellOf_end, rd_end, set_end, take_end, lit2, lit3, Bool.true_and, Bool.false_and, Bool.and_true, Bool.and_false, Bool.true_or, Bool.false_or, Bool.or_true, Bool.or_false, Bool.not_not, a_sl, a_pNo, a_pEx, a_asInt, a_frz0, a_zip, zip2_t, zip2_l, a_enum, enum1_l, enum1_t, q1, r0, ep, dMod_i p0]
    generalize (x + (a : Nat) * 40503 + 977) ^ 3 = y
    have c0 : 0 ≤ y % p := Int.emod_nonneg _ (by omega)
    have c1 : y % p < p := Int.emod_lt_of_pos _ p0
    generalize y % p = one at *
    have n0 : dMod (.int c) (.int 65537) = some (.int (c % 65537)) := dMod_i (by decide)
    have d0 : 0 ≤ c % 65537 := Int.emod_nonneg _ (by decide)
    have d1 : c % 65537 < 65537 := Int.emod_lt_of_pos _ (by decide)
    generalize c % 65537 = v at *
    have m4 : dMulA (.int one) (.int ((a : Nat) + 3)) = some (.int (one * ((a : Nat) + 3))) := dMul_i (small_of (by omega) (by omega)) (small_of (by omega) (by omega))
    have b4 : 0 ≤ one * ((a : Nat) + 3) := Int.mul_nonneg c0 (by omega)
    have b5 : one * ((a : Nat) + 3) ≤ 2147483648 * 2147483651 := Int.mul_le_mul (by omega) (by omega) (by omega) (by decide)
    simp -implicitDefEqProofs only [a_fn, a_seq, seq_nx, seq_rt, seq_ex, seq_bk, seq_ct, seq_cond, ends_cond, c_ok, c_dat, c_bl, c_int, c_and, c_or, c_nand, a_sif, a_ret, a_set, a_nils, a_tg, a_expr, a_raise, a_par, Res.bind_ok, Res.bind_ex, Res.bindS_ok, Res.bindS_ex, a_var0, a_c, a_x2, a_o2, a_res1, a_xN, a_cons, a_nil, a_o1, a_xN1, a_tup, a_lst, mkTup_eq, mkLst_eq, a_dats0, a_dats1, a_ret1, a_tBl, a_tTr, a_tNo, a_tAn, a_tOr, a_bool1, truth_bl, truth_non, truth_int, truth_lst, truth_tup, a_and, a_or, a_chain, a_boolK, a_not, a_nDV, a_neg, a_neg1, a_if, a_isi, a_oIsi, isi_int, isi_bool, isi_tuple, isi_list, isi_str, a_it, a_items_l, a_items_t, a_lc, a_wipe0, a_wipe1, a_gNm, a_gTp, a_gCo, a_gNo, a_yes, a_for, a_rg1, a_rg2, a_new, a_llst, a_rd, Option.bind_some, ends_nx, ends_rt, ends_ex, leave_dat, List.map_cons, List.map_nil, List.length_cons, List.length_nil, Nat.reduceSub, Nat.reduceAdd, List.replicate_succ, List.replicate_zero, List.cons_append, List.nil_append, List.append_nil, List.getElem?_cons_zero, List.getElem?_cons_succ, List.set_cons_zero, List.set_cons_succ, List.take_length, cond_true, cond_false, Bool.not_true, Bool.not_false, dLt_i, dLe_i, dGt_i, dGe_i, dAdd_i, dSub_i, dIsN_eq, dNotN_eq, dLen_l, dLen_t, dIx_l, dIx_t, dList_l, dList_t, dTuple_l, dTuple_t, szB_s, o1_end, oSl_t, oSl_l, oSl_s, a_sort, dInt_i, a_put, pen_rd, pen_0, pen_1, pen_2, pen_p1, pen_p2, take_cons, forGo_nil, a_star, dats_map, a_leave_end, Option.map_some, cellOf_end, rd_end, set_end, take_end, lit2, lit3, Bool.true_and, Bool.false_and, Bool.and_true, Bool.and_false, Bool.true_or, Bool.false_or, Bool.or_true, Bool.or_false, Bool.not_not, a_sl, a_pNo, a_pEx, a_asInt, a_frz0, a_zip, zip2_t, zip2_l, a_enum, enum1_l, enum1_t, n0, m4]
    generalize one * ((a : Nat) + 3) = z at *
    have q2 := (pow_s (i := z + (v + 5)) (by omega) (by omega)).2
    have r1 : dMod (.int ((a : Nat) + 5)) (.int 13) = some (.int ((((a : Nat) : Int) + 5) % 13)) := dMod_i (by decide)
    obtain ⟨p', ep', p0', p1'⟩ := prime_at ((a : Nat) + 5)
    simp -implicitDefEqProofs only [a_fn, a_seq, seq_nx, seq_rt, seq_ex, seq_bk, seq_ct, seq_cond, ends_cond, c_ok, c_dat, c_bl, c_int, c_and, c_or, c_nand, a_sif, a_ret, a_set, a_nils, a_tg, a_expr, a_raise, a_par, Res.bind_ok, Res.bind_ex, Res.bindS_ok, Res.bindS_ex, a_var0, a_c, a_x2, a_o2, a_res1, a_xN, a_cons, a_nil, a_o1, a_xN1, a_tup, a_lst, mkTup_eq, mkLst_eq, a_dats0, a_dats1, a_ret1, a_tBl, a_tTr, a_tNo, a_tAn, a_tOr, a_bool1, truth_bl, truth_non, truth_int, truth_lst, truth_tup, a_and, a_or, a_chain, a_boolK, a_not, a_nDV, a_neg, a_neg1, a_if, a_isi, a_oIsi, isi_int, isi_bool, isi_tuple, isi_list, isi_str, a_it, a_items_l, a_items_t, a_lc, a_wipe0, a_wipe1, a_gNm, a_gTp, a_gCo, a_gNo, a_yes, a_for, a_rg1, a_rg2, a_new, a_llst, a_rd, Option.bind_some, ends_nx, ends_rt, ends_ex, leave_dat, List.map_cons, List.map_nil, List.length_cons, List.length_nil, Nat.reduceSub, Nat.reduceAdd, List.replicate_succ, List.replicate_zero, List.cons_append, List.nil_append, List.append_nil, List.getElem?_cons_zero, List.getElem?_cons_succ, List.set_cons_zero, List.set_cons_succ, List.take_length, cond_true, cond_false, Bool.not_true, Bool.not_false, dLt_i, dLe_i, dGt_i, dGe_i, dAdd_i, dSub_i, dIsN_eq, dNotN_eq, dLen_l, dLen_t, dIx_l, dIx_t, dList_l, dList_t, dTuple_l, dTuple_t, szB_s, o1_end, oSl_t, oSl_l, oSl_s, a_sort, dInt_i, a_put, pen_rd, pen_0, pen_1, pen_2, pen_p1, pen_p2, take_cons, forGo_nil, a_star, dats_map, a_leave_end, Option.map_some, cellOf_end, rd_end, set_end, take_end, lit2, lit3, Bool.true_and, Bool.false_and, Bool.and_true, Bool.and_false, Bool.true_or, Bool.false_or, Bool.or_true, Bool.or_false, Bool.not_not, a_sl, a_pNo, a_pEx, a_asInt, a_frz0, a_zip, zip2_t, zip2_l, a_enum, enum1_l, enum1_t, q2, r1, ep', dMod_i p0']
    generalize (z + (v + 5)) ^ 5 = y
    have c0' : 0 ≤ y % p' := Int.emod_nonneg _ (by omega)
    have c1' : y % p' < p' := Int.emod_lt_of_pos _ p0'
    generalize y % p' = two at *
    have n1 : dMod (.int one) (.int 1009) = some (.int (one % 1009)) := dMod_i (by decide)
    have e0 : 0 ≤ one % 1009 := Int.emod_nonneg _ (by decide)
    have e1 : one % 1009 < 1009 := Int.emod_lt_of_pos _ (by decide)
    simp -implicitDefEqProofs only [a_fn, a_seq, seq_nx, seq_rt, seq_ex, seq_bk, seq_ct, seq_cond, ends_cond, c_ok, c_dat, c_bl, c_int, c_and, c_or, c_nand, a_sif, a_ret, a_set, a_nils, a_tg, a_expr, a_raise, a_par, Res.bind_ok, Res.bind_ex, Res.bindS_ok, Res.bindS_ex, a_var0, a_c, a_x2, a_o2, a_res1, a_xN, a_cons, a_nil, a_o1, a_xN1, a_tup, a_lst, mkTup_eq, mkLst_eq, a_dats0, a_dats1, a_ret1, a_tBl, a_tTr, a_tNo, a_tAn, a_tOr, a_bool1, truth_bl, truth_non, truth_int, truth_lst, truth_tup, a_and, a_or, a_chain, a_boolK, a_not, a_nDV, a_neg, a_neg1, a_if, a_isi, a_oIsi, isi_int, isi_bool, isi_tuple, isi_list, isi_str, a_it, a_items_l, a_items_t, a_lc, a_wipe0, a_wipe1, a_gNm, a_gTp, a_gCo, a_gNo, a_yes, a_for, a_rg1, a_rg2, a_new, a_llst, a_rd, Option.bind_some, ends_nx, ends_rt, ends_ex, leave_dat, List.map_cons, List.map_nil, List.length_cons, List.length_nil, Nat.reduceSub, Nat.reduceAdd, List.replicate_succ, List.replicate_zero, List.cons_append, List.nil_append, List.append_nil, List.getElem?_cons_zero, List.getElem?_cons_succ, List.set_cons_zero, List.set_cons_succ, List.take_length, cond_true, cond_false, Bool.not_true, Bool.not_false, dLt_i, dLe_i, dGt_i, dGe_i, dAdd_i, dSub_i, dIsN_eq, dNotN_eq, dLen_l, dLen_t, dIx_l, dIx_t, dList_l, dList_t, dTuple_l, dTuple_t, szB_s, o1_end, oSl_t, oSl_l, oSl_s, a_sort, dInt_i, a_put, pen_rd, pen_0, pen_1, pen_2, pen_p1, pen_p2, take_cons, forGo_nil, a_star, dats_map, a_leave_end, Option.map_some, cellOf_end, rd_end, set_end, take_end, lit2, lit3, Bool.true_and, Bool.false_and, Bool.and_true, Bool.and_false, Bool.true_or, Bool.false_or, Bool.or_true, Bool.or_false, Bool.not_not, a_sl, a_pNo, a_pEx, a_asInt, a_frz0, a_zip, zip2_t, zip2_l, a_enum, enum1_l, enum1_t, n1]
    generalize one % 1009 = w at *
    have q3 := (pow_s (i := two + w + (a : Nat)) (by omega) (by omega)).1
    have r2 : dMod (.int ((a : Nat) + 7)) (.int 13) = some (.int ((((a : Nat) : Int) + 7) % 13)) := dMod_i (by decide)
    obtain ⟨p2, ep2, p02, p12⟩ := prime_at ((a : Nat) + 7)
    have m5 : dMulA (.int one) (.int 2147483647) = some (.int (one * 2147483647)) := dMul_i (small_of (by omega) (by omega)) (small_of (by decide) (by decide))
    have m6 : dMulA (.int (one * 2147483647 + two)) (.int 2147483647) = some (.int ((one * 2147483647 + two) * 2147483647)) := dMul_i (small_of (by omega) (by omega)) (small_of (by decide) (by decide))
    simp -implicitDefEqProofs only [a_fn, a_seq, seq_nx, seq_rt, seq_ex, seq_bk, seq_ct, seq_cond, ends_cond, c_ok, c_dat, c_bl, c_int, c_and, c_or, c_nand, a_sif, a_ret, a_set, a_nils, a_tg, a_expr, a_raise, a_par, Res.bind_ok, Res.bind_ex, Res.bindS_ok, Res.bindS_ex, a_var0, a_c, a_x2, a_o2, a_res1, a_xN, a_cons, a_nil, a_o1, a_xN1, a_tup, a_lst, mkTup_eq, mkLst_eq, a_dats0, a_dats1, a_ret1, a_tBl, a_tTr, a_tNo, a_tAn, a_tOr, a_bool1, truth_bl, truth_non, truth_int, truth_lst, truth_tup, a_and, a_or, a_chain, a_boolK, a_not, a_nDV, a_neg, a_neg1, a_if, a_isi, a_oIsi, isi_int, isi_bool, isi_tuple, isi_list, isi_str, a_it, a_items_l, a_items_t, a_lc, a_wipe0, a_wipe1, a_gNm, a_gTp, a_gCo, a_gNo, a_yes, a_for, a_rg1, a_rg2, a_new, a_llst, a_rd, Option.bind_some, ends_nx, ends_rt, ends_ex, leave_dat, List.map_cons, List.map_nil, List.length_cons, List.length_nil, Nat.reduceSub, Nat.reduceAdd, List.replicate_succ, List.replicate_zero, List.cons_append, List.nil_append, List.append_nil, List.getElem?_cons_zero, List.getElem?_cons_succ, List.set_cons_zero, List.set_cons_succ, List.take_length, cond_true, cond_false, Bool.not_true, Bool.not_false, dLt_i, dLe_i, dGt_i, dGe_i, dAdd_i, dSub_i, dIsN_eq, dNotN_eq, dLen_l, dLen_t, dIx_l, dIx_t, dList_l, dList_t, dTuple_l, dTuple_t, szB_s, o1_end, oSl_t, oSl_l, oSl_s, a_sort, dInt_i, a_put, pen_rd, pen_0, pen_1, pen_2, pen_p1, pen_p2, take_cons, forGo_nil, a_star, dats_map, a_leave_end, Option.map_some, cellOf_end, rd_end, set_end, take_end, lit2, lit3, Bool.true_and, Bool.false_and, Bool.and_true, Bool.and_false, Bool.true_or, Bool.false_or, Bool.or_true, Bool.or_false, Bool.not_not, a_sl, a_pNo, a_pEx, a_asInt, a_frz0, a_zip, zip2_t, zip2_l, a_enum, enum1_l, enum1_t, q3, r2, ep2, dMod_i p02, m5, m6]
    exact ⟨_, rfl⟩
  · simp -implicitDefEqProofs only [a_fn, a_seq, seq_nx, seq_rt, seq_ex, seq_bk, seq_ct, seq_cond, ends_cond, c_ok, c_dat, c_bl, c_int, c_and, c_or, c_nand, a_sif, a_ret, a_set, a_nils, a_tg, a_expr, a_raise, a_par, Res.bind_ok, Res.bind_ex, Res.bindS_ok, Res.bindS_ex, a_var0, a_c, a_x2, a_o2, a_res1, a_xN, a_cons, a_nil, a_o1, a_xN1, a_tup, a_lst, mkTup_eq, mkLst_eq, a_dats0, a_dats1, a_ret1, a_tBl, a_tTr, a_tNo, a_tAn, a_tOr, a_bool1, truth_bl, truth_non, truth_int, truth_lst, truth_tup, a_and, a_or, a_chain, a_boolK, a_not, a_nDV, a_neg, a_neg1, a_if, a_isi, a_oIsi, isi_int, isi_bool, isi_tuple, isi_list, isi_str, a_it, a_items_l, a_items_t, a_lc, a_wipe0, a_wipe1, a_gNm, a_gTp, a_gCo, a_gNo, a_yes, a_for, a_rg1, a_rg2, a_new, a_llst, a_rd, Option.bind_some, ends_nx, ends_rt, ends_ex, leave_dat, List.map_cons, List.map_nil, List.length_cons, List.length_nil, Nat.reduceSub, Nat.reduceAdd, List.replicate_succ, List.replicate_zero, List.cons_append, List.nil_append, List.append_nil, List.getElem?_cons_zero, List.getElem?_cons_succ, List.set_cons_zero, List.set_cons_succ, List.take_length, cond_true, cond_false, Bool.not_true, Bool.not_false, dLt_i, dLe_i, dGt_i, dGe_i, dAdd_i, dSub_i, dIsN_eq, dNotN_eq, dLen_l, dLen_t, dIx_l, dIx_t, dList_l, dList_t, dTuple_l, dTuple_t, szB_s, o1_end, oSl_t, oSl_l, oSl_s, a_sort, dInt_i, a_put, pen_rd, pen_0, pen_1, pen_2, pen_p1, pen_p2, take_cons, forGo_nil, a_star, dats_map, a_leave_end, Option.map_some, cellOf_end, rd_end, set_end, take_end, lit2, lit3, Bool.true_and, Bool.false_and, Bool.and_true, Bool.and_false, Bool.true_or, Bool.false_or, Bool.or_true, Bool.or_false, Bool.not_not, a_sl, a_pNo, a_pEx, a_asInt, a_frz0, a_zip, zip2_t, zip2_l, a_enum, enum1_l, enum1_t]
    exact ⟨_, rfl⟩
theorem take_ok {n : Nat} {T S : Store} (h : Pen n T S) (hn : n ≤ LIM) (m : Int) (m0 : 0 < m) (m1 : m ≤ 1000000000000) : ∃ (r : Nat) (S1 : Store), g_l_law_take [.obj 0, .dat (.int m)] S = .ok (.dat (.int (r : Nat))) S1 ∧ Pen (n + 1) T S1 ∧ (r : Int) < m := by
  have hn : n ≤ 2147483648 := hn
  obtain ⟨cells, a, cur, rfl, ha⟩ := h
  unfold g_l_law_take s_l_law_take
  simp -implicitDefEqProofs only [a_fn, a_seq, seq_nx, seq_rt, seq_ex, seq_bk, seq_ct, seq_cond, ends_cond, c_ok, c_dat, c_bl, c_int, c_and, c_or, c_nand, a_sif, a_ret, a_set, a_nils, a_tg, a_expr, a_raise, a_par, Res.bind_ok, Res.bind_ex, Res.bindS_ok, Res.bindS_ex, a_var0, a_c, a_x2, a_o2, a_res1, a_xN, a_cons, a_nil, a_o1, a_xN1, a_tup, a_lst, mkTup_eq, mkLst_eq, a_dats0, a_dats1, a_ret1, a_tBl, a_tTr, a_tNo, a_tAn, a_tOr, a_bool1, truth_bl, truth_non, truth_int, truth_lst, truth_tup, a_and, a_or, a_chain, a_boolK, a_not, a_nDV, a_neg, a_neg1, a_if, a_isi, a_oIsi, isi_int, isi_bool, isi_tuple, isi_list, isi_str, a_it, a_items_l, a_items_t, a_lc, a_wipe0, a_wipe1, a_gNm, a_gTp, a_gCo, a_gNo, a_yes, a_for, a_rg1, a_rg2, a_new, a_llst, a_rd, Option.bind_some, ends_nx, ends_rt, ends_ex, leave_dat, List.map_cons, List.map_nil, List.length_cons, List.length_nil, Nat.reduceSub, Nat.reduceAdd, List.replicate_succ, List.replicate_zero, List.cons_append, List.nil_append, List.append_nil, List.getElem?_cons_zero, List.getElem?_cons_succ, List.set_cons_zero, List.set_cons_succ, List.take_length, cond_true, cond_false, Bool.not_true, Bool.not_false, dLt_i, dLe_i, dGt_i, dGe_i, dAdd_i, dSub_i, dIsN_eq, dNotN_eq, dLen_l, dLen_t, dIx_l, dIx_t, dList_l, dList_t, dTuple_l, dTuple_t, szB_s, o1_end, oSl_t, oSl_l, oSl_s, a_sort, dInt_i, a_put, pen_rd, pen_0, pen_1, pen_2, pen_p1, pen_p2, take_cons, forGo_nil, a_star, dats_map, a_leave_end, Option.map_some, cellOf_end, rd_end, set_end, take_end, lit2, lit3, Bool.true_and, Bool.false_and, Bool.and_true, Bool.and_false, Bool.true_or, Bool.false_or, Bool.or_true, Bool.or_false, Bool.not_not, a_sl, a_pNo, a_pEx, a_asInt, a_frz0, a_zip, zip2_t, zip2_l, a_enum, enum1_l, enum1_t]
  have fin : ∀ (cur : Int), 0 ≤ cur % m ∧ cur % m < m := fun cur => ⟨Int.emod_nonneg _ (by omega), Int.emod_lt_of_pos _ m0⟩
  have dd : ∀ cur : Int, dDiv (.int cur) (.int m) = some (.int (cur / m)) := fun cur => dDiv_i m0 (small_of (by omega) (by omega))
  cases decide (cur < m)
  · simp -implicitDefEqProofs only [a_fn, a_seq, seq_nx, seq_rt, seq_ex, seq_bk, seq_ct, seq_cond, ends_cond, c_ok, c_dat, c_bl, c_int, c_and, c_or, c_nand, a_sif, a_ret, a_set, a_nils, a_tg, a_expr, a_raise, a_par, Res.bind_ok, Res.bind_ex, Res.bindS_ok, Res.bindS_ex, a_var0, a_c, a_x2, a_o2, a_res1, a_xN, a_cons, a_nil, a_o1, a_xN1, a_tup, a_lst, mkTup_eq, mkLst_eq, a_dats0, a_dats1, a_ret1, a_tBl, a_tTr, a_tNo, a_tAn, a_tOr, a_bool1, truth_bl, truth_non, truth_int, truth_lst, truth_tup, a_and, a_or, a_chain, a_boolK, a_not, a_nDV, a_neg, a_neg1, a_if, a_isi, a_oIsi, isi_int, isi_bool, isi_tuple, isi_list, isi_str, a_it, a_items_l, a_items_t, a_lc, a_wipe0, a_wipe1, a_gNm, a_gTp, a_gCo, a_gNo, a_yes, a_for, a_rg1, a_rg2, a_new, a_llst, a_rd, Option.bind_some, ends_nx, ends_rt, ends_ex, leave_dat, List.map_cons, List.map_nil, List.length_cons, List.length_nil, Nat.reduceSub, Nat.reduceAdd, List.replicate_succ, List.replicate_zero, List.cons_append, List.nil_append, List.append_nil, List.getElem?_cons_zero, List.getElem?_cons_succ, List.set_cons_zero, List.set_cons_succ, List.take_length, cond_true, cond_false, Bool.not_true, Bool.not_false, dLt_i, dLe_i, dGt_i, dGe_i, dAdd_i, dSub_i, dIsN_eq, dNotN_eq, dLen_l, dLen_t, dIx_l, dIx_t, dList_l, dList_t, dTuple_l, dTuple_t, szB_s, o1_end, oSl_t, oSl_l, oSl_s, a_sort, dInt_i, a_put, pen_rd, pen_0, pen_1, pen_2, pen_p1, pen_p2, take_cons, forGo_nil, a_star, dats_map, a_leave_end, Option.map_some, cellOf_end, rd_end, set_end, take_end, lit2, lit3, Bool.true_and, Bool.false_and, Bool.and_true, Bool.and_false, Bool.true_or, Bool.false_or, Bool.or_true, Bool.or_false, Bool.not_not, a_sl, a_pNo, a_pEx, a_asInt, a_frz0, a_zip, zip2_t, zip2_l, a_enum, enum1_l, enum1_t, dMod_i m0, dd]
    exact ⟨(cur % m).toNat, _, by rw [Int.toNat_of_nonneg (fin cur).1], ⟨_, _, _, rfl, by omega⟩, by rw [Int.toNat_of_nonneg (fin cur).1]; exact (fin cur).2⟩
  · simp -implicitDefEqProofs only [a_fn, a_seq, seq_nx, seq_rt, seq_ex, seq_bk, seq_ct, seq_cond, ends_cond, c_ok, c_dat, c_bl, c_int, c_and, c_or, c_nand, a_sif, a_ret, a_set, a_nils, a_tg, a_expr, a_raise, a_par, Res.bind_ok, Res.bind_ex, Res.bindS_ok, Res.bindS_ex, a_var0, a_c, a_x2, a_o2, a_res1, a_xN, a_cons, a_nil, a_o1, a_xN1, a_tup, a_lst, mkTup_eq, mkLst_eq, a_dats0, a_dats1, a_ret1, a_tBl, a_tTr, a_tNo, a_tAn, a_tOr, a_bool1, truth_bl, truth_non, truth_int, truth_lst, truth_tup, a_and, a_or, a_chain, a_boolK, a_not, a_nDV, a_neg, a_neg1, a_if, a_isi, a_oIsi, isi_int, isi_bool, isi_tuple, isi_list, isi_str, a_it, a_items_l, a_items_t, a_lc, a_wipe0, a_wipe1, a_gNm, a_gTp, a_gCo, a_gNo, a_yes, a_for, a_rg1, a_rg2, a_new, a_llst, a_rd, Option.bind_some, ends_nx, ends_rt, ends_ex, leave_dat, List.map_cons, List.map_nil, List.length_cons, List.length_nil, Nat.reduceSub, Nat.reduceAdd, List.replicate_succ, List.replicate_zero, List.cons_append, List.nil_append, List.append_nil, List.getElem?_cons_zero, List.getElem?_cons_succ, List.set_cons_zero, List.set_cons_succ, List.take_length, cond_true, cond_false, Bool.not_true, Bool.not_false, dLt_i, dLe_i, dGt_i, dGe_i, dAdd_i, dSub_i, dIsN_eq, dNotN_eq, dLen_l, dLen_t, dIx_l, dIx_t, dList_l, dList_t, dTuple_l, dTuple_t, szB_s, o1_end, oSl_t, oSl_l, oSl_s, a_sort, dInt_i, a_put, pen_rd, pen_0, pen_1, pen_2, pen_p1, pen_p2, take_cons, forGo_nil, a_star, dats_map, a_leave_end, Option.map_some, cellOf_end, rd_end, set_end, take_end, lit2, lit3, Bool.true_and, Bool.false_and, Bool.and_true, Bool.and_false, Bool.true_or, Bool.false_or, Bool.or_true, Bool.or_false, Bool.not_not, a_sl, a_pNo, a_pEx, a_asInt, a_frz0, a_zip, zip2_t, zip2_l, a_enum, enum1_l, enum1_t, List.length_map]
    cases h1 : decide (((a : Nat) : Int) < (cells.length : Nat))
    · simp -implicitDefEqProofs only [a_fn, a_seq, seq_nx, seq_rt, seq_ex, seq_bk, seq_ct, seq_cond, ends_cond, c_ok, c_dat, c_bl, c_int, c_and, c_or, c_nand, a_sif, a_ret, a_set, a_nils, a_tg, a_expr, a_raise, a_par, Res.bind_ok, Res.bind_ex, Res.bindS_ok, Res.bindS_ex, a_var0, a_c, a_x2, a_o2, a_res1, a_xN, a_cons, a_nil, a_o1, a_xN1, a_tup, a_lst, mkTup_eq, mkLst_eq, a_dats0, a_dats1, a_ret1, a_tBl, a_tTr, a_tNo, a_tAn, a_tOr, a_bool1, truth_bl, truth_non, truth_int, truth_lst, truth_tup, a_and, a_or, a_chain, a_boolK, a_not, a_nDV, a_neg, a_neg1, a_if, a_isi, a_oIsi, isi_int, isi_bool, isi_tuple, isi_list, isi_str, a_it, a_items_l, a_items_t, a_lc, a_wipe0, a_wipe1, a_gNm, a_gTp, a_gCo, a_gNo, a_yes, a_for, a_rg1, a_rg2, a_new, a_llst, a_rd, Option.bind_some, ends_nx, ends_rt, ends_ex, leave_dat, List.map_cons, List.map_nil, List.length_cons, List.length_nil, Nat.reduceSub, Nat.reduceAdd, List.replicate_succ, List.replicate_zero, List.cons_append, List.nil_append, List.append_nil, List.getElem?_cons_zero, List.getElem?_cons_succ, List.set_cons_zero, List.set_cons_succ, List.take_length, cond_true, cond_false, Bool.not_true, Bool.not_false, dLt_i, dLe_i, dGt_i, dGe_i, dAdd_i, dSub_i, dIsN_eq, dNotN_eq, dLen_l, dLen_t, dIx_l, dIx_t, dList_l, dList_t, dTuple_l, dTuple_t, szB_s, o1_end, oSl_t, oSl_l, oSl_s, a_sort, dInt_i, a_put, pen_rd, pen_0, pen_1, pen_2, pen_p1, pen_p2, take_cons, forGo_nil, a_star, dats_map, a_leave_end, Option.map_some, cellOf_end, rd_end, set_end, take_end, lit2, lit3, Bool.true_and, Bool.false_and, Bool.and_true, Bool.and_false, Bool.true_or, Bool.false_or, Bool.or_true, Bool.or_false, Bool.not_not, a_sl, a_pNo, a_pEx, a_asInt, a_frz0, a_zip, zip2_t, zip2_l, a_enum, enum1_l, enum1_t, List.length_map]
      cases h2 : decide (((cells.length : Nat) : Int) > 0)
      · simp -implicitDefEqProofs only [a_fn, a_seq, seq_nx, seq_rt, seq_ex, seq_bk, seq_ct, seq_cond, ends_cond, c_ok, c_dat, c_bl, c_int, c_and, c_or, c_nand, a_sif, a_ret, a_set, a_nils, a_tg, a_expr, a_raise, a_par, Res.bind_ok, Res.bind_ex, Res.bindS_ok, Res.bindS_ex, a_var0, a_c, a_x2, a_o2, a_res1, a_xN, a_cons, a_nil, a_o1, a_xN1, a_tup, a_lst, mkTup_eq, mkLst_eq, a_dats0, a_dats1, a_ret1, a_tBl, a_tTr, a_tNo, a_tAn, a_tOr, a_bool1, truth_bl, truth_non, truth_int, truth_lst, truth_tup, a_and, a_or, a_chain, a_boolK, a_not, a_nDV, a_neg, a_neg1, a_if, a_isi, a_oIsi, isi_int, isi_bool, isi_tuple, isi_list, isi_str, a_it, a_items_l, a_items_t, a_lc, a_wipe0, a_wipe1, a_gNm, a_gTp, a_gCo, a_gNo, a_yes, a_for, a_rg1, a_rg2, a_new, a_llst, a_rd, Option.bind_some, ends_nx, ends_rt, ends_ex, leave_dat, List.map_cons, List.map_nil, List.length_cons, List.length_nil, Nat.reduceSub, Nat.reduceAdd, List.replicate_succ, List.replicate_zero, List.cons_append, List.nil_append, List.append_nil, List.getElem?_cons_zero, List.getElem?_cons_succ, List.set_cons_zero, List.set_cons_succ, List.take_length, cond_true, cond_false, Bool.not_true, Bool.not_false, dLt_i, dLe_i, dGt_i, dGe_i, dAdd_i, dSub_i, dIsN_eq, dNotN_eq, dLen_l, dLen_t, dIx_l, dIx_t, dList_l, dList_t, dTuple_l, dTuple_t, szB_s, o1_end, oSl_t, oSl_l, oSl_s, a_sort, dInt_i, a_put, pen_rd, pen_0, pen_1, pen_2, pen_p1, pen_p2, take_cons, forGo_nil, a_star, dats_map, a_leave_end, Option.map_some, cellOf_end, rd_end, set_end, take_end, lit2, lit3, Bool.true_and, Bool.false_and, Bool.and_true, Bool.and_false, Bool.true_or, Bool.false_or, Bool.or_true, Bool.or_false, Bool.not_not, a_sl, a_pNo, a_pEx, a_asInt, a_frz0, a_zip, zip2_t, zip2_l, a_enum, enum1_l, enum1_t]
        obtain ⟨r, e⟩ := spread_ok 0 a (by omega) (some (penL cells (a + 1) cur) :: T)
        simp -implicitDefEqProofs only [a_fn, a_seq, seq_nx, seq_rt, seq_ex, seq_bk, seq_ct, seq_cond, ends_cond, c_ok, c_dat, c_bl, c_int, c_and, c_or, c_nand, a_sif, a_ret, a_set, a_nils, a_tg, a_expr, a_raise, a_par, Res.bind_ok, Res.bind_ex, Res.bindS_ok, Res.bindS_ex, a_var0, a_c, a_x2, a_o2, a_res1, a_xN, a_cons, a_nil, a_o1, a_xN1, a_tup, a_lst, mkTup_eq, mkLst_eq, a_dats0, a_dats1, a_ret1, a_tBl, a_tTr, a_tNo, a_tAn, a_tOr, a_bool1, truth_bl, truth_non, truth_int, truth_lst, truth_tup, a_and, a_or, a_chain, a_boolK, a_not, a_nDV, a_neg, a_neg1, a_if, a_isi, a_oIsi, isi_int, isi_bool, isi_tuple, isi_list, isi_str, a_it, a_items_l, a_items_t, a_lc, a_wipe0, a_wipe1, a_gNm, a_gTp, a_gCo, a_gNo, a_yes, a_for, a_rg1, a_rg2, a_new, a_llst, a_rd, Option.bind_some, ends_nx, ends_rt, ends_ex, leave_dat, List.map_cons, List.map_nil, List.length_cons, List.length_nil, Nat.reduceSub, Nat.reduceAdd, List.replicate_succ, List.replicate_zero, List.cons_append, List.nil_append, List.append_nil, List.getElem?_cons_zero, List.getElem?_cons_succ, List.set_cons_zero, List.set_cons_succ, List.take_length, cond_true, cond_false, Bool.not_true, Bool.not_false, dLt_i, dLe_i, dGt_i, dGe_i, dAdd_i, dSub_i, dIsN_eq, dNotN_eq, dLen_l, dLen_t, dIx_l, dIx_t, dList_l, dList_t, dTuple_l, dTuple_t, szB_s, o1_end, oSl_t, oSl_l, oSl_s, a_sort, dInt_i, a_put, pen_rd, pen_0, pen_1, pen_2, pen_p1, pen_p2, take_cons, forGo_nil, a_star, dats_map, a_leave_end, Option.map_some, cellOf_end, rd_end, set_end, take_end, lit2, lit3, Bool.true_and, Bool.false_and, Bool.and_true, Bool.and_false, Bool.true_or, Bool.false_or, Bool.or_true, Bool.or_false, Bool.not_not, a_sl, a_pNo, a_pEx, a_asInt, a_frz0, a_zip, zip2_t, zip2_l, a_enum, enum1_l, enum1_t, e, dMod_i m0, dd]
        exact ⟨(r % m).toNat, _, by rw [Int.toNat_of_nonneg (fin r).1], ⟨_, _, _, rfl, by omega⟩, by rw [Int.toNat_of_nonneg (fin r).1]; exact (fin r).2⟩
      · have h2 : (0 : Int) < cells.length := by simpa using h2
        have m5 : dMulA (.int (a : Nat)) (.int 5) = some (.int ((a : Nat) * 5)) := dMul_i (small_of (by omega) (by omega)) (small_of (by decide) (by decide))
        have i0 : 0 ≤ ((a : Nat) * 5 + 3 : Int) % (cells.length : Nat) := Int.emod_nonneg _ (by omega)
        have i1 : ((a : Nat) * 5 + 3 : Int) % (cells.length : Nat) < (cells.length : Nat) := Int.emod_lt_of_pos _ h2
        have e1 : atI (cells.map .int) (((a : Nat) * 5 + 3 : Int) % (cells.length : Nat)) = some (D.int (cells.getD (((a : Nat) * 5 + 3 : Int) % (cells.length : Nat)).toNat 0)) := by
          have := atI_map (xs := cells) (n := (((a : Nat) * 5 + 3 : Int) % (cells.length : Nat)).toNat) D.int 0 (by omega)
          rwa [Int.toNat_of_nonneg i0] at this
        simp -implicitDefEqProofs only [a_fn, a_seq, seq_nx, seq_rt, seq_ex, seq_bk, seq_ct, seq_cond, ends_cond, c_ok, c_dat, c_bl, c_int, c_and, c_or, c_nand, a_sif, a_ret, a_set, a_nils, a_tg, a_expr, a_raise, a_par, Res.bind_ok, Res.bind_ex, Res.bindS_ok, Res.bindS_ex, a_var0, a_c, a_x2, a_o2, a_res1, a_xN, a_cons, a_nil, a_o1, a_xN1, a_tup, a_lst, mkTup_eq, mkLst_eq, a_dats0, a_dats1, a_ret1, a_tBl, a_tTr, a_tNo, a_tAn, a_tOr, a_bool1, truth_bl, truth_non, truth_int, truth_lst, truth_tup, a_and, a_or, a_chain, a_boolK, a_not, a_nDV, a_neg, a_neg1, a_if, a_isi, a_oIsi, isi_int, isi_bool, isi_tuple, isi_list, isi_str, a_it, a_items_l, a_items_t, a_lc, a_wipe0, a_wipe1, a_gNm, a_gTp, a_gCo, a_gNo, a_yes, a_for, a_rg1, a_rg2, a_new, a_llst, a_rd, Option.bind_some, ends_nx, ends_rt, ends_ex, leave_dat, List.map_cons, List.map_nil, List.length_cons, List.length_nil, Nat.reduceSub, Nat.reduceAdd, List.replicate_succ, List.replicate_zero, List.cons_append, List.nil_append, List.append_nil, List.getElem?_cons_zero, List.getElem?_cons_succ, List.set_cons_zero, List.set_cons_succ, List.take_length, cond_true, cond_false, Bool.not_true, Bool.not_false, dLt_i, dLe_i, dGt_i, dGe_i, dAdd_i, dSub_i, dIsN_eq, dNotN_eq, dLen_l, dLen_t, dIx_l, dIx_t, dList_l, dList_t, dTuple_l, dTuple_t, szB_s, o1_end, oSl_t, oSl_l, oSl_s, a_sort, dInt_i, a_put, pen_rd, pen_0, pen_1, pen_2, pen_p1, pen_p2, take_cons, forGo_nil, a_star, dats_map, a_leave_end, Option.map_some, cellOf_end, rd_end, set_end, take_end, lit2, lit3, Bool.true_and, Bool.false_and, Bool.and_true, Bool.and_false, Bool.true_or, Bool.false_or, Bool.or_true, Bool.or_false, Bool.not_not, a_sl, a_pNo, a_pEx, a_asInt, a_frz0, a_zip, zip2_t, zip2_l, a_enum, enum1_l, enum1_t, m5, List.length_map, dMod_i h2, e1, p10_17, dMod_i (show (0 : Int) < 100000000000000000 + (a : Nat) by omega)]
        obtain ⟨r, e⟩ := spread_ok ((cells.getD (((a : Nat) * 5 + 3 : Int) % (cells.length : Nat)).toNat 0) % (100000000000000000 + (a : Nat))) a (by omega) (some (penL cells (a + 1) cur) :: T)
        simp -implicitDefEqProofs only [a_fn, a_seq, seq_nx, seq_rt, seq_ex, seq_bk, seq_ct, seq_cond, ends_cond, c_ok, c_dat, c_bl, c_int, c_and, c_or, c_nand, a_sif, a_ret, a_set, a_nils, a_tg, a_expr, a_raise, a_par, Res.bind_ok, Res.bind_ex, Res.bindS_ok, Res.bindS_ex, a_var0, a_c, a_x2, a_o2, a_res1, a_xN, a_cons, a_nil, a_o1, a_xN1, a_tup, a_lst, mkTup_eq, mkLst_eq, a_dats0, a_dats1, a_ret1, a_tBl, a_tTr, a_tNo, a_tAn, a_tOr, a_bool1, truth_bl, truth_non, truth_int, truth_lst, truth_tup, a_and, a_or, a_chain, a_boolK, a_not, a_nDV, a_neg, a_neg1, a_if, a_isi, a_oIsi, isi_int, isi_bool, isi_tuple, isi_list, isi_str, a_it, a_items_l, a_items_t, a_lc, a_wipe0, a_wipe1, a_gNm, a_gTp, a_gCo, a_gNo, a_yes, a_for, a_rg1, a_rg2, a_new, a_llst, a_rd, Option.bind_some, ends_nx, ends_rt, ends_ex, leave_dat, List.map_cons, List.map_nil, List.length_cons, List.length_nil, Nat.reduceSub, Nat.reduceAdd, List.replicate_succ, List.replicate_zero, List.cons_append, List.nil_append, List.append_nil, List.getElem?_cons_zero, List.getElem?_cons_succ, List.set_cons_zero, List.set_cons_succ, List.take_length, cond_true, cond_false, Bool.not_true, Bool.not_false, dLt_i, dLe_i, dGt_i, dGe_i, dAdd_i, dSub_i, dIsN_eq, dNotN_eq, dLen_l, dLen_t, dIx_l, dIx_t, dList_l, dList_t, dTuple_l, dTuple_t, szB_s, o1_end, oSl_t, oSl_l, oSl_s, a_sort, dInt_i, a_put, pen_rd, pen_0, pen_1, pen_2, pen_p1, pen_p2, take_cons, forGo_nil, a_star, dats_map, a_leave_end, Option.map_some, cellOf_end, rd_end, set_end, take_end, lit2, lit3, Bool.true_and, Bool.false_and, Bool.and_true, Bool.and_false, Bool.true_or, Bool.false_or, Bool.or_true, Bool.or_false, Bool.not_not, a_sl, a_pNo, a_pEx, a_asInt, a_frz0, a_zip, zip2_t, zip2_l, a_enum, enum1_l, enum1_t, e, dMod_i m0, dd]
        exact ⟨(r % m).toNat, _, by rw [Int.toNat_of_nonneg (fin r).1], ⟨_, _, _, rfl, by omega⟩, by rw [Int.toNat_of_nonneg (fin r).1]; exact (fin r).2⟩
    · have h1 : a < cells.length := by simpa using h1
      simp -implicitDefEqProofs only [a_fn, a_seq, seq_nx, seq_rt, seq_ex, seq_bk, seq_ct, seq_cond, ends_cond, c_ok, c_dat, c_bl, c_int, c_and, c_or, c_nand, a_sif, a_ret, a_set, a_nils, a_tg, a_expr, a_raise, a_par, Res.bind_ok, Res.bind_ex, Res.bindS_ok, Res.bindS_ex, a_var0, a_c, a_x2, a_o2, a_res1, a_xN, a_cons, a_nil, a_o1, a_xN1, a_tup, a_lst, mkTup_eq, mkLst_eq, a_dats0, a_dats1, a_ret1, a_tBl, a_tTr, a_tNo, a_tAn, a_tOr, a_bool1, truth_bl, truth_non, truth_int, truth_lst, truth_tup, a_and, a_or, a_chain, a_boolK, a_not, a_nDV, a_neg, a_neg1, a_if, a_isi, a_oIsi, isi_int, isi_bool, isi_tuple, isi_list, isi_str, a_it, a_items_l, a_items_t, a_lc, a_wipe0, a_wipe1, a_gNm, a_gTp, a_gCo, a_gNo, a_yes, a_for, a_rg1, a_rg2, a_new, a_llst, a_rd, Option.bind_some, ends_nx, ends_rt, ends_ex, leave_dat, List.map_cons, List.map_nil, List.length_cons, List.length_nil, Nat.reduceSub, Nat.reduceAdd, List.replicate_succ, List.replicate_zero, List.cons_append, List.nil_append, List.append_nil, List.getElem?_cons_zero, List.getElem?_cons_succ, List.set_cons_zero, List.set_cons_succ, List.take_length, cond_true, cond_false, Bool.not_true, Bool.not_false, dLt_i, dLe_i, dGt_i, dGe_i, dAdd_i, dSub_i, dIsN_eq, dNotN_eq, dLen_l, dLen_t, dIx_l, dIx_t, dList_l, dList_t, dTuple_l, dTuple_t, szB_s, o1_end, oSl_t, oSl_l, oSl_s, a_sort, dInt_i, a_put, pen_rd, pen_0, pen_1, pen_2, pen_p1, pen_p2, take_cons, forGo_nil, a_star, dats_map, a_leave_end, Option.map_some, cellOf_end, rd_end, set_end, take_end, lit2, lit3, Bool.true_and, Bool.false_and, Bool.and_true, Bool.and_false, Bool.true_or, Bool.false_or, Bool.or_true, Bool.or_false, Bool.not_not, a_sl, a_pNo, a_pEx, a_asInt, a_frz0, a_zip, zip2_t, zip2_l, a_enum, enum1_l, enum1_t, atI_map D.int 0 h1]
      obtain ⟨r, e⟩ := spread_ok (cells.getD a 0) a (by omega) (some (penL cells (a + 1) cur) :: T)
      simp -implicitDefEqProofs only [a_fn, a_seq, seq_nx, seq_rt, seq_ex, seq_bk, seq_ct, seq_cond, ends_cond, c_ok, c_dat, c_bl, c_int, c_and, c_or, c_nand, a_sif, a_ret, a_set, a_nils, a_tg, a_expr, a_raise, a_par, Res.bind_ok, Res.bind_ex, Res.bindS_ok, Res.bindS_ex, a_var0, a_c, a_x2, a_o2, a_res1, a_xN, a_cons, a_nil, a_o1, a_xN1, a_tup, a_lst, mkTup_eq, mkLst_eq, a_dats0, a_dats1, a_ret1, a_tBl, a_tTr, a_tNo, a_tAn, a_tOr, a_bool1, truth_bl, truth_non, truth_int, truth_lst, truth_tup, a_and, a_or, a_chain, a_boolK, a_not, a_nDV, a_neg, a_neg1, a_if, a_isi, a_oIsi, isi_int, isi_bool, isi_tuple, isi_list, isi_str, a_it, a_items_l, a_items_t, a_lc, a_wipe0, a_wipe1, a_gNm, a_gTp, a_gCo, a_gNo, a_yes, a_for, a_rg1, a_rg2, a_new, a_llst, a_rd, Option.bind_some, ends_nx, ends_rt, ends_ex, leave_dat, List.map_cons, List.map_nil, List.length_cons, List.length_nil, Nat.reduceSub, Nat.reduceAdd, List.replicate_succ, List.replicate_zero, List.cons_append, List.nil_append, List.append_nil, List.getElem?_cons_zero, List.getElem?_cons_succ, List.set_cons_zero, List.set_cons_succ, List.take_length, cond_true, cond_false, Bool.not_true, Bool.not_false, dLt_i, dLe_i, dGt_i, dGe_i, dAdd_i, dSub_i, dIsN_eq, dNotN_eq, dLen_l, dLen_t, dIx_l, dIx_t, dList_l, dList_t, dTuple_l, dTuple_t, szB_s, o1_end, oSl_t, oSl_l, oSl_s, a_sort, dInt_i, a_put, pen_rd, pen_0, pen_1, pen_2, pen_p1, pen_p2, take_cons, forGo_nil, a_star, dats_map, a_leave_end, Option.map_some, cellOf_end, rd_end, set_end, take_end, lit2, lit3, Bool.true_and, Bool.false_and, Bool.and_true, Bool.and_false, Bool.true_or, Bool.false_or, Bool.or_true, Bool.or_false, Bool.not_not, a_sl, a_pNo, a_pEx, a_asInt, a_frz0, a_zip, zip2_t, zip2_l, a_enum, enum1_l, enum1_t, e, dMod_i m0, dd]
      exact ⟨(r % m).toNat, _, by rw [Int.toNat_of_nonneg (fin r).1], ⟨_, _, _, rfl, by omega⟩, by rw [Int.toNat_of_nonneg (fin r).1]; exact (fin r).2⟩
theorem anew_ok {n : Nat} {T S : Store} (h : Pen n T S) : ∃ S1, g_l_law_anew [.obj 0] S = .ok (.obj 0) S1 ∧ Pen n T S1 := by
  obtain ⟨cells, a, cur, rfl, ha⟩ := h
  unfold g_l_law_anew s_l_law_anew
  simp -implicitDefEqProofs only [a_fn, a_seq, seq_nx, seq_rt, seq_ex, seq_bk, seq_ct, seq_cond, ends_cond, c_ok, c_dat, c_bl, c_int, c_and, c_or, c_nand, a_sif, a_ret, a_set, a_nils, a_tg, a_expr, a_raise, a_par, Res.bind_ok, Res.bind_ex, Res.bindS_ok, Res.bindS_ex, a_var0, a_c, a_x2, a_o2, a_res1, a_xN, a_cons, a_nil, a_o1, a_xN1, a_tup, a_lst, mkTup_eq, mkLst_eq, a_dats0, a_dats1, a_ret1, a_tBl, a_tTr, a_tNo, a_tAn, a_tOr, a_bool1, truth_bl, truth_non, truth_int, truth_lst, truth_tup, a_and, a_or, a_chain, a_boolK, a_not, a_nDV, a_neg, a_neg1, a_if, a_isi, a_oIsi, isi_int, isi_bool, isi_tuple, isi_list, isi_str, a_it, a_items_l, a_items_t, a_lc, a_wipe0, a_wipe1, a_gNm, a_gTp, a_gCo, a_gNo, a_yes, a_for, a_rg1, a_rg2, a_new, a_llst, a_rd, Option.bind_some, ends_nx, ends_rt, ends_ex, leave_dat, List.map_cons, List.map_nil, List.length_cons, List.length_nil, Nat.reduceSub, Nat.reduceAdd, List.replicate_succ, List.replicate_zero, List.cons_append, List.nil_append, List.append_nil, List.getElem?_cons_zero, List.getElem?_cons_succ, List.set_cons_zero, List.set_cons_succ, List.take_length, cond_true, cond_false, Bool.not_true, Bool.not_false, dLt_i, dLe_i, dGt_i, dGe_i, dAdd_i, dSub_i, dIsN_eq, dNotN_eq, dLen_l, dLen_t, dIx_l, dIx_t, dList_l, dList_t, dTuple_l, dTuple_t, szB_s, o1_end, oSl_t, oSl_l, oSl_s, a_sort, dInt_i, a_put, pen_rd, pen_0, pen_1, pen_2, pen_p1, pen_p2, take_cons, forGo_nil, a_star, dats_map, a_leave_end, Option.map_some, cellOf_end, rd_end, set_end, take_end, lit2, lit3, Bool.true_and, Bool.false_and, Bool.and_true, Bool.and_false, Bool.true_or, Bool.false_or, Bool.or_true, Bool.or_false, Bool.not_not, a_sl, a_pNo, a_pEx, a_asInt, a_frz0, a_zip, zip2_t, zip2_l, a_enum, enum1_l, enum1_t, leave, Nat.zero_lt_succ, if_true]
  exact ⟨_, rfl, _, _, _, rfl, ha⟩
theorem one_ok {n : Nat} {T S : Store} (h : Pen n T S) (hn : n ≤ LIM) (xs : List D) (h0 : 1 ≤ xs.length) (h1 : xs.length ≤ 1000000) (d : D) (hd : d = .lst xs ∨ d = .tup xs) :
    ∃ x S1, g_l_law_one [.obj 0, .dat d] S = .ok (.dat x) S1 ∧ Pen (n + 1) T S1 ∧ x ∈ xs := by
  unfold g_l_law_one s_l_law_one
  obtain ⟨r, S1, e, p, hr⟩ := take_ok h hn (xs.length : Nat) (by omega) (by omega)
  have hr : r < xs.length := by omega
  have hx : atI xs (r : Nat) = some (xs.getD r .non) := atI_nat .non hr
  refine ⟨xs.getD r .non, S1, ?_, p, getD_mem hr⟩
  rcases hd with rfl | rfl <;> simp -implicitDefEqProofs only [a_fn, a_seq, seq_nx, seq_rt, seq_ex, seq_bk, seq_ct, seq_cond, ends_cond, c_ok, c_dat, c_bl, c_int, c_and, c_or, c_nand, a_sif, a_ret, a_set, a_nils, a_tg, a_expr, a_raise, a_par, Res.bind_ok, Res.bind_ex, Res.bindS_ok, Res.bindS_ex, a_var0, a_c, a_x2, a_o2, a_res1, a_xN, a_cons, a_nil, a_o1, a_xN1, a_tup, a_lst, mkTup_eq, mkLst_eq, a_dats0, a_dats1, a_ret1, a_tBl, a_tTr, a_tNo, a_tAn, a_tOr, a_bool1, truth_bl, truth_non, truth_int, truth_lst, truth_tup, a_and, a_or, a_chain, a_boolK, a_not, a_nDV, a_neg, a_neg1, a_if, a_isi, a_oIsi, isi_int, isi_bool, isi_tuple, isi_list, isi_str, a_it, a_items_l, a_items_t, a_lc, a_wipe0, a_wipe1, a_gNm, a_gTp, a_gCo, a_gNo, a_yes, a_for, a_rg1, a_rg2, a_new, a_llst, a_rd, Option.bind_some, ends_nx, ends_rt, ends_ex, leave_dat, List.map_cons, List.map_nil, List.length_cons, List.length_nil, Nat.reduceSub, Nat.reduceAdd, List.replicate_succ, List.replicate_zero, List.cons_append, List.nil_append, List.append_nil, List.getElem?_cons_zero, List.getElem?_cons_succ, List.set_cons_zero, List.set_cons_succ, List.take_length, cond_true, cond_false, Bool.not_true, Bool.not_false, dLt_i, dLe_i, dGt_i, dGe_i, dAdd_i, dSub_i, dIsN_eq, dNotN_eq, dLen_l, dLen_t, dIx_l, dIx_t, dList_l, dList_t, dTuple_l, dTuple_t, szB_s, o1_end, oSl_t, oSl_l, oSl_s, a_sort, dInt_i, a_put, pen_rd, pen_0, pen_1, pen_2, pen_p1, pen_p2, take_cons, forGo_nil, a_star, dats_map, a_leave_end, Option.map_some, cellOf_end, rd_end, set_end, take_end, lit2, lit3, Bool.true_and, Bool.false_and, Bool.and_true, Bool.and_false, Bool.true_or, Bool.false_or, Bool.or_true, Bool.or_false, Bool.not_not, a_sl, a_pNo, a_pEx, a_asInt, a_frz0, a_zip, zip2_t, zip2_l, a_enum, enum1_l, enum1_t, e, hx, p.take h.len]
theorem p10_9 : dPow (.int 10) (.int 9) = some (.int 1000000000) := dPow_i (i := 10) (j := 9) (by decide) (by decide)
theorem value_ok {n : Nat} {T S : Store} (h : Pen n T S) (hn : n + 4 ≤ LIM) (c : D) (hc : okC c) : ∃ (v : Int) (S1 : Store), g_l_law_value [.obj 0, .dat c] S = .ok (.dat (.int v)) S1 ∧ Pen (n + 4) T S1 ∧ okV c v := by
  have hn : n + 4 ≤ 2147483648 := hn
  unfold g_l_law_value s_l_law_value
  rcases isCol_cases hc.1 with rfl | ⟨ns, rfl, l0, l1, hns, _⟩
  · obtain ⟨a, S1, e1, p1, ha⟩ := take_ok h (by show _ ≤ 2147483648; omega) 100 (by decide) (by decide)
    obtain ⟨b, S2, e2, p2, hb⟩ := take_ok p1 (by show _ ≤ 2147483648; omega) 1000000000 (by decide) (by decide)
    obtain ⟨c, S3, e3, p3, hc⟩ := take_ok p2 (by show _ ≤ 2147483648; omega) 2 (by decide) (by decide)
    have ad : dAdd (.lst [.int 0, .int 0, .int 0, .int 1, .int 1, .int 1, .int 2, .int 2, .int 3, .int (a : Nat), .int (b : Nat), .int 1000000000]) (.lst [.int (100000000000000000000000000000 + (c : Nat))]) = some (.lst [.int 0, .int 0, .int 0, .int 1, .int 1, .int 1, .int 2, .int 2, .int 3, .int (a : Nat), .int (b : Nat), .int 1000000000, .int (100000000000000000000000000000 + (c : Nat))]) := rfl
    have nn : dNotN .non .non = some (.bl false) := rfl
    obtain ⟨x, S4, e4, p4, hx⟩ := one_ok p3 (by show _ ≤ 2147483648; omega) [D.int 0, D.int 0, D.int 0, D.int 1, D.int 1, D.int 1, D.int 2, D.int 2, D.int 3, D.int (a : Nat), D.int (b : Nat), D.int 1000000000, D.int (100000000000000000000000000000 + (c : Nat))] (by simp) (by simp) _ (.inl rfl)
    simp -implicitDefEqProofs only [a_fn, a_seq, seq_nx, seq_rt, seq_ex, seq_bk, seq_ct, seq_cond, ends_cond, c_ok, c_dat, c_bl, c_int, c_and, c_or, c_nand, a_sif, a_ret, a_set, a_nils, a_tg, a_expr, a_raise, a_par, Res.bind_ok, Res.bind_ex, Res.bindS_ok, Res.bindS_ex, a_var0, a_c, a_x2, a_o2, a_res1, a_xN, a_cons, a_nil, a_o1, a_xN1, a_tup, a_lst, mkTup_eq, mkLst_eq, a_dats0, a_dats1, a_ret1, a_tBl, a_tTr, a_tNo, a_tAn, a_tOr, a_bool1, truth_bl, truth_non, truth_int, truth_lst, truth_tup, a_and, a_or, a_chain, a_boolK, a_not, a_nDV, a_neg, a_neg1, a_if, a_isi, a_oIsi, isi_int, isi_bool, isi_tuple, isi_list, isi_str, a_it, a_items_l, a_items_t, a_lc, a_wipe0, a_wipe1, a_gNm, a_gTp, a_gCo, a_gNo, a_yes, a_for, a_rg1, a_rg2, a_new, a_llst, a_rd, Option.bind_some, ends_nx, ends_rt, ends_ex, leave_dat, List.map_cons, List.map_nil, List.length_cons, List.length_nil, Nat.reduceSub, Nat.reduceAdd, List.replicate_succ, List.replicate_zero, List.cons_append, List.nil_append, List.append_nil, List.getElem?_cons_zero, List.getElem?_cons_succ, List.set_cons_zero, List.set_cons_succ, List.take_length, cond_true, cond_false, Bool.not_true, Bool.not_false, dLt_i, dLe_i, dGt_i, dGe_i, dAdd_i, dSub_i, dIsN_eq, dNotN_eq, dLen_l, dLen_t, dIx_l, dIx_t, dList_l, dList_t, dTuple_l, dTuple_t, szB_s, o1_end, oSl_t, oSl_l, oSl_s, a_sort, dInt_i, a_put, pen_rd, pen_0, pen_1, pen_2, pen_p1, pen_p2, take_cons, forGo_nil, a_star, dats_map, a_leave_end, Option.map_some, cellOf_end, rd_end, set_end, take_end, lit2, lit3, Bool.true_and, Bool.false_and, Bool.and_true, Bool.and_false, Bool.true_or, Bool.false_or, Bool.or_true, Bool.or_false, Bool.not_not, a_sl, a_pNo, a_pEx, a_asInt, a_frz0, a_zip, zip2_t, zip2_l, a_enum, enum1_l, enum1_t, D.isN, nn, p10_29, p10_9, e1, e2, e3, ad, e4, p4.take h.len]
    have : ∃ v : Int, x = .int v ∧ 0 ≤ v ∧ v < BIG := by
      simp only [List.mem_cons, List.not_mem_nil, or_false] at hx
      unfold BIG
      rcases hx with rfl | rfl | rfl | rfl | rfl | rfl | rfl | rfl | rfl | rfl | rfl | rfl | rfl <;> exact ⟨_, rfl, by omega, by omega⟩
    obtain ⟨v, rfl, hv⟩ := this
    exact ⟨v, S4, rfl, p4, by simp [isValOf, isVal, D.isN, hv.1], hv.2⟩
  · have nn : dNotN (.tup (ns.map .int)) .non = some (.bl true) := rfl
    obtain ⟨x, S1, e, p, hx⟩ := one_ok h (by show _ ≤ 2147483648; omega) (ns.map .int) (by simpa using l0) (by simp; omega) _ (.inr rfl)
    simp -implicitDefEqProofs only [a_fn, a_seq, seq_nx, seq_rt, seq_ex, seq_bk, seq_ct, seq_cond, ends_cond, c_ok, c_dat, c_bl, c_int, c_and, c_or, c_nand, a_sif, a_ret, a_set, a_nils, a_tg, a_expr, a_raise, a_par, Res.bind_ok, Res.bind_ex, Res.bindS_ok, Res.bindS_ex, a_var0, a_c, a_x2, a_o2, a_res1, a_xN, a_cons, a_nil, a_o1, a_xN1, a_tup, a_lst, mkTup_eq, mkLst_eq, a_dats0, a_dats1, a_ret1, a_tBl, a_tTr, a_tNo, a_tAn, a_tOr, a_bool1, truth_bl, truth_non, truth_int, truth_lst, truth_tup, a_and, a_or, a_chain, a_boolK, a_not, a_nDV, a_neg, a_neg1, a_if, a_isi, a_oIsi, isi_int, isi_bool, isi_tuple, isi_list, isi_str, a_it, a_items_l, a_items_t, a_lc, a_wipe0, a_wipe1, a_gNm, a_gTp, a_gCo, a_gNo, a_yes, a_for, a_rg1, a_rg2, a_new, a_llst, a_rd, Option.bind_some, ends_nx, ends_rt, ends_ex, leave_dat, List.map_cons, List.map_nil, List.length_cons, List.length_nil, Nat.reduceSub, Nat.reduceAdd, List.replicate_succ, List.replicate_zero, List.cons_append, List.nil_append, List.append_nil, List.getElem?_cons_zero, List.getElem?_cons_succ, List.set_cons_zero, List.set_cons_succ, List.take_length, cond_true, cond_false, Bool.not_true, Bool.not_false, dLt_i, dLe_i, dGt_i, dGe_i, dAdd_i, dSub_i, dIsN_eq, dNotN_eq, dLen_l, dLen_t, dIx_l, dIx_t, dList_l, dList_t, dTuple_l, dTuple_t, szB_s, o1_end, oSl_t, oSl_l, oSl_s, a_sort, dInt_i, a_put, pen_rd, pen_0, pen_1, pen_2, pen_p1, pen_p2, take_cons, forGo_nil, a_star, dats_map, a_leave_end, Option.map_some, cellOf_end, rd_end, set_end, take_end, lit2, lit3, Bool.true_and, Bool.false_and, Bool.and_true, Bool.and_false, Bool.true_or, Bool.false_or, Bool.or_true, Bool.or_false, Bool.not_not, a_sl, a_pNo, a_pEx, a_asInt, a_frz0, a_zip, zip2_t, zip2_l, a_enum, enum1_l, enum1_t, D.isN, nn, e, p.take h.len]
    obtain ⟨v, hv, rfl⟩ := List.mem_map.mp hx
    refine ⟨v, S1, rfl, p.mono (by omega), by simp [isValOf, isVal, D.isN, inC, dInB_ints, hv, hns v hv], ?_⟩
    have ht := hc.2.1
    simp only [D.tiny] at ht
    have := tinys_iff.mp ht (.int v) (List.mem_map.mpr ⟨v, hv, rfl⟩)
    simp only [D.tiny, decide_eq_true_eq] at this
    have e : (10 : Nat) ^ 40 = 10000000000000000000000000000000000000000 := by decide
    unfold BIG
    omega
def CL : List D := [.tup [.int 0], .tup [.int 0, .int 1], .tup [.int 0, .int 1], .tup [.int 1, .int 2], .tup [.int 0, .int 2], .tup [.int 0, .int 1, .int 2], .tup [.int 0, .int 1, .int 99], .tup [.int 5], .tup [.int 98, .int 99, .int 1000000000], .tup [.int 1, .int 100000000000000000000000000000], .tup [.int 2024, .int 2025, .int 2026]]
theorem CL_ok : ∀ c ∈ CL, okC c := by
  have : ∀ c ∈ CL, isCol c = true ∧ c.tiny = true ∧ (itemsD c).all (fun d => match d with | .int v => decide (v < 1000000000000000000000000000000) | _ => true) = true := by
    intro c hc
    simp only [CL, List.mem_cons, List.not_mem_nil, or_false] at hc
    rcases hc with rfl | rfl | rfl | rfl | rfl | rfl | rfl | rfl | rfl | rfl | rfl <;> exact ⟨by decide, by decide, by decide⟩
  intro c hc
  refine ⟨(this c hc).1, (this c hc).2.1, fun ns e v hv => ?_⟩
  have h := (this c hc).2.2
  rw [e] at h
  simpa using List.all_eq_true.mp h (.int v) (List.mem_map.mpr ⟨v, hv, rfl⟩)
theorem non_ok : okC .non := ⟨rfl, rfl, fun ns e => nomatch e⟩
theorem columns_body {n : Nat} {T S : Store} {ds : List D} (h : Pen n (T ++ [some ds]) S) (hn : n + 2 ≤ LIM) (hl : 1 ≤ ds.length) (hl4 : ds.length ≤ 4) (o1' o3 o4 : Option DV) :
    ∃ (m : Nat) (c : D) (S1 : Store) (o4' : Option DV), lb1_l_law_columns [some (.obj 0), o1', some (.obj (T.length + 1)), o3, o4] S = .nx [some (.obj 0), o1', some (.obj (T.length + 1)), o3, o4'] S1 ∧ Pen (n + 2) (T ++ [some (ds.set m c)]) S1 ∧ m < ds.length ∧ c ∈ CL := by
  have hn : n + 2 ≤ 2147483648 := hn
  unfold lb1_l_law_columns
  obtain ⟨c, S1, e1, p1, hc⟩ := one_ok h (by show _ ≤ 2147483648; omega) CL (by decide) (by decide) (.lst CL) (.inl rfl)
  obtain ⟨m, S2, e2, p2, hm⟩ := take_ok p1 (by show _ ≤ 2147483648; omega) (ds.length : Nat) (by omega) (by omega)
  obtain ⟨S0', rfl, p0, l0⟩ := pen_end h
  obtain ⟨S1', rfl, p1', l1⟩ := pen_end p1
  obtain ⟨S2', rfl, p2', l2⟩ := pen_end p2
  have ad : dAdd (.lst [.tup [.int 0], .tup [.int 0, .int 1], .tup [.int 0, .int 1], .tup [.int 1, .int 2], .tup [.int 0, .int 2], .tup [.int 0, .int 1, .int 2], .tup [.int 0, .int 1, .int 99], .tup [.int 5]]) (.lst [.tup [.int 98, .int 99, .int 1000000000], .tup [.int 1, .int 100000000000000000000000000000], .tup [.int 2024, .int 2025, .int 2026]]) = some (.lst CL) := rfl
  have hm' : m < ds.length := by exact_mod_cast hm
  refine ⟨m, c, S2' ++ [some (ds.set m c)], some (.dat (.lst CL)), ?_, pen_snoc.mpr ⟨S2', rfl, p2'⟩, hm', hc⟩
  have ln : ∀ S0 : Store, S0.length = T.length + 1 → o1 dLen [.obj (T.length + 1)] (S0 ++ [some ds]) = .ok (.dat (.int (ds.length : Nat))) (S0 ++ [some ds]) := fun S0 h0 => by
    rw [← h0, o1_end]; rfl
  have px : ∀ ρ, putIx (.obj (T.length + 1)) (.dat (.int (m : Nat))) (.dat c) ρ (S2' ++ [some ds]) = .nx ρ (S2' ++ [some (ds.set m c)]) := fun ρ => by
    have e2 : cellOf (S2' ++ [some ds]) (.obj (T.length + 1)) = some (T.length + 1, ds) := by rw [← l2]; exact cellOf_end S2' ds
    have e3 : ixN ds.length ((m : Nat) : Int) = some m := by
      unfold ixN
      rw [if_pos (by omega), if_pos (by omega), Int.toNat_natCast]
    simp only [putIx, e2, e3]
    rw [← l2, set_end]
  simp -implicitDefEqProofs only [a_fn, a_seq, seq_nx, seq_rt, seq_ex, seq_bk, seq_ct, seq_cond, ends_cond, c_ok, c_dat, c_bl, c_int, c_and, c_or, c_nand, a_sif, a_ret, a_set, a_nils, a_tg, a_expr, a_raise, a_par, Res.bind_ok, Res.bind_ex, Res.bindS_ok, Res.bindS_ex, a_var0, a_c, a_x2, a_o2, a_res1, a_xN, a_cons, a_nil, a_o1, a_xN1, a_tup, a_lst, mkTup_eq, mkLst_eq, a_dats0, a_dats1, a_ret1, a_tBl, a_tTr, a_tNo, a_tAn, a_tOr, a_bool1, truth_bl, truth_non, truth_int, truth_lst, truth_tup, a_and, a_or, a_chain, a_boolK, a_not, a_nDV, a_neg, a_neg1, a_if, a_isi, a_oIsi, isi_int, isi_bool, isi_tuple, isi_list, isi_str, a_it, a_items_l, a_items_t, a_lc, a_wipe0, a_wipe1, a_gNm, a_gTp, a_gCo, a_gNo, a_yes, a_for, a_rg1, a_rg2, a_new, a_llst, a_rd, Option.bind_some, ends_nx, ends_rt, ends_ex, leave_dat, List.map_cons, List.map_nil, List.length_cons, List.length_nil, Nat.reduceSub, Nat.reduceAdd, List.replicate_succ, List.replicate_zero, List.cons_append, List.nil_append, List.append_nil, List.getElem?_cons_zero, List.getElem?_cons_succ, List.set_cons_zero, List.set_cons_succ, List.take_length, cond_true, cond_false, Bool.not_true, Bool.not_false, dLt_i, dLe_i, dGt_i, dGe_i, dAdd_i, dSub_i, dIsN_eq, dNotN_eq, dLen_l, dLen_t, dIx_l, dIx_t, dList_l, dList_t, dTuple_l, dTuple_t, szB_s, o1_end, oSl_t, oSl_l, oSl_s, a_sort, dInt_i, a_put, pen_rd, pen_0, pen_1, pen_2, pen_p1, pen_p2, take_cons, forGo_nil, a_star, dats_map, a_leave_end, Option.map_some, cellOf_end, rd_end, set_end, take_end, lit2, lit3, Bool.true_and, Bool.false_and, Bool.and_true, Bool.and_false, Bool.true_or, Bool.false_or, Bool.or_true, Bool.or_false, Bool.not_not, a_sl, a_pNo, a_pEx, a_asInt, a_frz0, a_zip, zip2_t, zip2_l, a_enum, enum1_l, enum1_t, p10_9, p10_29, ad, e1, ln S1' l1, e2, px]
theorem filter_set_le {α : Type} (p : α → Bool) : ∀ (l : List α) (m : Nat) (c : α), ((l.set m c).filter p).length ≤ (l.filter p).length + 1
  | [], _, _ => by simp
  | a :: l, 0, c => by
    simp only [List.set_cons_zero, List.filter_cons]
    split <;> split <;> simp <;> omega
  | a :: l, m + 1, c => by
    have := filter_set_le p l m c
    simp only [List.set_cons_succ, List.filter_cons]
    split <;> simp <;> omega
theorem columns_ok {n : Nat} {T S : Store} (h : Pen n T S) (hn : n + 8 ≤ LIM) (m : Nat) (m1 : 1 ≤ m) (m4 : m ≤ 4) : ∃ (cs : List D) (S1 : Store), g_l_law_columns [.obj 0, .dat (.int ((m : Nat) : Int))] S = .ok (.dat (.tup cs)) S1 ∧ Pen (n + 8) T S1 ∧ isCols (.tup cs) = true ∧ (∀ c ∈ cs, okC c) ∧ cs.length ≤ m := by
  have hn : n + 8 ≤ 2147483648 := hn
  unfold g_l_law_columns s_l_law_columns
  obtain ⟨r, S1, e1, p1, hr⟩ := take_ok h (by show _ ≤ 2147483648; omega) ((m : Nat) : Int) (by omega) (by omega)
  have rep : ∀ (f g : XFn) (ρ : Slots) (S S' : Store), f ρ S = .ok (.dat (.lst [.non])) S → g ρ S = .ok (.dat (.int (1 + (r : Nat)))) S' → lRep f g ρ S = .ok (List.replicate (1 + r) .non) S' := fun f g ρ S S' h1 h2 => by
    have e : (1 + ((r : Nat) : Int)).toNat = 1 + r := by omega
    simp only [lRep, h1, h2, Res.bind_ok, rd, e]
    rw [if_pos ⟨by omega, by omega, le_size (by simp; omega)⟩]
    congr 1
    induction (1 + r) with
    | zero => rfl
    | succ n ih => simp only [List.replicate_succ, List.flatten_cons, ih]; rfl
  have hS : S1.length = T.length + 1 := p1.len
  have pS : Pen (n + 1) (T ++ [some (List.replicate (1 + r) D.non)]) (S1 ++ [some (List.replicate (1 + r) D.non)]) := pen_snoc.mpr ⟨S1, rfl, p1⟩
  obtain ⟨x, S2, e2, p2, hx⟩ := one_ok pS (by show _ ≤ 2147483648; omega) [D.int 0, D.int 1, D.int 1, D.int 2, D.int 2] (by simp) (by simp) _ (.inl rfl)
  obtain ⟨k, rfl, hk⟩ : ∃ k : Nat, x = .int (k : Nat) ∧ k ≤ 2 := by
    simp only [List.mem_cons, List.not_mem_nil, or_false] at hx
    rcases hx with rfl | rfl | rfl | rfl | rfl
    · exact ⟨0, rfl, by decide⟩
    · exact ⟨1, rfl, by decide⟩
    · exact ⟨1, rfl, by decide⟩
    · exact ⟨2, rfl, by decide⟩
    · exact ⟨2, rfl, by decide⟩
  obtain ⟨ρ', S3, e3, ds, o3, o4, rfl, hl, hoc, hcl, p3⟩ := forGo_run (enc := fun i : Nat => D.int ((i : Nat) : Int)) (G := gNm 3) (f := lb1_l_law_columns) (fun pre ρ S => ∃ ds o3 o4, ρ = [some (.obj 0), some (.dat (.int ((m : Nat) : Int))), some (.obj (T.length + 1)), o3, o4] ∧ ds.length = 1 + r ∧ (∀ c ∈ ds, okC c) ∧ (ds.filter fun c : D => !c.isN).length ≤ pre.length ∧ Pen (n + 2 + 2 * pre.length) (T ++ [some ds]) S) (List.range k) [] [some (.obj 0), some (.dat (.int ((m : Nat) : Int))), some (.obj (T.length + 1)), none, none] S2
    ⟨List.replicate (1 + r) D.non, _, _, rfl, by simp, fun c hc => by rw [List.eq_of_mem_replicate hc]; exact non_ok, by simp [D.isN], p2⟩ (by
    rintro pre a post ρ S hpp ⟨ds, o3, o4, rfl, hl, hoc, hcl, hp⟩
    obtain ⟨ha, ha2⟩ := range_at (by simpa using hpp)
    obtain ⟨j, c, S', o4', e, p, hj, hc⟩ := columns_body hp (by show _ ≤ 2147483648; omega) (by omega) (by omega) (some (.dat (.int ((m : Nat) : Int)))) (some (.dat (.int ((a : Nat) : Int)))) o4
    refine ⟨_, _, S', rfl, .inl e, ds.set j c, _, _, rfl, by simp [hl], fun d hd => ?_, ?_, ?_⟩
    · rcases List.mem_or_eq_of_mem_set hd with h | h
      · exact hoc d h
      · exact h ▸ CL_ok c hc
    · have := filter_set_le (fun c : D => !c.isN) ds j c
      rw [List.length_append]
      simp only [List.length_cons, List.length_nil]
      omega
    · rw [List.length_append]
      exact p.mono (by simp; omega))
  simp only [List.nil_append, List.length_range] at hcl p3
  obtain ⟨S3', rfl, p3', l3⟩ := pen_end p3
  have nw : sNew 2 (lRep (xLst (aCons (xC .non) aNil)) (x2 (o2 dAdd) (xC (.int 1)) (xN g_l_law_take (aCons (xVar 0) (aCons (xVar 1) aNil))))) [some (.obj 0), some (.dat (.int ((m : Nat) : Int))), none, none, none] S = .nx [some (.obj 0), some (.dat (.int ((m : Nat) : Int))), some (.obj (T.length + 1)), none, none] (S1 ++ [some (List.replicate (1 + r) D.non)]) := by
    have q := rep (xLst (aCons (xC .non) aNil)) (x2 (o2 dAdd) (xC (.int 1)) (xN g_l_law_take (aCons (xVar 0) (aCons (xVar 1) aNil)))) [some (.obj 0), some (.dat (.int ((m : Nat) : Int))), none, none, none] S S1 (by simp -implicitDefEqProofs only [a_fn, a_seq, seq_nx, seq_rt, seq_ex, seq_bk, seq_ct, seq_cond, ends_cond, c_ok, c_dat, c_bl, c_int, c_and, c_or, c_nand, a_sif, a_ret, a_set, a_nils, a_tg, a_expr, a_raise, a_par, Res.bind_ok, Res.bind_ex, Res.bindS_ok, Res.bindS_ex, a_var0, a_c, a_x2, a_o2, a_res1, a_xN, a_cons, a_nil, a_o1, a_xN1, a_tup, a_lst, mkTup_eq, mkLst_eq, a_dats0, a_dats1, a_ret1, a_tBl, a_tTr, a_tNo, a_tAn, a_tOr, a_bool1, truth_bl, truth_non, truth_int, truth_lst, truth_tup, a_and, a_or, a_chain, a_boolK, a_not, a_nDV, a_neg, a_neg1, a_if, a_isi, a_oIsi, isi_int, isi_bool, isi_tuple, isi_list, isi_str, a_it, a_items_l, a_items_t, a_lc, a_wipe0, a_wipe1, a_gNm, a_gTp, a_gCo, a_gNo, a_yes, a_for, a_rg1, a_rg2, a_new, a_llst, a_rd, Option.bind_some, ends_nx, ends_rt, ends_ex, leave_dat, List.map_cons, List.map_nil, List.length_cons, List.length_nil, Nat.reduceSub, Nat.reduceAdd, List.replicate_succ, List.replicate_zero, List.cons_append, List.nil_append, List.append_nil, List.getElem?_cons_zero, List.getElem?_cons_succ, List.set_cons_zero, List.set_cons_succ, List.take_length, cond_true, cond_false, Bool.not_true, Bool.not_false, dLt_i, dLe_i, dGt_i, dGe_i, dAdd_i, dSub_i, dIsN_eq, dNotN_eq, dLen_l, dLen_t, dIx_l, dIx_t, dList_l, dList_t, dTuple_l, dTuple_t, szB_s, o1_end, oSl_t, oSl_l, oSl_s, a_sort, dInt_i, a_put, pen_rd, pen_0, pen_1, pen_2, pen_p1, pen_p2, take_cons, forGo_nil, a_star, dats_map, a_leave_end, Option.map_some, cellOf_end, rd_end, set_end, take_end, lit2, lit3, Bool.true_and, Bool.false_and, Bool.and_true, Bool.and_false, Bool.true_or, Bool.false_or, Bool.or_true, Bool.or_false, Bool.not_not, a_sl, a_pNo, a_pEx, a_asInt, a_frz0, a_zip, zip2_t, zip2_l, a_enum, enum1_l, enum1_t]) (by simp -implicitDefEqProofs only [a_fn, a_seq, seq_nx, seq_rt, seq_ex, seq_bk, seq_ct, seq_cond, ends_cond, c_ok, c_dat, c_bl, c_int, c_and, c_or, c_nand, a_sif, a_ret, a_set, a_nils, a_tg, a_expr, a_raise, a_par, Res.bind_ok, Res.bind_ex, Res.bindS_ok, Res.bindS_ex, a_var0, a_c, a_x2, a_o2, a_res1, a_xN, a_cons, a_nil, a_o1, a_xN1, a_tup, a_lst, mkTup_eq, mkLst_eq, a_dats0, a_dats1, a_ret1, a_tBl, a_tTr, a_tNo, a_tAn, a_tOr, a_bool1, truth_bl, truth_non, truth_int, truth_lst, truth_tup, a_and, a_or, a_chain, a_boolK, a_not, a_nDV, a_neg, a_neg1, a_if, a_isi, a_oIsi, isi_int, isi_bool, isi_tuple, isi_list, isi_str, a_it, a_items_l, a_items_t, a_lc, a_wipe0, a_wipe1, a_gNm, a_gTp, a_gCo, a_gNo, a_yes, a_for, a_rg1, a_rg2, a_new, a_llst, a_rd, Option.bind_some, ends_nx, ends_rt, ends_ex, leave_dat, List.map_cons, List.map_nil, List.length_cons, List.length_nil, Nat.reduceSub, Nat.reduceAdd, List.replicate_succ, List.replicate_zero, List.cons_append, List.nil_append, List.append_nil, List.getElem?_cons_zero, List.getElem?_cons_succ, List.set_cons_zero, List.set_cons_succ, List.take_length, cond_true, cond_false, Bool.not_true, Bool.not_false, dLt_i, dLe_i, dGt_i, dGe_i, dAdd_i, dSub_i, dIsN_eq, dNotN_eq, dLen_l, dLen_t, dIx_l, dIx_t, dList_l, dList_t, dTuple_l, dTuple_t, szB_s, o1_end, oSl_t, oSl_l, oSl_s, a_sort, dInt_i, a_put, pen_rd, pen_0, pen_1, pen_2, pen_p1, pen_p2, take_cons, forGo_nil, a_star, dats_map, a_leave_end, Option.map_some, cellOf_end, rd_end, set_end, take_end, lit2, lit3, Bool.true_and, Bool.false_and, Bool.and_true, Bool.and_false, Bool.true_or, Bool.false_or, Bool.or_true, Bool.or_false, Bool.not_not, a_sl, a_pNo, a_pEx, a_asInt, a_frz0, a_zip, zip2_t, zip2_l, a_enum, enum1_l, enum1_t, e1])
    unfold sNew
    rw [q, ← hS]
    rfl
  have tp : o1 dTuple [.obj (T.length + 1)] (S3' ++ [some ds]) = .ok (.dat (.tup ds)) (S3' ++ [some ds]) := by
    rw [← l3, o1_end]; rfl
  simp only [List.map_cons, List.map_nil, List.length_cons, List.length_nil, fnBody, List.replicate, List.cons_append, List.nil_append]
  rw [a_seq, nw, seq_nx]
  simp -implicitDefEqProofs only [a_fn, a_seq, seq_nx, seq_rt, seq_ex, seq_bk, seq_ct, seq_cond, ends_cond, c_ok, c_dat, c_bl, c_int, c_and, c_or, c_nand, a_sif, a_ret, a_set, a_nils, a_tg, a_expr, a_raise, a_par, Res.bind_ok, Res.bind_ex, Res.bindS_ok, Res.bindS_ex, a_var0, a_c, a_x2, a_o2, a_res1, a_xN, a_cons, a_nil, a_o1, a_xN1, a_tup, a_lst, mkTup_eq, mkLst_eq, a_dats0, a_dats1, a_ret1, a_tBl, a_tTr, a_tNo, a_tAn, a_tOr, a_bool1, truth_bl, truth_non, truth_int, truth_lst, truth_tup, a_and, a_or, a_chain, a_boolK, a_not, a_nDV, a_neg, a_neg1, a_if, a_isi, a_oIsi, isi_int, isi_bool, isi_tuple, isi_list, isi_str, a_it, a_items_l, a_items_t, a_lc, a_wipe0, a_wipe1, a_gNm, a_gTp, a_gCo, a_gNo, a_yes, a_for, a_rg1, a_rg2, a_new, a_llst, a_rd, Option.bind_some, ends_nx, ends_rt, ends_ex, leave_dat, List.map_cons, List.map_nil, List.length_cons, List.length_nil, Nat.reduceSub, Nat.reduceAdd, List.replicate_succ, List.replicate_zero, List.cons_append, List.nil_append, List.append_nil, List.getElem?_cons_zero, List.getElem?_cons_succ, List.set_cons_zero, List.set_cons_succ, List.take_length, cond_true, cond_false, Bool.not_true, Bool.not_false, dLt_i, dLe_i, dGt_i, dGe_i, dAdd_i, dSub_i, dIsN_eq, dNotN_eq, dLen_l, dLen_t, dIx_l, dIx_t, dList_l, dList_t, dTuple_l, dTuple_t, szB_s, o1_end, oSl_t, oSl_l, oSl_s, a_sort, dInt_i, a_put, pen_rd, pen_0, pen_1, pen_2, pen_p1, pen_p2, take_cons, forGo_nil, a_star, dats_map, a_leave_end, Option.map_some, cellOf_end, rd_end, set_end, take_end, lit2, lit3, Bool.true_and, Bool.false_and, Bool.and_true, Bool.and_false, Bool.true_or, Bool.false_or, Bool.or_true, Bool.or_false, Bool.not_not, a_sl, a_pNo, a_pEx, a_asInt, a_frz0, a_zip, zip2_t, zip2_l, a_enum, enum1_l, enum1_t, e2, rng1_n (le_size (show k ≤ 16000000 by omega)), e3, tp]
  refine ⟨ds, S3', ?_, p3'.mono (by omega), ?_, hoc, by omega⟩
  · rw [h.len, ← l3]
    simp
  · simp only [isCols, Bool.and_eq_true, decide_eq_true_eq, List.all_eq_true]
    exact ⟨by omega, fun c hc => (hoc c hc).1, by omega⟩
end T08

set_option maxHeartbeats 400000
namespace T08
open PySem PySem.Spec PyProof.Rows L2 DL
theorem isRow_iff (cs : List D) (r : Row) : isRow cs (rowD r) = true ↔ r.length = cs.length ∧ ∀ i, i < cs.length → isValOf (cs.getD i .non) (.int (r.getD i 0)) = true := by
  simp only [isRow, rowD, List.length_map, Bool.and_eq_true, beq_iff_eq, List.all_eq_true]
  constructor
  · rintro ⟨h1, h2⟩
    have h1 : r.length = cs.length := by omega
    refine ⟨h1, fun i hi => ?_⟩
    have := h2 (cs.getD i .non, .int (r.getD i 0)) (by
      rw [List.mem_iff_getElem]
      refine ⟨i, by simp; omega, ?_⟩
      simp [List.getD_eq_getElem?_getD, List.getElem?_eq_getElem hi, List.getElem?_eq_getElem (show i < r.length by omega)])
    exact this
  · rintro ⟨h1, h2⟩
    refine ⟨by omega, fun p hp => ?_⟩
    obtain ⟨i, hi, rfl⟩ := List.mem_iff_getElem.mp hp
    simp only [List.length_zip, List.length_map] at hi
    have := h2 i (by omega)
    simpa [List.getD_eq_getElem?_getD, List.getElem?_eq_getElem (show i < cs.length by omega), List.getElem?_eq_getElem (show i < r.length by omega)] using this
theorem row_ok {n : Nat} {T S : Store} (h : Pen n T S) (hn : n + 16 ≤ LIM) (cs : List D) (hc : ∀ c ∈ cs, okC c) (hl : cs.length ≤ 4) : ∃ (r : Row) (S1 : Store), g_l_law_row [.obj 0, .dat (.tup cs)] S = .ok (.dat (rowD r)) S1 ∧ Pen (n + 16) T S1 ∧ isRow cs (rowD r) = true ∧ ∀ v ∈ r, v < BIG := by
  unfold g_l_law_row s_l_law_row
  simp -implicitDefEqProofs only [a_fn, a_seq, seq_nx, seq_rt, seq_ex, seq_bk, seq_ct, seq_cond, ends_cond, c_ok, c_dat, c_bl, c_int, c_and, c_or, c_nand, a_sif, a_ret, a_set, a_nils, a_tg, a_expr, a_raise, a_par, Res.bind_ok, Res.bind_ex, Res.bindS_ok, Res.bindS_ex, a_var0, a_c, a_x2, a_o2, a_res1, a_xN, a_cons, a_nil, a_o1, a_xN1, a_tup, a_lst, mkTup_eq, mkLst_eq, a_dats0, a_dats1, a_ret1, a_tBl, a_tTr, a_tNo, a_tAn, a_tOr, a_bool1, truth_bl, truth_non, truth_int, truth_lst, truth_tup, a_and, a_or, a_chain, a_boolK, a_not, a_nDV, a_neg, a_neg1, a_if, a_isi, a_oIsi, isi_int, isi_bool, isi_tuple, isi_list, isi_str, a_it, a_items_l, a_items_t, a_lc, a_wipe0, a_wipe1, a_gNm, a_gTp, a_gCo, a_gNo, a_yes, a_for, a_rg1, a_rg2, a_new, a_llst, a_rd, Option.bind_some, ends_nx, ends_rt, ends_ex, leave_dat, List.map_cons, List.map_nil, List.length_cons, List.length_nil, Nat.reduceSub, Nat.reduceAdd, List.replicate_succ, List.replicate_zero, List.cons_append, List.nil_append, List.append_nil, List.getElem?_cons_zero, List.getElem?_cons_succ, List.set_cons_zero, List.set_cons_succ, List.take_length, cond_true, cond_false, Bool.not_true, Bool.not_false, dLt_i, dLe_i, dGt_i, dGe_i, dAdd_i, dSub_i, dIsN_eq, dNotN_eq, dLen_l, dLen_t, dIx_l, dIx_t, dList_l, dList_t, dTuple_l, dTuple_t, szB_s, o1_end, oSl_t, oSl_l, oSl_s, a_sort, dInt_i, a_put, pen_rd, pen_0, pen_1, pen_2, pen_p1, pen_p2, take_cons, forGo_nil, a_star, dats_map, a_leave_end, Option.map_some, cellOf_end, rd_end, set_end, take_end, lit2, lit3, Bool.true_and, Bool.false_and, Bool.and_true, Bool.and_false, Bool.true_or, Bool.false_or, Bool.or_true, Bool.or_false, Bool.not_not, a_sl, a_pNo, a_pEx, a_asInt, a_frz0, a_zip, zip2_t, zip2_l, a_enum, enum1_l, enum1_t, szB_le (show cs.length ≤ 16777216 by omega)]
  obtain ⟨zs, S1, e, p, l, q⟩ := lc_pen (G := gNm 2) (t := tYesD) (f := xN g_l_law_value (aCons (xVar 0) (aCons (xVar 2) aNil))) (ρ := [some (.obj 0), some (.dat (.tup cs)), none]) (T := T) (R := fun c z => ∃ v : Int, z = .int v ∧ okV c v) (c := 4) cs n S h (by have : n + 16 ≤ 2147483648 := hn; show _ ≤ 2147483648; omega) (by
    intro c hcs m S hp hm
    obtain ⟨v, S1, e, p, hv⟩ := value_ok hp hm c (hc c hcs)
    exact ⟨_, _, S1, rfl, rfl, by simp -implicitDefEqProofs only [a_fn, a_seq, seq_nx, seq_rt, seq_ex, seq_bk, seq_ct, seq_cond, ends_cond, c_ok, c_dat, c_bl, c_int, c_and, c_or, c_nand, a_sif, a_ret, a_set, a_nils, a_tg, a_expr, a_raise, a_par, Res.bind_ok, Res.bind_ex, Res.bindS_ok, Res.bindS_ex, a_var0, a_c, a_x2, a_o2, a_res1, a_xN, a_cons, a_nil, a_o1, a_xN1, a_tup, a_lst, mkTup_eq, mkLst_eq, a_dats0, a_dats1, a_ret1, a_tBl, a_tTr, a_tNo, a_tAn, a_tOr, a_bool1, truth_bl, truth_non, truth_int, truth_lst, truth_tup, a_and, a_or, a_chain, a_boolK, a_not, a_nDV, a_neg, a_neg1, a_if, a_isi, a_oIsi, isi_int, isi_bool, isi_tuple, isi_list, isi_str, a_it, a_items_l, a_items_t, a_lc, a_wipe0, a_wipe1, a_gNm, a_gTp, a_gCo, a_gNo, a_yes, a_for, a_rg1, a_rg2, a_new, a_llst, a_rd, Option.bind_some, ends_nx, ends_rt, ends_ex, leave_dat, List.map_cons, List.map_nil, List.length_cons, List.length_nil, Nat.reduceSub, Nat.reduceAdd, List.replicate_succ, List.replicate_zero, List.cons_append, List.nil_append, List.append_nil, List.getElem?_cons_zero, List.getElem?_cons_succ, List.set_cons_zero, List.set_cons_succ, List.take_length, cond_true, cond_false, Bool.not_true, Bool.not_false, dLt_i, dLe_i, dGt_i, dGe_i, dAdd_i, dSub_i, dIsN_eq, dNotN_eq, dLen_l, dLen_t, dIx_l, dIx_t, dList_l, dList_t, dTuple_l, dTuple_t, szB_s, o1_end, oSl_t, oSl_l, oSl_s, a_sort, dInt_i, a_put, pen_rd, pen_0, pen_1, pen_2, pen_p1, pen_p2, take_cons, forGo_nil, a_star, dats_map, a_leave_end, Option.map_some, cellOf_end, rd_end, set_end, take_end, lit2, lit3, Bool.true_and, Bool.false_and, Bool.and_true, Bool.and_false, Bool.true_or, Bool.false_or, Bool.or_true, Bool.or_false, Bool.not_not, a_sl, a_pNo, a_pEx, a_asInt, a_frz0, a_zip, zip2_t, zip2_l, a_enum, enum1_l, enum1_t, e], p, ⟨v, rfl, hv⟩⟩)
  obtain ⟨r, rfl⟩ := ints_of (zs := zs) fun z hz => by
    obtain ⟨i, hi, rfl⟩ := List.mem_iff_getElem.mp hz
    have := q (cs[i]'(by omega), zs[i]) (by rw [List.mem_iff_getElem]; exact ⟨i, by simp; omega, by simp⟩)
    exact ⟨_, this.choose_spec.1⟩
  simp -implicitDefEqProofs only [a_fn, a_seq, seq_nx, seq_rt, seq_ex, seq_bk, seq_ct, seq_cond, ends_cond, c_ok, c_dat, c_bl, c_int, c_and, c_or, c_nand, a_sif, a_ret, a_set, a_nils, a_tg, a_expr, a_raise, a_par, Res.bind_ok, Res.bind_ex, Res.bindS_ok, Res.bindS_ex, a_var0, a_c, a_x2, a_o2, a_res1, a_xN, a_cons, a_nil, a_o1, a_xN1, a_tup, a_lst, mkTup_eq, mkLst_eq, a_dats0, a_dats1, a_ret1, a_tBl, a_tTr, a_tNo, a_tAn, a_tOr, a_bool1, truth_bl, truth_non, truth_int, truth_lst, truth_tup, a_and, a_or, a_chain, a_boolK, a_not, a_nDV, a_neg, a_neg1, a_if, a_isi, a_oIsi, isi_int, isi_bool, isi_tuple, isi_list, isi_str, a_it, a_items_l, a_items_t, a_lc, a_wipe0, a_wipe1, a_gNm, a_gTp, a_gCo, a_gNo, a_yes, a_for, a_rg1, a_rg2, a_new, a_llst, a_rd, Option.bind_some, ends_nx, ends_rt, ends_ex, leave_dat, List.map_cons, List.map_nil, List.length_cons, List.length_nil, Nat.reduceSub, Nat.reduceAdd, List.replicate_succ, List.replicate_zero, List.cons_append, List.nil_append, List.append_nil, List.getElem?_cons_zero, List.getElem?_cons_succ, List.set_cons_zero, List.set_cons_succ, List.take_length, cond_true, cond_false, Bool.not_true, Bool.not_false, dLt_i, dLe_i, dGt_i, dGe_i, dAdd_i, dSub_i, dIsN_eq, dNotN_eq, dLen_l, dLen_t, dIx_l, dIx_t, dList_l, dList_t, dTuple_l, dTuple_t, szB_s, o1_end, oSl_t, oSl_l, oSl_s, a_sort, dInt_i, a_put, pen_rd, pen_0, pen_1, pen_2, pen_p1, pen_p2, take_cons, forGo_nil, a_star, dats_map, a_leave_end, Option.map_some, cellOf_end, rd_end, set_end, take_end, lit2, lit3, Bool.true_and, Bool.false_and, Bool.and_true, Bool.and_false, Bool.true_or, Bool.false_or, Bool.or_true, Bool.or_false, Bool.not_not, a_sl, a_pNo, a_pEx, a_asInt, a_frz0, a_zip, zip2_t, zip2_l, a_enum, enum1_l, enum1_t, e]
  refine ⟨r, S1, ?_, p.mono (by omega), ?_, fun v hv => ?_⟩
  · rw [p.take h.len]
    rfl
  · simp only [isRow, rowD, Bool.and_eq_true, beq_iff_eq, List.all_eq_true]
    refine ⟨by omega, fun p hp => ?_⟩
    obtain ⟨v, e, hv⟩ := q p hp
    rw [e]
    exact hv.1
  · obtain ⟨i, hi, rfl⟩ := List.mem_iff_getElem.mp hv
    have l' : i < cs.length := by simp at l; omega
    obtain ⟨u, e, hu⟩ := q (cs[i], .int r[i]) (by rw [List.mem_iff_getElem]; exact ⟨i, by simp; omega, by simp⟩)
    cases e
    exact hu.2
structure RG (cs : List D) (c : Nat) (w : Option Int) (m : Nat) (g : Giv) : Prop where
  lt : ∀ p ∈ g, p.1 < m ∧ p.1 ≠ c
  val : ∀ p ∈ g, ∀ v, p.2 = some v → okV (cs.getD p.1 .non) v
  want : w ≠ none → ∀ p ∈ g, p.2 ≠ none
  inc : (g.map (·.1)).Pairwise (· < ·)
  len : g.length ≤ m
theorem isRul_of {cs : List D} {c : Nat} {w : Option Int} {g : Giv} (hc : c < cs.length) (G : RG cs c w cs.length g) (hw : ∀ v, w = some v → okV (cs.getD c .non) v) : isRul cs (rulD ⟨g, c, w⟩) = true := by
  have e1 : (g.map eD).map fstI = (g.map (·.1)).map fun k => ((k : Nat) : Int) := by
    simp [List.map_map, Function.comp_def, eD, fstI]
  have e2 : ((g.map (·.1)).map fun k => ((k : Nat) : Int)).Pairwise (· < ·) := by
    rw [List.pairwise_map]
    exact G.inc.imp fun h => by omega
  have a1 : isGiv cs (gD g) = true := by
    simp only [isGiv, gD, Bool.and_eq_true, decide_eq_true_eq, List.all_eq_true, e1]
    refine ⟨fun x hx => ?_, (sset_of_sorted e2).symm⟩
    obtain ⟨p, hp, rfl⟩ := List.mem_map.mp hx
    have l := (G.lt p hp).1
    simp only [eD, isEnt, isBtw, colAt, Bool.and_eq_true, decide_eq_true_eq, Bool.or_eq_true]
    refine ⟨by omega, ?_⟩
    cases h2 : p.2 with
    | none => exact .inl rfl
    | some v => exact .inr (by simpa [oD] using (G.val p hp v h2).1)
  have a2 : inC (.int (c : Nat)) (.tup ((itemsD (gD g)).map fun e => .int (fstI e))) = false := by
    have e3 : ((itemsD (gD g)).map fun e => D.int (fstI e)) = ((g.map eD).map fstI).map .int := by simp [itemsD, gD]
    rw [e3, e1]
    simp only [inC, dInB_ints, decide_eq_false_iff_not]
    intro hm
    obtain ⟨k, hk, e⟩ := List.mem_map.mp hm
    obtain ⟨p, hp, rfl⟩ := List.mem_map.mp hk
    exact (G.lt p hp).2 (by omega)
  simp only [rulD, isRul, a1, a2, Bool.true_and, Bool.not_false, Bool.and_true, isBtw, colAt, Bool.and_eq_true, decide_eq_true_eq, Bool.or_eq_true, List.all_eq_true]
  refine ⟨by omega, ?_⟩
  cases w with
  | none => exact .inl rfl
  | some v =>
    refine .inr ⟨by simpa [oD] using (hw v rfl).1, fun x hx => ?_⟩
    obtain ⟨p, hp, rfl⟩ := List.mem_map.mp hx
    have := G.want (by simp) p hp
    cases h2 : p.2 with
    | none => exact absurd h2 this
    | some u => simp [eD, oD, h2, D.isN]
structure GR (cs : List D) (r : Rul) : Prop where
  is : isRul cs (rulD r) = true
  G : RG cs r.c r.w cs.length r.g
  hw : ∀ v, r.w = some v → okV (cs.getD r.c .non) v
  ok : okR cs.length r
  sh : r.g.length < 64
theorem GR.of {cs : List D} {r : Rul} (hcl : r.c < cs.length) (G : RG cs r.c r.w cs.length r.g) (hw : ∀ v, r.w = some v → okV (cs.getD r.c .non) v) (hl : cs.length ≤ 4) : GR cs r :=
  ⟨isRul_of hcl G hw, G, hw, ⟨⟨fun p hp => (G.lt p hp).1, by have := G.len; omega⟩, hcl⟩, by have := G.len; omega⟩
/-! ## small data, by a measure: what can be shown and compared -/
structure Sm (n b : Nat) (d : D) : Prop where
  fit : d.fit n = true
  tiny : d.tiny = true
  bulk : d.py.bulk ≤ b
theorem Sm.mono {n m b c : Nat} {d : D} (h : Sm n b d) (h1 : n ≤ m) (h2 : b ≤ c) : Sm m c d := ⟨fit_mono h1 h.fit, h.tiny, Nat.le_trans h.bulk h2⟩
theorem Sm.rep {n b : Nat} {d : D} (h : Sm n b d) (hn : n ≤ 60) (hb : b ≤ 300000) : dRepr d = some (.str d.py.shown) := dRepr_of (canRepr_of h.fit hn h.tiny (Nat.le_trans h.bulk hb))
theorem Sm.lst {n b m : Nat} {xs : List D} (h : ∀ x ∈ xs, Sm n b x) (hm : xs.length * (b + 1) ≤ m) : Sm (n + 1) m (.lst xs) := by
  refine ⟨by simp only [D.fit]; exact fits_iff.mpr fun x hx => (h x hx).fit, by simp only [D.tiny]; exact tinys_iff.mpr fun x hx => (h x hx).tiny, ?_⟩
  have := bulks_le (xs := xs) (c := b) fun x hx => (h x hx).bulk
  simp only [D.py, PyData.bulk]
  omega
theorem Sm.tup {n b m : Nat} {xs : List D} (h : ∀ x ∈ xs, Sm n b x) (hm : xs.length * (b + 1) ≤ m) : Sm (n + 1) m (.tup xs) := by
  refine ⟨by simp only [D.fit]; exact fits_iff.mpr fun x hx => (h x hx).fit, by simp only [D.tiny]; exact tinys_iff.mpr fun x hx => (h x hx).tiny, ?_⟩
  have := bulks_le (xs := xs) (c := b) fun x hx => (h x hx).bulk
  simp only [D.py, PyData.bulk]
  omega
theorem Sm.non (n b : Nat) : Sm n b .non := ⟨by cases n <;> rfl, rfl, by simp [D.py, PyData.bulk]⟩
theorem Sm.bl (n b : Nat) (x : Bool) : Sm n b (.bl x) := ⟨by cases n <;> rfl, rfl, by simp [D.py, PyData.bulk]⟩
theorem Sm.int (n b : Nat) {i : Int} (h : i.natAbs < 10 ^ 40) : Sm n b (.int i) := ⟨by cases n <;> rfl, by simp only [D.tiny, decide_eq_true_eq]; exact h, by simp [D.py, PyData.bulk]⟩
theorem Sm.nat (n b : Nat) {i : Nat} (h : i ≤ 1000000) : Sm n b (.int (i : Nat)) := ⟨by cases n <;> rfl, nn_tiny h, by simp [D.py, PyData.bulk]⟩
theorem Sm.row {r : Row} (h : ∀ v ∈ r, (D.int v).tiny = true) (hl : r.length ≤ 4) : Sm 1 4 (rowD r) := by
  refine Sm.tup (n := 0) (b := 0) (fun x hx => ?_) (by simp; omega)
  obtain ⟨v, hv, rfl⟩ := List.mem_map.mp hx
  exact ⟨rfl, h v hv, by simp [DL.D.py, PyData.bulk]⟩
theorem Sm.col {c : D} (h : isCol c = true) (ht : c.tiny = true) : Sm 1 4 c := by
  rcases isCol_cases h with rfl | ⟨ns, rfl, l0, l1, hns, _⟩
  · exact .non _ _
  · refine Sm.tup (n := 0) (b := 0) (fun x hx => ?_) (by simp; omega)
    simp only [D.tiny] at ht
    have := tinys_iff.mp ht x hx
    obtain ⟨v, hv, rfl⟩ := List.mem_map.mp hx
    exact ⟨rfl, this, by simp [DL.D.py, PyData.bulk]⟩
theorem Sm.cols {cs : List D} (h : ∀ c ∈ cs, okC c) (hl : cs.length ≤ 4) : Sm 2 25 (.tup cs) := Sm.tup (n := 1) (b := 4) (fun x hx => .col (h x hx).1 (h x hx).2.1) (by omega)
def BADC : List D := [.non, .bl true, .int 0, .str "columns", .str "", .tup [], .lst [], .lst [.non], .tup [.non, .non, .non, .non, .non], .tup [.int 0], .tup [.tup []], .tup [.tup [.int 0, .int 1, .int 2, .int 3]], .tup [.tup [.int 1, .int 0]], .tup [.tup [.int 0, .int 0]], .tup [.tup [.int (-1)]], .tup [.tup [.int 5, .int 3]], .tup [.tup [.bl true]], .tup [.tup [.int 0, .non]], .tup [.lst [.int 0]], .tup [.non, .tup [.int 0], .tup [.int 1], .tup [.int 2]], .tup [.str "0"], .tup [.non, .str "a"], .tup [.tup [.int 0, .int 1], .tup [.int 0, .int 1], .tup [.int 0, .int 1]], .tup [.tup [.int 0, .str "1"]]]
theorem BADC_ok : ∀ d ∈ BADC, isCols d = false ∧ Sm 3 100 d := by
  have : ∀ d ∈ BADC, isCols d = false ∧ (d.fit 3 = true ∧ d.tiny = true ∧ d.py.bulk ≤ 100) := by
    intro d hd
    simp only [BADC, List.mem_cons, List.not_mem_nil, or_false] at hd
    rcases hd with rfl | rfl | rfl | rfl | rfl | rfl | rfl | rfl | rfl | rfl | rfl | rfl | rfl | rfl | rfl | rfl | rfl | rfl | rfl | rfl | rfl | rfl | rfl | rfl <;> exact ⟨by decide +kernel, by decide +kernel, by decide +kernel, by decide +kernel⟩
  exact fun d hd => ⟨(this d hd).1, (this d hd).2.1, (this d hd).2.2.1, (this d hd).2.2.2⟩
theorem rep_1 (d : D) (k : Nat) (hk : 1 ≤ k) (h2 : k ≤ 1000) : dMulA (.tup [d]) (.int (k : Nat)) = some (.tup (List.replicate k d)) := by
  have e : (List.replicate k [d]).flatten = List.replicate k d := by
    induction k with
    | zero => rfl
    | succ n ih =>
      cases n with
      | zero => rfl
      | succ m => simp only [List.replicate_succ (n := m + 1), List.flatten_cons, ih (by omega) (by omega)]; rfl
  by_cases h : k = 1
  · subst h; rfl
  · have h1 : ¬(([d] = ([] : List D) ∨ ((k : Nat) : Int) = 1) ∧ -1000 ≤ ((k : Nat) : Int) ∧ ((k : Nat) : Int) ≤ 1000) := by
      rintro ⟨h3 | h3, _⟩
      · cases h3
      · omega
    have h3 : [d] ≠ ([] : List D) ∧ 2 ≤ ((k : Nat) : Int) ∧ ((k : Nat) : Int) ≤ 1000 ∧ [d].length ≤ 1000 := ⟨by simp, by omega, by omega, by simp⟩
    simp only [dMulA, dMul]
    rw [if_neg h1, if_pos h3, Int.toNat_natCast, e]
theorem bad_columns_ok {n : Nat} {T S : Store} (h : Pen n T S) (hn : n ≤ LIM) (cs : List D) (hc : ∀ c ∈ cs, okC c) (hl : cs.length ≤ 4) : ∃ (d : D) (S1 : Store), g_l_law_bad_columns [.obj 0, .dat (.tup cs)] S = .ok (.dat d) S1 ∧ Pen (n + 1) T S1 ∧ isCols d = false ∧ Sm 3 100 d := by
  unfold g_l_law_bad_columns s_l_law_bad_columns
  have m5 : dMulA (.tup [.non]) (.int 5) = some (.tup [.non, .non, .non, .non, .non]) := rep_1 .non 5 (by decide) (by decide)
  have a1 : dAdd (.tup cs) (.tup [.bl true]) = some (.tup (cs ++ [.bl true])) := by
    rw [dAdd_t, szB_le (by simp; omega)]
    rfl
  obtain ⟨d, S1, e1, p1, hd⟩ := one_ok h hn ([.non, .bl true, .int 0, .str "columns", .str "", .tup [], .lst [], .lst [.non], .lst cs, .tup [.non, .non, .non, .non, .non], .tup [.int 0], .tup [.tup []], .tup [.tup [.int 0, .int 1, .int 2, .int 3]], .tup [.tup [.int 1, .int 0]], .tup [.tup [.int 0, .int 0]], .tup [.tup [.int (-1)]], .tup [.tup [.int 5, .int 3]], .tup [.tup [.bl true]], .tup [.tup [.int 0, .non]], .tup [.lst [.int 0]], .tup [.non, .tup [.int 0], .tup [.int 1], .tup [.int 2]], .tup [.str "0"], .tup [.non, .str "a"], .tup [.tup [.int 0, .int 1], .tup [.int 0, .int 1], .tup [.int 0, .int 1]], .tup [.tup [.int 0, .str "1"]], .tup (cs ++ [.bl true])]) (by simp) (by simp) _ (.inl rfl)
  refine ⟨d, S1, ?_, p1, ?_⟩
  · simp -implicitDefEqProofs only [a_fn, a_seq, seq_nx, seq_rt, seq_ex, seq_bk, seq_ct, seq_cond, ends_cond, c_ok, c_dat, c_bl, c_int, c_and, c_or, c_nand, a_sif, a_ret, a_set, a_nils, a_tg, a_expr, a_raise, a_par, Res.bind_ok, Res.bind_ex, Res.bindS_ok, Res.bindS_ex, a_var0, a_c, a_x2, a_o2, a_res1, a_xN, a_cons, a_nil, a_o1, a_xN1, a_tup, a_lst, mkTup_eq, mkLst_eq, a_dats0, a_dats1, a_ret1, a_tBl, a_tTr, a_tNo, a_tAn, a_tOr, a_bool1, truth_bl, truth_non, truth_int, truth_lst, truth_tup, a_and, a_or, a_chain, a_boolK, a_not, a_nDV, a_neg, a_neg1, a_if, a_isi, a_oIsi, isi_int, isi_bool, isi_tuple, isi_list, isi_str, a_it, a_items_l, a_items_t, a_lc, a_wipe0, a_wipe1, a_gNm, a_gTp, a_gCo, a_gNo, a_yes, a_for, a_rg1, a_rg2, a_new, a_llst, a_rd, Option.bind_some, ends_nx, ends_rt, ends_ex, leave_dat, List.map_cons, List.map_nil, List.length_cons, List.length_nil, Nat.reduceSub, Nat.reduceAdd, List.replicate_succ, List.replicate_zero, List.cons_append, List.nil_append, List.append_nil, List.getElem?_cons_zero, List.getElem?_cons_succ, List.set_cons_zero, List.set_cons_succ, List.take_length, cond_true, cond_false, Bool.not_true, Bool.not_false, dLt_i, dLe_i, dGt_i, dGe_i, dAdd_i, dSub_i, dIsN_eq, dNotN_eq, dLen_l, dLen_t, dIx_l, dIx_t, dList_l, dList_t, dTuple_l, dTuple_t, szB_s, o1_end, oSl_t, oSl_l, oSl_s, a_sort, dInt_i, a_put, pen_rd, pen_0, pen_1, pen_2, pen_p1, pen_p2, take_cons, forGo_nil, a_star, dats_map, a_leave_end, Option.map_some, cellOf_end, rd_end, set_end, take_end, lit2, lit3, Bool.true_and, Bool.false_and, Bool.and_true, Bool.and_false, Bool.true_or, Bool.false_or, Bool.or_true, Bool.or_false, Bool.not_not, a_sl, a_pNo, a_pEx, a_asInt, a_frz0, a_zip, zip2_t, zip2_l, a_enum, enum1_l, enum1_t, m5, a1, dAdd_l, szB_le (show 20 ≤ 16777216 by decide), szB_le (show 25 ≤ 16777216 by decide), szB_le (show 26 ≤ 16777216 by decide)]
    simp -implicitDefEqProofs only [a_fn, a_seq, seq_nx, seq_rt, seq_ex, seq_bk, seq_ct, seq_cond, ends_cond, c_ok, c_dat, c_bl, c_int, c_and, c_or, c_nand, a_sif, a_ret, a_set, a_nils, a_tg, a_expr, a_raise, a_par, Res.bind_ok, Res.bind_ex, Res.bindS_ok, Res.bindS_ex, a_var0, a_c, a_x2, a_o2, a_res1, a_xN, a_cons, a_nil, a_o1, a_xN1, a_tup, a_lst, mkTup_eq, mkLst_eq, a_dats0, a_dats1, a_ret1, a_tBl, a_tTr, a_tNo, a_tAn, a_tOr, a_bool1, truth_bl, truth_non, truth_int, truth_lst, truth_tup, a_and, a_or, a_chain, a_boolK, a_not, a_nDV, a_neg, a_neg1, a_if, a_isi, a_oIsi, isi_int, isi_bool, isi_tuple, isi_list, isi_str, a_it, a_items_l, a_items_t, a_lc, a_wipe0, a_wipe1, a_gNm, a_gTp, a_gCo, a_gNo, a_yes, a_for, a_rg1, a_rg2, a_new, a_llst, a_rd, Option.bind_some, ends_nx, ends_rt, ends_ex, leave_dat, List.map_cons, List.map_nil, List.length_cons, List.length_nil, Nat.reduceSub, Nat.reduceAdd, List.replicate_succ, List.replicate_zero, List.cons_append, List.nil_append, List.append_nil, List.getElem?_cons_zero, List.getElem?_cons_succ, List.set_cons_zero, List.set_cons_succ, List.take_length, cond_true, cond_false, Bool.not_true, Bool.not_false, dLt_i, dLe_i, dGt_i, dGe_i, dAdd_i, dSub_i, dIsN_eq, dNotN_eq, dLen_l, dLen_t, dIx_l, dIx_t, dList_l, dList_t, dTuple_l, dTuple_t, szB_s, o1_end, oSl_t, oSl_l, oSl_s, a_sort, dInt_i, a_put, pen_rd, pen_0, pen_1, pen_2, pen_p1, pen_p2, take_cons, forGo_nil, a_star, dats_map, a_leave_end, Option.map_some, cellOf_end, rd_end, set_end, take_end, lit2, lit3, Bool.true_and, Bool.false_and, Bool.and_true, Bool.and_false, Bool.true_or, Bool.false_or, Bool.or_true, Bool.or_false, Bool.not_not, a_sl, a_pNo, a_pEx, a_asInt, a_frz0, a_zip, zip2_t, zip2_l, a_enum, enum1_l, enum1_t, e1, p1.take h.len]
  · have sc := Sm.cols hc hl
    have hx : d ∈ BADC ∨ d = .lst cs ∨ d = .tup (cs ++ [.bl true]) := by
      by_cases h1 : d = .lst cs
      · exact .inr (.inl h1)
      · by_cases h2 : d = .tup (cs ++ [.bl true])
        · exact .inr (.inr h2)
        · refine .inl ?_
          simp only [List.mem_cons, List.not_mem_nil, or_false, false_or, h1, h2] at hd
          simp only [BADC, List.mem_cons, List.not_mem_nil, or_false]
          exact hd
    rcases hx with hx | rfl | rfl
    · exact ⟨(BADC_ok d hx).1, (BADC_ok d hx).2⟩
    · exact ⟨rfl, Sm.lst (n := 1) (b := 4) (m := 20) (fun x hx => .col (hc x hx).1 (hc x hx).2.1) (by omega) |>.mono (by decide) (by omega)⟩
    · refine ⟨?_, Sm.tup (n := 1) (b := 4) (fun x hx => ?_) (by simp; omega) |>.mono (by decide) (Nat.le_refl _)⟩
      · simp [isCols, isCol]
      · rcases List.mem_append.mp hx with hx | hx
        · exact .col (hc x hx).1 (hc x hx).2.1
        · simp at hx; subst hx; exact .bl _ _ _
structure OkRow (cs : List D) (row : Row) : Prop where
  is : isRow cs (rowD row) = true
  tiny : ∀ v ∈ row, (D.int v).tiny = true
theorem isRow_ix {cs : List D} {row : Row} : isRow cs (rowD row) = true ↔ row.length = cs.length ∧ ∀ k, k < cs.length → isValOf (cs.getD k .non) (.int (row.getD k 0)) = true := by
  simp only [isRow, rowD, Bool.and_eq_true, beq_iff_eq, List.all_eq_true, List.length_map]
  constructor
  · rintro ⟨h1, h2⟩
    have h1 : row.length = cs.length := by omega
    refine ⟨h1, fun k hk => ?_⟩
    have := h2 (cs[k], D.int (row[k]'(by omega))) (by rw [List.mem_iff_getElem]; exact ⟨k, by simp; omega, by simp⟩)
    simpa [List.getD_eq_getElem?_getD, List.getElem?_eq_getElem hk, List.getElem?_eq_getElem (show k < row.length by omega)] using this
  · rintro ⟨h1, h2⟩
    refine ⟨by omega, fun p hp => ?_⟩
    obtain ⟨k, hk, rfl⟩ := List.mem_iff_getElem.mp hp
    simp only [List.length_zip, List.length_map] at hk
    have := h2 k (by omega)
    simpa [List.getD_eq_getElem?_getD, List.getElem?_eq_getElem (show k < cs.length by omega), List.getElem?_eq_getElem (show k < row.length by omega)] using this
theorem OkRow.len {cs : List D} {row : Row} (h : OkRow cs row) : row.length = cs.length := (isRow_ix.mp h.is).1
theorem OkRow.set {cs : List D} {row : Row} (h : OkRow cs row) (k : Nat) (v : Int) (hv : okV (cs.getD k .non) v) : OkRow cs (row.set k v) := by
  obtain ⟨h1, h2⟩ := isRow_ix.mp h.is
  refine ⟨isRow_ix.mpr ⟨by simpa using h1, fun j hj => ?_⟩, fun u hu => ?_⟩
  · by_cases e : k = j
    · subst e
      have : (row.set k v).getD k 0 = v := by simp [List.getD_eq_getElem?_getD, List.getElem?_set, h1, hj]
      rw [this]; exact hv.1
    · have : (row.set k v).getD j 0 = row.getD j 0 := by simp [List.getD_eq_getElem?_getD, List.getElem?_set_ne e]
      rw [this]; exact h2 j hj
  · rcases List.mem_or_eq_of_mem_set hu with hu | rfl
    · exact h.tiny u hu
    · exact hv.tiny
theorem OkRow.sm {cs : List D} {row : Row} (h : OkRow cs row) (hl : cs.length ≤ 4) : Sm 1 4 (rowD row) := .row h.tiny (by rw [h.len]; exact hl)
end T08

set_option maxHeartbeats 400000
namespace T08
open PySem PySem.Spec PyProof.Rows L2 DL
/-! ## bounded data: also how many items stand together -/
mutual
def wideB : Nat → D → Bool
  | w, .lst xs => decide (xs.length ≤ w) && wideBs w xs
  | w, .tup xs => decide (xs.length ≤ w) && wideBs w xs
  | _, _ => true
def wideBs : Nat → List D → Bool
  | _, [] => true
  | w, x :: xs => wideB w x && wideBs w xs
end
theorem wideBs_iff {w : Nat} : ∀ {xs : List D}, wideBs w xs = true ↔ ∀ x ∈ xs, wideB w x = true
  | [] => by simp [wideBs]
  | x :: xs => by simp [wideBs, wideBs_iff (xs := xs)]
mutual
theorem wideB_mono {w v : Nat} (h : w ≤ v) : ∀ {d : D}, wideB w d = true → wideB v d = true
  | .non, _ => rfl
  | .bl _, _ => rfl
  | .int _, _ => rfl
  | .str _, _ => rfl
  | .lst xs, k => by
    simp only [wideB, Bool.and_eq_true, decide_eq_true_eq] at k ⊢
    exact ⟨by omega, wideBs_mono h k.2⟩
  | .tup xs, k => by
    simp only [wideB, Bool.and_eq_true, decide_eq_true_eq] at k ⊢
    exact ⟨by omega, wideBs_mono h k.2⟩
theorem wideBs_mono {w v : Nat} (h : w ≤ v) : ∀ {xs : List D}, wideBs w xs = true → wideBs v xs = true
  | [], _ => rfl
  | x :: xs, k => by
    simp only [wideBs, Bool.and_eq_true] at k ⊢
    exact ⟨wideB_mono h k.1, wideBs_mono h k.2⟩
end
structure Sz (n w b : Nat) (d : D) : Prop extends Sm n b d where
  wide : wideB w d = true
theorem Sz.up {n m w v b c : Nat} {d : D} (h : Sz n w b d) (h1 : n ≤ m) (h2 : w ≤ v) (h3 : b ≤ c) : Sz m v c d := ⟨h.toSm.mono h1 h3, wideB_mono h2 h.wide⟩
theorem bulkAll_len : ∀ xs : List D, xs.length ≤ PyData.bulkAll (D.pys xs)
  | [] => by simp [D.pys, PyData.bulkAll]
  | x :: xs => by
    have := bulkAll_len xs
    simp only [D.pys, PyData.bulkAll, List.length_cons]
    omega
theorem bulkAll_app (xs ys : List D) : PyData.bulkAll (D.pys (xs ++ ys)) = PyData.bulkAll (D.pys xs) + PyData.bulkAll (D.pys ys) := by
  induction xs with
  | nil => simp [D.pys, PyData.bulkAll]
  | cons x xs ih =>
    simp only [List.cons_append, D.pys, PyData.bulkAll, ih]
    omega
theorem bulkAll_1 (x : D) : PyData.bulkAll (D.pys [x]) = x.py.bulk + 1 := by simp [D.pys, PyData.bulkAll]
theorem bulkAll_mem : ∀ {xs : List D} {x : D}, x ∈ xs → x.py.bulk + 1 ≤ PyData.bulkAll (D.pys xs)
  | y :: ys, x, h => by
    simp only [D.pys, PyData.bulkAll]
    rcases List.mem_cons.mp h with rfl | h
    · omega
    · have := bulkAll_mem h
      omega
theorem bulkAll_part (xs : List D) (k : Nat) : PyData.bulkAll (D.pys xs) = PyData.bulkAll (D.pys (xs.take k)) + PyData.bulkAll (D.pys (xs.drop k)) := by
  rw [← bulkAll_app, List.take_append_drop]
theorem bulkAll_rev (xs : List D) : PyData.bulkAll (D.pys xs.reverse) = PyData.bulkAll (D.pys xs) := by
  induction xs with
  | nil => rfl
  | cons x xs ih => rw [List.reverse_cons, bulkAll_app, ih, bulkAll_1]; simp only [D.pys, PyData.bulkAll]; omega
/-- the parts of a tuple -/
structure SzL (n w b : Nat) (xs : List D) : Prop where
  fit : D.fits n xs = true
  tiny : D.tinys xs = true
  bulk : PyData.bulkAll (D.pys xs) ≤ b
  len : xs.length ≤ w
  wide : wideBs w xs = true
theorem Sz.parts {n w b : Nat} {xs : List D} (h : Sz n w b (.tup xs)) : ∃ m, n = m + 1 ∧ SzL m w b xs := by
  cases n with
  | zero => have := h.fit; simp [D.fit] at this
  | succ m =>
    have hw := h.wide
    simp only [wideB, Bool.and_eq_true, decide_eq_true_eq] at hw
    exact ⟨m, rfl, by simpa only [D.fit] using h.fit, by simpa only [D.tiny] using h.tiny, by simpa only [D.py, PyData.bulk] using h.bulk, hw.1, hw.2⟩
theorem SzL.tup {n w b : Nat} {xs : List D} (h : SzL n w b xs) : Sz (n + 1) w b (.tup xs) :=
  ⟨⟨by simpa only [D.fit] using h.fit, by simpa only [D.tiny] using h.tiny, by simpa only [D.py, PyData.bulk] using h.bulk⟩, by simp only [wideB, Bool.and_eq_true, decide_eq_true_eq]; exact ⟨h.len, h.wide⟩⟩
theorem SzL.lst {n w b : Nat} {xs : List D} (h : SzL n w b xs) : Sz (n + 1) w b (.lst xs) :=
  ⟨⟨by simpa only [D.fit] using h.fit, by simpa only [D.tiny] using h.tiny, by simpa only [D.py, PyData.bulk] using h.bulk⟩, by simp only [wideB, Bool.and_eq_true, decide_eq_true_eq]; exact ⟨h.len, h.wide⟩⟩
theorem SzL.of {n w b c : Nat} {xs : List D} (h : ∀ x ∈ xs, Sz n w b x) (hl : xs.length ≤ w) (hb : xs.length * (b + 1) ≤ c) : SzL n w c xs :=
  ⟨fits_iff.mpr fun x hx => (h x hx).fit, tinys_iff.mpr fun x hx => (h x hx).tiny, Nat.le_trans (bulks_le fun x hx => (h x hx).bulk) hb, hl, wideBs_iff.mpr fun x hx => (h x hx).wide⟩
theorem SzL.mem {n w b : Nat} {xs : List D} (h : SzL n w b xs) {x : D} (hx : x ∈ xs) : Sz n w b x :=
  ⟨⟨fits_iff.mp h.fit x hx, tinys_iff.mp h.tiny x hx, by have := bulkAll_mem hx; have := h.bulk; omega⟩, wideBs_iff.mp h.wide x hx⟩
theorem Sz.of {n w b : Nat} {d : D} (h1 : d.fit n = true) (h2 : d.tiny = true) (h3 : d.py.bulk ≤ b) (h4 : wideB w d = true) : Sz n w b d := ⟨⟨h1, h2, h3⟩, h4⟩
theorem Sz.items {n w b : Nat} {d : D} (h : Sz n w b d) : (itemsD d).length ≤ w := by
  cases d with
  | lst xs => have hw := h.wide; simp only [wideB, Bool.and_eq_true, decide_eq_true_eq] at hw; exact hw.1
  | tup xs => have hw := h.wide; simp only [wideB, Bool.and_eq_true, decide_eq_true_eq] at hw; exact hw.1
  | _ => simp [itemsD]
def CHL : List D := [.int 0, .int 1, .int 2, .int 3, .int 4, .int 5, .int 99, .int 100, .int (-1), .bl true, .bl false, .non, .str "0", .str "", .tup [], .lst [], .tup [.int 0], .tup [.int 0, .int 1], .tup [.int 1, .int 0], .tup [.int 0, .non], .lst [.int 0], .tup [.tup [.int 0, .int 0]], .tup [.tup [.int 0, .non]], .tup [.tup [.int 1, .int 1], .tup [.int 0, .int 0]], .tup [.tup [.int 0, .int 0], .tup [.int 0, .int 1]], .tup [.int 0, .int 1, .int 2, .int 3]]
theorem CHL_ok : ∀ d ∈ CHL, Sz 2 4 40 d := by
  have : ∀ d ∈ CHL, d.fit 2 = true ∧ d.tiny = true ∧ d.py.bulk ≤ 40 ∧ wideB 4 d = true := by
    intro d hd
    simp only [CHL, List.mem_cons, List.not_mem_nil, or_false] at hd
    rcases hd with rfl | rfl | rfl | rfl | rfl | rfl | rfl | rfl | rfl | rfl | rfl | rfl | rfl | rfl | rfl | rfl | rfl | rfl | rfl | rfl | rfl | rfl | rfl | rfl | rfl | rfl <;> exact ⟨by decide +kernel, by decide +kernel, by decide +kernel, by decide +kernel⟩
  exact fun d hd => .of (this d hd).1 (this d hd).2.1 (this d hd).2.2.1 (this d hd).2.2.2
theorem a_rev (f : XFn) (ρ : Slots) (S : Store) : xRev f ρ S = (f ρ S).bind rev1 := rfl
theorem rev1_t (xs : List D) (S : Store) : rev1 (.dat (.tup xs)) S = .ok (.dat (.tup xs.reverse)) S := rfl
theorem rev1_l (xs : List D) (S : Store) : rev1 (.dat (.lst xs)) S = .ok (.dat (.lst xs.reverse)) S := rfl
theorem cut_mid2 {α : Type} (xs : List α) (n : Nat) : cutL xs (some (n : Nat)) (some ((n : Nat) + 2)) = (xs.drop n).take 2 := by
  have := cut_mid xs n (n + 2) (by omega)
  simpa using this
theorem cut_from2 {α : Type} (xs : List α) (n : Nat) : cutL xs (some ((n : Nat) + 2)) none = xs.drop (n + 2) := cut_from xs (n + 2)
theorem changed_ok {w : Nat} (hw : 4 ≤ w) (hw2 : w ≤ 1000) : ∀ (m n : Nat) (d : D) (b k : Nat) (T S : Store), d.fit n = true → n < m → Sz n w b d → Pen k T S → k + 4 * m ≤ LIM → ∃ (x : D) (S1 : Store), f_l_law_changed m [.obj 0, .dat d] S = .ok (.dat x) S1 ∧ Pen (k + 4 * m) T S1 ∧ Sz (n + 2) (w + 1) (2 * b + 40) x
  | 0, n, d, b, k, T, S, _, h, _, _, _ => by omega
  | m + 1, n, d, b, k, T, S, hf, hm, hz, hp, hk => by
    have hk : k + 4 * (m + 1) ≤ 2147483648 := hk
    show ∃ (x : D) (S1 : Store), r_l_law_changed (f_l_law_changed m) [.obj 0, .dat d] S = .ok (.dat x) S1 ∧ _
    unfold r_l_law_changed s_l_law_changed
    have draw : ∀ (j : Nat) (S0 : Store), Pen j T S0 → j + 1 ≤ k + 4 * (m + 1) → ∃ x S1, g_l_law_one [.obj 0, .dat (.lst CHL)] S0 = .ok (.dat x) S1 ∧ Pen (k + 4 * (m + 1)) T S1 ∧ Sz (n + 2) (w + 1) (2 * b + 40) x := fun j S0 h hj => by
      obtain ⟨x, S1, e, p, hx⟩ := one_ok h (by have l_ : LIM = 2147483648 := rfl; omega) CHL (by decide) (by decide) _ (.inl rfl)
      exact ⟨x, S1, e, p.mono (by omega), (CHL_ok x hx).up (by omega) (by omega) (by omega)⟩
    have ad : dAdd (.lst [.int 0, .int 1, .int 2, .int 3, .int 4, .int 5, .int 99, .int 100, .int (-1), .bl true, .bl false, .non, .str "0", .str "", .tup [], .lst [], .tup [.int 0], .tup [.int 0, .int 1], .tup [.int 1, .int 0], .tup [.int 0, .non], .lst [.int 0]]) (.lst [.tup [.tup [.int 0, .int 0]], .tup [.tup [.int 0, .non]], .tup [.tup [.int 1, .int 1], .tup [.int 0, .int 0]], .tup [.tup [.int 0, .int 0], .tup [.int 0, .int 1]], .tup [.int 0, .int 1, .int 2, .int 3]]) = some (.lst CHL) := rfl
    by_cases hT : ∃ y ys, d = .tup (y :: ys)
    · obtain ⟨y, ys, rfl⟩ := hT
      obtain ⟨n', rfl, hL⟩ := hz.parts
      have hlen : (y :: ys).length ≤ w := hL.len
      have hE : dEq (.tup (y :: ys)) (.tup []) = some (.bl false) := by
        have q := fit_py (n' + 1) _ hf
        have : canEq (.tup (y :: ys)) (.tup []) = true := by
          have q2 := fit_py 1 (.tup []) rfl
          simp only [canEq, q.1, q2.1, Bool.true_and, decide_eq_true_eq]
          omega
        simp only [dEq, this, if_true]
        rfl
      have h0 : 0 < (y :: ys).length := by simp
      generalize hxs : y :: ys = xs at *
      obtain ⟨t, S1, e1, p1, ht⟩ := take_ok hp (by have l_ : LIM = 2147483648 := rfl; omega) 5 (by decide) (by decide)
      simp -implicitDefEqProofs only [a_fn, a_seq, seq_nx, seq_rt, seq_ex, seq_bk, seq_ct, seq_cond, ends_cond, c_ok, c_dat, c_bl, c_int, c_and, c_or, c_nand, a_sif, a_ret, a_set, a_nils, a_tg, a_expr, a_raise, a_par, Res.bind_ok, Res.bind_ex, Res.bindS_ok, Res.bindS_ex, a_var0, a_c, a_x2, a_o2, a_res1, a_xN, a_cons, a_nil, a_o1, a_xN1, a_tup, a_lst, mkTup_eq, mkLst_eq, a_dats0, a_dats1, a_ret1, a_tBl, a_tTr, a_tNo, a_tAn, a_tOr, a_bool1, truth_bl, truth_non, truth_int, truth_lst, truth_tup, a_and, a_or, a_chain, a_boolK, a_not, a_nDV, a_neg, a_neg1, a_if, a_isi, a_oIsi, isi_int, isi_bool, isi_tuple, isi_list, isi_str, a_it, a_items_l, a_items_t, a_lc, a_wipe0, a_wipe1, a_gNm, a_gTp, a_gCo, a_gNo, a_yes, a_for, a_rg1, a_rg2, a_new, a_llst, a_rd, Option.bind_some, ends_nx, ends_rt, ends_ex, leave_dat, List.map_cons, List.map_nil, List.length_cons, List.length_nil, Nat.reduceSub, Nat.reduceAdd, List.replicate_succ, List.replicate_zero, List.cons_append, List.nil_append, List.append_nil, List.getElem?_cons_zero, List.getElem?_cons_succ, List.set_cons_zero, List.set_cons_succ, List.take_length, cond_true, cond_false, Bool.not_true, Bool.not_false, dLt_i, dLe_i, dGt_i, dGe_i, dAdd_i, dSub_i, dIsN_eq, dNotN_eq, dLen_l, dLen_t, dIx_l, dIx_t, dList_l, dList_t, dTuple_l, dTuple_t, szB_s, o1_end, oSl_t, oSl_l, oSl_s, a_sort, dInt_i, a_put, pen_rd, pen_0, pen_1, pen_2, pen_p1, pen_p2, take_cons, forGo_nil, a_star, dats_map, a_leave_end, Option.map_some, cellOf_end, rd_end, set_end, take_end, lit2, lit3, Bool.true_and, Bool.false_and, Bool.and_true, Bool.and_false, Bool.true_or, Bool.false_or, Bool.or_true, Bool.or_false, Bool.not_not, a_sl, a_pNo, a_pEx, a_asInt, a_frz0, a_zip, zip2_t, zip2_l, a_enum, enum1_l, enum1_t, D.isT, hE, e1, dEq_ii]
      cases ht0 : (((t : Nat) : Int) == 0)
      · obtain ⟨a, S2, e2, p2, ha⟩ := take_ok p1 (by have l_ : LIM = 2147483648 := rfl; omega) (xs.length : Nat) (by omega) (by omega)
        obtain ⟨o, S3, e3, p3, ho⟩ := take_ok p2 (by have l_ : LIM = 2147483648 := rfl; omega) 7 (by decide) (by decide)
        have ha : a < xs.length := by omega
        have k0 : cutL xs none (some ((a : Nat) : Int)) = xs.take a := cut_to _ _
        have k1 : cutL xs (some (((a : Nat) : Int) + 1)) none = xs.drop (a + 1) := cut_from1 _ _
        have k2 : cutL xs (some ((a : Nat) : Int)) (some (((a : Nat) : Int) + 1)) = (xs.drop a).take 1 := cut_mid1 _ _
        have k3 : cutL xs (some ((a : Nat) : Int)) none = xs.drop a := cut_from _ _
        have k4 : cutL xs (some ((a : Nat) : Int)) (some (((a : Nat) : Int) + 2)) = (xs.drop a).take 2 := cut_mid2 _ _
        have k5 : cutL xs (some (((a : Nat) : Int) + 2)) none = xs.drop (a + 2) := cut_from2 _ _
        have add : ∀ p q : List D, p.length + q.length ≤ 16777216 → dAdd (.tup p) (.tup q) = some (.tup (p ++ q)) := fun p q h => by rw [dAdd_t, szB_le h]; rfl
        have lt : (xs.take a).length ≤ xs.length := List.length_take_le' ..
        have ld : ∀ j, (xs.drop j).length ≤ xs.length := fun j => by simp
        have l1 : ∀ j, ((xs.drop j).take 1).length ≤ 1 := fun j => by simp; omega
        have l2 : ∀ j, ((xs.drop j).take 2).length ≤ 2 := fun j => by simp; omega
        have mt : ∀ {x j}, x ∈ xs.take j → x ∈ xs := fun h => List.mem_of_mem_take h
        have md : ∀ {x j}, x ∈ xs.drop j → x ∈ xs := fun h => List.mem_of_mem_drop h
        have mt' : ∀ {zs : List D} {x j}, x ∈ zs.take j → x ∈ zs := fun h => List.mem_of_mem_take h
        have part : ∀ (zs : List D) (c : Nat), (∀ z ∈ zs, z ∈ xs) → zs.length ≤ w + 1 → PyData.bulkAll (D.pys zs) ≤ 2 * b + 40 → Sz (n' + 1 + 2) (w + 1) (2 * b + 40) (.tup zs) := fun zs c h1 h2 h3 => by
          refine Sz.up (n := n' + 1) (w := w + 1) (b := 2 * b + 40) (SzL.tup ⟨?_, ?_, h3, h2, ?_⟩) (by omega) (Nat.le_refl _) (Nat.le_refl _)
          · exact fits_iff.mpr fun z hz => (hL.mem (h1 z hz)).fit
          · exact tinys_iff.mpr fun z hz => (hL.mem (h1 z hz)).tiny
          · exact wideBs_iff.mpr fun z hz => wideB_mono (by omega) (hL.mem (h1 z hz)).wide
        have B := hL.bulk
        have Ba := bulkAll_part xs a
        have Bd : ∀ j, PyData.bulkAll (D.pys (xs.drop j)) ≤ b := fun j => by have := bulkAll_part xs j; omega
        have Bt : ∀ j, PyData.bulkAll (D.pys (xs.take j)) ≤ b := fun j => by have := bulkAll_part xs j; omega
        have B1 : ∀ j i, PyData.bulkAll (D.pys ((xs.drop j).take i)) ≤ PyData.bulkAll (D.pys (xs.drop j)) := fun j i => by have := bulkAll_part (xs.drop j) i; omega
        simp -implicitDefEqProofs only [a_fn, a_seq, seq_nx, seq_rt, seq_ex, seq_bk, seq_ct, seq_cond, ends_cond, c_ok, c_dat, c_bl, c_int, c_and, c_or, c_nand, a_sif, a_ret, a_set, a_nils, a_tg, a_expr, a_raise, a_par, Res.bind_ok, Res.bind_ex, Res.bindS_ok, Res.bindS_ex, a_var0, a_c, a_x2, a_o2, a_res1, a_xN, a_cons, a_nil, a_o1, a_xN1, a_tup, a_lst, mkTup_eq, mkLst_eq, a_dats0, a_dats1, a_ret1, a_tBl, a_tTr, a_tNo, a_tAn, a_tOr, a_bool1, truth_bl, truth_non, truth_int, truth_lst, truth_tup, a_and, a_or, a_chain, a_boolK, a_not, a_nDV, a_neg, a_neg1, a_if, a_isi, a_oIsi, isi_int, isi_bool, isi_tuple, isi_list, isi_str, a_it, a_items_l, a_items_t, a_lc, a_wipe0, a_wipe1, a_gNm, a_gTp, a_gCo, a_gNo, a_yes, a_for, a_rg1, a_rg2, a_new, a_llst, a_rd, Option.bind_some, ends_nx, ends_rt, ends_ex, leave_dat, List.map_cons, List.map_nil, List.length_cons, List.length_nil, Nat.reduceSub, Nat.reduceAdd, List.replicate_succ, List.replicate_zero, List.cons_append, List.nil_append, List.append_nil, List.getElem?_cons_zero, List.getElem?_cons_succ, List.set_cons_zero, List.set_cons_succ, List.take_length, cond_true, cond_false, Bool.not_true, Bool.not_false, dLt_i, dLe_i, dGt_i, dGe_i, dAdd_i, dSub_i, dIsN_eq, dNotN_eq, dLen_l, dLen_t, dIx_l, dIx_t, dList_l, dList_t, dTuple_l, dTuple_t, szB_s, o1_end, oSl_t, oSl_l, oSl_s, a_sort, dInt_i, a_put, pen_rd, pen_0, pen_1, pen_2, pen_p1, pen_p2, take_cons, forGo_nil, a_star, dats_map, a_leave_end, Option.map_some, cellOf_end, rd_end, set_end, take_end, lit2, lit3, Bool.true_and, Bool.false_and, Bool.and_true, Bool.and_false, Bool.true_or, Bool.false_or, Bool.or_true, Bool.or_false, Bool.not_not, a_sl, a_pNo, a_pEx, a_asInt, a_frz0, a_zip, zip2_t, zip2_l, a_enum, enum1_l, enum1_t, e2, e3, dEq_ii]
        cases o0 : (((o : Nat) : Int) == 0)
        · simp -implicitDefEqProofs only [a_fn, a_seq, seq_nx, seq_rt, seq_ex, seq_bk, seq_ct, seq_cond, ends_cond, c_ok, c_dat, c_bl, c_int, c_and, c_or, c_nand, a_sif, a_ret, a_set, a_nils, a_tg, a_expr, a_raise, a_par, Res.bind_ok, Res.bind_ex, Res.bindS_ok, Res.bindS_ex, a_var0, a_c, a_x2, a_o2, a_res1, a_xN, a_cons, a_nil, a_o1, a_xN1, a_tup, a_lst, mkTup_eq, mkLst_eq, a_dats0, a_dats1, a_ret1, a_tBl, a_tTr, a_tNo, a_tAn, a_tOr, a_bool1, truth_bl, truth_non, truth_int, truth_lst, truth_tup, a_and, a_or, a_chain, a_boolK, a_not, a_nDV, a_neg, a_neg1, a_if, a_isi, a_oIsi, isi_int, isi_bool, isi_tuple, isi_list, isi_str, a_it, a_items_l, a_items_t, a_lc, a_wipe0, a_wipe1, a_gNm, a_gTp, a_gCo, a_gNo, a_yes, a_for, a_rg1, a_rg2, a_new, a_llst, a_rd, Option.bind_some, ends_nx, ends_rt, ends_ex, leave_dat, List.map_cons, List.map_nil, List.length_cons, List.length_nil, Nat.reduceSub, Nat.reduceAdd, List.replicate_succ, List.replicate_zero, List.cons_append, List.nil_append, List.append_nil, List.getElem?_cons_zero, List.getElem?_cons_succ, List.set_cons_zero, List.set_cons_succ, List.take_length, cond_true, cond_false, Bool.not_true, Bool.not_false, dLt_i, dLe_i, dGt_i, dGe_i, dAdd_i, dSub_i, dIsN_eq, dNotN_eq, dLen_l, dLen_t, dIx_l, dIx_t, dList_l, dList_t, dTuple_l, dTuple_t, szB_s, o1_end, oSl_t, oSl_l, oSl_s, a_sort, dInt_i, a_put, pen_rd, pen_0, pen_1, pen_2, pen_p1, pen_p2, take_cons, forGo_nil, a_star, dats_map, a_leave_end, Option.map_some, cellOf_end, rd_end, set_end, take_end, lit2, lit3, Bool.true_and, Bool.false_and, Bool.and_true, Bool.and_false, Bool.true_or, Bool.false_or, Bool.or_true, Bool.or_false, Bool.not_not, a_sl, a_pNo, a_pEx, a_asInt, a_frz0, a_zip, zip2_t, zip2_l, a_enum, enum1_l, enum1_t]
          cases o1 : (((o : Nat) : Int) == 1)
          · simp -implicitDefEqProofs only [a_fn, a_seq, seq_nx, seq_rt, seq_ex, seq_bk, seq_ct, seq_cond, ends_cond, c_ok, c_dat, c_bl, c_int, c_and, c_or, c_nand, a_sif, a_ret, a_set, a_nils, a_tg, a_expr, a_raise, a_par, Res.bind_ok, Res.bind_ex, Res.bindS_ok, Res.bindS_ex, a_var0, a_c, a_x2, a_o2, a_res1, a_xN, a_cons, a_nil, a_o1, a_xN1, a_tup, a_lst, mkTup_eq, mkLst_eq, a_dats0, a_dats1, a_ret1, a_tBl, a_tTr, a_tNo, a_tAn, a_tOr, a_bool1, truth_bl, truth_non, truth_int, truth_lst, truth_tup, a_and, a_or, a_chain, a_boolK, a_not, a_nDV, a_neg, a_neg1, a_if, a_isi, a_oIsi, isi_int, isi_bool, isi_tuple, isi_list, isi_str, a_it, a_items_l, a_items_t, a_lc, a_wipe0, a_wipe1, a_gNm, a_gTp, a_gCo, a_gNo, a_yes, a_for, a_rg1, a_rg2, a_new, a_llst, a_rd, Option.bind_some, ends_nx, ends_rt, ends_ex, leave_dat, List.map_cons, List.map_nil, List.length_cons, List.length_nil, Nat.reduceSub, Nat.reduceAdd, List.replicate_succ, List.replicate_zero, List.cons_append, List.nil_append, List.append_nil, List.getElem?_cons_zero, List.getElem?_cons_succ, List.set_cons_zero, List.set_cons_succ, List.take_length, cond_true, cond_false, Bool.not_true, Bool.not_false, dLt_i, dLe_i, dGt_i, dGe_i, dAdd_i, dSub_i, dIsN_eq, dNotN_eq, dLen_l, dLen_t, dIx_l, dIx_t, dList_l, dList_t, dTuple_l, dTuple_t, szB_s, o1_end, oSl_t, oSl_l, oSl_s, a_sort, dInt_i, a_put, pen_rd, pen_0, pen_1, pen_2, pen_p1, pen_p2, take_cons, forGo_nil, a_star, dats_map, a_leave_end, Option.map_some, cellOf_end, rd_end, set_end, take_end, lit2, lit3, Bool.true_and, Bool.false_and, Bool.and_true, Bool.and_false, Bool.true_or, Bool.false_or, Bool.or_true, Bool.or_false, Bool.not_not, a_sl, a_pNo, a_pEx, a_asInt, a_frz0, a_zip, zip2_t, zip2_l, a_enum, enum1_l, enum1_t]
            cases o2_ : (((o : Nat) : Int) == 2)
            · have hx0 := hL.mem (getD_mem (d := D.non) ha)
              have hb0 := bulkAll_mem (getD_mem (d := D.non) ha)
              generalize hq : xs.getD a .non = q at *
              obtain ⟨x, S4, e4, p4, hx⟩ := changed_ok hw hw2 m n' q q.py.bulk _ T S3 hx0.fit (by omega) ⟨⟨hx0.fit, hx0.tiny, Nat.le_refl _⟩, hx0.wide⟩ p3 (by have l_ : LIM = 2147483648 := rfl; omega)
              have ix : atI xs ((a : Nat) : Int) = some q := by rw [← hq]; exact atI_nat D.non ha
              have q1 : (xs.take a).length + [x].length ≤ 16777216 := by simp only [List.length_cons, List.length_nil]; omega
              have q2 : (xs.take a ++ [x]).length + (xs.drop (a + 1)).length ≤ 16777216 := by have := ld (a + 1); simp only [List.length_append, List.length_cons, List.length_nil]; omega
              simp -implicitDefEqProofs only [a_fn, a_seq, seq_nx, seq_rt, seq_ex, seq_bk, seq_ct, seq_cond, ends_cond, c_ok, c_dat, c_bl, c_int, c_and, c_or, c_nand, a_sif, a_ret, a_set, a_nils, a_tg, a_expr, a_raise, a_par, Res.bind_ok, Res.bind_ex, Res.bindS_ok, Res.bindS_ex, a_var0, a_c, a_x2, a_o2, a_res1, a_xN, a_cons, a_nil, a_o1, a_xN1, a_tup, a_lst, mkTup_eq, mkLst_eq, a_dats0, a_dats1, a_ret1, a_tBl, a_tTr, a_tNo, a_tAn, a_tOr, a_bool1, truth_bl, truth_non, truth_int, truth_lst, truth_tup, a_and, a_or, a_chain, a_boolK, a_not, a_nDV, a_neg, a_neg1, a_if, a_isi, a_oIsi, isi_int, isi_bool, isi_tuple, isi_list, isi_str, a_it, a_items_l, a_items_t, a_lc, a_wipe0, a_wipe1, a_gNm, a_gTp, a_gCo, a_gNo, a_yes, a_for, a_rg1, a_rg2, a_new, a_llst, a_rd, Option.bind_some, ends_nx, ends_rt, ends_ex, leave_dat, List.map_cons, List.map_nil, List.length_cons, List.length_nil, Nat.reduceSub, Nat.reduceAdd, List.replicate_succ, List.replicate_zero, List.cons_append, List.nil_append, List.append_nil, List.getElem?_cons_zero, List.getElem?_cons_succ, List.set_cons_zero, List.set_cons_succ, List.take_length, cond_true, cond_false, Bool.not_true, Bool.not_false, dLt_i, dLe_i, dGt_i, dGe_i, dAdd_i, dSub_i, dIsN_eq, dNotN_eq, dLen_l, dLen_t, dIx_l, dIx_t, dList_l, dList_t, dTuple_l, dTuple_t, szB_s, o1_end, oSl_t, oSl_l, oSl_s, a_sort, dInt_i, a_put, pen_rd, pen_0, pen_1, pen_2, pen_p1, pen_p2, take_cons, forGo_nil, a_star, dats_map, a_leave_end, Option.map_some, cellOf_end, rd_end, set_end, take_end, lit2, lit3, Bool.true_and, Bool.false_and, Bool.and_true, Bool.and_false, Bool.true_or, Bool.false_or, Bool.or_true, Bool.or_false, Bool.not_not, a_sl, a_pNo, a_pEx, a_asInt, a_frz0, a_zip, zip2_t, zip2_l, a_enum, enum1_l, enum1_t, k0, k1, ix, e4, add _ _ q1, add _ _ q2, p4.take hp.len]
              refine ⟨_, S4, rfl, p4.mono (by omega), ?_⟩
              have bs := bulkAll_part (xs.drop a) 1
              have dd : xs.drop a = q :: xs.drop (a + 1) := by rw [List.drop_eq_getElem_cons ha, ← hq, List.getD_eq_getElem?_getD, List.getElem?_eq_getElem ha]; rfl
              have bq : PyData.bulkAll (D.pys (xs.drop a)) = q.py.bulk + 1 + PyData.bulkAll (D.pys (xs.drop (a + 1))) := by rw [dd]; rfl
              have hb := hx.bulk
              refine (SzL.tup (n := n' + 2) (w := w + 1) (b := 2 * b + 40) ⟨?_, ?_, ?_, ?_, ?_⟩)
              · refine fits_iff.mpr fun z hz => ?_
                rcases List.mem_append.mp hz with hz | hz
                · rcases List.mem_append.mp hz with hz | hz
                  · exact fit_mono (by omega) (hL.mem (mt hz)).fit
                  · simp at hz; subst hz; exact hx.fit
                · exact fit_mono (by omega) (hL.mem (md hz)).fit
              · refine tinys_iff.mpr fun z hz => ?_
                rcases List.mem_append.mp hz with hz | hz
                · rcases List.mem_append.mp hz with hz | hz
                  · exact (hL.mem (mt hz)).tiny
                  · simp at hz; subst hz; exact hx.tiny
                · exact (hL.mem (md hz)).tiny
              · rw [bulkAll_app, bulkAll_app, bulkAll_1]
                omega
              · have := ld (a + 1)
                simp only [List.length_append, List.length_cons, List.length_nil, List.length_take, List.length_drop]
                omega
              · refine wideBs_iff.mpr fun z hz => ?_
                rcases List.mem_append.mp hz with hz | hz
                · rcases List.mem_append.mp hz with hz | hz
                  · exact wideB_mono (by omega) (hL.mem (mt hz)).wide
                  · simp at hz; subst hz; exact hx.wide
                · exact wideB_mono (by omega) (hL.mem (md hz)).wide
            · have q1 : (xs.take a).length + ((xs.drop a).take 2).reverse.length ≤ 16777216 := by have := l2 a; simp only [List.length_reverse]; omega
              have q2 : (xs.take a ++ ((xs.drop a).take 2).reverse).length + (xs.drop (a + 2)).length ≤ 16777216 := by have := l2 a; have := ld (a + 2); simp only [List.length_append, List.length_reverse]; omega
              simp -implicitDefEqProofs only [a_fn, a_seq, seq_nx, seq_rt, seq_ex, seq_bk, seq_ct, seq_cond, ends_cond, c_ok, c_dat, c_bl, c_int, c_and, c_or, c_nand, a_sif, a_ret, a_set, a_nils, a_tg, a_expr, a_raise, a_par, Res.bind_ok, Res.bind_ex, Res.bindS_ok, Res.bindS_ex, a_var0, a_c, a_x2, a_o2, a_res1, a_xN, a_cons, a_nil, a_o1, a_xN1, a_tup, a_lst, mkTup_eq, mkLst_eq, a_dats0, a_dats1, a_ret1, a_tBl, a_tTr, a_tNo, a_tAn, a_tOr, a_bool1, truth_bl, truth_non, truth_int, truth_lst, truth_tup, a_and, a_or, a_chain, a_boolK, a_not, a_nDV, a_neg, a_neg1, a_if, a_isi, a_oIsi, isi_int, isi_bool, isi_tuple, isi_list, isi_str, a_it, a_items_l, a_items_t, a_lc, a_wipe0, a_wipe1, a_gNm, a_gTp, a_gCo, a_gNo, a_yes, a_for, a_rg1, a_rg2, a_new, a_llst, a_rd, Option.bind_some, ends_nx, ends_rt, ends_ex, leave_dat, List.map_cons, List.map_nil, List.length_cons, List.length_nil, Nat.reduceSub, Nat.reduceAdd, List.replicate_succ, List.replicate_zero, List.cons_append, List.nil_append, List.append_nil, List.getElem?_cons_zero, List.getElem?_cons_succ, List.set_cons_zero, List.set_cons_succ, List.take_length, cond_true, cond_false, Bool.not_true, Bool.not_false, dLt_i, dLe_i, dGt_i, dGe_i, dAdd_i, dSub_i, dIsN_eq, dNotN_eq, dLen_l, dLen_t, dIx_l, dIx_t, dList_l, dList_t, dTuple_l, dTuple_t, szB_s, o1_end, oSl_t, oSl_l, oSl_s, a_sort, dInt_i, a_put, pen_rd, pen_0, pen_1, pen_2, pen_p1, pen_p2, take_cons, forGo_nil, a_star, dats_map, a_leave_end, Option.map_some, cellOf_end, rd_end, set_end, take_end, lit2, lit3, Bool.true_and, Bool.false_and, Bool.and_true, Bool.and_false, Bool.true_or, Bool.false_or, Bool.or_true, Bool.or_false, Bool.not_not, a_sl, a_pNo, a_pEx, a_asInt, a_frz0, a_zip, zip2_t, zip2_l, a_enum, enum1_l, enum1_t, k0, k4, k5, a_rev, rev1_t, add _ _ q1, add _ _ q2, p3.take hp.len]
              refine ⟨_, S3, rfl, p3.mono (by omega), part _ 0 (fun z hz => ?_) ?_ ?_⟩
              · rcases List.mem_append.mp hz with hz | hz
                · rcases List.mem_append.mp hz with hz | hz
                  · exact mt hz
                  · exact md (mt' (List.mem_reverse.mp hz))
                · exact md hz
              · have := l2 a
                simp only [List.length_append, List.length_reverse, List.length_take, List.length_drop] at this ⊢
                omega
              · have := bulkAll_part (xs.drop a) 2
                rw [bulkAll_app, bulkAll_app, bulkAll_rev]
                rw [List.drop_drop] at this
                omega
          · have q1 : (xs.take a).length + ((xs.drop a).take 1).length ≤ 16777216 := by have := l1 a; omega
            have q2 : (xs.take a ++ (xs.drop a).take 1).length + (xs.drop a).length ≤ 16777216 := by have := l1 a; have := ld a; simp only [List.length_append]; omega
            simp -implicitDefEqProofs only [a_fn, a_seq, seq_nx, seq_rt, seq_ex, seq_bk, seq_ct, seq_cond, ends_cond, c_ok, c_dat, c_bl, c_int, c_and, c_or, c_nand, a_sif, a_ret, a_set, a_nils, a_tg, a_expr, a_raise, a_par, Res.bind_ok, Res.bind_ex, Res.bindS_ok, Res.bindS_ex, a_var0, a_c, a_x2, a_o2, a_res1, a_xN, a_cons, a_nil, a_o1, a_xN1, a_tup, a_lst, mkTup_eq, mkLst_eq, a_dats0, a_dats1, a_ret1, a_tBl, a_tTr, a_tNo, a_tAn, a_tOr, a_bool1, truth_bl, truth_non, truth_int, truth_lst, truth_tup, a_and, a_or, a_chain, a_boolK, a_not, a_nDV, a_neg, a_neg1, a_if, a_isi, a_oIsi, isi_int, isi_bool, isi_tuple, isi_list, isi_str, a_it, a_items_l, a_items_t, a_lc, a_wipe0, a_wipe1, a_gNm, a_gTp, a_gCo, a_gNo, a_yes, a_for, a_rg1, a_rg2, a_new, a_llst, a_rd, Option.bind_some, ends_nx, ends_rt, ends_ex, leave_dat, List.map_cons, List.map_nil, List.length_cons, List.length_nil, Nat.reduceSub, Nat.reduceAdd, List.replicate_succ, List.replicate_zero, List.cons_append, List.nil_append, List.append_nil, List.getElem?_cons_zero, List.getElem?_cons_succ, List.set_cons_zero, List.set_cons_succ, List.take_length, cond_true, cond_false, Bool.not_true, Bool.not_false, dLt_i, dLe_i, dGt_i, dGe_i, dAdd_i, dSub_i, dIsN_eq, dNotN_eq, dLen_l, dLen_t, dIx_l, dIx_t, dList_l, dList_t, dTuple_l, dTuple_t, szB_s, o1_end, oSl_t, oSl_l, oSl_s, a_sort, dInt_i, a_put, pen_rd, pen_0, pen_1, pen_2, pen_p1, pen_p2, take_cons, forGo_nil, a_star, dats_map, a_leave_end, Option.map_some, cellOf_end, rd_end, set_end, take_end, lit2, lit3, Bool.true_and, Bool.false_and, Bool.and_true, Bool.and_false, Bool.true_or, Bool.false_or, Bool.or_true, Bool.or_false, Bool.not_not, a_sl, a_pNo, a_pEx, a_asInt, a_frz0, a_zip, zip2_t, zip2_l, a_enum, enum1_l, enum1_t, k0, k2, k3, add _ _ q1, add _ _ q2, p3.take hp.len]
            refine ⟨_, S3, rfl, p3.mono (by omega), part _ 0 (fun z hz => ?_) ?_ ?_⟩
            · rcases List.mem_append.mp hz with hz | hz
              · rcases List.mem_append.mp hz with hz | hz
                · exact mt hz
                · exact md (mt' hz)
              · exact md hz
            · have := l1 a
              simp only [List.length_append, List.length_take, List.length_drop] at this ⊢
              omega
            · have := bulkAll_part (xs.drop a) 1
              rw [bulkAll_app, bulkAll_app]
              omega
        · have q1 : (xs.take a).length + (xs.drop (a + 1)).length ≤ 16777216 := by have := ld (a + 1); omega
          simp -implicitDefEqProofs only [a_fn, a_seq, seq_nx, seq_rt, seq_ex, seq_bk, seq_ct, seq_cond, ends_cond, c_ok, c_dat, c_bl, c_int, c_and, c_or, c_nand, a_sif, a_ret, a_set, a_nils, a_tg, a_expr, a_raise, a_par, Res.bind_ok, Res.bind_ex, Res.bindS_ok, Res.bindS_ex, a_var0, a_c, a_x2, a_o2, a_res1, a_xN, a_cons, a_nil, a_o1, a_xN1, a_tup, a_lst, mkTup_eq, mkLst_eq, a_dats0, a_dats1, a_ret1, a_tBl, a_tTr, a_tNo, a_tAn, a_tOr, a_bool1, truth_bl, truth_non, truth_int, truth_lst, truth_tup, a_and, a_or, a_chain, a_boolK, a_not, a_nDV, a_neg, a_neg1, a_if, a_isi, a_oIsi, isi_int, isi_bool, isi_tuple, isi_list, isi_str, a_it, a_items_l, a_items_t, a_lc, a_wipe0, a_wipe1, a_gNm, a_gTp, a_gCo, a_gNo, a_yes, a_for, a_rg1, a_rg2, a_new, a_llst, a_rd, Option.bind_some, ends_nx, ends_rt, ends_ex, leave_dat, List.map_cons, List.map_nil, List.length_cons, List.length_nil, Nat.reduceSub, Nat.reduceAdd, List.replicate_succ, List.replicate_zero, List.cons_append, List.nil_append, List.append_nil, List.getElem?_cons_zero, List.getElem?_cons_succ, List.set_cons_zero, List.set_cons_succ, List.take_length, cond_true, cond_false, Bool.not_true, Bool.not_false, dLt_i, dLe_i, dGt_i, dGe_i, dAdd_i, dSub_i, dIsN_eq, dNotN_eq, dLen_l, dLen_t, dIx_l, dIx_t, dList_l, dList_t, dTuple_l, dTuple_t, szB_s, o1_end, oSl_t, oSl_l, oSl_s, a_sort, dInt_i, a_put, pen_rd, pen_0, pen_1, pen_2, pen_p1, pen_p2, take_cons, forGo_nil, a_star, dats_map, a_leave_end, Option.map_some, cellOf_end, rd_end, set_end, take_end, lit2, lit3, Bool.true_and, Bool.false_and, Bool.and_true, Bool.and_false, Bool.true_or, Bool.false_or, Bool.or_true, Bool.or_false, Bool.not_not, a_sl, a_pNo, a_pEx, a_asInt, a_frz0, a_zip, zip2_t, zip2_l, a_enum, enum1_l, enum1_t, k0, k1, add _ _ q1, p3.take hp.len]
          refine ⟨_, S3, rfl, p3.mono (by omega), part _ 0 (fun z hz => ?_) ?_ ?_⟩
          · rcases List.mem_append.mp hz with hz | hz
            · exact mt hz
            · exact md hz
          · simp only [List.length_append, List.length_take, List.length_drop]
            omega
          · have := Bd (a + 1)
            rw [bulkAll_app]
            omega
      · simp -implicitDefEqProofs only [a_fn, a_seq, seq_nx, seq_rt, seq_ex, seq_bk, seq_ct, seq_cond, ends_cond, c_ok, c_dat, c_bl, c_int, c_and, c_or, c_nand, a_sif, a_ret, a_set, a_nils, a_tg, a_expr, a_raise, a_par, Res.bind_ok, Res.bind_ex, Res.bindS_ok, Res.bindS_ex, a_var0, a_c, a_x2, a_o2, a_res1, a_xN, a_cons, a_nil, a_o1, a_xN1, a_tup, a_lst, mkTup_eq, mkLst_eq, a_dats0, a_dats1, a_ret1, a_tBl, a_tTr, a_tNo, a_tAn, a_tOr, a_bool1, truth_bl, truth_non, truth_int, truth_lst, truth_tup, a_and, a_or, a_chain, a_boolK, a_not, a_nDV, a_neg, a_neg1, a_if, a_isi, a_oIsi, isi_int, isi_bool, isi_tuple, isi_list, isi_str, a_it, a_items_l, a_items_t, a_lc, a_wipe0, a_wipe1, a_gNm, a_gTp, a_gCo, a_gNo, a_yes, a_for, a_rg1, a_rg2, a_new, a_llst, a_rd, Option.bind_some, ends_nx, ends_rt, ends_ex, leave_dat, List.map_cons, List.map_nil, List.length_cons, List.length_nil, Nat.reduceSub, Nat.reduceAdd, List.replicate_succ, List.replicate_zero, List.cons_append, List.nil_append, List.append_nil, List.getElem?_cons_zero, List.getElem?_cons_succ, List.set_cons_zero, List.set_cons_succ, List.take_length, cond_true, cond_false, Bool.not_true, Bool.not_false, dLt_i, dLe_i, dGt_i, dGe_i, dAdd_i, dSub_i, dIsN_eq, dNotN_eq, dLen_l, dLen_t, dIx_l, dIx_t, dList_l, dList_t, dTuple_l, dTuple_t, szB_s, o1_end, oSl_t, oSl_l, oSl_s, a_sort, dInt_i, a_put, pen_rd, pen_0, pen_1, pen_2, pen_p1, pen_p2, take_cons, forGo_nil, a_star, dats_map, a_leave_end, Option.map_some, cellOf_end, rd_end, set_end, take_end, lit2, lit3, Bool.true_and, Bool.false_and, Bool.and_true, Bool.and_false, Bool.true_or, Bool.false_or, Bool.or_true, Bool.or_false, Bool.not_not, a_sl, a_pNo, a_pEx, a_asInt, a_frz0, a_zip, zip2_t, zip2_l, a_enum, enum1_l, enum1_t, ad, szB_le (show 21 ≤ 16777216 by decide)]
        obtain ⟨x, S2, e2, p2, hx⟩ := draw _ S1 p1 (by omega)
        simp -implicitDefEqProofs only [a_fn, a_seq, seq_nx, seq_rt, seq_ex, seq_bk, seq_ct, seq_cond, ends_cond, c_ok, c_dat, c_bl, c_int, c_and, c_or, c_nand, a_sif, a_ret, a_set, a_nils, a_tg, a_expr, a_raise, a_par, Res.bind_ok, Res.bind_ex, Res.bindS_ok, Res.bindS_ex, a_var0, a_c, a_x2, a_o2, a_res1, a_xN, a_cons, a_nil, a_o1, a_xN1, a_tup, a_lst, mkTup_eq, mkLst_eq, a_dats0, a_dats1, a_ret1, a_tBl, a_tTr, a_tNo, a_tAn, a_tOr, a_bool1, truth_bl, truth_non, truth_int, truth_lst, truth_tup, a_and, a_or, a_chain, a_boolK, a_not, a_nDV, a_neg, a_neg1, a_if, a_isi, a_oIsi, isi_int, isi_bool, isi_tuple, isi_list, isi_str, a_it, a_items_l, a_items_t, a_lc, a_wipe0, a_wipe1, a_gNm, a_gTp, a_gCo, a_gNo, a_yes, a_for, a_rg1, a_rg2, a_new, a_llst, a_rd, Option.bind_some, ends_nx, ends_rt, ends_ex, leave_dat, List.map_cons, List.map_nil, List.length_cons, List.length_nil, Nat.reduceSub, Nat.reduceAdd, List.replicate_succ, List.replicate_zero, List.cons_append, List.nil_append, List.append_nil, List.getElem?_cons_zero, List.getElem?_cons_succ, List.set_cons_zero, List.set_cons_succ, List.take_length, cond_true, cond_false, Bool.not_true, Bool.not_false, dLt_i, dLe_i, dGt_i, dGe_i, dAdd_i, dSub_i, dIsN_eq, dNotN_eq, dLen_l, dLen_t, dIx_l, dIx_t, dList_l, dList_t, dTuple_l, dTuple_t, szB_s, o1_end, oSl_t, oSl_l, oSl_s, a_sort, dInt_i, a_put, pen_rd, pen_0, pen_1, pen_2, pen_p1, pen_p2, take_cons, forGo_nil, a_star, dats_map, a_leave_end, Option.map_some, cellOf_end, rd_end, set_end, take_end, lit2, lit3, Bool.true_and, Bool.false_and, Bool.and_true, Bool.and_false, Bool.true_or, Bool.false_or, Bool.or_true, Bool.or_false, Bool.not_not, a_sl, a_pNo, a_pEx, a_asInt, a_frz0, a_zip, zip2_t, zip2_l, a_enum, enum1_l, enum1_t, e2, p2.take hp.len]
        exact ⟨x, S2, rfl, p2, hx⟩
    · obtain ⟨x, S2, e2, p2, hx⟩ := draw _ S hp (by omega)
      have hE : dEq (.tup []) (.tup []) = some (.bl true) := rfl
      cases d with
      | tup xs =>
        cases xs with
        | cons y ys => exact absurd ⟨y, ys, rfl⟩ hT
        | nil =>
          simp -implicitDefEqProofs only [a_fn, a_seq, seq_nx, seq_rt, seq_ex, seq_bk, seq_ct, seq_cond, ends_cond, c_ok, c_dat, c_bl, c_int, c_and, c_or, c_nand, a_sif, a_ret, a_set, a_nils, a_tg, a_expr, a_raise, a_par, Res.bind_ok, Res.bind_ex, Res.bindS_ok, Res.bindS_ex, a_var0, a_c, a_x2, a_o2, a_res1, a_xN, a_cons, a_nil, a_o1, a_xN1, a_tup, a_lst, mkTup_eq, mkLst_eq, a_dats0, a_dats1, a_ret1, a_tBl, a_tTr, a_tNo, a_tAn, a_tOr, a_bool1, truth_bl, truth_non, truth_int, truth_lst, truth_tup, a_and, a_or, a_chain, a_boolK, a_not, a_nDV, a_neg, a_neg1, a_if, a_isi, a_oIsi, isi_int, isi_bool, isi_tuple, isi_list, isi_str, a_it, a_items_l, a_items_t, a_lc, a_wipe0, a_wipe1, a_gNm, a_gTp, a_gCo, a_gNo, a_yes, a_for, a_rg1, a_rg2, a_new, a_llst, a_rd, Option.bind_some, ends_nx, ends_rt, ends_ex, leave_dat, List.map_cons, List.map_nil, List.length_cons, List.length_nil, Nat.reduceSub, Nat.reduceAdd, List.replicate_succ, List.replicate_zero, List.cons_append, List.nil_append, List.append_nil, List.getElem?_cons_zero, List.getElem?_cons_succ, List.set_cons_zero, List.set_cons_succ, List.take_length, cond_true, cond_false, Bool.not_true, Bool.not_false, dLt_i, dLe_i, dGt_i, dGe_i, dAdd_i, dSub_i, dIsN_eq, dNotN_eq, dLen_l, dLen_t, dIx_l, dIx_t, dList_l, dList_t, dTuple_l, dTuple_t, szB_s, o1_end, oSl_t, oSl_l, oSl_s, a_sort, dInt_i, a_put, pen_rd, pen_0, pen_1, pen_2, pen_p1, pen_p2, take_cons, forGo_nil, a_star, dats_map, a_leave_end, Option.map_some, cellOf_end, rd_end, set_end, take_end, lit2, lit3, Bool.true_and, Bool.false_and, Bool.and_true, Bool.and_false, Bool.true_or, Bool.false_or, Bool.or_true, Bool.or_false, Bool.not_not, a_sl, a_pNo, a_pEx, a_asInt, a_frz0, a_zip, zip2_t, zip2_l, a_enum, enum1_l, enum1_t, D.isT, hE, ad, szB_le (show 21 ≤ 16777216 by decide), e2, p2.take hp.len]
          exact ⟨x, S2, rfl, p2, hx⟩
      | _ =>
        simp -implicitDefEqProofs only [a_fn, a_seq, seq_nx, seq_rt, seq_ex, seq_bk, seq_ct, seq_cond, ends_cond, c_ok, c_dat, c_bl, c_int, c_and, c_or, c_nand, a_sif, a_ret, a_set, a_nils, a_tg, a_expr, a_raise, a_par, Res.bind_ok, Res.bind_ex, Res.bindS_ok, Res.bindS_ex, a_var0, a_c, a_x2, a_o2, a_res1, a_xN, a_cons, a_nil, a_o1, a_xN1, a_tup, a_lst, mkTup_eq, mkLst_eq, a_dats0, a_dats1, a_ret1, a_tBl, a_tTr, a_tNo, a_tAn, a_tOr, a_bool1, truth_bl, truth_non, truth_int, truth_lst, truth_tup, a_and, a_or, a_chain, a_boolK, a_not, a_nDV, a_neg, a_neg1, a_if, a_isi, a_oIsi, isi_int, isi_bool, isi_tuple, isi_list, isi_str, a_it, a_items_l, a_items_t, a_lc, a_wipe0, a_wipe1, a_gNm, a_gTp, a_gCo, a_gNo, a_yes, a_for, a_rg1, a_rg2, a_new, a_llst, a_rd, Option.bind_some, ends_nx, ends_rt, ends_ex, leave_dat, List.map_cons, List.map_nil, List.length_cons, List.length_nil, Nat.reduceSub, Nat.reduceAdd, List.replicate_succ, List.replicate_zero, List.cons_append, List.nil_append, List.append_nil, List.getElem?_cons_zero, List.getElem?_cons_succ, List.set_cons_zero, List.set_cons_succ, List.take_length, cond_true, cond_false, Bool.not_true, Bool.not_false, dLt_i, dLe_i, dGt_i, dGe_i, dAdd_i, dSub_i, dIsN_eq, dNotN_eq, dLen_l, dLen_t, dIx_l, dIx_t, dList_l, dList_t, dTuple_l, dTuple_t, szB_s, o1_end, oSl_t, oSl_l, oSl_s, a_sort, dInt_i, a_put, pen_rd, pen_0, pen_1, pen_2, pen_p1, pen_p2, take_cons, forGo_nil, a_star, dats_map, a_leave_end, Option.map_some, cellOf_end, rd_end, set_end, take_end, lit2, lit3, Bool.true_and, Bool.false_and, Bool.and_true, Bool.and_false, Bool.true_or, Bool.false_or, Bool.or_true, Bool.or_false, Bool.not_not, a_sl, a_pNo, a_pEx, a_asInt, a_frz0, a_zip, zip2_t, zip2_l, a_enum, enum1_l, enum1_t, D.isT, ad, szB_le (show 21 ≤ 16777216 by decide), e2, p2.take hp.len]
        exact ⟨x, S2, rfl, p2, hx⟩
/-! ## cells of the store behind the pen -/
theorem pen_cell {n k : Nat} {T S : Store} {xs : List D} (h : Pen n T S) (e : T[k]? = some (some xs)) : cellOf S (.obj (k + 1)) = some (k + 1, xs) ∧ rd S (.obj (k + 1)) = some (.lst xs) ∧ ∀ y, Pen n (T.set k y) (S.set (k + 1) y) := by
  obtain ⟨c, a, u, rfl, ha⟩ := h
  refine ⟨by simp only [DL.cellOf, List.getElem?_cons_succ, e], by simp only [rd, List.getElem?_cons_succ, e], fun y => ⟨c, a, u, rfl, ha⟩⟩
theorem at_0 {T : Store} (a : Option (List D)) : (T ++ [a])[T.length]? = some a := by simp
theorem at_20 {T : Store} (a b : Option (List D)) : (T ++ [a, b])[T.length]? = some a := by simp
theorem at_21 {T : Store} (a b : Option (List D)) : (T ++ [a, b])[T.length + 1]? = some b := by simp
theorem set_0 {T : Store} (a x : Option (List D)) : (T ++ [a]).set T.length x = T ++ [x] := by simp
theorem set_20 {T : Store} (a b x : Option (List D)) : (T ++ [a, b]).set T.length x = T ++ [x, b] := by simp
theorem set_21 {T : Store} (a b x : Option (List D)) : (T ++ [a, b]).set (T.length + 1) x = T ++ [a, x] := by
  rw [List.set_append, if_neg (by omega)]; simp
theorem pen_new {n : Nat} {T S : Store} (h : Pen n T S) (ds : Option (List D)) : Pen n (T ++ [ds]) (S ++ [ds]) := pen_snoc.mpr ⟨S, rfl, h⟩
/-- x.append(y) of a cell -/
theorem sapp_cell {n m i k : Nat} {g : XFn} {ρ : Slots} {T S S1 : Store} {xs : List D} {d : D} (h : Pen n T S) (h1 : Pen m T S1) (e : T[k]? = some (some xs)) (hi : ρ[i]? = some (some (.obj (k + 1)))) (hg : g ρ S = .ok (.dat d) S1) (hl : xs.length < 1000000) :
    sApp (xVar i) g ρ S = .nx ρ (S1.set (k + 1) (some (xs ++ [d]))) := by
  have e1 : ∀ S, xVar i ρ S = .ok (.obj (k + 1)) S := fun S => by unfold xVar; rw [hi]
  simp only [sApp, e1, Res.bindS_ok, (pen_cell h e).1, hg, putApp, (pen_cell h1 e).1]
  rw [if_pos (show xs.length < sizeLine by unfold sizeLine; omega)]
/-- a draw from a live list -/
theorem one_cell {n k : Nat} {T S : Store} (h : Pen n T S) (hn : n ≤ LIM) (xs : List D) (e : T[k]? = some (some xs)) (h0 : 1 ≤ xs.length) (h1 : xs.length ≤ 1000000) :
    ∃ x S1, g_l_law_one [.obj 0, .obj (k + 1)] S = .ok (.dat x) S1 ∧ Pen (n + 1) T S1 ∧ x ∈ xs := by
  unfold g_l_law_one s_l_law_one
  obtain ⟨r, S1, e1, p, hr⟩ := take_ok h hn (xs.length : Nat) (by omega) (by omega)
  have hr : r < xs.length := by omega
  have hx : atI xs (r : Nat) = some (xs.getD r .non) := atI_nat .non hr
  refine ⟨xs.getD r .non, S1, ?_, p, getD_mem hr⟩
  have o1l : o1 dLen [.obj (k + 1)] S = .ok (.dat (.int (xs.length : Nat))) S := by simp only [o1, (pen_cell h e).2.1, dLen_l, a_res1]
  have o2x : o2 dIx (.obj (k + 1)) (.dat (.int (r : Nat))) S1 = .ok (.dat (xs.getD r .non)) S1 := by simp only [o2, (pen_cell p e).2.1, a_rd, dIx_l, hx, a_res1]
  simp -implicitDefEqProofs only [a_fn, a_seq, seq_nx, seq_rt, seq_ex, seq_bk, seq_ct, seq_cond, ends_cond, c_ok, c_dat, c_bl, c_int, c_and, c_or, c_nand, a_sif, a_ret, a_set, a_nils, a_tg, a_expr, a_raise, a_par, Res.bind_ok, Res.bind_ex, Res.bindS_ok, Res.bindS_ex, a_var0, a_c, a_x2, a_o2, a_res1, a_xN, a_cons, a_nil, a_o1, a_xN1, a_tup, a_lst, mkTup_eq, mkLst_eq, a_dats0, a_dats1, a_ret1, a_tBl, a_tTr, a_tNo, a_tAn, a_tOr, a_bool1, truth_bl, truth_non, truth_int, truth_lst, truth_tup, a_and, a_or, a_chain, a_boolK, a_not, a_nDV, a_neg, a_neg1, a_if, a_isi, a_oIsi, isi_int, isi_bool, isi_tuple, isi_list, isi_str, a_it, a_items_l, a_items_t, a_lc, a_wipe0, a_wipe1, a_gNm, a_gTp, a_gCo, a_gNo, a_yes, a_for, a_rg1, a_rg2, a_new, a_llst, a_rd, Option.bind_some, ends_nx, ends_rt, ends_ex, leave_dat, List.map_cons, List.map_nil, List.length_cons, List.length_nil, Nat.reduceSub, Nat.reduceAdd, List.replicate_succ, List.replicate_zero, List.cons_append, List.nil_append, List.append_nil, List.getElem?_cons_zero, List.getElem?_cons_succ, List.set_cons_zero, List.set_cons_succ, List.take_length, cond_true, cond_false, Bool.not_true, Bool.not_false, dLt_i, dLe_i, dGt_i, dGe_i, dAdd_i, dSub_i, dIsN_eq, dNotN_eq, dLen_l, dLen_t, dIx_l, dIx_t, dList_l, dList_t, dTuple_l, dTuple_t, szB_s, o1_end, oSl_t, oSl_l, oSl_s, a_sort, dInt_i, a_put, pen_rd, pen_0, pen_1, pen_2, pen_p1, pen_p2, take_cons, forGo_nil, a_star, dats_map, a_leave_end, Option.map_some, cellOf_end, rd_end, set_end, take_end, lit2, lit3, Bool.true_and, Bool.false_and, Bool.and_true, Bool.and_false, Bool.true_or, Bool.false_or, Bool.or_true, Bool.or_false, Bool.not_not, a_sl, a_pNo, a_pEx, a_asInt, a_frz0, a_zip, zip2_t, zip2_l, a_enum, enum1_l, enum1_t, o1l, e1, o2x, p.take h.len]
theorem rep_z (d : D) (k : Nat) (h2 : k ≤ 1000) : dMulZ (.tup [d]) (.int (k : Nat)) = some (.tup (List.replicate k d)) := by
  by_cases h : k = 0
  · subst h
    rfl
  · have h1 : ¬ ([d] ≠ ([] : List D) ∧ -1000 ≤ ((k : Nat) : Int) ∧ ((k : Nat) : Int) ≤ 0) := by rintro ⟨_, _, h3⟩; omega
    have := rep_1 d k (by omega) h2
    simp only [dMulZ]
    rw [if_neg h1, this]
theorem dInB_bools {α : Type} (b : Bool) (p : α → Bool) (xs : List α) : dInB (.bl b) (xs.map fun a => D.bl (p a)) = xs.any fun a => p a == b := by
  simp only [dInB, List.any_map]
  congr 1
theorem fits_bools {α : Type} (n : Nat) (p : α → Bool) (xs : List α) : D.fits n (xs.map fun a => D.bl (p a)) = true := fits_iff.mpr fun x hx => by
  obtain ⟨a, _, rfl⟩ := List.mem_map.mp hx
  cases n <;> rfl
theorem any_false {α : Type} (p : α → Bool) (xs : List α) : (xs.any fun a => p a == false) = !xs.all p := by
  induction xs with
  | nil => rfl
  | cons x xs ih => simp only [List.any_cons, List.all_cons, ih]; cases p x <;> simp
theorem dIn_false {α : Type} (p : α → Bool) (xs : List α) : dIn (.bl false) (.lst (xs.map fun a => D.bl (p a))) = some (.bl (!xs.all p)) := by
  rw [dIn_l (n := 0) (m := 0) rfl (fits_bools 0 p xs), dInB_bools, any_false]
theorem dNin_false {α : Type} (p : α → Bool) (xs : List α) : dNin (.bl false) (.lst (xs.map fun a => D.bl (p a))) = some (.bl (xs.all p)) := by
  rw [dNin_l (n := 0) (m := 0) rfl (fits_bools 0 p xs), dInB_bools, any_false, Bool.not_not]
theorem dNe_ints (a b : List Int) : dNe (.lst (a.map .int)) (.lst (b.map .int)) = some (.bl (!decide (a = b))) := by
  rw [dNe_fit (n := 1) (m := 1) (by simp only [D.fit, fits_ints]) (by simp only [D.fit, fits_ints])]
  simp only [dEqB, D.py, PyData.eqv, eqs_ints]
theorem l_is_integer_ok (d : D) (S : Store) : g_l_law_is_integer [.dat d] S = .ok (.dat (.bl (d.isI && !d.isB))) S := by
  unfold g_l_law_is_integer s_l_law_is_integer
  simp -implicitDefEqProofs only [a_fn, a_seq, seq_nx, seq_rt, seq_ex, seq_bk, seq_ct, seq_cond, ends_cond, c_ok, c_dat, c_bl, c_int, c_and, c_or, c_nand, a_sif, a_ret, a_set, a_nils, a_tg, a_expr, a_raise, a_par, Res.bind_ok, Res.bind_ex, Res.bindS_ok, Res.bindS_ex, a_var0, a_c, a_x2, a_o2, a_res1, a_xN, a_cons, a_nil, a_o1, a_xN1, a_tup, a_lst, mkTup_eq, mkLst_eq, a_dats0, a_dats1, a_ret1, a_tBl, a_tTr, a_tNo, a_tAn, a_tOr, a_bool1, truth_bl, truth_non, truth_int, truth_lst, truth_tup, a_and, a_or, a_chain, a_boolK, a_not, a_nDV, a_neg, a_neg1, a_if, a_isi, a_oIsi, isi_int, isi_bool, isi_tuple, isi_list, isi_str, a_it, a_items_l, a_items_t, a_lc, a_wipe0, a_wipe1, a_gNm, a_gTp, a_gCo, a_gNo, a_yes, a_for, a_rg1, a_rg2, a_new, a_llst, a_rd, Option.bind_some, ends_nx, ends_rt, ends_ex, leave_dat, List.map_cons, List.map_nil, List.length_cons, List.length_nil, Nat.reduceSub, Nat.reduceAdd, List.replicate_succ, List.replicate_zero, List.cons_append, List.nil_append, List.append_nil, List.getElem?_cons_zero, List.getElem?_cons_succ, List.set_cons_zero, List.set_cons_succ, List.take_length, cond_true, cond_false, Bool.not_true, Bool.not_false, dLt_i, dLe_i, dGt_i, dGe_i, dAdd_i, dSub_i, dIsN_eq, dNotN_eq, dLen_l, dLen_t, dIx_l, dIx_t, dList_l, dList_t, dTuple_l, dTuple_t, szB_s, o1_end, oSl_t, oSl_l, oSl_s, a_sort, dInt_i, a_put, pen_rd, pen_0, pen_1, pen_2, pen_p1, pen_p2, take_cons, forGo_nil, a_star, dats_map, a_leave_end, Option.map_some, cellOf_end, rd_end, set_end, take_end, lit2, lit3, Bool.true_and, Bool.false_and, Bool.and_true, Bool.and_false, Bool.true_or, Bool.false_or, Bool.or_true, Bool.or_false, Bool.not_not, a_sl, a_pNo, a_pEx, a_asInt, a_frz0, a_zip, zip2_t, zip2_l, a_enum, enum1_l, enum1_t]
theorem l_is_value_ok (c d : D) (hc : isCol c = true) (S : Store) : g_l_law_is_value [.dat c, .dat d] S = .ok (.dat (.bl (isValOf c d))) S := by
  unfold g_l_law_is_value s_l_law_is_value
  simp -implicitDefEqProofs only [a_fn, a_seq, seq_nx, seq_rt, seq_ex, seq_bk, seq_ct, seq_cond, ends_cond, c_ok, c_dat, c_bl, c_int, c_and, c_or, c_nand, a_sif, a_ret, a_set, a_nils, a_tg, a_expr, a_raise, a_par, Res.bind_ok, Res.bind_ex, Res.bindS_ok, Res.bindS_ex, a_var0, a_c, a_x2, a_o2, a_res1, a_xN, a_cons, a_nil, a_o1, a_xN1, a_tup, a_lst, mkTup_eq, mkLst_eq, a_dats0, a_dats1, a_ret1, a_tBl, a_tTr, a_tNo, a_tAn, a_tOr, a_bool1, truth_bl, truth_non, truth_int, truth_lst, truth_tup, a_and, a_or, a_chain, a_boolK, a_not, a_nDV, a_neg, a_neg1, a_if, a_isi, a_oIsi, isi_int, isi_bool, isi_tuple, isi_list, isi_str, a_it, a_items_l, a_items_t, a_lc, a_wipe0, a_wipe1, a_gNm, a_gTp, a_gCo, a_gNo, a_yes, a_for, a_rg1, a_rg2, a_new, a_llst, a_rd, Option.bind_some, ends_nx, ends_rt, ends_ex, leave_dat, List.map_cons, List.map_nil, List.length_cons, List.length_nil, Nat.reduceSub, Nat.reduceAdd, List.replicate_succ, List.replicate_zero, List.cons_append, List.nil_append, List.append_nil, List.getElem?_cons_zero, List.getElem?_cons_succ, List.set_cons_zero, List.set_cons_succ, List.take_length, cond_true, cond_false, Bool.not_true, Bool.not_false, dLt_i, dLe_i, dGt_i, dGe_i, dAdd_i, dSub_i, dIsN_eq, dNotN_eq, dLen_l, dLen_t, dIx_l, dIx_t, dList_l, dList_t, dTuple_l, dTuple_t, szB_s, o1_end, oSl_t, oSl_l, oSl_s, a_sort, dInt_i, a_put, pen_rd, pen_0, pen_1, pen_2, pen_p1, pen_p2, take_cons, forGo_nil, a_star, dats_map, a_leave_end, Option.map_some, cellOf_end, rd_end, set_end, take_end, lit2, lit3, Bool.true_and, Bool.false_and, Bool.and_true, Bool.and_false, Bool.true_or, Bool.false_or, Bool.or_true, Bool.or_false, Bool.not_not, a_sl, a_pNo, a_pEx, a_asInt, a_frz0, a_zip, zip2_t, zip2_l, a_enum, enum1_l, enum1_t, l_is_integer_ok]
  cases d with
  | int i =>
    simp -implicitDefEqProofs only [D.isI, D.isB, a_fn, a_seq, seq_nx, seq_rt, seq_ex, seq_bk, seq_ct, seq_cond, ends_cond, c_ok, c_dat, c_bl, c_int, c_and, c_or, c_nand, a_sif, a_ret, a_set, a_nils, a_tg, a_expr, a_raise, a_par, Res.bind_ok, Res.bind_ex, Res.bindS_ok, Res.bindS_ex, a_var0, a_c, a_x2, a_o2, a_res1, a_xN, a_cons, a_nil, a_o1, a_xN1, a_tup, a_lst, mkTup_eq, mkLst_eq, a_dats0, a_dats1, a_ret1, a_tBl, a_tTr, a_tNo, a_tAn, a_tOr, a_bool1, truth_bl, truth_non, truth_int, truth_lst, truth_tup, a_and, a_or, a_chain, a_boolK, a_not, a_nDV, a_neg, a_neg1, a_if, a_isi, a_oIsi, isi_int, isi_bool, isi_tuple, isi_list, isi_str, a_it, a_items_l, a_items_t, a_lc, a_wipe0, a_wipe1, a_gNm, a_gTp, a_gCo, a_gNo, a_yes, a_for, a_rg1, a_rg2, a_new, a_llst, a_rd, Option.bind_some, ends_nx, ends_rt, ends_ex, leave_dat, List.map_cons, List.map_nil, List.length_cons, List.length_nil, Nat.reduceSub, Nat.reduceAdd, List.replicate_succ, List.replicate_zero, List.cons_append, List.nil_append, List.append_nil, List.getElem?_cons_zero, List.getElem?_cons_succ, List.set_cons_zero, List.set_cons_succ, List.take_length, cond_true, cond_false, Bool.not_true, Bool.not_false, dLt_i, dLe_i, dGt_i, dGe_i, dAdd_i, dSub_i, dIsN_eq, dNotN_eq, dLen_l, dLen_t, dIx_l, dIx_t, dList_l, dList_t, dTuple_l, dTuple_t, szB_s, o1_end, oSl_t, oSl_l, oSl_s, a_sort, dInt_i, a_put, pen_rd, pen_0, pen_1, pen_2, pen_p1, pen_p2, take_cons, forGo_nil, a_star, dats_map, a_leave_end, Option.map_some, cellOf_end, rd_end, set_end, take_end, lit2, lit3, Bool.true_and, Bool.false_and, Bool.and_true, Bool.and_false, Bool.true_or, Bool.false_or, Bool.or_true, Bool.or_false, Bool.not_not, a_sl, a_pNo, a_pEx, a_asInt, a_frz0, a_zip, zip2_t, zip2_l, a_enum, enum1_l, enum1_t, isValOf, isVal]
    cases decide (i ≥ 0)
    · simp -implicitDefEqProofs only [a_fn, a_seq, seq_nx, seq_rt, seq_ex, seq_bk, seq_ct, seq_cond, ends_cond, c_ok, c_dat, c_bl, c_int, c_and, c_or, c_nand, a_sif, a_ret, a_set, a_nils, a_tg, a_expr, a_raise, a_par, Res.bind_ok, Res.bind_ex, Res.bindS_ok, Res.bindS_ex, a_var0, a_c, a_x2, a_o2, a_res1, a_xN, a_cons, a_nil, a_o1, a_xN1, a_tup, a_lst, mkTup_eq, mkLst_eq, a_dats0, a_dats1, a_ret1, a_tBl, a_tTr, a_tNo, a_tAn, a_tOr, a_bool1, truth_bl, truth_non, truth_int, truth_lst, truth_tup, a_and, a_or, a_chain, a_boolK, a_not, a_nDV, a_neg, a_neg1, a_if, a_isi, a_oIsi, isi_int, isi_bool, isi_tuple, isi_list, isi_str, a_it, a_items_l, a_items_t, a_lc, a_wipe0, a_wipe1, a_gNm, a_gTp, a_gCo, a_gNo, a_yes, a_for, a_rg1, a_rg2, a_new, a_llst, a_rd, Option.bind_some, ends_nx, ends_rt, ends_ex, leave_dat, List.map_cons, List.map_nil, List.length_cons, List.length_nil, Nat.reduceSub, Nat.reduceAdd, List.replicate_succ, List.replicate_zero, List.cons_append, List.nil_append, List.append_nil, List.getElem?_cons_zero, List.getElem?_cons_succ, List.set_cons_zero, List.set_cons_succ, List.take_length, cond_true, cond_false, Bool.not_true, Bool.not_false, dLt_i, dLe_i, dGt_i, dGe_i, dAdd_i, dSub_i, dIsN_eq, dNotN_eq, dLen_l, dLen_t, dIx_l, dIx_t, dList_l, dList_t, dTuple_l, dTuple_t, szB_s, o1_end, oSl_t, oSl_l, oSl_s, a_sort, dInt_i, a_put, pen_rd, pen_0, pen_1, pen_2, pen_p1, pen_p2, take_cons, forGo_nil, a_star, dats_map, a_leave_end, Option.map_some, cellOf_end, rd_end, set_end, take_end, lit2, lit3, Bool.true_and, Bool.false_and, Bool.and_true, Bool.and_false, Bool.true_or, Bool.false_or, Bool.or_true, Bool.or_false, Bool.not_not, a_sl, a_pNo, a_pEx, a_asInt, a_frz0, a_zip, zip2_t, zip2_l, a_enum, enum1_l, enum1_t]
    · rcases isCol_cases hc with rfl | ⟨ns, rfl, _⟩
      · simp -implicitDefEqProofs only [a_fn, a_seq, seq_nx, seq_rt, seq_ex, seq_bk, seq_ct, seq_cond, ends_cond, c_ok, c_dat, c_bl, c_int, c_and, c_or, c_nand, a_sif, a_ret, a_set, a_nils, a_tg, a_expr, a_raise, a_par, Res.bind_ok, Res.bind_ex, Res.bindS_ok, Res.bindS_ex, a_var0, a_c, a_x2, a_o2, a_res1, a_xN, a_cons, a_nil, a_o1, a_xN1, a_tup, a_lst, mkTup_eq, mkLst_eq, a_dats0, a_dats1, a_ret1, a_tBl, a_tTr, a_tNo, a_tAn, a_tOr, a_bool1, truth_bl, truth_non, truth_int, truth_lst, truth_tup, a_and, a_or, a_chain, a_boolK, a_not, a_nDV, a_neg, a_neg1, a_if, a_isi, a_oIsi, isi_int, isi_bool, isi_tuple, isi_list, isi_str, a_it, a_items_l, a_items_t, a_lc, a_wipe0, a_wipe1, a_gNm, a_gTp, a_gCo, a_gNo, a_yes, a_for, a_rg1, a_rg2, a_new, a_llst, a_rd, Option.bind_some, ends_nx, ends_rt, ends_ex, leave_dat, List.map_cons, List.map_nil, List.length_cons, List.length_nil, Nat.reduceSub, Nat.reduceAdd, List.replicate_succ, List.replicate_zero, List.cons_append, List.nil_append, List.append_nil, List.getElem?_cons_zero, List.getElem?_cons_succ, List.set_cons_zero, List.set_cons_succ, List.take_length, cond_true, cond_false, Bool.not_true, Bool.not_false, dLt_i, dLe_i, dGt_i, dGe_i, dAdd_i, dSub_i, dIsN_eq, dNotN_eq, dLen_l, dLen_t, dIx_l, dIx_t, dList_l, dList_t, dTuple_l, dTuple_t, szB_s, o1_end, oSl_t, oSl_l, oSl_s, a_sort, dInt_i, a_put, pen_rd, pen_0, pen_1, pen_2, pen_p1, pen_p2, take_cons, forGo_nil, a_star, dats_map, a_leave_end, Option.map_some, cellOf_end, rd_end, set_end, take_end, lit2, lit3, Bool.true_and, Bool.false_and, Bool.and_true, Bool.and_false, Bool.true_or, Bool.false_or, Bool.or_true, Bool.or_false, Bool.not_not, a_sl, a_pNo, a_pEx, a_asInt, a_frz0, a_zip, zip2_t, zip2_l, a_enum, enum1_l, enum1_t, D.isN]
      · have : dIn (.int i) (.tup (ns.map .int)) = some (.bl (dInB (.int i) (ns.map .int))) := dIn_t (n := 1) (m := 0) rfl (fits_ints 0 ns)
        simp -implicitDefEqProofs only [a_fn, a_seq, seq_nx, seq_rt, seq_ex, seq_bk, seq_ct, seq_cond, ends_cond, c_ok, c_dat, c_bl, c_int, c_and, c_or, c_nand, a_sif, a_ret, a_set, a_nils, a_tg, a_expr, a_raise, a_par, Res.bind_ok, Res.bind_ex, Res.bindS_ok, Res.bindS_ex, a_var0, a_c, a_x2, a_o2, a_res1, a_xN, a_cons, a_nil, a_o1, a_xN1, a_tup, a_lst, mkTup_eq, mkLst_eq, a_dats0, a_dats1, a_ret1, a_tBl, a_tTr, a_tNo, a_tAn, a_tOr, a_bool1, truth_bl, truth_non, truth_int, truth_lst, truth_tup, a_and, a_or, a_chain, a_boolK, a_not, a_nDV, a_neg, a_neg1, a_if, a_isi, a_oIsi, isi_int, isi_bool, isi_tuple, isi_list, isi_str, a_it, a_items_l, a_items_t, a_lc, a_wipe0, a_wipe1, a_gNm, a_gTp, a_gCo, a_gNo, a_yes, a_for, a_rg1, a_rg2, a_new, a_llst, a_rd, Option.bind_some, ends_nx, ends_rt, ends_ex, leave_dat, List.map_cons, List.map_nil, List.length_cons, List.length_nil, Nat.reduceSub, Nat.reduceAdd, List.replicate_succ, List.replicate_zero, List.cons_append, List.nil_append, List.append_nil, List.getElem?_cons_zero, List.getElem?_cons_succ, List.set_cons_zero, List.set_cons_succ, List.take_length, cond_true, cond_false, Bool.not_true, Bool.not_false, dLt_i, dLe_i, dGt_i, dGe_i, dAdd_i, dSub_i, dIsN_eq, dNotN_eq, dLen_l, dLen_t, dIx_l, dIx_t, dList_l, dList_t, dTuple_l, dTuple_t, szB_s, o1_end, oSl_t, oSl_l, oSl_s, a_sort, dInt_i, a_put, pen_rd, pen_0, pen_1, pen_2, pen_p1, pen_p2, take_cons, forGo_nil, a_star, dats_map, a_leave_end, Option.map_some, cellOf_end, rd_end, set_end, take_end, lit2, lit3, Bool.true_and, Bool.false_and, Bool.and_true, Bool.and_false, Bool.true_or, Bool.false_or, Bool.or_true, Bool.or_false, Bool.not_not, a_sl, a_pNo, a_pEx, a_asInt, a_frz0, a_zip, zip2_t, zip2_l, a_enum, enum1_l, enum1_t, D.isN, this, inC]
  | _ => simp -implicitDefEqProofs only [D.isI, D.isB, a_fn, a_seq, seq_nx, seq_rt, seq_ex, seq_bk, seq_ct, seq_cond, ends_cond, c_ok, c_dat, c_bl, c_int, c_and, c_or, c_nand, a_sif, a_ret, a_set, a_nils, a_tg, a_expr, a_raise, a_par, Res.bind_ok, Res.bind_ex, Res.bindS_ok, Res.bindS_ex, a_var0, a_c, a_x2, a_o2, a_res1, a_xN, a_cons, a_nil, a_o1, a_xN1, a_tup, a_lst, mkTup_eq, mkLst_eq, a_dats0, a_dats1, a_ret1, a_tBl, a_tTr, a_tNo, a_tAn, a_tOr, a_bool1, truth_bl, truth_non, truth_int, truth_lst, truth_tup, a_and, a_or, a_chain, a_boolK, a_not, a_nDV, a_neg, a_neg1, a_if, a_isi, a_oIsi, isi_int, isi_bool, isi_tuple, isi_list, isi_str, a_it, a_items_l, a_items_t, a_lc, a_wipe0, a_wipe1, a_gNm, a_gTp, a_gCo, a_gNo, a_yes, a_for, a_rg1, a_rg2, a_new, a_llst, a_rd, Option.bind_some, ends_nx, ends_rt, ends_ex, leave_dat, List.map_cons, List.map_nil, List.length_cons, List.length_nil, Nat.reduceSub, Nat.reduceAdd, List.replicate_succ, List.replicate_zero, List.cons_append, List.nil_append, List.append_nil, List.getElem?_cons_zero, List.getElem?_cons_succ, List.set_cons_zero, List.set_cons_succ, List.take_length, cond_true, cond_false, Bool.not_true, Bool.not_false, dLt_i, dLe_i, dGt_i, dGe_i, dAdd_i, dSub_i, dIsN_eq, dNotN_eq, dLen_l, dLen_t, dIx_l, dIx_t, dList_l, dList_t, dTuple_l, dTuple_t, szB_s, o1_end, oSl_t, oSl_l, oSl_s, a_sort, dInt_i, a_put, pen_rd, pen_0, pen_1, pen_2, pen_p1, pen_p2, take_cons, forGo_nil, a_star, dats_map, a_leave_end, Option.map_some, cellOf_end, rd_end, set_end, take_end, lit2, lit3, Bool.true_and, Bool.false_and, Bool.and_true, Bool.and_false, Bool.true_or, Bool.false_or, Bool.or_true, Bool.or_false, Bool.not_not, a_sl, a_pNo, a_pEx, a_asInt, a_frz0, a_zip, zip2_t, zip2_l, a_enum, enum1_l, enum1_t, isValOf, isVal]
/-! ## drafts -/
def isDRow (cs : List D) : D → Bool
  | .tup xs => ((xs.length : Int) == cs.length) && (cs.zip xs).all fun p => p.2.isN || isValOf p.1 p.2
  | _ => false
theorem is_draft_row_ok (cs : List D) (d : D) (hc : ∀ c ∈ cs, isCol c = true) (hl : cs.length ≤ 4) (S : Store) : g_is_draft_row [.dat (.tup cs), .dat d] S = .ok (.dat (.bl (isDRow cs d))) S := by
  unfold g_is_draft_row s_is_draft_row
  simp -implicitDefEqProofs only [a_fn, a_seq, seq_nx, seq_rt, seq_ex, seq_bk, seq_ct, seq_cond, ends_cond, c_ok, c_dat, c_bl, c_int, c_and, c_or, c_nand, a_sif, a_ret, a_set, a_nils, a_tg, a_expr, a_raise, a_par, Res.bind_ok, Res.bind_ex, Res.bindS_ok, Res.bindS_ex, a_var0, a_c, a_x2, a_o2, a_res1, a_xN, a_cons, a_nil, a_o1, a_xN1, a_tup, a_lst, mkTup_eq, mkLst_eq, a_dats0, a_dats1, a_ret1, a_tBl, a_tTr, a_tNo, a_tAn, a_tOr, a_bool1, truth_bl, truth_non, truth_int, truth_lst, truth_tup, a_and, a_or, a_chain, a_boolK, a_not, a_nDV, a_neg, a_neg1, a_if, a_isi, a_oIsi, isi_int, isi_bool, isi_tuple, isi_list, isi_str, a_it, a_items_l, a_items_t, a_lc, a_wipe0, a_wipe1, a_gNm, a_gTp, a_gCo, a_gNo, a_yes, a_for, a_rg1, a_rg2, a_new, a_llst, a_rd, Option.bind_some, ends_nx, ends_rt, ends_ex, leave_dat, List.map_cons, List.map_nil, List.length_cons, List.length_nil, Nat.reduceSub, Nat.reduceAdd, List.replicate_succ, List.replicate_zero, List.cons_append, List.nil_append, List.append_nil, List.getElem?_cons_zero, List.getElem?_cons_succ, List.set_cons_zero, List.set_cons_succ, List.take_length, cond_true, cond_false, Bool.not_true, Bool.not_false, dLt_i, dLe_i, dGt_i, dGe_i, dAdd_i, dSub_i, dIsN_eq, dNotN_eq, dLen_l, dLen_t, dIx_l, dIx_t, dList_l, dList_t, dTuple_l, dTuple_t, szB_s, o1_end, oSl_t, oSl_l, oSl_s, a_sort, dInt_i, a_put, pen_rd, pen_0, pen_1, pen_2, pen_p1, pen_p2, take_cons, forGo_nil, a_star, dats_map, a_leave_end, Option.map_some, cellOf_end, rd_end, set_end, take_end, lit2, lit3, Bool.true_and, Bool.false_and, Bool.and_true, Bool.and_false, Bool.true_or, Bool.false_or, Bool.or_true, Bool.or_false, Bool.not_not, a_sl, a_pNo, a_pEx, a_asInt, a_frz0, a_zip, zip2_t, zip2_l, a_enum, enum1_l, enum1_t]
  cases d
  case tup xs =>
    simp -implicitDefEqProofs only [D.isT, isDRow, a_fn, a_seq, seq_nx, seq_rt, seq_ex, seq_bk, seq_ct, seq_cond, ends_cond, c_ok, c_dat, c_bl, c_int, c_and, c_or, c_nand, a_sif, a_ret, a_set, a_nils, a_tg, a_expr, a_raise, a_par, Res.bind_ok, Res.bind_ex, Res.bindS_ok, Res.bindS_ex, a_var0, a_c, a_x2, a_o2, a_res1, a_xN, a_cons, a_nil, a_o1, a_xN1, a_tup, a_lst, mkTup_eq, mkLst_eq, a_dats0, a_dats1, a_ret1, a_tBl, a_tTr, a_tNo, a_tAn, a_tOr, a_bool1, truth_bl, truth_non, truth_int, truth_lst, truth_tup, a_and, a_or, a_chain, a_boolK, a_not, a_nDV, a_neg, a_neg1, a_if, a_isi, a_oIsi, isi_int, isi_bool, isi_tuple, isi_list, isi_str, a_it, a_items_l, a_items_t, a_lc, a_wipe0, a_wipe1, a_gNm, a_gTp, a_gCo, a_gNo, a_yes, a_for, a_rg1, a_rg2, a_new, a_llst, a_rd, Option.bind_some, ends_nx, ends_rt, ends_ex, leave_dat, List.map_cons, List.map_nil, List.length_cons, List.length_nil, Nat.reduceSub, Nat.reduceAdd, List.replicate_succ, List.replicate_zero, List.cons_append, List.nil_append, List.append_nil, List.getElem?_cons_zero, List.getElem?_cons_succ, List.set_cons_zero, List.set_cons_succ, List.take_length, cond_true, cond_false, Bool.not_true, Bool.not_false, dLt_i, dLe_i, dGt_i, dGe_i, dAdd_i, dSub_i, dIsN_eq, dNotN_eq, dLen_l, dLen_t, dIx_l, dIx_t, dList_l, dList_t, dTuple_l, dTuple_t, szB_s, o1_end, oSl_t, oSl_l, oSl_s, a_sort, dInt_i, a_put, pen_rd, pen_0, pen_1, pen_2, pen_p1, pen_p2, take_cons, forGo_nil, a_star, dats_map, a_leave_end, Option.map_some, cellOf_end, rd_end, set_end, take_end, lit2, lit3, Bool.true_and, Bool.false_and, Bool.and_true, Bool.and_false, Bool.true_or, Bool.false_or, Bool.or_true, Bool.or_false, Bool.not_not, a_sl, a_pNo, a_pEx, a_asInt, a_frz0, a_zip, zip2_t, zip2_l, a_enum, enum1_l, enum1_t, dNe_ii]
    have hz : szB (zipD cs xs).length = true := szB_le (by rw [zipD_map, List.length_map, List.length_zip]; omega)
    cases h : ((xs.length : Int) == cs.length)
    · simp -implicitDefEqProofs only [a_fn, a_seq, seq_nx, seq_rt, seq_ex, seq_bk, seq_ct, seq_cond, ends_cond, c_ok, c_dat, c_bl, c_int, c_and, c_or, c_nand, a_sif, a_ret, a_set, a_nils, a_tg, a_expr, a_raise, a_par, Res.bind_ok, Res.bind_ex, Res.bindS_ok, Res.bindS_ex, a_var0, a_c, a_x2, a_o2, a_res1, a_xN, a_cons, a_nil, a_o1, a_xN1, a_tup, a_lst, mkTup_eq, mkLst_eq, a_dats0, a_dats1, a_ret1, a_tBl, a_tTr, a_tNo, a_tAn, a_tOr, a_bool1, truth_bl, truth_non, truth_int, truth_lst, truth_tup, a_and, a_or, a_chain, a_boolK, a_not, a_nDV, a_neg, a_neg1, a_if, a_isi, a_oIsi, isi_int, isi_bool, isi_tuple, isi_list, isi_str, a_it, a_items_l, a_items_t, a_lc, a_wipe0, a_wipe1, a_gNm, a_gTp, a_gCo, a_gNo, a_yes, a_for, a_rg1, a_rg2, a_new, a_llst, a_rd, Option.bind_some, ends_nx, ends_rt, ends_ex, leave_dat, List.map_cons, List.map_nil, List.length_cons, List.length_nil, Nat.reduceSub, Nat.reduceAdd, List.replicate_succ, List.replicate_zero, List.cons_append, List.nil_append, List.append_nil, List.getElem?_cons_zero, List.getElem?_cons_succ, List.set_cons_zero, List.set_cons_succ, List.take_length, cond_true, cond_false, Bool.not_true, Bool.not_false, dLt_i, dLe_i, dGt_i, dGe_i, dAdd_i, dSub_i, dIsN_eq, dNotN_eq, dLen_l, dLen_t, dIx_l, dIx_t, dList_l, dList_t, dTuple_l, dTuple_t, szB_s, o1_end, oSl_t, oSl_l, oSl_s, a_sort, dInt_i, a_put, pen_rd, pen_0, pen_1, pen_2, pen_p1, pen_p2, take_cons, forGo_nil, a_star, dats_map, a_leave_end, Option.map_some, cellOf_end, rd_end, set_end, take_end, lit2, lit3, Bool.true_and, Bool.false_and, Bool.and_true, Bool.and_false, Bool.true_or, Bool.false_or, Bool.or_true, Bool.or_false, Bool.not_not, a_sl, a_pNo, a_pEx, a_asInt, a_frz0, a_zip, zip2_t, zip2_l, a_enum, enum1_l, enum1_t]
    · rw [hz]
      simp -implicitDefEqProofs only [a_fn, a_seq, seq_nx, seq_rt, seq_ex, seq_bk, seq_ct, seq_cond, ends_cond, c_ok, c_dat, c_bl, c_int, c_and, c_or, c_nand, a_sif, a_ret, a_set, a_nils, a_tg, a_expr, a_raise, a_par, Res.bind_ok, Res.bind_ex, Res.bindS_ok, Res.bindS_ex, a_var0, a_c, a_x2, a_o2, a_res1, a_xN, a_cons, a_nil, a_o1, a_xN1, a_tup, a_lst, mkTup_eq, mkLst_eq, a_dats0, a_dats1, a_ret1, a_tBl, a_tTr, a_tNo, a_tAn, a_tOr, a_bool1, truth_bl, truth_non, truth_int, truth_lst, truth_tup, a_and, a_or, a_chain, a_boolK, a_not, a_nDV, a_neg, a_neg1, a_if, a_isi, a_oIsi, isi_int, isi_bool, isi_tuple, isi_list, isi_str, a_it, a_items_l, a_items_t, a_lc, a_wipe0, a_wipe1, a_gNm, a_gTp, a_gCo, a_gNo, a_yes, a_for, a_rg1, a_rg2, a_new, a_llst, a_rd, Option.bind_some, ends_nx, ends_rt, ends_ex, leave_dat, List.map_cons, List.map_nil, List.length_cons, List.length_nil, Nat.reduceSub, Nat.reduceAdd, List.replicate_succ, List.replicate_zero, List.cons_append, List.nil_append, List.append_nil, List.getElem?_cons_zero, List.getElem?_cons_succ, List.set_cons_zero, List.set_cons_succ, List.take_length, cond_true, cond_false, Bool.not_true, Bool.not_false, dLt_i, dLe_i, dGt_i, dGe_i, dAdd_i, dSub_i, dIsN_eq, dNotN_eq, dLen_l, dLen_t, dIx_l, dIx_t, dList_l, dList_t, dTuple_l, dTuple_t, szB_s, o1_end, oSl_t, oSl_l, oSl_s, a_sort, dInt_i, a_put, pen_rd, pen_0, pen_1, pen_2, pen_p1, pen_p2, take_cons, forGo_nil, a_star, dats_map, a_leave_end, Option.map_some, cellOf_end, rd_end, set_end, take_end, lit2, lit3, Bool.true_and, Bool.false_and, Bool.and_true, Bool.and_false, Bool.true_or, Bool.false_or, Bool.or_true, Bool.or_false, Bool.not_not, a_sl, a_pNo, a_pEx, a_asInt, a_frz0, a_zip, zip2_t, zip2_l, a_enum, enum1_l, enum1_t]
      rw [zipD_map, lcGo_map (q := fun p => .bl (p.2.isN || isValOf p.1 p.2)) (cs.zip xs) ?h]
      case h =>
        intro p hp
        refine ⟨_, rfl, rfl, ?_⟩
        simp -implicitDefEqProofs only [a_fn, a_seq, seq_nx, seq_rt, seq_ex, seq_bk, seq_ct, seq_cond, ends_cond, c_ok, c_dat, c_bl, c_int, c_and, c_or, c_nand, a_sif, a_ret, a_set, a_nils, a_tg, a_expr, a_raise, a_par, Res.bind_ok, Res.bind_ex, Res.bindS_ok, Res.bindS_ex, a_var0, a_c, a_x2, a_o2, a_res1, a_xN, a_cons, a_nil, a_o1, a_xN1, a_tup, a_lst, mkTup_eq, mkLst_eq, a_dats0, a_dats1, a_ret1, a_tBl, a_tTr, a_tNo, a_tAn, a_tOr, a_bool1, truth_bl, truth_non, truth_int, truth_lst, truth_tup, a_and, a_or, a_chain, a_boolK, a_not, a_nDV, a_neg, a_neg1, a_if, a_isi, a_oIsi, isi_int, isi_bool, isi_tuple, isi_list, isi_str, a_it, a_items_l, a_items_t, a_lc, a_wipe0, a_wipe1, a_gNm, a_gTp, a_gCo, a_gNo, a_yes, a_for, a_rg1, a_rg2, a_new, a_llst, a_rd, Option.bind_some, ends_nx, ends_rt, ends_ex, leave_dat, List.map_cons, List.map_nil, List.length_cons, List.length_nil, Nat.reduceSub, Nat.reduceAdd, List.replicate_succ, List.replicate_zero, List.cons_append, List.nil_append, List.append_nil, List.getElem?_cons_zero, List.getElem?_cons_succ, List.set_cons_zero, List.set_cons_succ, List.take_length, cond_true, cond_false, Bool.not_true, Bool.not_false, dLt_i, dLe_i, dGt_i, dGe_i, dAdd_i, dSub_i, dIsN_eq, dNotN_eq, dLen_l, dLen_t, dIx_l, dIx_t, dList_l, dList_t, dTuple_l, dTuple_t, szB_s, o1_end, oSl_t, oSl_l, oSl_s, a_sort, dInt_i, a_put, pen_rd, pen_0, pen_1, pen_2, pen_p1, pen_p2, take_cons, forGo_nil, a_star, dats_map, a_leave_end, Option.map_some, cellOf_end, rd_end, set_end, take_end, lit2, lit3, Bool.true_and, Bool.false_and, Bool.and_true, Bool.and_false, Bool.true_or, Bool.false_or, Bool.or_true, Bool.or_false, Bool.not_not, a_sl, a_pNo, a_pEx, a_asInt, a_frz0, a_zip, zip2_t, zip2_l, a_enum, enum1_l, enum1_t]
        cases p.2.isN
        · simp -implicitDefEqProofs only [a_fn, a_seq, seq_nx, seq_rt, seq_ex, seq_bk, seq_ct, seq_cond, ends_cond, c_ok, c_dat, c_bl, c_int, c_and, c_or, c_nand, a_sif, a_ret, a_set, a_nils, a_tg, a_expr, a_raise, a_par, Res.bind_ok, Res.bind_ex, Res.bindS_ok, Res.bindS_ex, a_var0, a_c, a_x2, a_o2, a_res1, a_xN, a_cons, a_nil, a_o1, a_xN1, a_tup, a_lst, mkTup_eq, mkLst_eq, a_dats0, a_dats1, a_ret1, a_tBl, a_tTr, a_tNo, a_tAn, a_tOr, a_bool1, truth_bl, truth_non, truth_int, truth_lst, truth_tup, a_and, a_or, a_chain, a_boolK, a_not, a_nDV, a_neg, a_neg1, a_if, a_isi, a_oIsi, isi_int, isi_bool, isi_tuple, isi_list, isi_str, a_it, a_items_l, a_items_t, a_lc, a_wipe0, a_wipe1, a_gNm, a_gTp, a_gCo, a_gNo, a_yes, a_for, a_rg1, a_rg2, a_new, a_llst, a_rd, Option.bind_some, ends_nx, ends_rt, ends_ex, leave_dat, List.map_cons, List.map_nil, List.length_cons, List.length_nil, Nat.reduceSub, Nat.reduceAdd, List.replicate_succ, List.replicate_zero, List.cons_append, List.nil_append, List.append_nil, List.getElem?_cons_zero, List.getElem?_cons_succ, List.set_cons_zero, List.set_cons_succ, List.take_length, cond_true, cond_false, Bool.not_true, Bool.not_false, dLt_i, dLe_i, dGt_i, dGe_i, dAdd_i, dSub_i, dIsN_eq, dNotN_eq, dLen_l, dLen_t, dIx_l, dIx_t, dList_l, dList_t, dTuple_l, dTuple_t, szB_s, o1_end, oSl_t, oSl_l, oSl_s, a_sort, dInt_i, a_put, pen_rd, pen_0, pen_1, pen_2, pen_p1, pen_p2, take_cons, forGo_nil, a_star, dats_map, a_leave_end, Option.map_some, cellOf_end, rd_end, set_end, take_end, lit2, lit3, Bool.true_and, Bool.false_and, Bool.and_true, Bool.and_false, Bool.true_or, Bool.false_or, Bool.or_true, Bool.or_false, Bool.not_not, a_sl, a_pNo, a_pEx, a_asInt, a_frz0, a_zip, zip2_t, zip2_l, a_enum, enum1_l, enum1_t, is_value_of_ok _ _ (hc _ (List.of_mem_zip hp).1)]
        · simp -implicitDefEqProofs only [a_fn, a_seq, seq_nx, seq_rt, seq_ex, seq_bk, seq_ct, seq_cond, ends_cond, c_ok, c_dat, c_bl, c_int, c_and, c_or, c_nand, a_sif, a_ret, a_set, a_nils, a_tg, a_expr, a_raise, a_par, Res.bind_ok, Res.bind_ex, Res.bindS_ok, Res.bindS_ex, a_var0, a_c, a_x2, a_o2, a_res1, a_xN, a_cons, a_nil, a_o1, a_xN1, a_tup, a_lst, mkTup_eq, mkLst_eq, a_dats0, a_dats1, a_ret1, a_tBl, a_tTr, a_tNo, a_tAn, a_tOr, a_bool1, truth_bl, truth_non, truth_int, truth_lst, truth_tup, a_and, a_or, a_chain, a_boolK, a_not, a_nDV, a_neg, a_neg1, a_if, a_isi, a_oIsi, isi_int, isi_bool, isi_tuple, isi_list, isi_str, a_it, a_items_l, a_items_t, a_lc, a_wipe0, a_wipe1, a_gNm, a_gTp, a_gCo, a_gNo, a_yes, a_for, a_rg1, a_rg2, a_new, a_llst, a_rd, Option.bind_some, ends_nx, ends_rt, ends_ex, leave_dat, List.map_cons, List.map_nil, List.length_cons, List.length_nil, Nat.reduceSub, Nat.reduceAdd, List.replicate_succ, List.replicate_zero, List.cons_append, List.nil_append, List.append_nil, List.getElem?_cons_zero, List.getElem?_cons_succ, List.set_cons_zero, List.set_cons_succ, List.take_length, cond_true, cond_false, Bool.not_true, Bool.not_false, dLt_i, dLe_i, dGt_i, dGe_i, dAdd_i, dSub_i, dIsN_eq, dNotN_eq, dLen_l, dLen_t, dIx_l, dIx_t, dList_l, dList_t, dTuple_l, dTuple_t, szB_s, o1_end, oSl_t, oSl_l, oSl_s, a_sort, dInt_i, a_put, pen_rd, pen_0, pen_1, pen_2, pen_p1, pen_p2, take_cons, forGo_nil, a_star, dats_map, a_leave_end, Option.map_some, cellOf_end, rd_end, set_end, take_end, lit2, lit3, Bool.true_and, Bool.false_and, Bool.and_true, Bool.and_false, Bool.true_or, Bool.false_or, Bool.or_true, Bool.or_false, Bool.not_not, a_sl, a_pNo, a_pEx, a_asInt, a_frz0, a_zip, zip2_t, zip2_l, a_enum, enum1_l, enum1_t]
      simp -implicitDefEqProofs only [a_fn, a_seq, seq_nx, seq_rt, seq_ex, seq_bk, seq_ct, seq_cond, ends_cond, c_ok, c_dat, c_bl, c_int, c_and, c_or, c_nand, a_sif, a_ret, a_set, a_nils, a_tg, a_expr, a_raise, a_par, Res.bind_ok, Res.bind_ex, Res.bindS_ok, Res.bindS_ex, a_var0, a_c, a_x2, a_o2, a_res1, a_xN, a_cons, a_nil, a_o1, a_xN1, a_tup, a_lst, mkTup_eq, mkLst_eq, a_dats0, a_dats1, a_ret1, a_tBl, a_tTr, a_tNo, a_tAn, a_tOr, a_bool1, truth_bl, truth_non, truth_int, truth_lst, truth_tup, a_and, a_or, a_chain, a_boolK, a_not, a_nDV, a_neg, a_neg1, a_if, a_isi, a_oIsi, isi_int, isi_bool, isi_tuple, isi_list, isi_str, a_it, a_items_l, a_items_t, a_lc, a_wipe0, a_wipe1, a_gNm, a_gTp, a_gCo, a_gNo, a_yes, a_for, a_rg1, a_rg2, a_new, a_llst, a_rd, Option.bind_some, ends_nx, ends_rt, ends_ex, leave_dat, List.map_cons, List.map_nil, List.length_cons, List.length_nil, Nat.reduceSub, Nat.reduceAdd, List.replicate_succ, List.replicate_zero, List.cons_append, List.nil_append, List.append_nil, List.getElem?_cons_zero, List.getElem?_cons_succ, List.set_cons_zero, List.set_cons_succ, List.take_length, cond_true, cond_false, Bool.not_true, Bool.not_false, dLt_i, dLe_i, dGt_i, dGe_i, dAdd_i, dSub_i, dIsN_eq, dNotN_eq, dLen_l, dLen_t, dIx_l, dIx_t, dList_l, dList_t, dTuple_l, dTuple_t, szB_s, o1_end, oSl_t, oSl_l, oSl_s, a_sort, dInt_i, a_put, pen_rd, pen_0, pen_1, pen_2, pen_p1, pen_p2, take_cons, forGo_nil, a_star, dats_map, a_leave_end, Option.map_some, cellOf_end, rd_end, set_end, take_end, lit2, lit3, Bool.true_and, Bool.false_and, Bool.and_true, Bool.and_false, Bool.true_or, Bool.false_or, Bool.or_true, Bool.or_false, Bool.not_not, a_sl, a_pNo, a_pEx, a_asInt, a_frz0, a_zip, zip2_t, zip2_l, a_enum, enum1_l, enum1_t, dAll_map]
  all_goals simp -implicitDefEqProofs only [D.isT, isDRow, a_fn, a_seq, seq_nx, seq_rt, seq_ex, seq_bk, seq_ct, seq_cond, ends_cond, c_ok, c_dat, c_bl, c_int, c_and, c_or, c_nand, a_sif, a_ret, a_set, a_nils, a_tg, a_expr, a_raise, a_par, Res.bind_ok, Res.bind_ex, Res.bindS_ok, Res.bindS_ex, a_var0, a_c, a_x2, a_o2, a_res1, a_xN, a_cons, a_nil, a_o1, a_xN1, a_tup, a_lst, mkTup_eq, mkLst_eq, a_dats0, a_dats1, a_ret1, a_tBl, a_tTr, a_tNo, a_tAn, a_tOr, a_bool1, truth_bl, truth_non, truth_int, truth_lst, truth_tup, a_and, a_or, a_chain, a_boolK, a_not, a_nDV, a_neg, a_neg1, a_if, a_isi, a_oIsi, isi_int, isi_bool, isi_tuple, isi_list, isi_str, a_it, a_items_l, a_items_t, a_lc, a_wipe0, a_wipe1, a_gNm, a_gTp, a_gCo, a_gNo, a_yes, a_for, a_rg1, a_rg2, a_new, a_llst, a_rd, Option.bind_some, ends_nx, ends_rt, ends_ex, leave_dat, List.map_cons, List.map_nil, List.length_cons, List.length_nil, Nat.reduceSub, Nat.reduceAdd, List.replicate_succ, List.replicate_zero, List.cons_append, List.nil_append, List.append_nil, List.getElem?_cons_zero, List.getElem?_cons_succ, List.set_cons_zero, List.set_cons_succ, List.take_length, cond_true, cond_false, Bool.not_true, Bool.not_false, dLt_i, dLe_i, dGt_i, dGe_i, dAdd_i, dSub_i, dIsN_eq, dNotN_eq, dLen_l, dLen_t, dIx_l, dIx_t, dList_l, dList_t, dTuple_l, dTuple_t, szB_s, o1_end, oSl_t, oSl_l, oSl_s, a_sort, dInt_i, a_put, pen_rd, pen_0, pen_1, pen_2, pen_p1, pen_p2, take_cons, forGo_nil, a_star, dats_map, a_leave_end, Option.map_some, cellOf_end, rd_end, set_end, take_end, lit2, lit3, Bool.true_and, Bool.false_and, Bool.and_true, Bool.and_false, Bool.true_or, Bool.false_or, Bool.or_true, Bool.or_false, Bool.not_not, a_sl, a_pNo, a_pEx, a_asInt, a_frz0, a_zip, zip2_t, zip2_l, a_enum, enum1_l, enum1_t]
/-- how many closed cells lack a value -/
def lackN (cs xs : List D) : Nat := ((cs.zip xs).filter fun p => p.2.isN && !p.1.isN).length
def lackD (cs : List D) (d : D) : Nat := lackN cs (itemsD d)
def isDraft (cs : List D) : D → Bool
  | .tup xs => !decide ((xs.length : Int) > 8) && (xs.all (isDRow cs) && decide ((((xs.map (lackD cs)).sum : Nat) : Int) ≤ 6))
  | _ => false
theorem zip_range (cs xs : List D) (h : xs.length = cs.length) : cs.zip xs = (List.range cs.length).map fun k => (cs.getD k .non, xs.getD k .non) := by
  apply List.ext_getElem
  · simp; omega
  · intro i h1 h2
    simp only [List.length_zip] at h1
    simp only [List.getElem_zip, List.getElem_map, List.getElem_range, List.getD_eq_getElem?_getD]
    rw [List.getElem?_eq_getElem (by omega), List.getElem?_eq_getElem (by omega)]
    rfl
theorem lack_range (cs xs : List D) (h : xs.length = cs.length) : (((List.range cs.length).filter fun k => !(cs.getD k .non).isN).filter fun k => (xs.getD k .non).isN).length = lackN cs xs := by
  unfold lackN
  rw [zip_range cs xs h, List.filter_map, List.length_map, List.filter_filter]
  rfl
theorem sum_nats (ns : List Nat) : dSum (.lst (ns.map fun n => .int ((n : Nat) : Int))) = some (.int ((ns.sum : Nat) : Int)) := by
  have e : (ns.map fun n => D.int ((n : Nat) : Int)) = (ns.map fun n => ((n : Nat) : Int)).map .int := by simp
  have s : ∀ ns : List Nat, (ns.map fun n => ((n : Nat) : Int)).sum = ((ns.sum : Nat) : Int) := fun ns => by
    induction ns with
    | nil => rfl
    | cons n ns ih => simp only [List.map_cons, List.sum_cons, ih]; omega
  simp only [dSum, e, intsOf_ints, Option.map_some, s]
theorem is_draft_of_ok (cs : List D) (d : D) (hc : ∀ c ∈ cs, isCol c = true) (hl : cs.length ≤ 4) (S : Store) : g_is_draft_of [.dat (.tup cs), .dat d] S = .ok (.dat (.bl (isDraft cs d))) S := by
  unfold g_is_draft_of s_is_draft_of
  simp -implicitDefEqProofs only [a_fn, a_seq, seq_nx, seq_rt, seq_ex, seq_bk, seq_ct, seq_cond, ends_cond, c_ok, c_dat, c_bl, c_int, c_and, c_or, c_nand, a_sif, a_ret, a_set, a_nils, a_tg, a_expr, a_raise, a_par, Res.bind_ok, Res.bind_ex, Res.bindS_ok, Res.bindS_ex, a_var0, a_c, a_x2, a_o2, a_res1, a_xN, a_cons, a_nil, a_o1, a_xN1, a_tup, a_lst, mkTup_eq, mkLst_eq, a_dats0, a_dats1, a_ret1, a_tBl, a_tTr, a_tNo, a_tAn, a_tOr, a_bool1, truth_bl, truth_non, truth_int, truth_lst, truth_tup, a_and, a_or, a_chain, a_boolK, a_not, a_nDV, a_neg, a_neg1, a_if, a_isi, a_oIsi, isi_int, isi_bool, isi_tuple, isi_list, isi_str, a_it, a_items_l, a_items_t, a_lc, a_wipe0, a_wipe1, a_gNm, a_gTp, a_gCo, a_gNo, a_yes, a_for, a_rg1, a_rg2, a_new, a_llst, a_rd, Option.bind_some, ends_nx, ends_rt, ends_ex, leave_dat, List.map_cons, List.map_nil, List.length_cons, List.length_nil, Nat.reduceSub, Nat.reduceAdd, List.replicate_succ, List.replicate_zero, List.cons_append, List.nil_append, List.append_nil, List.getElem?_cons_zero, List.getElem?_cons_succ, List.set_cons_zero, List.set_cons_succ, List.take_length, cond_true, cond_false, Bool.not_true, Bool.not_false, dLt_i, dLe_i, dGt_i, dGe_i, dAdd_i, dSub_i, dIsN_eq, dNotN_eq, dLen_l, dLen_t, dIx_l, dIx_t, dList_l, dList_t, dTuple_l, dTuple_t, szB_s, o1_end, oSl_t, oSl_l, oSl_s, a_sort, dInt_i, a_put, pen_rd, pen_0, pen_1, pen_2, pen_p1, pen_p2, take_cons, forGo_nil, a_star, dats_map, a_leave_end, Option.map_some, cellOf_end, rd_end, set_end, take_end, lit2, lit3, Bool.true_and, Bool.false_and, Bool.and_true, Bool.and_false, Bool.true_or, Bool.false_or, Bool.or_true, Bool.or_false, Bool.not_not, a_sl, a_pNo, a_pEx, a_asInt, a_frz0, a_zip, zip2_t, zip2_l, a_enum, enum1_l, enum1_t]
  cases d
  case tup xs =>
    simp -implicitDefEqProofs only [D.isT, isDraft, a_fn, a_seq, seq_nx, seq_rt, seq_ex, seq_bk, seq_ct, seq_cond, ends_cond, c_ok, c_dat, c_bl, c_int, c_and, c_or, c_nand, a_sif, a_ret, a_set, a_nils, a_tg, a_expr, a_raise, a_par, Res.bind_ok, Res.bind_ex, Res.bindS_ok, Res.bindS_ex, a_var0, a_c, a_x2, a_o2, a_res1, a_xN, a_cons, a_nil, a_o1, a_xN1, a_tup, a_lst, mkTup_eq, mkLst_eq, a_dats0, a_dats1, a_ret1, a_tBl, a_tTr, a_tNo, a_tAn, a_tOr, a_bool1, truth_bl, truth_non, truth_int, truth_lst, truth_tup, a_and, a_or, a_chain, a_boolK, a_not, a_nDV, a_neg, a_neg1, a_if, a_isi, a_oIsi, isi_int, isi_bool, isi_tuple, isi_list, isi_str, a_it, a_items_l, a_items_t, a_lc, a_wipe0, a_wipe1, a_gNm, a_gTp, a_gCo, a_gNo, a_yes, a_for, a_rg1, a_rg2, a_new, a_llst, a_rd, Option.bind_some, ends_nx, ends_rt, ends_ex, leave_dat, List.map_cons, List.map_nil, List.length_cons, List.length_nil, Nat.reduceSub, Nat.reduceAdd, List.replicate_succ, List.replicate_zero, List.cons_append, List.nil_append, List.append_nil, List.getElem?_cons_zero, List.getElem?_cons_succ, List.set_cons_zero, List.set_cons_succ, List.take_length, cond_true, cond_false, Bool.not_true, Bool.not_false, dLt_i, dLe_i, dGt_i, dGe_i, dAdd_i, dSub_i, dIsN_eq, dNotN_eq, dLen_l, dLen_t, dIx_l, dIx_t, dList_l, dList_t, dTuple_l, dTuple_t, szB_s, o1_end, oSl_t, oSl_l, oSl_s, a_sort, dInt_i, a_put, pen_rd, pen_0, pen_1, pen_2, pen_p1, pen_p2, take_cons, forGo_nil, a_star, dats_map, a_leave_end, Option.map_some, cellOf_end, rd_end, set_end, take_end, lit2, lit3, Bool.true_and, Bool.false_and, Bool.and_true, Bool.and_false, Bool.true_or, Bool.false_or, Bool.or_true, Bool.or_false, Bool.not_not, a_sl, a_pNo, a_pEx, a_asInt, a_frz0, a_zip, zip2_t, zip2_l, a_enum, enum1_l, enum1_t]
    cases h : decide ((xs.length : Int) > 8)
    · have h8 : xs.length ≤ 8 := by simp only [decide_eq_false_iff_not] at h; omega
      have hz : szB xs.length = true := szB_le (by omega)
      simp -implicitDefEqProofs only [a_fn, a_seq, seq_nx, seq_rt, seq_ex, seq_bk, seq_ct, seq_cond, ends_cond, c_ok, c_dat, c_bl, c_int, c_and, c_or, c_nand, a_sif, a_ret, a_set, a_nils, a_tg, a_expr, a_raise, a_par, Res.bind_ok, Res.bind_ex, Res.bindS_ok, Res.bindS_ex, a_var0, a_c, a_x2, a_o2, a_res1, a_xN, a_cons, a_nil, a_o1, a_xN1, a_tup, a_lst, mkTup_eq, mkLst_eq, a_dats0, a_dats1, a_ret1, a_tBl, a_tTr, a_tNo, a_tAn, a_tOr, a_bool1, truth_bl, truth_non, truth_int, truth_lst, truth_tup, a_and, a_or, a_chain, a_boolK, a_not, a_nDV, a_neg, a_neg1, a_if, a_isi, a_oIsi, isi_int, isi_bool, isi_tuple, isi_list, isi_str, a_it, a_items_l, a_items_t, a_lc, a_wipe0, a_wipe1, a_gNm, a_gTp, a_gCo, a_gNo, a_yes, a_for, a_rg1, a_rg2, a_new, a_llst, a_rd, Option.bind_some, ends_nx, ends_rt, ends_ex, leave_dat, List.map_cons, List.map_nil, List.length_cons, List.length_nil, Nat.reduceSub, Nat.reduceAdd, List.replicate_succ, List.replicate_zero, List.cons_append, List.nil_append, List.append_nil, List.getElem?_cons_zero, List.getElem?_cons_succ, List.set_cons_zero, List.set_cons_succ, List.take_length, cond_true, cond_false, Bool.not_true, Bool.not_false, dLt_i, dLe_i, dGt_i, dGe_i, dAdd_i, dSub_i, dIsN_eq, dNotN_eq, dLen_l, dLen_t, dIx_l, dIx_t, dList_l, dList_t, dTuple_l, dTuple_t, szB_s, o1_end, oSl_t, oSl_l, oSl_s, a_sort, dInt_i, a_put, pen_rd, pen_0, pen_1, pen_2, pen_p1, pen_p2, take_cons, forGo_nil, a_star, dats_map, a_leave_end, Option.map_some, cellOf_end, rd_end, set_end, take_end, lit2, lit3, Bool.true_and, Bool.false_and, Bool.and_true, Bool.and_false, Bool.true_or, Bool.false_or, Bool.or_true, Bool.or_false, Bool.not_not, a_sl, a_pNo, a_pEx, a_asInt, a_frz0, a_zip, zip2_t, zip2_l, a_enum, enum1_l, enum1_t, hz]
      rw [lcGo_mapD (q := fun p => .bl (isDRow cs p)) xs ?h]
      case h => intro p hp; exact ⟨_, rfl, rfl, by simp -implicitDefEqProofs only [a_fn, a_seq, seq_nx, seq_rt, seq_ex, seq_bk, seq_ct, seq_cond, ends_cond, c_ok, c_dat, c_bl, c_int, c_and, c_or, c_nand, a_sif, a_ret, a_set, a_nils, a_tg, a_expr, a_raise, a_par, Res.bind_ok, Res.bind_ex, Res.bindS_ok, Res.bindS_ex, a_var0, a_c, a_x2, a_o2, a_res1, a_xN, a_cons, a_nil, a_o1, a_xN1, a_tup, a_lst, mkTup_eq, mkLst_eq, a_dats0, a_dats1, a_ret1, a_tBl, a_tTr, a_tNo, a_tAn, a_tOr, a_bool1, truth_bl, truth_non, truth_int, truth_lst, truth_tup, a_and, a_or, a_chain, a_boolK, a_not, a_nDV, a_neg, a_neg1, a_if, a_isi, a_oIsi, isi_int, isi_bool, isi_tuple, isi_list, isi_str, a_it, a_items_l, a_items_t, a_lc, a_wipe0, a_wipe1, a_gNm, a_gTp, a_gCo, a_gNo, a_yes, a_for, a_rg1, a_rg2, a_new, a_llst, a_rd, Option.bind_some, ends_nx, ends_rt, ends_ex, leave_dat, List.map_cons, List.map_nil, List.length_cons, List.length_nil, Nat.reduceSub, Nat.reduceAdd, List.replicate_succ, List.replicate_zero, List.cons_append, List.nil_append, List.append_nil, List.getElem?_cons_zero, List.getElem?_cons_succ, List.set_cons_zero, List.set_cons_succ, List.take_length, cond_true, cond_false, Bool.not_true, Bool.not_false, dLt_i, dLe_i, dGt_i, dGe_i, dAdd_i, dSub_i, dIsN_eq, dNotN_eq, dLen_l, dLen_t, dIx_l, dIx_t, dList_l, dList_t, dTuple_l, dTuple_t, szB_s, o1_end, oSl_t, oSl_l, oSl_s, a_sort, dInt_i, a_put, pen_rd, pen_0, pen_1, pen_2, pen_p1, pen_p2, take_cons, forGo_nil, a_star, dats_map, a_leave_end, Option.map_some, cellOf_end, rd_end, set_end, take_end, lit2, lit3, Bool.true_and, Bool.false_and, Bool.and_true, Bool.and_false, Bool.true_or, Bool.false_or, Bool.or_true, Bool.or_false, Bool.not_not, a_sl, a_pNo, a_pEx, a_asInt, a_frz0, a_zip, zip2_t, zip2_l, a_enum, enum1_l, enum1_t, is_draft_row_ok cs _ hc hl]⟩
      simp -implicitDefEqProofs only [a_fn, a_seq, seq_nx, seq_rt, seq_ex, seq_bk, seq_ct, seq_cond, ends_cond, c_ok, c_dat, c_bl, c_int, c_and, c_or, c_nand, a_sif, a_ret, a_set, a_nils, a_tg, a_expr, a_raise, a_par, Res.bind_ok, Res.bind_ex, Res.bindS_ok, Res.bindS_ex, a_var0, a_c, a_x2, a_o2, a_res1, a_xN, a_cons, a_nil, a_o1, a_xN1, a_tup, a_lst, mkTup_eq, mkLst_eq, a_dats0, a_dats1, a_ret1, a_tBl, a_tTr, a_tNo, a_tAn, a_tOr, a_bool1, truth_bl, truth_non, truth_int, truth_lst, truth_tup, a_and, a_or, a_chain, a_boolK, a_not, a_nDV, a_neg, a_neg1, a_if, a_isi, a_oIsi, isi_int, isi_bool, isi_tuple, isi_list, isi_str, a_it, a_items_l, a_items_t, a_lc, a_wipe0, a_wipe1, a_gNm, a_gTp, a_gCo, a_gNo, a_yes, a_for, a_rg1, a_rg2, a_new, a_llst, a_rd, Option.bind_some, ends_nx, ends_rt, ends_ex, leave_dat, List.map_cons, List.map_nil, List.length_cons, List.length_nil, Nat.reduceSub, Nat.reduceAdd, List.replicate_succ, List.replicate_zero, List.cons_append, List.nil_append, List.append_nil, List.getElem?_cons_zero, List.getElem?_cons_succ, List.set_cons_zero, List.set_cons_succ, List.take_length, cond_true, cond_false, Bool.not_true, Bool.not_false, dLt_i, dLe_i, dGt_i, dGe_i, dAdd_i, dSub_i, dIsN_eq, dNotN_eq, dLen_l, dLen_t, dIx_l, dIx_t, dList_l, dList_t, dTuple_l, dTuple_t, szB_s, o1_end, oSl_t, oSl_l, oSl_s, a_sort, dInt_i, a_put, pen_rd, pen_0, pen_1, pen_2, pen_p1, pen_p2, take_cons, forGo_nil, a_star, dats_map, a_leave_end, Option.map_some, cellOf_end, rd_end, set_end, take_end, lit2, lit3, Bool.true_and, Bool.false_and, Bool.and_true, Bool.and_false, Bool.true_or, Bool.false_or, Bool.or_true, Bool.or_false, Bool.not_not, a_sl, a_pNo, a_pEx, a_asInt, a_frz0, a_zip, zip2_t, zip2_l, a_enum, enum1_l, enum1_t, dAll_map]
      cases ha : xs.all (isDRow cs)
      · simp -implicitDefEqProofs only [a_fn, a_seq, seq_nx, seq_rt, seq_ex, seq_bk, seq_ct, seq_cond, ends_cond, c_ok, c_dat, c_bl, c_int, c_and, c_or, c_nand, a_sif, a_ret, a_set, a_nils, a_tg, a_expr, a_raise, a_par, Res.bind_ok, Res.bind_ex, Res.bindS_ok, Res.bindS_ex, a_var0, a_c, a_x2, a_o2, a_res1, a_xN, a_cons, a_nil, a_o1, a_xN1, a_tup, a_lst, mkTup_eq, mkLst_eq, a_dats0, a_dats1, a_ret1, a_tBl, a_tTr, a_tNo, a_tAn, a_tOr, a_bool1, truth_bl, truth_non, truth_int, truth_lst, truth_tup, a_and, a_or, a_chain, a_boolK, a_not, a_nDV, a_neg, a_neg1, a_if, a_isi, a_oIsi, isi_int, isi_bool, isi_tuple, isi_list, isi_str, a_it, a_items_l, a_items_t, a_lc, a_wipe0, a_wipe1, a_gNm, a_gTp, a_gCo, a_gNo, a_yes, a_for, a_rg1, a_rg2, a_new, a_llst, a_rd, Option.bind_some, ends_nx, ends_rt, ends_ex, leave_dat, List.map_cons, List.map_nil, List.length_cons, List.length_nil, Nat.reduceSub, Nat.reduceAdd, List.replicate_succ, List.replicate_zero, List.cons_append, List.nil_append, List.append_nil, List.getElem?_cons_zero, List.getElem?_cons_succ, List.set_cons_zero, List.set_cons_succ, List.take_length, cond_true, cond_false, Bool.not_true, Bool.not_false, dLt_i, dLe_i, dGt_i, dGe_i, dAdd_i, dSub_i, dIsN_eq, dNotN_eq, dLen_l, dLen_t, dIx_l, dIx_t, dList_l, dList_t, dTuple_l, dTuple_t, szB_s, o1_end, oSl_t, oSl_l, oSl_s, a_sort, dInt_i, a_put, pen_rd, pen_0, pen_1, pen_2, pen_p1, pen_p2, take_cons, forGo_nil, a_star, dats_map, a_leave_end, Option.map_some, cellOf_end, rd_end, set_end, take_end, lit2, lit3, Bool.true_and, Bool.false_and, Bool.and_true, Bool.and_false, Bool.true_or, Bool.false_or, Bool.or_true, Bool.or_false, Bool.not_not, a_sl, a_pNo, a_pEx, a_asInt, a_frz0, a_zip, zip2_t, zip2_l, a_enum, enum1_l, enum1_t]
      · simp only [List.all_eq_true] at ha
        simp -implicitDefEqProofs only [a_fn, a_seq, seq_nx, seq_rt, seq_ex, seq_bk, seq_ct, seq_cond, ends_cond, c_ok, c_dat, c_bl, c_int, c_and, c_or, c_nand, a_sif, a_ret, a_set, a_nils, a_tg, a_expr, a_raise, a_par, Res.bind_ok, Res.bind_ex, Res.bindS_ok, Res.bindS_ex, a_var0, a_c, a_x2, a_o2, a_res1, a_xN, a_cons, a_nil, a_o1, a_xN1, a_tup, a_lst, mkTup_eq, mkLst_eq, a_dats0, a_dats1, a_ret1, a_tBl, a_tTr, a_tNo, a_tAn, a_tOr, a_bool1, truth_bl, truth_non, truth_int, truth_lst, truth_tup, a_and, a_or, a_chain, a_boolK, a_not, a_nDV, a_neg, a_neg1, a_if, a_isi, a_oIsi, isi_int, isi_bool, isi_tuple, isi_list, isi_str, a_it, a_items_l, a_items_t, a_lc, a_wipe0, a_wipe1, a_gNm, a_gTp, a_gCo, a_gNo, a_yes, a_for, a_rg1, a_rg2, a_new, a_llst, a_rd, Option.bind_some, ends_nx, ends_rt, ends_ex, leave_dat, List.map_cons, List.map_nil, List.length_cons, List.length_nil, Nat.reduceSub, Nat.reduceAdd, List.replicate_succ, List.replicate_zero, List.cons_append, List.nil_append, List.append_nil, List.getElem?_cons_zero, List.getElem?_cons_succ, List.set_cons_zero, List.set_cons_succ, List.take_length, cond_true, cond_false, Bool.not_true, Bool.not_false, dLt_i, dLe_i, dGt_i, dGe_i, dAdd_i, dSub_i, dIsN_eq, dNotN_eq, dLen_l, dLen_t, dIx_l, dIx_t, dList_l, dList_t, dTuple_l, dTuple_t, szB_s, o1_end, oSl_t, oSl_l, oSl_s, a_sort, dInt_i, a_put, pen_rd, pen_0, pen_1, pen_2, pen_p1, pen_p2, take_cons, forGo_nil, a_star, dats_map, a_leave_end, Option.map_some, cellOf_end, rd_end, set_end, take_end, lit2, lit3, Bool.true_and, Bool.false_and, Bool.and_true, Bool.and_false, Bool.true_or, Bool.false_or, Bool.or_true, Bool.or_false, Bool.not_not, a_sl, a_pNo, a_pEx, a_asInt, a_frz0, a_zip, zip2_t, zip2_l, a_enum, enum1_l, enum1_t, rng1_n (le_size (show cs.length ≤ 16000000 by omega)), List.length_map, List.length_range, szB_le (show cs.length ≤ 16777216 by omega)]
        rw [lcGo_filter (p := fun k => !(cs.getD k .non).isN) (q := fun i => .int ((i : Nat) : Int)) (List.range cs.length) ?h1]
        case h1 =>
          intro k hk
          have hk := List.mem_range.mp hk
          exact ⟨_, rfl, by simp -implicitDefEqProofs only [a_fn, a_seq, seq_nx, seq_rt, seq_ex, seq_bk, seq_ct, seq_cond, ends_cond, c_ok, c_dat, c_bl, c_int, c_and, c_or, c_nand, a_sif, a_ret, a_set, a_nils, a_tg, a_expr, a_raise, a_par, Res.bind_ok, Res.bind_ex, Res.bindS_ok, Res.bindS_ex, a_var0, a_c, a_x2, a_o2, a_res1, a_xN, a_cons, a_nil, a_o1, a_xN1, a_tup, a_lst, mkTup_eq, mkLst_eq, a_dats0, a_dats1, a_ret1, a_tBl, a_tTr, a_tNo, a_tAn, a_tOr, a_bool1, truth_bl, truth_non, truth_int, truth_lst, truth_tup, a_and, a_or, a_chain, a_boolK, a_not, a_nDV, a_neg, a_neg1, a_if, a_isi, a_oIsi, isi_int, isi_bool, isi_tuple, isi_list, isi_str, a_it, a_items_l, a_items_t, a_lc, a_wipe0, a_wipe1, a_gNm, a_gTp, a_gCo, a_gNo, a_yes, a_for, a_rg1, a_rg2, a_new, a_llst, a_rd, Option.bind_some, ends_nx, ends_rt, ends_ex, leave_dat, List.map_cons, List.map_nil, List.length_cons, List.length_nil, Nat.reduceSub, Nat.reduceAdd, List.replicate_succ, List.replicate_zero, List.cons_append, List.nil_append, List.append_nil, List.getElem?_cons_zero, List.getElem?_cons_succ, List.set_cons_zero, List.set_cons_succ, List.take_length, cond_true, cond_false, Bool.not_true, Bool.not_false, dLt_i, dLe_i, dGt_i, dGe_i, dAdd_i, dSub_i, dIsN_eq, dNotN_eq, dLen_l, dLen_t, dIx_l, dIx_t, dList_l, dList_t, dTuple_l, dTuple_t, szB_s, o1_end, oSl_t, oSl_l, oSl_s, a_sort, dInt_i, a_put, pen_rd, pen_0, pen_1, pen_2, pen_p1, pen_p2, take_cons, forGo_nil, a_star, dats_map, a_leave_end, Option.map_some, cellOf_end, rd_end, set_end, take_end, lit2, lit3, Bool.true_and, Bool.false_and, Bool.and_true, Bool.and_false, Bool.true_or, Bool.false_or, Bool.or_true, Bool.or_false, Bool.not_not, a_sl, a_pNo, a_pEx, a_asInt, a_frz0, a_zip, zip2_t, zip2_l, a_enum, enum1_l, enum1_t, atI_nat D.non hk], fun _ => by simp -implicitDefEqProofs only [a_fn, a_seq, seq_nx, seq_rt, seq_ex, seq_bk, seq_ct, seq_cond, ends_cond, c_ok, c_dat, c_bl, c_int, c_and, c_or, c_nand, a_sif, a_ret, a_set, a_nils, a_tg, a_expr, a_raise, a_par, Res.bind_ok, Res.bind_ex, Res.bindS_ok, Res.bindS_ex, a_var0, a_c, a_x2, a_o2, a_res1, a_xN, a_cons, a_nil, a_o1, a_xN1, a_tup, a_lst, mkTup_eq, mkLst_eq, a_dats0, a_dats1, a_ret1, a_tBl, a_tTr, a_tNo, a_tAn, a_tOr, a_bool1, truth_bl, truth_non, truth_int, truth_lst, truth_tup, a_and, a_or, a_chain, a_boolK, a_not, a_nDV, a_neg, a_neg1, a_if, a_isi, a_oIsi, isi_int, isi_bool, isi_tuple, isi_list, isi_str, a_it, a_items_l, a_items_t, a_lc, a_wipe0, a_wipe1, a_gNm, a_gTp, a_gCo, a_gNo, a_yes, a_for, a_rg1, a_rg2, a_new, a_llst, a_rd, Option.bind_some, ends_nx, ends_rt, ends_ex, leave_dat, List.map_cons, List.map_nil, List.length_cons, List.length_nil, Nat.reduceSub, Nat.reduceAdd, List.replicate_succ, List.replicate_zero, List.cons_append, List.nil_append, List.append_nil, List.getElem?_cons_zero, List.getElem?_cons_succ, List.set_cons_zero, List.set_cons_succ, List.take_length, cond_true, cond_false, Bool.not_true, Bool.not_false, dLt_i, dLe_i, dGt_i, dGe_i, dAdd_i, dSub_i, dIsN_eq, dNotN_eq, dLen_l, dLen_t, dIx_l, dIx_t, dList_l, dList_t, dTuple_l, dTuple_t, szB_s, o1_end, oSl_t, oSl_l, oSl_s, a_sort, dInt_i, a_put, pen_rd, pen_0, pen_1, pen_2, pen_p1, pen_p2, take_cons, forGo_nil, a_star, dats_map, a_leave_end, Option.map_some, cellOf_end, rd_end, set_end, take_end, lit2, lit3, Bool.true_and, Bool.false_and, Bool.and_true, Bool.and_false, Bool.true_or, Bool.false_or, Bool.or_true, Bool.or_false, Bool.not_not, a_sl, a_pNo, a_pEx, a_asInt, a_frz0, a_zip, zip2_t, zip2_l, a_enum, enum1_l, enum1_t]⟩
        have cl : ((List.range cs.length).filter fun k => !(cs.getD k .non).isN).length ≤ 4 := Nat.le_trans (List.length_filter_le ..) (by simpa using hl)
        simp -implicitDefEqProofs only [a_fn, a_seq, seq_nx, seq_rt, seq_ex, seq_bk, seq_ct, seq_cond, ends_cond, c_ok, c_dat, c_bl, c_int, c_and, c_or, c_nand, a_sif, a_ret, a_set, a_nils, a_tg, a_expr, a_raise, a_par, Res.bind_ok, Res.bind_ex, Res.bindS_ok, Res.bindS_ex, a_var0, a_c, a_x2, a_o2, a_res1, a_xN, a_cons, a_nil, a_o1, a_xN1, a_tup, a_lst, mkTup_eq, mkLst_eq, a_dats0, a_dats1, a_ret1, a_tBl, a_tTr, a_tNo, a_tAn, a_tOr, a_bool1, truth_bl, truth_non, truth_int, truth_lst, truth_tup, a_and, a_or, a_chain, a_boolK, a_not, a_nDV, a_neg, a_neg1, a_if, a_isi, a_oIsi, isi_int, isi_bool, isi_tuple, isi_list, isi_str, a_it, a_items_l, a_items_t, a_lc, a_wipe0, a_wipe1, a_gNm, a_gTp, a_gCo, a_gNo, a_yes, a_for, a_rg1, a_rg2, a_new, a_llst, a_rd, Option.bind_some, ends_nx, ends_rt, ends_ex, leave_dat, List.map_cons, List.map_nil, List.length_cons, List.length_nil, Nat.reduceSub, Nat.reduceAdd, List.replicate_succ, List.replicate_zero, List.cons_append, List.nil_append, List.append_nil, List.getElem?_cons_zero, List.getElem?_cons_succ, List.set_cons_zero, List.set_cons_succ, List.take_length, cond_true, cond_false, Bool.not_true, Bool.not_false, dLt_i, dLe_i, dGt_i, dGe_i, dAdd_i, dSub_i, dIsN_eq, dNotN_eq, dLen_l, dLen_t, dIx_l, dIx_t, dList_l, dList_t, dTuple_l, dTuple_t, szB_s, o1_end, oSl_t, oSl_l, oSl_s, a_sort, dInt_i, a_put, pen_rd, pen_0, pen_1, pen_2, pen_p1, pen_p2, take_cons, forGo_nil, a_star, dats_map, a_leave_end, Option.map_some, cellOf_end, rd_end, set_end, take_end, lit2, lit3, Bool.true_and, Bool.false_and, Bool.and_true, Bool.and_false, Bool.true_or, Bool.false_or, Bool.or_true, Bool.or_false, Bool.not_not, a_sl, a_pNo, a_pEx, a_asInt, a_frz0, a_zip, zip2_t, zip2_l, a_enum, enum1_l, enum1_t, hz]
        rw [lcGo_mapD (q := fun p => .int ((lackD cs p : Nat) : Int)) xs ?h2]
        case h2 =>
          intro p hp
          have hr := ha p hp
          cases p <;> simp only [isDRow, Bool.false_eq_true] at hr
          rename_i ys
          simp only [Bool.and_eq_true, beq_iff_eq] at hr
          have hly : ys.length = cs.length := by omega
          refine ⟨_, rfl, rfl, ?_⟩
          simp -implicitDefEqProofs only [a_fn, a_seq, seq_nx, seq_rt, seq_ex, seq_bk, seq_ct, seq_cond, ends_cond, c_ok, c_dat, c_bl, c_int, c_and, c_or, c_nand, a_sif, a_ret, a_set, a_nils, a_tg, a_expr, a_raise, a_par, Res.bind_ok, Res.bind_ex, Res.bindS_ok, Res.bindS_ex, a_var0, a_c, a_x2, a_o2, a_res1, a_xN, a_cons, a_nil, a_o1, a_xN1, a_tup, a_lst, mkTup_eq, mkLst_eq, a_dats0, a_dats1, a_ret1, a_tBl, a_tTr, a_tNo, a_tAn, a_tOr, a_bool1, truth_bl, truth_non, truth_int, truth_lst, truth_tup, a_and, a_or, a_chain, a_boolK, a_not, a_nDV, a_neg, a_neg1, a_if, a_isi, a_oIsi, isi_int, isi_bool, isi_tuple, isi_list, isi_str, a_it, a_items_l, a_items_t, a_lc, a_wipe0, a_wipe1, a_gNm, a_gTp, a_gCo, a_gNo, a_yes, a_for, a_rg1, a_rg2, a_new, a_llst, a_rd, Option.bind_some, ends_nx, ends_rt, ends_ex, leave_dat, List.map_cons, List.map_nil, List.length_cons, List.length_nil, Nat.reduceSub, Nat.reduceAdd, List.replicate_succ, List.replicate_zero, List.cons_append, List.nil_append, List.append_nil, List.getElem?_cons_zero, List.getElem?_cons_succ, List.set_cons_zero, List.set_cons_succ, List.take_length, cond_true, cond_false, Bool.not_true, Bool.not_false, dLt_i, dLe_i, dGt_i, dGe_i, dAdd_i, dSub_i, dIsN_eq, dNotN_eq, dLen_l, dLen_t, dIx_l, dIx_t, dList_l, dList_t, dTuple_l, dTuple_t, szB_s, o1_end, oSl_t, oSl_l, oSl_s, a_sort, dInt_i, a_put, pen_rd, pen_0, pen_1, pen_2, pen_p1, pen_p2, take_cons, forGo_nil, a_star, dats_map, a_leave_end, Option.map_some, cellOf_end, rd_end, set_end, take_end, lit2, lit3, Bool.true_and, Bool.false_and, Bool.and_true, Bool.and_false, Bool.true_or, Bool.false_or, Bool.or_true, Bool.or_false, Bool.not_not, a_sl, a_pNo, a_pEx, a_asInt, a_frz0, a_zip, zip2_t, zip2_l, a_enum, enum1_l, enum1_t, List.length_map, szB_le (show ((List.range cs.length).filter fun k => !(cs.getD k .non).isN).length ≤ 16777216 by omega)]
          rw [lcGo_filter (p := fun k => (ys.getD k .non).isN) (q := fun i => .int ((i : Nat) : Int)) ((List.range cs.length).filter fun k => !(cs.getD k .non).isN) ?h3]
          case h3 =>
            intro k hk
            have hk := List.mem_range.mp (List.mem_filter.mp hk).1
            exact ⟨_, rfl, by simp -implicitDefEqProofs only [a_fn, a_seq, seq_nx, seq_rt, seq_ex, seq_bk, seq_ct, seq_cond, ends_cond, c_ok, c_dat, c_bl, c_int, c_and, c_or, c_nand, a_sif, a_ret, a_set, a_nils, a_tg, a_expr, a_raise, a_par, Res.bind_ok, Res.bind_ex, Res.bindS_ok, Res.bindS_ex, a_var0, a_c, a_x2, a_o2, a_res1, a_xN, a_cons, a_nil, a_o1, a_xN1, a_tup, a_lst, mkTup_eq, mkLst_eq, a_dats0, a_dats1, a_ret1, a_tBl, a_tTr, a_tNo, a_tAn, a_tOr, a_bool1, truth_bl, truth_non, truth_int, truth_lst, truth_tup, a_and, a_or, a_chain, a_boolK, a_not, a_nDV, a_neg, a_neg1, a_if, a_isi, a_oIsi, isi_int, isi_bool, isi_tuple, isi_list, isi_str, a_it, a_items_l, a_items_t, a_lc, a_wipe0, a_wipe1, a_gNm, a_gTp, a_gCo, a_gNo, a_yes, a_for, a_rg1, a_rg2, a_new, a_llst, a_rd, Option.bind_some, ends_nx, ends_rt, ends_ex, leave_dat, List.map_cons, List.map_nil, List.length_cons, List.length_nil, Nat.reduceSub, Nat.reduceAdd, List.replicate_succ, List.replicate_zero, List.cons_append, List.nil_append, List.append_nil, List.getElem?_cons_zero, List.getElem?_cons_succ, List.set_cons_zero, List.set_cons_succ, List.take_length, cond_true, cond_false, Bool.not_true, Bool.not_false, dLt_i, dLe_i, dGt_i, dGe_i, dAdd_i, dSub_i, dIsN_eq, dNotN_eq, dLen_l, dLen_t, dIx_l, dIx_t, dList_l, dList_t, dTuple_l, dTuple_t, szB_s, o1_end, oSl_t, oSl_l, oSl_s, a_sort, dInt_i, a_put, pen_rd, pen_0, pen_1, pen_2, pen_p1, pen_p2, take_cons, forGo_nil, a_star, dats_map, a_leave_end, Option.map_some, cellOf_end, rd_end, set_end, take_end, lit2, lit3, Bool.true_and, Bool.false_and, Bool.and_true, Bool.and_false, Bool.true_or, Bool.false_or, Bool.or_true, Bool.or_false, Bool.not_not, a_sl, a_pNo, a_pEx, a_asInt, a_frz0, a_zip, zip2_t, zip2_l, a_enum, enum1_l, enum1_t, atI_nat D.non (show k < ys.length by omega)], fun _ => by simp -implicitDefEqProofs only [a_fn, a_seq, seq_nx, seq_rt, seq_ex, seq_bk, seq_ct, seq_cond, ends_cond, c_ok, c_dat, c_bl, c_int, c_and, c_or, c_nand, a_sif, a_ret, a_set, a_nils, a_tg, a_expr, a_raise, a_par, Res.bind_ok, Res.bind_ex, Res.bindS_ok, Res.bindS_ex, a_var0, a_c, a_x2, a_o2, a_res1, a_xN, a_cons, a_nil, a_o1, a_xN1, a_tup, a_lst, mkTup_eq, mkLst_eq, a_dats0, a_dats1, a_ret1, a_tBl, a_tTr, a_tNo, a_tAn, a_tOr, a_bool1, truth_bl, truth_non, truth_int, truth_lst, truth_tup, a_and, a_or, a_chain, a_boolK, a_not, a_nDV, a_neg, a_neg1, a_if, a_isi, a_oIsi, isi_int, isi_bool, isi_tuple, isi_list, isi_str, a_it, a_items_l, a_items_t, a_lc, a_wipe0, a_wipe1, a_gNm, a_gTp, a_gCo, a_gNo, a_yes, a_for, a_rg1, a_rg2, a_new, a_llst, a_rd, Option.bind_some, ends_nx, ends_rt, ends_ex, leave_dat, List.map_cons, List.map_nil, List.length_cons, List.length_nil, Nat.reduceSub, Nat.reduceAdd, List.replicate_succ, List.replicate_zero, List.cons_append, List.nil_append, List.append_nil, List.getElem?_cons_zero, List.getElem?_cons_succ, List.set_cons_zero, List.set_cons_succ, List.take_length, cond_true, cond_false, Bool.not_true, Bool.not_false, dLt_i, dLe_i, dGt_i, dGe_i, dAdd_i, dSub_i, dIsN_eq, dNotN_eq, dLen_l, dLen_t, dIx_l, dIx_t, dList_l, dList_t, dTuple_l, dTuple_t, szB_s, o1_end, oSl_t, oSl_l, oSl_s, a_sort, dInt_i, a_put, pen_rd, pen_0, pen_1, pen_2, pen_p1, pen_p2, take_cons, forGo_nil, a_star, dats_map, a_leave_end, Option.map_some, cellOf_end, rd_end, set_end, take_end, lit2, lit3, Bool.true_and, Bool.false_and, Bool.and_true, Bool.and_false, Bool.true_or, Bool.false_or, Bool.or_true, Bool.or_false, Bool.not_not, a_sl, a_pNo, a_pEx, a_asInt, a_frz0, a_zip, zip2_t, zip2_l, a_enum, enum1_l, enum1_t]⟩
          simp -implicitDefEqProofs only [a_fn, a_seq, seq_nx, seq_rt, seq_ex, seq_bk, seq_ct, seq_cond, ends_cond, c_ok, c_dat, c_bl, c_int, c_and, c_or, c_nand, a_sif, a_ret, a_set, a_nils, a_tg, a_expr, a_raise, a_par, Res.bind_ok, Res.bind_ex, Res.bindS_ok, Res.bindS_ex, a_var0, a_c, a_x2, a_o2, a_res1, a_xN, a_cons, a_nil, a_o1, a_xN1, a_tup, a_lst, mkTup_eq, mkLst_eq, a_dats0, a_dats1, a_ret1, a_tBl, a_tTr, a_tNo, a_tAn, a_tOr, a_bool1, truth_bl, truth_non, truth_int, truth_lst, truth_tup, a_and, a_or, a_chain, a_boolK, a_not, a_nDV, a_neg, a_neg1, a_if, a_isi, a_oIsi, isi_int, isi_bool, isi_tuple, isi_list, isi_str, a_it, a_items_l, a_items_t, a_lc, a_wipe0, a_wipe1, a_gNm, a_gTp, a_gCo, a_gNo, a_yes, a_for, a_rg1, a_rg2, a_new, a_llst, a_rd, Option.bind_some, ends_nx, ends_rt, ends_ex, leave_dat, List.map_cons, List.map_nil, List.length_cons, List.length_nil, Nat.reduceSub, Nat.reduceAdd, List.replicate_succ, List.replicate_zero, List.cons_append, List.nil_append, List.append_nil, List.getElem?_cons_zero, List.getElem?_cons_succ, List.set_cons_zero, List.set_cons_succ, List.take_length, cond_true, cond_false, Bool.not_true, Bool.not_false, dLt_i, dLe_i, dGt_i, dGe_i, dAdd_i, dSub_i, dIsN_eq, dNotN_eq, dLen_l, dLen_t, dIx_l, dIx_t, dList_l, dList_t, dTuple_l, dTuple_t, szB_s, o1_end, oSl_t, oSl_l, oSl_s, a_sort, dInt_i, a_put, pen_rd, pen_0, pen_1, pen_2, pen_p1, pen_p2, take_cons, forGo_nil, a_star, dats_map, a_leave_end, Option.map_some, cellOf_end, rd_end, set_end, take_end, lit2, lit3, Bool.true_and, Bool.false_and, Bool.and_true, Bool.and_false, Bool.true_or, Bool.false_or, Bool.or_true, Bool.or_false, Bool.not_not, a_sl, a_pNo, a_pEx, a_asInt, a_frz0, a_zip, zip2_t, zip2_l, a_enum, enum1_l, enum1_t, List.length_map, lackD, itemsD, lack_range cs ys hly]
        have sm := sum_nats (xs.map (lackD cs))
        rw [List.map_map] at sm
        have sm' : dSum (.lst (xs.map fun p => D.int ((lackD cs p : Nat) : Int))) = some (.int (((xs.map (lackD cs)).sum : Nat) : Int)) := sm
        simp -implicitDefEqProofs only [a_fn, a_seq, seq_nx, seq_rt, seq_ex, seq_bk, seq_ct, seq_cond, ends_cond, c_ok, c_dat, c_bl, c_int, c_and, c_or, c_nand, a_sif, a_ret, a_set, a_nils, a_tg, a_expr, a_raise, a_par, Res.bind_ok, Res.bind_ex, Res.bindS_ok, Res.bindS_ex, a_var0, a_c, a_x2, a_o2, a_res1, a_xN, a_cons, a_nil, a_o1, a_xN1, a_tup, a_lst, mkTup_eq, mkLst_eq, a_dats0, a_dats1, a_ret1, a_tBl, a_tTr, a_tNo, a_tAn, a_tOr, a_bool1, truth_bl, truth_non, truth_int, truth_lst, truth_tup, a_and, a_or, a_chain, a_boolK, a_not, a_nDV, a_neg, a_neg1, a_if, a_isi, a_oIsi, isi_int, isi_bool, isi_tuple, isi_list, isi_str, a_it, a_items_l, a_items_t, a_lc, a_wipe0, a_wipe1, a_gNm, a_gTp, a_gCo, a_gNo, a_yes, a_for, a_rg1, a_rg2, a_new, a_llst, a_rd, Option.bind_some, ends_nx, ends_rt, ends_ex, leave_dat, List.map_cons, List.map_nil, List.length_cons, List.length_nil, Nat.reduceSub, Nat.reduceAdd, List.replicate_succ, List.replicate_zero, List.cons_append, List.nil_append, List.append_nil, List.getElem?_cons_zero, List.getElem?_cons_succ, List.set_cons_zero, List.set_cons_succ, List.take_length, cond_true, cond_false, Bool.not_true, Bool.not_false, dLt_i, dLe_i, dGt_i, dGe_i, dAdd_i, dSub_i, dIsN_eq, dNotN_eq, dLen_l, dLen_t, dIx_l, dIx_t, dList_l, dList_t, dTuple_l, dTuple_t, szB_s, o1_end, oSl_t, oSl_l, oSl_s, a_sort, dInt_i, a_put, pen_rd, pen_0, pen_1, pen_2, pen_p1, pen_p2, take_cons, forGo_nil, a_star, dats_map, a_leave_end, Option.map_some, cellOf_end, rd_end, set_end, take_end, lit2, lit3, Bool.true_and, Bool.false_and, Bool.and_true, Bool.and_false, Bool.true_or, Bool.false_or, Bool.or_true, Bool.or_false, Bool.not_not, a_sl, a_pNo, a_pEx, a_asInt, a_frz0, a_zip, zip2_t, zip2_l, a_enum, enum1_l, enum1_t, sm']
    · simp -implicitDefEqProofs only [a_fn, a_seq, seq_nx, seq_rt, seq_ex, seq_bk, seq_ct, seq_cond, ends_cond, c_ok, c_dat, c_bl, c_int, c_and, c_or, c_nand, a_sif, a_ret, a_set, a_nils, a_tg, a_expr, a_raise, a_par, Res.bind_ok, Res.bind_ex, Res.bindS_ok, Res.bindS_ex, a_var0, a_c, a_x2, a_o2, a_res1, a_xN, a_cons, a_nil, a_o1, a_xN1, a_tup, a_lst, mkTup_eq, mkLst_eq, a_dats0, a_dats1, a_ret1, a_tBl, a_tTr, a_tNo, a_tAn, a_tOr, a_bool1, truth_bl, truth_non, truth_int, truth_lst, truth_tup, a_and, a_or, a_chain, a_boolK, a_not, a_nDV, a_neg, a_neg1, a_if, a_isi, a_oIsi, isi_int, isi_bool, isi_tuple, isi_list, isi_str, a_it, a_items_l, a_items_t, a_lc, a_wipe0, a_wipe1, a_gNm, a_gTp, a_gCo, a_gNo, a_yes, a_for, a_rg1, a_rg2, a_new, a_llst, a_rd, Option.bind_some, ends_nx, ends_rt, ends_ex, leave_dat, List.map_cons, List.map_nil, List.length_cons, List.length_nil, Nat.reduceSub, Nat.reduceAdd, List.replicate_succ, List.replicate_zero, List.cons_append, List.nil_append, List.append_nil, List.getElem?_cons_zero, List.getElem?_cons_succ, List.set_cons_zero, List.set_cons_succ, List.take_length, cond_true, cond_false, Bool.not_true, Bool.not_false, dLt_i, dLe_i, dGt_i, dGe_i, dAdd_i, dSub_i, dIsN_eq, dNotN_eq, dLen_l, dLen_t, dIx_l, dIx_t, dList_l, dList_t, dTuple_l, dTuple_t, szB_s, o1_end, oSl_t, oSl_l, oSl_s, a_sort, dInt_i, a_put, pen_rd, pen_0, pen_1, pen_2, pen_p1, pen_p2, take_cons, forGo_nil, a_star, dats_map, a_leave_end, Option.map_some, cellOf_end, rd_end, set_end, take_end, lit2, lit3, Bool.true_and, Bool.false_and, Bool.and_true, Bool.and_false, Bool.true_or, Bool.false_or, Bool.or_true, Bool.or_false, Bool.not_not, a_sl, a_pNo, a_pEx, a_asInt, a_frz0, a_zip, zip2_t, zip2_l, a_enum, enum1_l, enum1_t]
  all_goals simp -implicitDefEqProofs only [D.isT, isDraft, a_fn, a_seq, seq_nx, seq_rt, seq_ex, seq_bk, seq_ct, seq_cond, ends_cond, c_ok, c_dat, c_bl, c_int, c_and, c_or, c_nand, a_sif, a_ret, a_set, a_nils, a_tg, a_expr, a_raise, a_par, Res.bind_ok, Res.bind_ex, Res.bindS_ok, Res.bindS_ex, a_var0, a_c, a_x2, a_o2, a_res1, a_xN, a_cons, a_nil, a_o1, a_xN1, a_tup, a_lst, mkTup_eq, mkLst_eq, a_dats0, a_dats1, a_ret1, a_tBl, a_tTr, a_tNo, a_tAn, a_tOr, a_bool1, truth_bl, truth_non, truth_int, truth_lst, truth_tup, a_and, a_or, a_chain, a_boolK, a_not, a_nDV, a_neg, a_neg1, a_if, a_isi, a_oIsi, isi_int, isi_bool, isi_tuple, isi_list, isi_str, a_it, a_items_l, a_items_t, a_lc, a_wipe0, a_wipe1, a_gNm, a_gTp, a_gCo, a_gNo, a_yes, a_for, a_rg1, a_rg2, a_new, a_llst, a_rd, Option.bind_some, ends_nx, ends_rt, ends_ex, leave_dat, List.map_cons, List.map_nil, List.length_cons, List.length_nil, Nat.reduceSub, Nat.reduceAdd, List.replicate_succ, List.replicate_zero, List.cons_append, List.nil_append, List.append_nil, List.getElem?_cons_zero, List.getElem?_cons_succ, List.set_cons_zero, List.set_cons_succ, List.take_length, cond_true, cond_false, Bool.not_true, Bool.not_false, dLt_i, dLe_i, dGt_i, dGe_i, dAdd_i, dSub_i, dIsN_eq, dNotN_eq, dLen_l, dLen_t, dIx_l, dIx_t, dList_l, dList_t, dTuple_l, dTuple_t, szB_s, o1_end, oSl_t, oSl_l, oSl_s, a_sort, dInt_i, a_put, pen_rd, pen_0, pen_1, pen_2, pen_p1, pen_p2, take_cons, forGo_nil, a_star, dats_map, a_leave_end, Option.map_some, cellOf_end, rd_end, set_end, take_end, lit2, lit3, Bool.true_and, Bool.false_and, Bool.and_true, Bool.and_false, Bool.true_or, Bool.false_or, Bool.or_true, Bool.or_false, Bool.not_not, a_sl, a_pNo, a_pEx, a_asInt, a_frz0, a_zip, zip2_t, zip2_l, a_enum, enum1_l, enum1_t]
end T08

set_option maxHeartbeats 400000
namespace T08
open PySem PySem.Spec PyProof.Rows L2 DL
def dentB (p : D × D) : Bool := p.2.isN || isValOf p.1 p.2
def lackB (p : D × D) : Bool := p.2.isN && !p.1.isN
theorem ldraft_in (cs : List D) (hc : ∀ c ∈ cs, isCol c = true) (v row : D) (S : Store) : ∀ (ps : List (D × D)) (l : Nat) (z4 z5 : Option DV), (∀ p ∈ ps, p.1 ∈ cs) →
    (ps.all dentB = true → ∃ y4 y5, forGo (gTp (gCo (gNm 4) (gCo (gNm 5) gNo))) lb1_l_law_is_draft (ps.map fun p => pairD p.1 p.2) [some (.dat (.tup cs)), some (.dat v), some (.dat (.int (l : Nat))), some (.dat row), z4, z5] S = .nx [some (.dat (.tup cs)), some (.dat v), some (.dat (.int ((l + (ps.filter lackB).length : Nat) : Int))), some (.dat row), y4, y5] S) ∧
    (ps.all dentB = false → forGo (gTp (gCo (gNm 4) (gCo (gNm 5) gNo))) lb1_l_law_is_draft (ps.map fun p => pairD p.1 p.2) [some (.dat (.tup cs)), some (.dat v), some (.dat (.int (l : Nat))), some (.dat row), z4, z5] S = .rt (.dat (.bl false)) S)
  | [], l, z4, z5, _ => ⟨fun _ => ⟨_, _, rfl⟩, fun h => nomatch h⟩
  | p :: r, l, z4, z5, hm => by
    have hcp := hc p.1 (hm p (List.mem_cons_self ..))
    have g : gTp (gCo (gNm 4) (gCo (gNm 5) gNo)) (pairD p.1 p.2) [some (.dat (.tup cs)), some (.dat v), some (.dat (.int (l : Nat))), some (.dat row), z4, z5] = some [some (.dat (.tup cs)), some (.dat v), some (.dat (.int (l : Nat))), some (.dat row), some (.dat p.1), some (.dat p.2)] := rfl
    have step : (dentB p = true → lb1_l_law_is_draft [some (.dat (.tup cs)), some (.dat v), some (.dat (.int (l : Nat))), some (.dat row), some (.dat p.1), some (.dat p.2)] S = .nx [some (.dat (.tup cs)), some (.dat v), some (.dat (.int ((l + (if lackB p = true then 1 else 0) : Nat) : Int))), some (.dat row), some (.dat p.1), some (.dat p.2)] S) ∧
        (dentB p = false → lb1_l_law_is_draft [some (.dat (.tup cs)), some (.dat v), some (.dat (.int (l : Nat))), some (.dat row), some (.dat p.1), some (.dat p.2)] S = .rt (.dat (.bl false)) S) := by
      unfold lb1_l_law_is_draft
      have i1 : dInt (.bl true) = some (.int 1) := rfl
      have i0 : dInt (.bl false) = some (.int 0) := rfl
      cases h2 : p.2.isN
      · cases h3 : isValOf p.1 p.2
        · simp -implicitDefEqProofs only [a_fn, a_seq, seq_nx, seq_rt, seq_ex, seq_bk, seq_ct, seq_cond, ends_cond, c_ok, c_dat, c_bl, c_int, c_and, c_or, c_nand, a_sif, a_ret, a_set, a_nils, a_tg, a_expr, a_raise, a_par, Res.bind_ok, Res.bind_ex, Res.bindS_ok, Res.bindS_ex, a_var0, a_c, a_x2, a_o2, a_res1, a_xN, a_cons, a_nil, a_o1, a_xN1, a_tup, a_lst, mkTup_eq, mkLst_eq, a_dats0, a_dats1, a_ret1, a_tBl, a_tTr, a_tNo, a_tAn, a_tOr, a_bool1, truth_bl, truth_non, truth_int, truth_lst, truth_tup, a_and, a_or, a_chain, a_boolK, a_not, a_nDV, a_neg, a_neg1, a_if, a_isi, a_oIsi, isi_int, isi_bool, isi_tuple, isi_list, isi_str, a_it, a_items_l, a_items_t, a_lc, a_wipe0, a_wipe1, a_gNm, a_gTp, a_gCo, a_gNo, a_yes, a_for, a_rg1, a_rg2, a_new, a_llst, a_rd, Option.bind_some, ends_nx, ends_rt, ends_ex, leave_dat, List.map_cons, List.map_nil, List.length_cons, List.length_nil, Nat.reduceSub, Nat.reduceAdd, List.replicate_succ, List.replicate_zero, List.cons_append, List.nil_append, List.append_nil, List.getElem?_cons_zero, List.getElem?_cons_succ, List.set_cons_zero, List.set_cons_succ, List.take_length, cond_true, cond_false, Bool.not_true, Bool.not_false, dLt_i, dLe_i, dGt_i, dGe_i, dAdd_i, dSub_i, dIsN_eq, dNotN_eq, dLen_l, dLen_t, dIx_l, dIx_t, dList_l, dList_t, dTuple_l, dTuple_t, szB_s, o1_end, oSl_t, oSl_l, oSl_s, a_sort, dInt_i, a_put, pen_rd, pen_0, pen_1, pen_2, pen_p1, pen_p2, take_cons, forGo_nil, a_star, dats_map, a_leave_end, Option.map_some, cellOf_end, rd_end, set_end, take_end, lit2, lit3, Bool.true_and, Bool.false_and, Bool.and_true, Bool.and_false, Bool.true_or, Bool.false_or, Bool.or_true, Bool.or_false, Bool.not_not, a_sl, a_pNo, a_pEx, a_asInt, a_frz0, a_zip, zip2_t, zip2_l, a_enum, enum1_l, enum1_t, h2, l_is_value_ok _ _ hcp, h3, dentB, lackB, i0]
          simp
        · simp -implicitDefEqProofs only [a_fn, a_seq, seq_nx, seq_rt, seq_ex, seq_bk, seq_ct, seq_cond, ends_cond, c_ok, c_dat, c_bl, c_int, c_and, c_or, c_nand, a_sif, a_ret, a_set, a_nils, a_tg, a_expr, a_raise, a_par, Res.bind_ok, Res.bind_ex, Res.bindS_ok, Res.bindS_ex, a_var0, a_c, a_x2, a_o2, a_res1, a_xN, a_cons, a_nil, a_o1, a_xN1, a_tup, a_lst, mkTup_eq, mkLst_eq, a_dats0, a_dats1, a_ret1, a_tBl, a_tTr, a_tNo, a_tAn, a_tOr, a_bool1, truth_bl, truth_non, truth_int, truth_lst, truth_tup, a_and, a_or, a_chain, a_boolK, a_not, a_nDV, a_neg, a_neg1, a_if, a_isi, a_oIsi, isi_int, isi_bool, isi_tuple, isi_list, isi_str, a_it, a_items_l, a_items_t, a_lc, a_wipe0, a_wipe1, a_gNm, a_gTp, a_gCo, a_gNo, a_yes, a_for, a_rg1, a_rg2, a_new, a_llst, a_rd, Option.bind_some, ends_nx, ends_rt, ends_ex, leave_dat, List.map_cons, List.map_nil, List.length_cons, List.length_nil, Nat.reduceSub, Nat.reduceAdd, List.replicate_succ, List.replicate_zero, List.cons_append, List.nil_append, List.append_nil, List.getElem?_cons_zero, List.getElem?_cons_succ, List.set_cons_zero, List.set_cons_succ, List.take_length, cond_true, cond_false, Bool.not_true, Bool.not_false, dLt_i, dLe_i, dGt_i, dGe_i, dAdd_i, dSub_i, dIsN_eq, dNotN_eq, dLen_l, dLen_t, dIx_l, dIx_t, dList_l, dList_t, dTuple_l, dTuple_t, szB_s, o1_end, oSl_t, oSl_l, oSl_s, a_sort, dInt_i, a_put, pen_rd, pen_0, pen_1, pen_2, pen_p1, pen_p2, take_cons, forGo_nil, a_star, dats_map, a_leave_end, Option.map_some, cellOf_end, rd_end, set_end, take_end, lit2, lit3, Bool.true_and, Bool.false_and, Bool.and_true, Bool.and_false, Bool.true_or, Bool.false_or, Bool.or_true, Bool.or_false, Bool.not_not, a_sl, a_pNo, a_pEx, a_asInt, a_frz0, a_zip, zip2_t, zip2_l, a_enum, enum1_l, enum1_t, h2, l_is_value_ok _ _ hcp, h3, dentB, lackB, i0]
          simp
      · cases h3 : p.1.isN
        · simp -implicitDefEqProofs only [a_fn, a_seq, seq_nx, seq_rt, seq_ex, seq_bk, seq_ct, seq_cond, ends_cond, c_ok, c_dat, c_bl, c_int, c_and, c_or, c_nand, a_sif, a_ret, a_set, a_nils, a_tg, a_expr, a_raise, a_par, Res.bind_ok, Res.bind_ex, Res.bindS_ok, Res.bindS_ex, a_var0, a_c, a_x2, a_o2, a_res1, a_xN, a_cons, a_nil, a_o1, a_xN1, a_tup, a_lst, mkTup_eq, mkLst_eq, a_dats0, a_dats1, a_ret1, a_tBl, a_tTr, a_tNo, a_tAn, a_tOr, a_bool1, truth_bl, truth_non, truth_int, truth_lst, truth_tup, a_and, a_or, a_chain, a_boolK, a_not, a_nDV, a_neg, a_neg1, a_if, a_isi, a_oIsi, isi_int, isi_bool, isi_tuple, isi_list, isi_str, a_it, a_items_l, a_items_t, a_lc, a_wipe0, a_wipe1, a_gNm, a_gTp, a_gCo, a_gNo, a_yes, a_for, a_rg1, a_rg2, a_new, a_llst, a_rd, Option.bind_some, ends_nx, ends_rt, ends_ex, leave_dat, List.map_cons, List.map_nil, List.length_cons, List.length_nil, Nat.reduceSub, Nat.reduceAdd, List.replicate_succ, List.replicate_zero, List.cons_append, List.nil_append, List.append_nil, List.getElem?_cons_zero, List.getElem?_cons_succ, List.set_cons_zero, List.set_cons_succ, List.take_length, cond_true, cond_false, Bool.not_true, Bool.not_false, dLt_i, dLe_i, dGt_i, dGe_i, dAdd_i, dSub_i, dIsN_eq, dNotN_eq, dLen_l, dLen_t, dIx_l, dIx_t, dList_l, dList_t, dTuple_l, dTuple_t, szB_s, o1_end, oSl_t, oSl_l, oSl_s, a_sort, dInt_i, a_put, pen_rd, pen_0, pen_1, pen_2, pen_p1, pen_p2, take_cons, forGo_nil, a_star, dats_map, a_leave_end, Option.map_some, cellOf_end, rd_end, set_end, take_end, lit2, lit3, Bool.true_and, Bool.false_and, Bool.and_true, Bool.and_false, Bool.true_or, Bool.false_or, Bool.or_true, Bool.or_false, Bool.not_not, a_sl, a_pNo, a_pEx, a_asInt, a_frz0, a_zip, zip2_t, zip2_l, a_enum, enum1_l, enum1_t, h2, h3, dentB, lackB, i1]
          simp
        · simp -implicitDefEqProofs only [a_fn, a_seq, seq_nx, seq_rt, seq_ex, seq_bk, seq_ct, seq_cond, ends_cond, c_ok, c_dat, c_bl, c_int, c_and, c_or, c_nand, a_sif, a_ret, a_set, a_nils, a_tg, a_expr, a_raise, a_par, Res.bind_ok, Res.bind_ex, Res.bindS_ok, Res.bindS_ex, a_var0, a_c, a_x2, a_o2, a_res1, a_xN, a_cons, a_nil, a_o1, a_xN1, a_tup, a_lst, mkTup_eq, mkLst_eq, a_dats0, a_dats1, a_ret1, a_tBl, a_tTr, a_tNo, a_tAn, a_tOr, a_bool1, truth_bl, truth_non, truth_int, truth_lst, truth_tup, a_and, a_or, a_chain, a_boolK, a_not, a_nDV, a_neg, a_neg1, a_if, a_isi, a_oIsi, isi_int, isi_bool, isi_tuple, isi_list, isi_str, a_it, a_items_l, a_items_t, a_lc, a_wipe0, a_wipe1, a_gNm, a_gTp, a_gCo, a_gNo, a_yes, a_for, a_rg1, a_rg2, a_new, a_llst, a_rd, Option.bind_some, ends_nx, ends_rt, ends_ex, leave_dat, List.map_cons, List.map_nil, List.length_cons, List.length_nil, Nat.reduceSub, Nat.reduceAdd, List.replicate_succ, List.replicate_zero, List.cons_append, List.nil_append, List.append_nil, List.getElem?_cons_zero, List.getElem?_cons_succ, List.set_cons_zero, List.set_cons_succ, List.take_length, cond_true, cond_false, Bool.not_true, Bool.not_false, dLt_i, dLe_i, dGt_i, dGe_i, dAdd_i, dSub_i, dIsN_eq, dNotN_eq, dLen_l, dLen_t, dIx_l, dIx_t, dList_l, dList_t, dTuple_l, dTuple_t, szB_s, o1_end, oSl_t, oSl_l, oSl_s, a_sort, dInt_i, a_put, pen_rd, pen_0, pen_1, pen_2, pen_p1, pen_p2, take_cons, forGo_nil, a_star, dats_map, a_leave_end, Option.map_some, cellOf_end, rd_end, set_end, take_end, lit2, lit3, Bool.true_and, Bool.false_and, Bool.and_true, Bool.and_false, Bool.true_or, Bool.false_or, Bool.or_true, Bool.or_false, Bool.not_not, a_sl, a_pNo, a_pEx, a_asInt, a_frz0, a_zip, zip2_t, zip2_l, a_enum, enum1_l, enum1_t, h2, h3, dentB, lackB, i0]
          simp
    cases hd : dentB p with
    | false =>
      refine ⟨fun h => by simp [hd] at h, fun _ => ?_⟩
      simp only [List.map_cons, forGo, g, step.2 hd]
    | true =>
      obtain ⟨j1, j2⟩ := ldraft_in cs hc v row S r (l + (if lackB p = true then 1 else 0)) (some (.dat p.1)) (some (.dat p.2)) fun q hq => hm q (List.mem_cons_of_mem _ hq)
      have e : forGo (gTp (gCo (gNm 4) (gCo (gNm 5) gNo))) lb1_l_law_is_draft ((p :: r).map fun p => pairD p.1 p.2) [some (.dat (.tup cs)), some (.dat v), some (.dat (.int (l : Nat))), some (.dat row), z4, z5] S = forGo (gTp (gCo (gNm 4) (gCo (gNm 5) gNo))) lb1_l_law_is_draft (r.map fun p => pairD p.1 p.2) [some (.dat (.tup cs)), some (.dat v), some (.dat (.int ((l + (if lackB p = true then 1 else 0) : Nat) : Int))), some (.dat row), some (.dat p.1), some (.dat p.2)] S := by
        simp only [List.map_cons, forGo, g, step.1 hd]
      rw [e]
      have cnt : l + ((p :: r).filter lackB).length = l + (if lackB p = true then 1 else 0) + (r.filter lackB).length := by
        rw [List.filter_cons]
        split <;> simp <;> omega
      rw [cnt]
      simp only [List.all_cons, hd, Bool.true_and]
      exact ⟨j1, j2⟩
theorem isDRow_t {cs xs : List D} (h : ((xs.length : Int) == cs.length) = true) : isDRow cs (.tup xs) = (cs.zip xs).all dentB := by
  simp only [isDRow, h, Bool.true_and]
  rfl
theorem ldraft_out (cs : List D) (hc : ∀ c ∈ cs, isCol c = true) (v : D) (S : Store) : ∀ (rs : List D) (l : Nat) (z3 z4 z5 : Option DV),
    (rs.all (isDRow cs) = true → ∃ y3 y4 y5, forGo (gNm 3) lb2_l_law_is_draft rs [some (.dat (.tup cs)), some (.dat v), some (.dat (.int (l : Nat))), z3, z4, z5] S = .nx [some (.dat (.tup cs)), some (.dat v), some (.dat (.int ((l + (rs.map (lackD cs)).sum : Nat) : Int))), y3, y4, y5] S) ∧
    (rs.all (isDRow cs) = false → forGo (gNm 3) lb2_l_law_is_draft rs [some (.dat (.tup cs)), some (.dat v), some (.dat (.int (l : Nat))), z3, z4, z5] S = .rt (.dat (.bl false)) S)
  | [], l, z3, z4, z5 => ⟨fun _ => ⟨_, _, _, rfl⟩, fun h => nomatch h⟩
  | d :: r, l, z3, z4, z5 => by
    have g : gNm 3 d [some (.dat (.tup cs)), some (.dat v), some (.dat (.int (l : Nat))), z3, z4, z5] = some [some (.dat (.tup cs)), some (.dat v), some (.dat (.int (l : Nat))), some (.dat d), z4, z5] := rfl
    have step : (isDRow cs d = true → ∃ y4 y5, lb2_l_law_is_draft [some (.dat (.tup cs)), some (.dat v), some (.dat (.int (l : Nat))), some (.dat d), z4, z5] S = .nx [some (.dat (.tup cs)), some (.dat v), some (.dat (.int ((l + lackD cs d : Nat) : Int))), some (.dat d), y4, y5] S) ∧
        (isDRow cs d = false → lb2_l_law_is_draft [some (.dat (.tup cs)), some (.dat v), some (.dat (.int (l : Nat))), some (.dat d), z4, z5] S = .rt (.dat (.bl false)) S) := by
      unfold lb2_l_law_is_draft
      cases d with
      | tup xs =>
        cases h : ((xs.length : Int) == cs.length)
        · refine ⟨fun k => by simp [isDRow, h] at k, fun _ => ?_⟩
          simp -implicitDefEqProofs only [a_fn, a_seq, seq_nx, seq_rt, seq_ex, seq_bk, seq_ct, seq_cond, ends_cond, c_ok, c_dat, c_bl, c_int, c_and, c_or, c_nand, a_sif, a_ret, a_set, a_nils, a_tg, a_expr, a_raise, a_par, Res.bind_ok, Res.bind_ex, Res.bindS_ok, Res.bindS_ex, a_var0, a_c, a_x2, a_o2, a_res1, a_xN, a_cons, a_nil, a_o1, a_xN1, a_tup, a_lst, mkTup_eq, mkLst_eq, a_dats0, a_dats1, a_ret1, a_tBl, a_tTr, a_tNo, a_tAn, a_tOr, a_bool1, truth_bl, truth_non, truth_int, truth_lst, truth_tup, a_and, a_or, a_chain, a_boolK, a_not, a_nDV, a_neg, a_neg1, a_if, a_isi, a_oIsi, isi_int, isi_bool, isi_tuple, isi_list, isi_str, a_it, a_items_l, a_items_t, a_lc, a_wipe0, a_wipe1, a_gNm, a_gTp, a_gCo, a_gNo, a_yes, a_for, a_rg1, a_rg2, a_new, a_llst, a_rd, Option.bind_some, ends_nx, ends_rt, ends_ex, leave_dat, List.map_cons, List.map_nil, List.length_cons, List.length_nil, Nat.reduceSub, Nat.reduceAdd, List.replicate_succ, List.replicate_zero, List.cons_append, List.nil_append, List.append_nil, List.getElem?_cons_zero, List.getElem?_cons_succ, List.set_cons_zero, List.set_cons_succ, List.take_length, cond_true, cond_false, Bool.not_true, Bool.not_false, dLt_i, dLe_i, dGt_i, dGe_i, dAdd_i, dSub_i, dIsN_eq, dNotN_eq, dLen_l, dLen_t, dIx_l, dIx_t, dList_l, dList_t, dTuple_l, dTuple_t, szB_s, o1_end, oSl_t, oSl_l, oSl_s, a_sort, dInt_i, a_put, pen_rd, pen_0, pen_1, pen_2, pen_p1, pen_p2, take_cons, forGo_nil, a_star, dats_map, a_leave_end, Option.map_some, cellOf_end, rd_end, set_end, take_end, lit2, lit3, Bool.true_and, Bool.false_and, Bool.and_true, Bool.and_false, Bool.true_or, Bool.false_or, Bool.or_true, Bool.or_false, Bool.not_not, a_sl, a_pNo, a_pEx, a_asInt, a_frz0, a_zip, zip2_t, zip2_l, a_enum, enum1_l, enum1_t, D.isT, dNe_ii, h]
        · obtain ⟨j1, j2⟩ := ldraft_in cs hc v (.tup xs) S (cs.zip xs) l z4 z5 fun p hp => (List.of_mem_zip hp).1
          rw [isDRow_t h]
          simp -implicitDefEqProofs only [a_fn, a_seq, seq_nx, seq_rt, seq_ex, seq_bk, seq_ct, seq_cond, ends_cond, c_ok, c_dat, c_bl, c_int, c_and, c_or, c_nand, a_sif, a_ret, a_set, a_nils, a_tg, a_expr, a_raise, a_par, Res.bind_ok, Res.bind_ex, Res.bindS_ok, Res.bindS_ex, a_var0, a_c, a_x2, a_o2, a_res1, a_xN, a_cons, a_nil, a_o1, a_xN1, a_tup, a_lst, mkTup_eq, mkLst_eq, a_dats0, a_dats1, a_ret1, a_tBl, a_tTr, a_tNo, a_tAn, a_tOr, a_bool1, truth_bl, truth_non, truth_int, truth_lst, truth_tup, a_and, a_or, a_chain, a_boolK, a_not, a_nDV, a_neg, a_neg1, a_if, a_isi, a_oIsi, isi_int, isi_bool, isi_tuple, isi_list, isi_str, a_it, a_items_l, a_items_t, a_lc, a_wipe0, a_wipe1, a_gNm, a_gTp, a_gCo, a_gNo, a_yes, a_for, a_rg1, a_rg2, a_new, a_llst, a_rd, Option.bind_some, ends_nx, ends_rt, ends_ex, leave_dat, List.map_cons, List.map_nil, List.length_cons, List.length_nil, Nat.reduceSub, Nat.reduceAdd, List.replicate_succ, List.replicate_zero, List.cons_append, List.nil_append, List.append_nil, List.getElem?_cons_zero, List.getElem?_cons_succ, List.set_cons_zero, List.set_cons_succ, List.take_length, cond_true, cond_false, Bool.not_true, Bool.not_false, dLt_i, dLe_i, dGt_i, dGe_i, dAdd_i, dSub_i, dIsN_eq, dNotN_eq, dLen_l, dLen_t, dIx_l, dIx_t, dList_l, dList_t, dTuple_l, dTuple_t, szB_s, o1_end, oSl_t, oSl_l, oSl_s, a_sort, dInt_i, a_put, pen_rd, pen_0, pen_1, pen_2, pen_p1, pen_p2, take_cons, forGo_nil, a_star, dats_map, a_leave_end, Option.map_some, cellOf_end, rd_end, set_end, take_end, lit2, lit3, Bool.true_and, Bool.false_and, Bool.and_true, Bool.and_false, Bool.true_or, Bool.false_or, Bool.or_true, Bool.or_false, Bool.not_not, a_sl, a_pNo, a_pEx, a_asInt, a_frz0, a_zip, zip2_t, zip2_l, a_enum, enum1_l, enum1_t, D.isT, dNe_ii, h, zipD_map]
          exact ⟨fun k => j1 k, j2⟩
      | _ => exact ⟨(fun k => by simp [isDRow] at k), fun _ => by simp -implicitDefEqProofs only [a_fn, a_seq, seq_nx, seq_rt, seq_ex, seq_bk, seq_ct, seq_cond, ends_cond, c_ok, c_dat, c_bl, c_int, c_and, c_or, c_nand, a_sif, a_ret, a_set, a_nils, a_tg, a_expr, a_raise, a_par, Res.bind_ok, Res.bind_ex, Res.bindS_ok, Res.bindS_ex, a_var0, a_c, a_x2, a_o2, a_res1, a_xN, a_cons, a_nil, a_o1, a_xN1, a_tup, a_lst, mkTup_eq, mkLst_eq, a_dats0, a_dats1, a_ret1, a_tBl, a_tTr, a_tNo, a_tAn, a_tOr, a_bool1, truth_bl, truth_non, truth_int, truth_lst, truth_tup, a_and, a_or, a_chain, a_boolK, a_not, a_nDV, a_neg, a_neg1, a_if, a_isi, a_oIsi, isi_int, isi_bool, isi_tuple, isi_list, isi_str, a_it, a_items_l, a_items_t, a_lc, a_wipe0, a_wipe1, a_gNm, a_gTp, a_gCo, a_gNo, a_yes, a_for, a_rg1, a_rg2, a_new, a_llst, a_rd, Option.bind_some, ends_nx, ends_rt, ends_ex, leave_dat, List.map_cons, List.map_nil, List.length_cons, List.length_nil, Nat.reduceSub, Nat.reduceAdd, List.replicate_succ, List.replicate_zero, List.cons_append, List.nil_append, List.append_nil, List.getElem?_cons_zero, List.getElem?_cons_succ, List.set_cons_zero, List.set_cons_succ, List.take_length, cond_true, cond_false, Bool.not_true, Bool.not_false, dLt_i, dLe_i, dGt_i, dGe_i, dAdd_i, dSub_i, dIsN_eq, dNotN_eq, dLen_l, dLen_t, dIx_l, dIx_t, dList_l, dList_t, dTuple_l, dTuple_t, szB_s, o1_end, oSl_t, oSl_l, oSl_s, a_sort, dInt_i, a_put, pen_rd, pen_0, pen_1, pen_2, pen_p1, pen_p2, take_cons, forGo_nil, a_star, dats_map, a_leave_end, Option.map_some, cellOf_end, rd_end, set_end, take_end, lit2, lit3, Bool.true_and, Bool.false_and, Bool.and_true, Bool.and_false, Bool.true_or, Bool.false_or, Bool.or_true, Bool.or_false, Bool.not_not, a_sl, a_pNo, a_pEx, a_asInt, a_frz0, a_zip, zip2_t, zip2_l, a_enum, enum1_l, enum1_t, D.isT]⟩
    cases hd : isDRow cs d with
    | false =>
      refine ⟨fun h => by simp [hd] at h, fun _ => ?_⟩
      simp only [forGo, g, step.2 hd]
    | true =>
      obtain ⟨y4, y5, e1⟩ := step.1 hd
      obtain ⟨j1, j2⟩ := ldraft_out cs hc v S r (l + lackD cs d) (some (.dat d)) y4 y5
      have e : forGo (gNm 3) lb2_l_law_is_draft (d :: r) [some (.dat (.tup cs)), some (.dat v), some (.dat (.int (l : Nat))), z3, z4, z5] S = forGo (gNm 3) lb2_l_law_is_draft r [some (.dat (.tup cs)), some (.dat v), some (.dat (.int ((l + lackD cs d : Nat) : Int))), some (.dat d), y4, y5] S := by
        simp only [forGo, g, e1]
      rw [e]
      simp only [List.all_cons, hd, Bool.true_and, List.map_cons, List.sum_cons, ← Nat.add_assoc]
      exact ⟨j1, j2⟩
theorem l_is_draft_ok (cs : List D) (hc : ∀ c ∈ cs, isCol c = true) (d : D) (S : Store) : g_l_law_is_draft [.dat (.tup cs), .dat d] S = .ok (.dat (.bl (isDraft cs d))) S := by
  unfold g_l_law_is_draft s_l_law_is_draft
  simp -implicitDefEqProofs only [a_fn, a_seq, seq_nx, seq_rt, seq_ex, seq_bk, seq_ct, seq_cond, ends_cond, c_ok, c_dat, c_bl, c_int, c_and, c_or, c_nand, a_sif, a_ret, a_set, a_nils, a_tg, a_expr, a_raise, a_par, Res.bind_ok, Res.bind_ex, Res.bindS_ok, Res.bindS_ex, a_var0, a_c, a_x2, a_o2, a_res1, a_xN, a_cons, a_nil, a_o1, a_xN1, a_tup, a_lst, mkTup_eq, mkLst_eq, a_dats0, a_dats1, a_ret1, a_tBl, a_tTr, a_tNo, a_tAn, a_tOr, a_bool1, truth_bl, truth_non, truth_int, truth_lst, truth_tup, a_and, a_or, a_chain, a_boolK, a_not, a_nDV, a_neg, a_neg1, a_if, a_isi, a_oIsi, isi_int, isi_bool, isi_tuple, isi_list, isi_str, a_it, a_items_l, a_items_t, a_lc, a_wipe0, a_wipe1, a_gNm, a_gTp, a_gCo, a_gNo, a_yes, a_for, a_rg1, a_rg2, a_new, a_llst, a_rd, Option.bind_some, ends_nx, ends_rt, ends_ex, leave_dat, List.map_cons, List.map_nil, List.length_cons, List.length_nil, Nat.reduceSub, Nat.reduceAdd, List.replicate_succ, List.replicate_zero, List.cons_append, List.nil_append, List.append_nil, List.getElem?_cons_zero, List.getElem?_cons_succ, List.set_cons_zero, List.set_cons_succ, List.take_length, cond_true, cond_false, Bool.not_true, Bool.not_false, dLt_i, dLe_i, dGt_i, dGe_i, dAdd_i, dSub_i, dIsN_eq, dNotN_eq, dLen_l, dLen_t, dIx_l, dIx_t, dList_l, dList_t, dTuple_l, dTuple_t, szB_s, o1_end, oSl_t, oSl_l, oSl_s, a_sort, dInt_i, a_put, pen_rd, pen_0, pen_1, pen_2, pen_p1, pen_p2, take_cons, forGo_nil, a_star, dats_map, a_leave_end, Option.map_some, cellOf_end, rd_end, set_end, take_end, lit2, lit3, Bool.true_and, Bool.false_and, Bool.and_true, Bool.and_false, Bool.true_or, Bool.false_or, Bool.or_true, Bool.or_false, Bool.not_not, a_sl, a_pNo, a_pEx, a_asInt, a_frz0, a_zip, zip2_t, zip2_l, a_enum, enum1_l, enum1_t]
  cases d
  case tup xs =>
    simp -implicitDefEqProofs only [a_fn, a_seq, seq_nx, seq_rt, seq_ex, seq_bk, seq_ct, seq_cond, ends_cond, c_ok, c_dat, c_bl, c_int, c_and, c_or, c_nand, a_sif, a_ret, a_set, a_nils, a_tg, a_expr, a_raise, a_par, Res.bind_ok, Res.bind_ex, Res.bindS_ok, Res.bindS_ex, a_var0, a_c, a_x2, a_o2, a_res1, a_xN, a_cons, a_nil, a_o1, a_xN1, a_tup, a_lst, mkTup_eq, mkLst_eq, a_dats0, a_dats1, a_ret1, a_tBl, a_tTr, a_tNo, a_tAn, a_tOr, a_bool1, truth_bl, truth_non, truth_int, truth_lst, truth_tup, a_and, a_or, a_chain, a_boolK, a_not, a_nDV, a_neg, a_neg1, a_if, a_isi, a_oIsi, isi_int, isi_bool, isi_tuple, isi_list, isi_str, a_it, a_items_l, a_items_t, a_lc, a_wipe0, a_wipe1, a_gNm, a_gTp, a_gCo, a_gNo, a_yes, a_for, a_rg1, a_rg2, a_new, a_llst, a_rd, Option.bind_some, ends_nx, ends_rt, ends_ex, leave_dat, List.map_cons, List.map_nil, List.length_cons, List.length_nil, Nat.reduceSub, Nat.reduceAdd, List.replicate_succ, List.replicate_zero, List.cons_append, List.nil_append, List.append_nil, List.getElem?_cons_zero, List.getElem?_cons_succ, List.set_cons_zero, List.set_cons_succ, List.take_length, cond_true, cond_false, Bool.not_true, Bool.not_false, dLt_i, dLe_i, dGt_i, dGe_i, dAdd_i, dSub_i, dIsN_eq, dNotN_eq, dLen_l, dLen_t, dIx_l, dIx_t, dList_l, dList_t, dTuple_l, dTuple_t, szB_s, o1_end, oSl_t, oSl_l, oSl_s, a_sort, dInt_i, a_put, pen_rd, pen_0, pen_1, pen_2, pen_p1, pen_p2, take_cons, forGo_nil, a_star, dats_map, a_leave_end, Option.map_some, cellOf_end, rd_end, set_end, take_end, lit2, lit3, Bool.true_and, Bool.false_and, Bool.and_true, Bool.and_false, Bool.true_or, Bool.false_or, Bool.or_true, Bool.or_false, Bool.not_not, a_sl, a_pNo, a_pEx, a_asInt, a_frz0, a_zip, zip2_t, zip2_l, a_enum, enum1_l, enum1_t, D.isT, isDraft]
    cases h : decide ((xs.length : Int) > 8)
    · obtain ⟨j1, j2⟩ := ldraft_out cs hc (.tup xs) S xs 0 none none none
      simp -implicitDefEqProofs only [a_fn, a_seq, seq_nx, seq_rt, seq_ex, seq_bk, seq_ct, seq_cond, ends_cond, c_ok, c_dat, c_bl, c_int, c_and, c_or, c_nand, a_sif, a_ret, a_set, a_nils, a_tg, a_expr, a_raise, a_par, Res.bind_ok, Res.bind_ex, Res.bindS_ok, Res.bindS_ex, a_var0, a_c, a_x2, a_o2, a_res1, a_xN, a_cons, a_nil, a_o1, a_xN1, a_tup, a_lst, mkTup_eq, mkLst_eq, a_dats0, a_dats1, a_ret1, a_tBl, a_tTr, a_tNo, a_tAn, a_tOr, a_bool1, truth_bl, truth_non, truth_int, truth_lst, truth_tup, a_and, a_or, a_chain, a_boolK, a_not, a_nDV, a_neg, a_neg1, a_if, a_isi, a_oIsi, isi_int, isi_bool, isi_tuple, isi_list, isi_str, a_it, a_items_l, a_items_t, a_lc, a_wipe0, a_wipe1, a_gNm, a_gTp, a_gCo, a_gNo, a_yes, a_for, a_rg1, a_rg2, a_new, a_llst, a_rd, Option.bind_some, ends_nx, ends_rt, ends_ex, leave_dat, List.map_cons, List.map_nil, List.length_cons, List.length_nil, Nat.reduceSub, Nat.reduceAdd, List.replicate_succ, List.replicate_zero, List.cons_append, List.nil_append, List.append_nil, List.getElem?_cons_zero, List.getElem?_cons_succ, List.set_cons_zero, List.set_cons_succ, List.take_length, cond_true, cond_false, Bool.not_true, Bool.not_false, dLt_i, dLe_i, dGt_i, dGe_i, dAdd_i, dSub_i, dIsN_eq, dNotN_eq, dLen_l, dLen_t, dIx_l, dIx_t, dList_l, dList_t, dTuple_l, dTuple_t, szB_s, o1_end, oSl_t, oSl_l, oSl_s, a_sort, dInt_i, a_put, pen_rd, pen_0, pen_1, pen_2, pen_p1, pen_p2, take_cons, forGo_nil, a_star, dats_map, a_leave_end, Option.map_some, cellOf_end, rd_end, set_end, take_end, lit2, lit3, Bool.true_and, Bool.false_and, Bool.and_true, Bool.and_false, Bool.true_or, Bool.false_or, Bool.or_true, Bool.or_false, Bool.not_not, a_sl, a_pNo, a_pEx, a_asInt, a_frz0, a_zip, zip2_t, zip2_l, a_enum, enum1_l, enum1_t]
      cases ha : xs.all (isDRow cs)
      · have j2 := j2 ha
        simp only [Int.natCast_zero] at j2
        simp -implicitDefEqProofs only [a_fn, a_seq, seq_nx, seq_rt, seq_ex, seq_bk, seq_ct, seq_cond, ends_cond, c_ok, c_dat, c_bl, c_int, c_and, c_or, c_nand, a_sif, a_ret, a_set, a_nils, a_tg, a_expr, a_raise, a_par, Res.bind_ok, Res.bind_ex, Res.bindS_ok, Res.bindS_ex, a_var0, a_c, a_x2, a_o2, a_res1, a_xN, a_cons, a_nil, a_o1, a_xN1, a_tup, a_lst, mkTup_eq, mkLst_eq, a_dats0, a_dats1, a_ret1, a_tBl, a_tTr, a_tNo, a_tAn, a_tOr, a_bool1, truth_bl, truth_non, truth_int, truth_lst, truth_tup, a_and, a_or, a_chain, a_boolK, a_not, a_nDV, a_neg, a_neg1, a_if, a_isi, a_oIsi, isi_int, isi_bool, isi_tuple, isi_list, isi_str, a_it, a_items_l, a_items_t, a_lc, a_wipe0, a_wipe1, a_gNm, a_gTp, a_gCo, a_gNo, a_yes, a_for, a_rg1, a_rg2, a_new, a_llst, a_rd, Option.bind_some, ends_nx, ends_rt, ends_ex, leave_dat, List.map_cons, List.map_nil, List.length_cons, List.length_nil, Nat.reduceSub, Nat.reduceAdd, List.replicate_succ, List.replicate_zero, List.cons_append, List.nil_append, List.append_nil, List.getElem?_cons_zero, List.getElem?_cons_succ, List.set_cons_zero, List.set_cons_succ, List.take_length, cond_true, cond_false, Bool.not_true, Bool.not_false, dLt_i, dLe_i, dGt_i, dGe_i, dAdd_i, dSub_i, dIsN_eq, dNotN_eq, dLen_l, dLen_t, dIx_l, dIx_t, dList_l, dList_t, dTuple_l, dTuple_t, szB_s, o1_end, oSl_t, oSl_l, oSl_s, a_sort, dInt_i, a_put, pen_rd, pen_0, pen_1, pen_2, pen_p1, pen_p2, take_cons, forGo_nil, a_star, dats_map, a_leave_end, Option.map_some, cellOf_end, rd_end, set_end, take_end, lit2, lit3, Bool.true_and, Bool.false_and, Bool.and_true, Bool.and_false, Bool.true_or, Bool.false_or, Bool.or_true, Bool.or_false, Bool.not_not, a_sl, a_pNo, a_pEx, a_asInt, a_frz0, a_zip, zip2_t, zip2_l, a_enum, enum1_l, enum1_t, j2]
      · obtain ⟨y3, y4, y5, e⟩ := j1 ha
        simp only [Int.natCast_zero, Nat.zero_add] at e
        simp -implicitDefEqProofs only [a_fn, a_seq, seq_nx, seq_rt, seq_ex, seq_bk, seq_ct, seq_cond, ends_cond, c_ok, c_dat, c_bl, c_int, c_and, c_or, c_nand, a_sif, a_ret, a_set, a_nils, a_tg, a_expr, a_raise, a_par, Res.bind_ok, Res.bind_ex, Res.bindS_ok, Res.bindS_ex, a_var0, a_c, a_x2, a_o2, a_res1, a_xN, a_cons, a_nil, a_o1, a_xN1, a_tup, a_lst, mkTup_eq, mkLst_eq, a_dats0, a_dats1, a_ret1, a_tBl, a_tTr, a_tNo, a_tAn, a_tOr, a_bool1, truth_bl, truth_non, truth_int, truth_lst, truth_tup, a_and, a_or, a_chain, a_boolK, a_not, a_nDV, a_neg, a_neg1, a_if, a_isi, a_oIsi, isi_int, isi_bool, isi_tuple, isi_list, isi_str, a_it, a_items_l, a_items_t, a_lc, a_wipe0, a_wipe1, a_gNm, a_gTp, a_gCo, a_gNo, a_yes, a_for, a_rg1, a_rg2, a_new, a_llst, a_rd, Option.bind_some, ends_nx, ends_rt, ends_ex, leave_dat, List.map_cons, List.map_nil, List.length_cons, List.length_nil, Nat.reduceSub, Nat.reduceAdd, List.replicate_succ, List.replicate_zero, List.cons_append, List.nil_append, List.append_nil, List.getElem?_cons_zero, List.getElem?_cons_succ, List.set_cons_zero, List.set_cons_succ, List.take_length, cond_true, cond_false, Bool.not_true, Bool.not_false, dLt_i, dLe_i, dGt_i, dGe_i, dAdd_i, dSub_i, dIsN_eq, dNotN_eq, dLen_l, dLen_t, dIx_l, dIx_t, dList_l, dList_t, dTuple_l, dTuple_t, szB_s, o1_end, oSl_t, oSl_l, oSl_s, a_sort, dInt_i, a_put, pen_rd, pen_0, pen_1, pen_2, pen_p1, pen_p2, take_cons, forGo_nil, a_star, dats_map, a_leave_end, Option.map_some, cellOf_end, rd_end, set_end, take_end, lit2, lit3, Bool.true_and, Bool.false_and, Bool.and_true, Bool.and_false, Bool.true_or, Bool.false_or, Bool.or_true, Bool.or_false, Bool.not_not, a_sl, a_pNo, a_pEx, a_asInt, a_frz0, a_zip, zip2_t, zip2_l, a_enum, enum1_l, enum1_t, e]
    · simp -implicitDefEqProofs only [a_fn, a_seq, seq_nx, seq_rt, seq_ex, seq_bk, seq_ct, seq_cond, ends_cond, c_ok, c_dat, c_bl, c_int, c_and, c_or, c_nand, a_sif, a_ret, a_set, a_nils, a_tg, a_expr, a_raise, a_par, Res.bind_ok, Res.bind_ex, Res.bindS_ok, Res.bindS_ex, a_var0, a_c, a_x2, a_o2, a_res1, a_xN, a_cons, a_nil, a_o1, a_xN1, a_tup, a_lst, mkTup_eq, mkLst_eq, a_dats0, a_dats1, a_ret1, a_tBl, a_tTr, a_tNo, a_tAn, a_tOr, a_bool1, truth_bl, truth_non, truth_int, truth_lst, truth_tup, a_and, a_or, a_chain, a_boolK, a_not, a_nDV, a_neg, a_neg1, a_if, a_isi, a_oIsi, isi_int, isi_bool, isi_tuple, isi_list, isi_str, a_it, a_items_l, a_items_t, a_lc, a_wipe0, a_wipe1, a_gNm, a_gTp, a_gCo, a_gNo, a_yes, a_for, a_rg1, a_rg2, a_new, a_llst, a_rd, Option.bind_some, ends_nx, ends_rt, ends_ex, leave_dat, List.map_cons, List.map_nil, List.length_cons, List.length_nil, Nat.reduceSub, Nat.reduceAdd, List.replicate_succ, List.replicate_zero, List.cons_append, List.nil_append, List.append_nil, List.getElem?_cons_zero, List.getElem?_cons_succ, List.set_cons_zero, List.set_cons_succ, List.take_length, cond_true, cond_false, Bool.not_true, Bool.not_false, dLt_i, dLe_i, dGt_i, dGe_i, dAdd_i, dSub_i, dIsN_eq, dNotN_eq, dLen_l, dLen_t, dIx_l, dIx_t, dList_l, dList_t, dTuple_l, dTuple_t, szB_s, o1_end, oSl_t, oSl_l, oSl_s, a_sort, dInt_i, a_put, pen_rd, pen_0, pen_1, pen_2, pen_p1, pen_p2, take_cons, forGo_nil, a_star, dats_map, a_leave_end, Option.map_some, cellOf_end, rd_end, set_end, take_end, lit2, lit3, Bool.true_and, Bool.false_and, Bool.and_true, Bool.and_false, Bool.true_or, Bool.false_or, Bool.or_true, Bool.or_false, Bool.not_not, a_sl, a_pNo, a_pEx, a_asInt, a_frz0, a_zip, zip2_t, zip2_l, a_enum, enum1_l, enum1_t]
  all_goals simp -implicitDefEqProofs only [D.isT, isDraft, a_fn, a_seq, seq_nx, seq_rt, seq_ex, seq_bk, seq_ct, seq_cond, ends_cond, c_ok, c_dat, c_bl, c_int, c_and, c_or, c_nand, a_sif, a_ret, a_set, a_nils, a_tg, a_expr, a_raise, a_par, Res.bind_ok, Res.bind_ex, Res.bindS_ok, Res.bindS_ex, a_var0, a_c, a_x2, a_o2, a_res1, a_xN, a_cons, a_nil, a_o1, a_xN1, a_tup, a_lst, mkTup_eq, mkLst_eq, a_dats0, a_dats1, a_ret1, a_tBl, a_tTr, a_tNo, a_tAn, a_tOr, a_bool1, truth_bl, truth_non, truth_int, truth_lst, truth_tup, a_and, a_or, a_chain, a_boolK, a_not, a_nDV, a_neg, a_neg1, a_if, a_isi, a_oIsi, isi_int, isi_bool, isi_tuple, isi_list, isi_str, a_it, a_items_l, a_items_t, a_lc, a_wipe0, a_wipe1, a_gNm, a_gTp, a_gCo, a_gNo, a_yes, a_for, a_rg1, a_rg2, a_new, a_llst, a_rd, Option.bind_some, ends_nx, ends_rt, ends_ex, leave_dat, List.map_cons, List.map_nil, List.length_cons, List.length_nil, Nat.reduceSub, Nat.reduceAdd, List.replicate_succ, List.replicate_zero, List.cons_append, List.nil_append, List.append_nil, List.getElem?_cons_zero, List.getElem?_cons_succ, List.set_cons_zero, List.set_cons_succ, List.take_length, cond_true, cond_false, Bool.not_true, Bool.not_false, dLt_i, dLe_i, dGt_i, dGe_i, dAdd_i, dSub_i, dIsN_eq, dNotN_eq, dLen_l, dLen_t, dIx_l, dIx_t, dList_l, dList_t, dTuple_l, dTuple_t, szB_s, o1_end, oSl_t, oSl_l, oSl_s, a_sort, dInt_i, a_put, pen_rd, pen_0, pen_1, pen_2, pen_p1, pen_p2, take_cons, forGo_nil, a_star, dats_map, a_leave_end, Option.map_some, cellOf_end, rd_end, set_end, take_end, lit2, lit3, Bool.true_and, Bool.false_and, Bool.and_true, Bool.and_false, Bool.true_or, Bool.false_or, Bool.or_true, Bool.or_false, Bool.not_not, a_sl, a_pNo, a_pEx, a_asInt, a_frz0, a_zip, zip2_t, zip2_l, a_enum, enum1_l, enum1_t]
theorem is_draft_go {cs : List D} (hC : isCols (.tup cs) = true) (d : D) (S : Store) : g_is_draft [.dat (.tup cs), .dat d] S = .ok (.dat (.bl (isDraft cs d))) S := by
  obtain ⟨cs', e, h1, h2, h3⟩ := isCols_cases hC
  cases e
  unfold g_is_draft s_is_draft
  simp -implicitDefEqProofs only [a_fn, a_seq, seq_nx, seq_rt, seq_ex, seq_bk, seq_ct, seq_cond, ends_cond, c_ok, c_dat, c_bl, c_int, c_and, c_or, c_nand, a_sif, a_ret, a_set, a_nils, a_tg, a_expr, a_raise, a_par, Res.bind_ok, Res.bind_ex, Res.bindS_ok, Res.bindS_ex, a_var0, a_c, a_x2, a_o2, a_res1, a_xN, a_cons, a_nil, a_o1, a_xN1, a_tup, a_lst, mkTup_eq, mkLst_eq, a_dats0, a_dats1, a_ret1, a_tBl, a_tTr, a_tNo, a_tAn, a_tOr, a_bool1, truth_bl, truth_non, truth_int, truth_lst, truth_tup, a_and, a_or, a_chain, a_boolK, a_not, a_nDV, a_neg, a_neg1, a_if, a_isi, a_oIsi, isi_int, isi_bool, isi_tuple, isi_list, isi_str, a_it, a_items_l, a_items_t, a_lc, a_wipe0, a_wipe1, a_gNm, a_gTp, a_gCo, a_gNo, a_yes, a_for, a_rg1, a_rg2, a_new, a_llst, a_rd, Option.bind_some, ends_nx, ends_rt, ends_ex, leave_dat, List.map_cons, List.map_nil, List.length_cons, List.length_nil, Nat.reduceSub, Nat.reduceAdd, List.replicate_succ, List.replicate_zero, List.cons_append, List.nil_append, List.append_nil, List.getElem?_cons_zero, List.getElem?_cons_succ, List.set_cons_zero, List.set_cons_succ, List.take_length, cond_true, cond_false, Bool.not_true, Bool.not_false, dLt_i, dLe_i, dGt_i, dGe_i, dAdd_i, dSub_i, dIsN_eq, dNotN_eq, dLen_l, dLen_t, dIx_l, dIx_t, dList_l, dList_t, dTuple_l, dTuple_t, szB_s, o1_end, oSl_t, oSl_l, oSl_s, a_sort, dInt_i, a_put, pen_rd, pen_0, pen_1, pen_2, pen_p1, pen_p2, take_cons, forGo_nil, a_star, dats_map, a_leave_end, Option.map_some, cellOf_end, rd_end, set_end, take_end, lit2, lit3, Bool.true_and, Bool.false_and, Bool.and_true, Bool.and_false, Bool.true_or, Bool.false_or, Bool.or_true, Bool.or_false, Bool.not_not, a_sl, a_pNo, a_pEx, a_asInt, a_frz0, a_zip, zip2_t, zip2_l, a_enum, enum1_l, enum1_t, require_columns_ok, hC, is_draft_of_ok cs d h3 h2]
theorem is_draft_bad {c : D} (hC : isCols c = false) (d : D) (S : Store) : g_is_draft [.dat c, .dat d] S = .ex "InvalidColumns" S := by
  unfold g_is_draft s_is_draft
  simp -implicitDefEqProofs only [a_fn, a_seq, seq_nx, seq_rt, seq_ex, seq_bk, seq_ct, seq_cond, ends_cond, c_ok, c_dat, c_bl, c_int, c_and, c_or, c_nand, a_sif, a_ret, a_set, a_nils, a_tg, a_expr, a_raise, a_par, Res.bind_ok, Res.bind_ex, Res.bindS_ok, Res.bindS_ex, a_var0, a_c, a_x2, a_o2, a_res1, a_xN, a_cons, a_nil, a_o1, a_xN1, a_tup, a_lst, mkTup_eq, mkLst_eq, a_dats0, a_dats1, a_ret1, a_tBl, a_tTr, a_tNo, a_tAn, a_tOr, a_bool1, truth_bl, truth_non, truth_int, truth_lst, truth_tup, a_and, a_or, a_chain, a_boolK, a_not, a_nDV, a_neg, a_neg1, a_if, a_isi, a_oIsi, isi_int, isi_bool, isi_tuple, isi_list, isi_str, a_it, a_items_l, a_items_t, a_lc, a_wipe0, a_wipe1, a_gNm, a_gTp, a_gCo, a_gNo, a_yes, a_for, a_rg1, a_rg2, a_new, a_llst, a_rd, Option.bind_some, ends_nx, ends_rt, ends_ex, leave_dat, List.map_cons, List.map_nil, List.length_cons, List.length_nil, Nat.reduceSub, Nat.reduceAdd, List.replicate_succ, List.replicate_zero, List.cons_append, List.nil_append, List.append_nil, List.getElem?_cons_zero, List.getElem?_cons_succ, List.set_cons_zero, List.set_cons_succ, List.take_length, cond_true, cond_false, Bool.not_true, Bool.not_false, dLt_i, dLe_i, dGt_i, dGe_i, dAdd_i, dSub_i, dIsN_eq, dNotN_eq, dLen_l, dLen_t, dIx_l, dIx_t, dList_l, dList_t, dTuple_l, dTuple_t, szB_s, o1_end, oSl_t, oSl_l, oSl_s, a_sort, dInt_i, a_put, pen_rd, pen_0, pen_1, pen_2, pen_p1, pen_p2, take_cons, forGo_nil, a_star, dats_map, a_leave_end, Option.map_some, cellOf_end, rd_end, set_end, take_end, lit2, lit3, Bool.true_and, Bool.false_and, Bool.and_true, Bool.and_false, Bool.true_or, Bool.false_or, Bool.or_true, Bool.or_false, Bool.not_not, a_sl, a_pNo, a_pEx, a_asInt, a_frz0, a_zip, zip2_t, zip2_l, a_enum, enum1_l, enum1_t, require_columns_ok, hC]
theorem pair_rep {c d : D} (hc : Sm 20 20000 c) (hd : Sm 20 20000 d) : ∃ x, dRepr (.tup [c, d]) = some (.str x) := by
  have t1 : Sm 21 40010 (.tup [c, d]) := Sm.tup (n := 20) (b := 20000) (fun y hy => by
    simp only [List.mem_cons, List.not_mem_nil, or_false] at hy
    rcases hy with rfl | rfl <;> assumption) (by simp)
  exact ⟨_, t1.rep (by decide) (by decide)⟩
theorem right_ok {cs : List D} (hC : isCols (.tup cs) = true) (sC : Sm 20 20000 (.tup cs)) {d : D} (hd : Sm 20 20000 d) (S : Store) : g_l_law_right [.dat (.tup cs), .dat d] S = .ok (.dat (.bl true)) S := by
  obtain ⟨cs', e, h1, h2, h3⟩ := isCols_cases hC
  cases e
  unfold g_l_law_right s_l_law_right
  obtain ⟨x, hx⟩ := pair_rep sC hd
  obtain ⟨y, hy⟩ := bool_repr (isDraft cs d)
  simp -implicitDefEqProofs only [a_fn, a_seq, seq_nx, seq_rt, seq_ex, seq_bk, seq_ct, seq_cond, ends_cond, c_ok, c_dat, c_bl, c_int, c_and, c_or, c_nand, a_sif, a_ret, a_set, a_nils, a_tg, a_expr, a_raise, a_par, Res.bind_ok, Res.bind_ex, Res.bindS_ok, Res.bindS_ex, a_var0, a_c, a_x2, a_o2, a_res1, a_xN, a_cons, a_nil, a_o1, a_xN1, a_tup, a_lst, mkTup_eq, mkLst_eq, a_dats0, a_dats1, a_ret1, a_tBl, a_tTr, a_tNo, a_tAn, a_tOr, a_bool1, truth_bl, truth_non, truth_int, truth_lst, truth_tup, a_and, a_or, a_chain, a_boolK, a_not, a_nDV, a_neg, a_neg1, a_if, a_isi, a_oIsi, isi_int, isi_bool, isi_tuple, isi_list, isi_str, a_it, a_items_l, a_items_t, a_lc, a_wipe0, a_wipe1, a_gNm, a_gTp, a_gCo, a_gNo, a_yes, a_for, a_rg1, a_rg2, a_new, a_llst, a_rd, Option.bind_some, ends_nx, ends_rt, ends_ex, leave_dat, List.map_cons, List.map_nil, List.length_cons, List.length_nil, Nat.reduceSub, Nat.reduceAdd, List.replicate_succ, List.replicate_zero, List.cons_append, List.nil_append, List.append_nil, List.getElem?_cons_zero, List.getElem?_cons_succ, List.set_cons_zero, List.set_cons_succ, List.take_length, cond_true, cond_false, Bool.not_true, Bool.not_false, dLt_i, dLe_i, dGt_i, dGe_i, dAdd_i, dSub_i, dIsN_eq, dNotN_eq, dLen_l, dLen_t, dIx_l, dIx_t, dList_l, dList_t, dTuple_l, dTuple_t, szB_s, o1_end, oSl_t, oSl_l, oSl_s, a_sort, dInt_i, a_put, pen_rd, pen_0, pen_1, pen_2, pen_p1, pen_p2, take_cons, forGo_nil, a_star, dats_map, a_leave_end, Option.map_some, cellOf_end, rd_end, set_end, take_end, lit2, lit3, Bool.true_and, Bool.false_and, Bool.and_true, Bool.and_false, Bool.true_or, Bool.false_or, Bool.or_true, Bool.or_false, Bool.not_not, a_sl, a_pNo, a_pEx, a_asInt, a_frz0, a_zip, zip2_t, zip2_l, a_enum, enum1_l, enum1_t, hx, l_is_draft_ok cs h3, is_draft_go hC, hy, dEqS_same]
theorem refused_ok {c : D} (hC : isCols c = false) (d : D) (S : Store) : g_l_law_refused [.dat c, .dat d] S = .ok (.dat (.bl true)) S := by
  unfold g_l_law_refused s_l_law_refused
  have a_tryIs : ∀ (f : SFn) (m : Str → Option Bool) (t : List (Str × Bool)) (i : Nat) (ρ : Slots) (S : Store), sTryIs f m t i ρ S = isiS m t i (f ρ S) := fun _ _ _ _ _ _ => rfl
  have ct : cat_RuleError "InvalidColumns" = some true := rfl
  have it : isi_InvalidColumns.lookup ("InvalidColumns" : Str) = some true := rfl
  simp -implicitDefEqProofs only [a_fn, a_seq, seq_nx, seq_rt, seq_ex, seq_bk, seq_ct, seq_cond, ends_cond, c_ok, c_dat, c_bl, c_int, c_and, c_or, c_nand, a_sif, a_ret, a_set, a_nils, a_tg, a_expr, a_raise, a_par, Res.bind_ok, Res.bind_ex, Res.bindS_ok, Res.bindS_ex, a_var0, a_c, a_x2, a_o2, a_res1, a_xN, a_cons, a_nil, a_o1, a_xN1, a_tup, a_lst, mkTup_eq, mkLst_eq, a_dats0, a_dats1, a_ret1, a_tBl, a_tTr, a_tNo, a_tAn, a_tOr, a_bool1, truth_bl, truth_non, truth_int, truth_lst, truth_tup, a_and, a_or, a_chain, a_boolK, a_not, a_nDV, a_neg, a_neg1, a_if, a_isi, a_oIsi, isi_int, isi_bool, isi_tuple, isi_list, isi_str, a_it, a_items_l, a_items_t, a_lc, a_wipe0, a_wipe1, a_gNm, a_gTp, a_gCo, a_gNo, a_yes, a_for, a_rg1, a_rg2, a_new, a_llst, a_rd, Option.bind_some, ends_nx, ends_rt, ends_ex, leave_dat, List.map_cons, List.map_nil, List.length_cons, List.length_nil, Nat.reduceSub, Nat.reduceAdd, List.replicate_succ, List.replicate_zero, List.cons_append, List.nil_append, List.append_nil, List.getElem?_cons_zero, List.getElem?_cons_succ, List.set_cons_zero, List.set_cons_succ, List.take_length, cond_true, cond_false, Bool.not_true, Bool.not_false, dLt_i, dLe_i, dGt_i, dGe_i, dAdd_i, dSub_i, dIsN_eq, dNotN_eq, dLen_l, dLen_t, dIx_l, dIx_t, dList_l, dList_t, dTuple_l, dTuple_t, szB_s, o1_end, oSl_t, oSl_l, oSl_s, a_sort, dInt_i, a_put, pen_rd, pen_0, pen_1, pen_2, pen_p1, pen_p2, take_cons, forGo_nil, a_star, dats_map, a_leave_end, Option.map_some, cellOf_end, rd_end, set_end, take_end, lit2, lit3, Bool.true_and, Bool.false_and, Bool.and_true, Bool.and_false, Bool.true_or, Bool.false_or, Bool.or_true, Bool.or_false, Bool.not_not, a_sl, a_pNo, a_pEx, a_asInt, a_frz0, a_zip, zip2_t, zip2_l, a_enum, enum1_l, enum1_t, a_tryIs, is_draft_bad hC, isiS, ct, it]
end T08

set_option maxHeartbeats 400000
namespace T08
open PySem PySem.Spec PyProof.Rows L2 DL
abbrev V20 (d : D) : Prop := Sm 20 20000 d
theorem Sz.v20 {n w b : Nat} {d : D} (h : Sz n w b d) (h1 : n ≤ 20 := by decide) (h2 : b ≤ 20000 := by decide) : V20 d := h.toSm.mono h1 h2
theorem Sz.non (n w b : Nat) : Sz n w b .non := ⟨.non _ _, rfl⟩
theorem Sz.int0 {v : Int} (h : (D.int v).tiny = true) (n w b : Nat) : Sz n w b (.int v) := ⟨⟨by cases n <;> rfl, h, by simp [DL.D.py, PyData.bulk]⟩, rfl⟩
theorem SzL.ints {vs : List Int} (h : ∀ v ∈ vs, (D.int v).tiny = true) {w : Nat} (hl : vs.length ≤ w) : SzL 0 w w (vs.map .int) := SzL.of (b := 0) (fun x hx => by
  obtain ⟨v, hv, rfl⟩ := List.mem_map.mp hx
  exact .int0 (h v hv) _ _ _) (by simpa using hl) (by simpa using hl)
theorem Sz.col {c : D} (h : okC c) : Sz 1 4 4 c := by
  rcases isCol_cases h.1 with rfl | ⟨ns, rfl, l0, l1, hns, _⟩
  · exact .non _ _ _
  · have ht := h.2.1
    simp only [D.tiny] at ht
    exact (SzL.ints (w := 4) (fun v hv => tinys_iff.mp ht _ (List.mem_map.mpr ⟨v, hv, rfl⟩)) (by omega)).tup
theorem SzL.cols {cs : List D} (h : ∀ c ∈ cs, okC c) (hl : cs.length ≤ 4) : SzL 1 4 20 cs := SzL.of (b := 4) (fun c hc => .col (h c hc)) hl (by omega)
theorem SzL.app {n w v b c : Nat} {xs ys : List D} (h : SzL n w b xs) (k : SzL n v c ys) : SzL n (w + v) (b + c) (xs ++ ys) := by
  refine ⟨fits_iff.mpr fun z hz => ?_, tinys_iff.mpr fun z hz => ?_, by rw [bulkAll_app]; have := h.bulk; have := k.bulk; omega, by rw [List.length_append]; have := h.len; have := k.len; omega, wideBs_iff.mpr fun z hz => ?_⟩
  · exact (List.mem_append.mp hz).elim (fun q => (h.mem q).fit) (fun q => (k.mem q).fit)
  · exact (List.mem_append.mp hz).elim (fun q => (h.mem q).tiny) (fun q => (k.mem q).tiny)
  · exact (List.mem_append.mp hz).elim (fun q => wideB_mono (by omega) (h.mem q).wide) (fun q => wideB_mono (by omega) (k.mem q).wide)
theorem SzL.sub {n w b : Nat} {xs ys : List D} (h : SzL n w b xs) (s : ys.Sublist xs) : SzL n w b ys := by
  refine ⟨fits_iff.mpr fun z hz => (h.mem (s.subset hz)).fit, tinys_iff.mpr fun z hz => (h.mem (s.subset hz)).tiny, ?_, Nat.le_trans s.length_le h.len, wideBs_iff.mpr fun z hz => (h.mem (s.subset hz)).wide⟩
  have : PyData.bulkAll (D.pys ys) ≤ PyData.bulkAll (D.pys xs) := by
    clear h
    induction s with
    | slnil => exact Nat.le_refl _
    | cons a _ ih => simp only [D.pys, PyData.bulkAll]; omega
    | cons_cons a _ ih => simp only [D.pys, PyData.bulkAll]; omega
  have := h.bulk
  omega
theorem SzL.one {n w b : Nat} {d : D} (h : Sz n w b d) (hw : 1 ≤ w) : SzL n w (b + 1) [d] := SzL.of (b := b) (fun x hx => by simp at hx; subst hx; exact h) (by simpa using hw) (by simp)
theorem SzL.rep {n w b k v c : Nat} {d : D} (h : Sz n w b d) (hw : w ≤ v) (hk : k ≤ v) (hc : k * (b + 1) ≤ c) : SzL n v c (List.replicate k d) := SzL.of (b := b) (fun x hx => by rw [List.eq_of_mem_replicate hx]; exact h.up (Nat.le_refl _) hw (Nat.le_refl _)) (by simpa using hk) (by simpa using hc)
theorem cat_end {S0 : Store} {xs ys : List D} (h : xs.length + ys.length ≤ 1000000) : cat2 (.obj S0.length) (.dat (.lst ys)) (S0 ++ [some xs]) = .ok (xs ++ ys) (S0 ++ [some xs]) := by
  simp only [cat2, rd_end, a_rd]
  rw [if_pos (le_size (by omega))]
/-- where the last cell stands -/
theorem pen_last {n : Nat} {T S : Store} {xs : List D} (h : Pen n (T ++ [some xs]) S) : ∃ S0, S = S0 ++ [some xs] ∧ T.length + 1 = S0.length ∧ Pen n T S0 := by
  obtain ⟨S0, rfl, p⟩ := pen_snoc.mp h
  exact ⟨S0, rfl, p.len.symm, p⟩
theorem sapp_pen {i : Nat} {g : XFn} {ρ : Slots} {T S0 S1 : Store} {xs : List D} {d : D} (hi : ρ[i]? = some (some (.obj (T.length + 1)))) (h0 : T.length + 1 = S0.length) (h1 : T.length + 1 = S1.length) (hg : g ρ (S0 ++ [some xs]) = .ok (.dat d) (S1 ++ [some xs])) (hl : xs.length < 1000000) :
    sApp (xVar i) g ρ (S0 ++ [some xs]) = .nx ρ (S1 ++ [some (xs ++ [d])]) := by
  have e1 : ∀ S, xVar i ρ S = .ok (.obj (T.length + 1)) S := fun S => by unfold xVar; rw [hi]
  have c0 : cellOf (S0 ++ [some xs]) (.obj (T.length + 1)) = some (T.length + 1, xs) := by rw [h0]; exact cellOf_end S0 _
  have c1 : cellOf (S1 ++ [some xs]) (.obj (T.length + 1)) = some (T.length + 1, xs) := by rw [h1]; exact cellOf_end S1 _
  simp only [sApp, e1, Res.bindS_ok, c0, hg, putApp, c1]
  rw [if_pos (show xs.length < sizeLine by unfold sizeLine; omega), h1, set_end]
theorem Sz.t2 {n w b c : Nat} {x y : D} (hx : Sz n w b x) (hy : Sz n w b y) (hw : 2 ≤ w := by decide) (hc : 2 * (b + 1) ≤ c := by decide) : Sz (n + 1) w c (.tup [x, y]) :=
  (SzL.of (b := b) (fun z hz => by simp only [List.mem_cons, List.not_mem_nil, or_false] at hz; rcases hz with rfl | rfl <;> assumption) (by simpa using hw) (by simpa using hc)).tup
theorem Sz.t3 {n w b c : Nat} {x y z : D} (hx : Sz n w b x) (hy : Sz n w b y) (hz : Sz n w b z) (hw : 3 ≤ w := by decide) (hc : 3 * (b + 1) ≤ c := by decide) : Sz (n + 1) w c (.tup [x, y, z]) :=
  (SzL.of (b := b) (fun u hu => by simp only [List.mem_cons, List.not_mem_nil, or_false] at hu; rcases hu with rfl | rfl | rfl <;> assumption) (by simpa using hw) (by simpa using hc)).tup
theorem Sz.nat (n w b : Nat) {i : Nat} (h : i ≤ 1000000) : Sz n w b (.int (i : Nat)) := ⟨.nat _ _ h, rfl⟩
theorem Sz.bl (n w b : Nat) (x : Bool) : Sz n w b (.bl x) := ⟨.bl _ _ _, rfl⟩
theorem Sz.l2 {n w b c : Nat} {x y : D} (hx : Sz n w b x) (hy : Sz n w b y) (hw : 2 ≤ w := by decide) (hc : 2 * (b + 1) ≤ c := by decide) : Sz (n + 1) w c (.lst [x, y]) :=
  (SzL.of (b := b) (fun z hz => by simp only [List.mem_cons, List.not_mem_nil, or_false] at hz; rcases hz with rfl | rfl <;> assumption) (by simpa using hw) (by simpa using hc)).lst
theorem Sz.l3 {n w b c : Nat} {x y z : D} (hx : Sz n w b x) (hy : Sz n w b y) (hz : Sz n w b z) (hw : 3 ≤ w := by decide) (hc : 3 * (b + 1) ≤ c := by decide) : Sz (n + 1) w c (.lst [x, y, z]) :=
  (SzL.of (b := b) (fun u hu => by simp only [List.mem_cons, List.not_mem_nil, or_false] at hu; rcases hu with rfl | rfl | rfl <;> assumption) (by simpa using hw) (by simpa using hc)).lst
theorem nat_of {x : D} {L : List Nat} {m : Nat} (hx : x ∈ L.map fun i : Nat => D.int ((i : Nat) : Int)) (hm : ∀ i ∈ L, i ≤ m) : ∃ k : Nat, x = .int (k : Nat) ∧ k ≤ m ∧ k ∈ L := by
  obtain ⟨k, hk, rfl⟩ := List.mem_map.mp hx
  exact ⟨k, rfl, hm k hk, hk⟩
theorem okRow_of {cs : List D} {row : Row} (hw : isRow cs (rowD row) = true) (hv : ∀ v ∈ row, v < BIG) : OkRow cs row := by
  refine ⟨hw, fun v hvm => ?_⟩
  have h2 := (isRow_ix.mp hw).2
  obtain ⟨k, hk, rfl⟩ := List.mem_iff_getElem.mp hvm
  have l := (isRow_ix.mp hw).1
  have := h2 k (by omega)
  rw [List.getD_eq_getElem?_getD, List.getD_eq_getElem?_getD, List.getElem?_eq_getElem hk] at this
  exact okV.tiny ⟨this, hv _ hvm⟩
theorem xget {i : Nat} {ρ : Slots} {d : DV} (h : ρ[i]? = some (some d)) (S : Store) : xVar i ρ S = .ok d S := by unfold xVar; rw [h]
/-- one cell of a row of the draft -/
theorem draft_in {cs : List D} (hl : cs.length ≤ 4) {C S : Store} {n kp : Nat} {part : List D} (h : Pen n C S) (hC : C[kp]? = some (some part)) (hn : n + 1 ≤ LIM) (k : Nat) (hk : k < cs.length) (v : Int) (hv : (D.int v).tiny = true) (l odds : Int) (ho : 0 < odds ∧ odds ≤ 5) (hp : ∀ x ∈ part, Sz 0 1 0 x) (lp : part.length ≤ 10) z2 z3 z4 z7 z11 : ∃ (S' : Store) (l' : Int) (part' : List D) (q11 : Option DV), lb1_l_law_draft [some (.obj 0), some (.dat (.tup cs)), z2, z3, z4, some (.dat (.int l)), some (.dat (.int odds)), z7, some (.obj (kp + 1)), some (.dat (.int (k : Nat))), some (.dat (.int v)), z11] S = .nx [some (.obj 0), some (.dat (.tup cs)), z2, z3, z4, some (.dat (.int l')), some (.dat (.int odds)), z7, some (.obj (kp + 1)), some (.dat (.int (k : Nat))), some (.dat (.int v)), q11] S' ∧ Pen (n + 1) (C.set kp (some part')) S' ∧ (∀ x ∈ part', Sz 0 1 0 x) ∧ part'.length = part.length + 1 := by
  obtain ⟨t, S1, e1, p1, ht⟩ := take_ok h (by have l_ : LIM = 2147483648 := rfl; omega) odds ho.1 (by omega)
  have ix : atI cs (k : Nat) = some (cs.getD k .non) := atI_nat D.non hk
  have fin : ∀ (b : Bool) (l' : Int), sSeq (sSet 5 (x2 (o2 dSub) (xVar 5) (xN (o1 dInt) (aCons (xAnd (xVar 11) (x2 (o2 dNotN) (x2 (o2 dIx) (xVar 1) (xVar 9)) (xC .non))) aNil)))) (sApp (xVar 8) (xIf (tTr (xVar 11)) (xC .non) (xVar 10))) [some (.obj 0), some (.dat (.tup cs)), z2, z3, z4, some (.dat (.int l)), some (.dat (.int odds)), z7, some (.obj (kp + 1)), some (.dat (.int (k : Nat))), some (.dat (.int v)), some (.dat (.bl b))] S1 = .nx [some (.obj 0), some (.dat (.tup cs)), z2, z3, z4, some (.dat (.int (l - (if b && !(cs.getD k .non).isN then 1 else 0)))), some (.dat (.int odds)), z7, some (.obj (kp + 1)), some (.dat (.int (k : Nat))), some (.dat (.int v)), some (.dat (.bl b))] (S1.set (kp + 1) (some (part ++ [bif b then .non else .int v]))) := fun b l' => by
    have i1 : dInt (.bl true) = some (.int 1) := rfl
    have i0 : dInt (.bl false) = some (.int 0) := rfl
    have ap : ∀ ρ : Slots, ρ[8]? = some (some (.obj (kp + 1))) → ρ[11]? = some (some (.dat (.bl b))) → ρ[10]? = some (some (.dat (.int v))) → sApp (xVar 8) (xIf (tTr (xVar 11)) (xC .non) (xVar 10)) ρ S1 = .nx ρ (S1.set (kp + 1) (some (part ++ [bif b then .non else .int v]))) := fun ρ h8 h11 h10 =>
      sapp_cell (k := kp) p1 p1 hC h8 (by cases b <;> simp -implicitDefEqProofs only [a_fn, a_seq, seq_nx, seq_rt, seq_ex, seq_bk, seq_ct, seq_cond, ends_cond, c_ok, c_dat, c_bl, c_int, c_and, c_or, c_nand, a_sif, a_ret, a_set, a_nils, a_tg, a_expr, a_raise, a_par, Res.bind_ok, Res.bind_ex, Res.bindS_ok, Res.bindS_ex, a_var0, a_c, a_x2, a_o2, a_res1, a_xN, a_cons, a_nil, a_o1, a_xN1, a_tup, a_lst, mkTup_eq, mkLst_eq, a_dats0, a_dats1, a_ret1, a_tBl, a_tTr, a_tNo, a_tAn, a_tOr, a_bool1, truth_bl, truth_non, truth_int, truth_lst, truth_tup, a_and, a_or, a_chain, a_boolK, a_not, a_nDV, a_neg, a_neg1, a_if, a_isi, a_oIsi, isi_int, isi_bool, isi_tuple, isi_list, isi_str, a_it, a_items_l, a_items_t, a_lc, a_wipe0, a_wipe1, a_gNm, a_gTp, a_gCo, a_gNo, a_yes, a_for, a_rg1, a_rg2, a_new, a_llst, a_rd, Option.bind_some, ends_nx, ends_rt, ends_ex, leave_dat, List.map_cons, List.map_nil, List.length_cons, List.length_nil, Nat.reduceSub, Nat.reduceAdd, List.replicate_succ, List.replicate_zero, List.cons_append, List.nil_append, List.append_nil, List.getElem?_cons_zero, List.getElem?_cons_succ, List.set_cons_zero, List.set_cons_succ, List.take_length, cond_true, cond_false, Bool.not_true, Bool.not_false, dLt_i, dLe_i, dGt_i, dGe_i, dAdd_i, dSub_i, dIsN_eq, dNotN_eq, dLen_l, dLen_t, dIx_l, dIx_t, dList_l, dList_t, dTuple_l, dTuple_t, szB_s, o1_end, oSl_t, oSl_l, oSl_s, a_sort, dInt_i, a_put, pen_rd, pen_0, pen_1, pen_2, pen_p1, pen_p2, take_cons, forGo_nil, a_star, dats_map, a_leave_end, Option.map_some, cellOf_end, rd_end, set_end, take_end, lit2, lit3, Bool.true_and, Bool.false_and, Bool.and_true, Bool.and_false, Bool.true_or, Bool.false_or, Bool.or_true, Bool.or_false, Bool.not_not, a_sl, a_pNo, a_pEx, a_asInt, a_frz0, a_zip, zip2_t, zip2_l, a_enum, enum1_l, enum1_t, h11, h10]) (by omega)
    cases b
    · simp -implicitDefEqProofs only [a_fn, a_seq, seq_nx, seq_rt, seq_ex, seq_bk, seq_ct, seq_cond, ends_cond, c_ok, c_dat, c_bl, c_int, c_and, c_or, c_nand, a_sif, a_ret, a_set, a_nils, a_tg, a_expr, a_raise, a_par, Res.bind_ok, Res.bind_ex, Res.bindS_ok, Res.bindS_ex, a_var0, a_c, a_x2, a_o2, a_res1, a_xN, a_cons, a_nil, a_o1, a_xN1, a_tup, a_lst, mkTup_eq, mkLst_eq, a_dats0, a_dats1, a_ret1, a_tBl, a_tTr, a_tNo, a_tAn, a_tOr, a_bool1, truth_bl, truth_non, truth_int, truth_lst, truth_tup, a_and, a_or, a_chain, a_boolK, a_not, a_nDV, a_neg, a_neg1, a_if, a_isi, a_oIsi, isi_int, isi_bool, isi_tuple, isi_list, isi_str, a_it, a_items_l, a_items_t, a_lc, a_wipe0, a_wipe1, a_gNm, a_gTp, a_gCo, a_gNo, a_yes, a_for, a_rg1, a_rg2, a_new, a_llst, a_rd, Option.bind_some, ends_nx, ends_rt, ends_ex, leave_dat, List.map_cons, List.map_nil, List.length_cons, List.length_nil, Nat.reduceSub, Nat.reduceAdd, List.replicate_succ, List.replicate_zero, List.cons_append, List.nil_append, List.append_nil, List.getElem?_cons_zero, List.getElem?_cons_succ, List.set_cons_zero, List.set_cons_succ, List.take_length, cond_true, cond_false, Bool.not_true, Bool.not_false, dLt_i, dLe_i, dGt_i, dGe_i, dAdd_i, dSub_i, dIsN_eq, dNotN_eq, dLen_l, dLen_t, dIx_l, dIx_t, dList_l, dList_t, dTuple_l, dTuple_t, szB_s, o1_end, oSl_t, oSl_l, oSl_s, a_sort, dInt_i, a_put, pen_rd, pen_0, pen_1, pen_2, pen_p1, pen_p2, take_cons, forGo_nil, a_star, dats_map, a_leave_end, Option.map_some, cellOf_end, rd_end, set_end, take_end, lit2, lit3, Bool.true_and, Bool.false_and, Bool.and_true, Bool.and_false, Bool.true_or, Bool.false_or, Bool.or_true, Bool.or_false, Bool.not_not, a_sl, a_pNo, a_pEx, a_asInt, a_frz0, a_zip, zip2_t, zip2_l, a_enum, enum1_l, enum1_t, i0]
      rw [ap _ rfl rfl rfl]
      simp
    · cases hN : (cs.getD k .non).isN
      · simp -implicitDefEqProofs only [a_fn, a_seq, seq_nx, seq_rt, seq_ex, seq_bk, seq_ct, seq_cond, ends_cond, c_ok, c_dat, c_bl, c_int, c_and, c_or, c_nand, a_sif, a_ret, a_set, a_nils, a_tg, a_expr, a_raise, a_par, Res.bind_ok, Res.bind_ex, Res.bindS_ok, Res.bindS_ex, a_var0, a_c, a_x2, a_o2, a_res1, a_xN, a_cons, a_nil, a_o1, a_xN1, a_tup, a_lst, mkTup_eq, mkLst_eq, a_dats0, a_dats1, a_ret1, a_tBl, a_tTr, a_tNo, a_tAn, a_tOr, a_bool1, truth_bl, truth_non, truth_int, truth_lst, truth_tup, a_and, a_or, a_chain, a_boolK, a_not, a_nDV, a_neg, a_neg1, a_if, a_isi, a_oIsi, isi_int, isi_bool, isi_tuple, isi_list, isi_str, a_it, a_items_l, a_items_t, a_lc, a_wipe0, a_wipe1, a_gNm, a_gTp, a_gCo, a_gNo, a_yes, a_for, a_rg1, a_rg2, a_new, a_llst, a_rd, Option.bind_some, ends_nx, ends_rt, ends_ex, leave_dat, List.map_cons, List.map_nil, List.length_cons, List.length_nil, Nat.reduceSub, Nat.reduceAdd, List.replicate_succ, List.replicate_zero, List.cons_append, List.nil_append, List.append_nil, List.getElem?_cons_zero, List.getElem?_cons_succ, List.set_cons_zero, List.set_cons_succ, List.take_length, cond_true, cond_false, Bool.not_true, Bool.not_false, dLt_i, dLe_i, dGt_i, dGe_i, dAdd_i, dSub_i, dIsN_eq, dNotN_eq, dLen_l, dLen_t, dIx_l, dIx_t, dList_l, dList_t, dTuple_l, dTuple_t, szB_s, o1_end, oSl_t, oSl_l, oSl_s, a_sort, dInt_i, a_put, pen_rd, pen_0, pen_1, pen_2, pen_p1, pen_p2, take_cons, forGo_nil, a_star, dats_map, a_leave_end, Option.map_some, cellOf_end, rd_end, set_end, take_end, lit2, lit3, Bool.true_and, Bool.false_and, Bool.and_true, Bool.and_false, Bool.true_or, Bool.false_or, Bool.or_true, Bool.or_false, Bool.not_not, a_sl, a_pNo, a_pEx, a_asInt, a_frz0, a_zip, zip2_t, zip2_l, a_enum, enum1_l, enum1_t, ix, hN, i1]
        rw [ap _ rfl rfl rfl]
        simp
      · simp -implicitDefEqProofs only [a_fn, a_seq, seq_nx, seq_rt, seq_ex, seq_bk, seq_ct, seq_cond, ends_cond, c_ok, c_dat, c_bl, c_int, c_and, c_or, c_nand, a_sif, a_ret, a_set, a_nils, a_tg, a_expr, a_raise, a_par, Res.bind_ok, Res.bind_ex, Res.bindS_ok, Res.bindS_ex, a_var0, a_c, a_x2, a_o2, a_res1, a_xN, a_cons, a_nil, a_o1, a_xN1, a_tup, a_lst, mkTup_eq, mkLst_eq, a_dats0, a_dats1, a_ret1, a_tBl, a_tTr, a_tNo, a_tAn, a_tOr, a_bool1, truth_bl, truth_non, truth_int, truth_lst, truth_tup, a_and, a_or, a_chain, a_boolK, a_not, a_nDV, a_neg, a_neg1, a_if, a_isi, a_oIsi, isi_int, isi_bool, isi_tuple, isi_list, isi_str, a_it, a_items_l, a_items_t, a_lc, a_wipe0, a_wipe1, a_gNm, a_gTp, a_gCo, a_gNo, a_yes, a_for, a_rg1, a_rg2, a_new, a_llst, a_rd, Option.bind_some, ends_nx, ends_rt, ends_ex, leave_dat, List.map_cons, List.map_nil, List.length_cons, List.length_nil, Nat.reduceSub, Nat.reduceAdd, List.replicate_succ, List.replicate_zero, List.cons_append, List.nil_append, List.append_nil, List.getElem?_cons_zero, List.getElem?_cons_succ, List.set_cons_zero, List.set_cons_succ, List.take_length, cond_true, cond_false, Bool.not_true, Bool.not_false, dLt_i, dLe_i, dGt_i, dGe_i, dAdd_i, dSub_i, dIsN_eq, dNotN_eq, dLen_l, dLen_t, dIx_l, dIx_t, dList_l, dList_t, dTuple_l, dTuple_t, szB_s, o1_end, oSl_t, oSl_l, oSl_s, a_sort, dInt_i, a_put, pen_rd, pen_0, pen_1, pen_2, pen_p1, pen_p2, take_cons, forGo_nil, a_star, dats_map, a_leave_end, Option.map_some, cellOf_end, rd_end, set_end, take_end, lit2, lit3, Bool.true_and, Bool.false_and, Bool.and_true, Bool.and_false, Bool.true_or, Bool.false_or, Bool.or_true, Bool.or_false, Bool.not_not, a_sl, a_pNo, a_pEx, a_asInt, a_frz0, a_zip, zip2_t, zip2_l, a_enum, enum1_l, enum1_t, ix, hN, i0]
        rw [ap _ rfl rfl rfl]
        simp
  have pS : ∀ d, Pen (n + 1) (C.set kp (some (part ++ [d]))) (S1.set (kp + 1) (some (part ++ [d]))) := fun d => (pen_cell p1 (k := kp) (xs := part) hC).2.2 (some (part ++ [d]))
  have pp : ∀ b : Bool, ∀ x ∈ part ++ [bif b then D.non else .int v], Sz 0 1 0 x := fun b x hx => by
    rcases List.mem_append.mp hx with hx | hx
    · exact hp x hx
    · rw [List.mem_singleton.mp hx]
      cases b
      · exact .int0 hv _ _ _
      · exact .non _ _ _
  unfold lb1_l_law_draft
  rw [a_seq]
  cases ht0 : (((t : Nat) : Int) == 0)
  · simp -implicitDefEqProofs only [a_fn, a_seq, seq_nx, seq_rt, seq_ex, seq_bk, seq_ct, seq_cond, ends_cond, c_ok, c_dat, c_bl, c_int, c_and, c_or, c_nand, a_sif, a_ret, a_set, a_nils, a_tg, a_expr, a_raise, a_par, Res.bind_ok, Res.bind_ex, Res.bindS_ok, Res.bindS_ex, a_var0, a_c, a_x2, a_o2, a_res1, a_xN, a_cons, a_nil, a_o1, a_xN1, a_tup, a_lst, mkTup_eq, mkLst_eq, a_dats0, a_dats1, a_ret1, a_tBl, a_tTr, a_tNo, a_tAn, a_tOr, a_bool1, truth_bl, truth_non, truth_int, truth_lst, truth_tup, a_and, a_or, a_chain, a_boolK, a_not, a_nDV, a_neg, a_neg1, a_if, a_isi, a_oIsi, isi_int, isi_bool, isi_tuple, isi_list, isi_str, a_it, a_items_l, a_items_t, a_lc, a_wipe0, a_wipe1, a_gNm, a_gTp, a_gCo, a_gNo, a_yes, a_for, a_rg1, a_rg2, a_new, a_llst, a_rd, Option.bind_some, ends_nx, ends_rt, ends_ex, leave_dat, List.map_cons, List.map_nil, List.length_cons, List.length_nil, Nat.reduceSub, Nat.reduceAdd, List.replicate_succ, List.replicate_zero, List.cons_append, List.nil_append, List.append_nil, List.getElem?_cons_zero, List.getElem?_cons_succ, List.set_cons_zero, List.set_cons_succ, List.take_length, cond_true, cond_false, Bool.not_true, Bool.not_false, dLt_i, dLe_i, dGt_i, dGe_i, dAdd_i, dSub_i, dIsN_eq, dNotN_eq, dLen_l, dLen_t, dIx_l, dIx_t, dList_l, dList_t, dTuple_l, dTuple_t, szB_s, o1_end, oSl_t, oSl_l, oSl_s, a_sort, dInt_i, a_put, pen_rd, pen_0, pen_1, pen_2, pen_p1, pen_p2, take_cons, forGo_nil, a_star, dats_map, a_leave_end, Option.map_some, cellOf_end, rd_end, set_end, take_end, lit2, lit3, Bool.true_and, Bool.false_and, Bool.and_true, Bool.and_false, Bool.true_or, Bool.false_or, Bool.or_true, Bool.or_false, Bool.not_not, a_sl, a_pNo, a_pEx, a_asInt, a_frz0, a_zip, zip2_t, zip2_l, a_enum, enum1_l, enum1_t, e1, dEq_ii, ht0]
    have := fin false 0
    simp -implicitDefEqProofs only [a_fn, a_seq, seq_nx, seq_rt, seq_ex, seq_bk, seq_ct, seq_cond, ends_cond, c_ok, c_dat, c_bl, c_int, c_and, c_or, c_nand, a_sif, a_ret, a_set, a_nils, a_tg, a_expr, a_raise, a_par, Res.bind_ok, Res.bind_ex, Res.bindS_ok, Res.bindS_ex, a_var0, a_c, a_x2, a_o2, a_res1, a_xN, a_cons, a_nil, a_o1, a_xN1, a_tup, a_lst, mkTup_eq, mkLst_eq, a_dats0, a_dats1, a_ret1, a_tBl, a_tTr, a_tNo, a_tAn, a_tOr, a_bool1, truth_bl, truth_non, truth_int, truth_lst, truth_tup, a_and, a_or, a_chain, a_boolK, a_not, a_nDV, a_neg, a_neg1, a_if, a_isi, a_oIsi, isi_int, isi_bool, isi_tuple, isi_list, isi_str, a_it, a_items_l, a_items_t, a_lc, a_wipe0, a_wipe1, a_gNm, a_gTp, a_gCo, a_gNo, a_yes, a_for, a_rg1, a_rg2, a_new, a_llst, a_rd, Option.bind_some, ends_nx, ends_rt, ends_ex, leave_dat, List.map_cons, List.map_nil, List.length_cons, List.length_nil, Nat.reduceSub, Nat.reduceAdd, List.replicate_succ, List.replicate_zero, List.cons_append, List.nil_append, List.append_nil, List.getElem?_cons_zero, List.getElem?_cons_succ, List.set_cons_zero, List.set_cons_succ, List.take_length, cond_true, cond_false, Bool.not_true, Bool.not_false, dLt_i, dLe_i, dGt_i, dGe_i, dAdd_i, dSub_i, dIsN_eq, dNotN_eq, dLen_l, dLen_t, dIx_l, dIx_t, dList_l, dList_t, dTuple_l, dTuple_t, szB_s, o1_end, oSl_t, oSl_l, oSl_s, a_sort, dInt_i, a_put, pen_rd, pen_0, pen_1, pen_2, pen_p1, pen_p2, take_cons, forGo_nil, a_star, dats_map, a_leave_end, Option.map_some, cellOf_end, rd_end, set_end, take_end, lit2, lit3, Bool.true_and, Bool.false_and, Bool.and_true, Bool.and_false, Bool.true_or, Bool.false_or, Bool.or_true, Bool.or_false, Bool.not_not, a_sl, a_pNo, a_pEx, a_asInt, a_frz0, a_zip, zip2_t, zip2_l, a_enum, enum1_l, enum1_t] at this
    exact ⟨_, _, _, _, this, pS _, pp false, by simp⟩
  · cases hN : (cs.getD k .non).isN
    · cases hg : decide (l > 0)
      · simp -implicitDefEqProofs only [a_fn, a_seq, seq_nx, seq_rt, seq_ex, seq_bk, seq_ct, seq_cond, ends_cond, c_ok, c_dat, c_bl, c_int, c_and, c_or, c_nand, a_sif, a_ret, a_set, a_nils, a_tg, a_expr, a_raise, a_par, Res.bind_ok, Res.bind_ex, Res.bindS_ok, Res.bindS_ex, a_var0, a_c, a_x2, a_o2, a_res1, a_xN, a_cons, a_nil, a_o1, a_xN1, a_tup, a_lst, mkTup_eq, mkLst_eq, a_dats0, a_dats1, a_ret1, a_tBl, a_tTr, a_tNo, a_tAn, a_tOr, a_bool1, truth_bl, truth_non, truth_int, truth_lst, truth_tup, a_and, a_or, a_chain, a_boolK, a_not, a_nDV, a_neg, a_neg1, a_if, a_isi, a_oIsi, isi_int, isi_bool, isi_tuple, isi_list, isi_str, a_it, a_items_l, a_items_t, a_lc, a_wipe0, a_wipe1, a_gNm, a_gTp, a_gCo, a_gNo, a_yes, a_for, a_rg1, a_rg2, a_new, a_llst, a_rd, Option.bind_some, ends_nx, ends_rt, ends_ex, leave_dat, List.map_cons, List.map_nil, List.length_cons, List.length_nil, Nat.reduceSub, Nat.reduceAdd, List.replicate_succ, List.replicate_zero, List.cons_append, List.nil_append, List.append_nil, List.getElem?_cons_zero, List.getElem?_cons_succ, List.set_cons_zero, List.set_cons_succ, List.take_length, cond_true, cond_false, Bool.not_true, Bool.not_false, dLt_i, dLe_i, dGt_i, dGe_i, dAdd_i, dSub_i, dIsN_eq, dNotN_eq, dLen_l, dLen_t, dIx_l, dIx_t, dList_l, dList_t, dTuple_l, dTuple_t, szB_s, o1_end, oSl_t, oSl_l, oSl_s, a_sort, dInt_i, a_put, pen_rd, pen_0, pen_1, pen_2, pen_p1, pen_p2, take_cons, forGo_nil, a_star, dats_map, a_leave_end, Option.map_some, cellOf_end, rd_end, set_end, take_end, lit2, lit3, Bool.true_and, Bool.false_and, Bool.and_true, Bool.and_false, Bool.true_or, Bool.false_or, Bool.or_true, Bool.or_false, Bool.not_not, a_sl, a_pNo, a_pEx, a_asInt, a_frz0, a_zip, zip2_t, zip2_l, a_enum, enum1_l, enum1_t, e1, dEq_ii, ht0, ix, hN, hg]
        have := fin false 0
        simp -implicitDefEqProofs only [a_fn, a_seq, seq_nx, seq_rt, seq_ex, seq_bk, seq_ct, seq_cond, ends_cond, c_ok, c_dat, c_bl, c_int, c_and, c_or, c_nand, a_sif, a_ret, a_set, a_nils, a_tg, a_expr, a_raise, a_par, Res.bind_ok, Res.bind_ex, Res.bindS_ok, Res.bindS_ex, a_var0, a_c, a_x2, a_o2, a_res1, a_xN, a_cons, a_nil, a_o1, a_xN1, a_tup, a_lst, mkTup_eq, mkLst_eq, a_dats0, a_dats1, a_ret1, a_tBl, a_tTr, a_tNo, a_tAn, a_tOr, a_bool1, truth_bl, truth_non, truth_int, truth_lst, truth_tup, a_and, a_or, a_chain, a_boolK, a_not, a_nDV, a_neg, a_neg1, a_if, a_isi, a_oIsi, isi_int, isi_bool, isi_tuple, isi_list, isi_str, a_it, a_items_l, a_items_t, a_lc, a_wipe0, a_wipe1, a_gNm, a_gTp, a_gCo, a_gNo, a_yes, a_for, a_rg1, a_rg2, a_new, a_llst, a_rd, Option.bind_some, ends_nx, ends_rt, ends_ex, leave_dat, List.map_cons, List.map_nil, List.length_cons, List.length_nil, Nat.reduceSub, Nat.reduceAdd, List.replicate_succ, List.replicate_zero, List.cons_append, List.nil_append, List.append_nil, List.getElem?_cons_zero, List.getElem?_cons_succ, List.set_cons_zero, List.set_cons_succ, List.take_length, cond_true, cond_false, Bool.not_true, Bool.not_false, dLt_i, dLe_i, dGt_i, dGe_i, dAdd_i, dSub_i, dIsN_eq, dNotN_eq, dLen_l, dLen_t, dIx_l, dIx_t, dList_l, dList_t, dTuple_l, dTuple_t, szB_s, o1_end, oSl_t, oSl_l, oSl_s, a_sort, dInt_i, a_put, pen_rd, pen_0, pen_1, pen_2, pen_p1, pen_p2, take_cons, forGo_nil, a_star, dats_map, a_leave_end, Option.map_some, cellOf_end, rd_end, set_end, take_end, lit2, lit3, Bool.true_and, Bool.false_and, Bool.and_true, Bool.and_false, Bool.true_or, Bool.false_or, Bool.or_true, Bool.or_false, Bool.not_not, a_sl, a_pNo, a_pEx, a_asInt, a_frz0, a_zip, zip2_t, zip2_l, a_enum, enum1_l, enum1_t] at this
        exact ⟨_, _, _, _, this, pS _, pp false, by simp⟩
      · simp -implicitDefEqProofs only [a_fn, a_seq, seq_nx, seq_rt, seq_ex, seq_bk, seq_ct, seq_cond, ends_cond, c_ok, c_dat, c_bl, c_int, c_and, c_or, c_nand, a_sif, a_ret, a_set, a_nils, a_tg, a_expr, a_raise, a_par, Res.bind_ok, Res.bind_ex, Res.bindS_ok, Res.bindS_ex, a_var0, a_c, a_x2, a_o2, a_res1, a_xN, a_cons, a_nil, a_o1, a_xN1, a_tup, a_lst, mkTup_eq, mkLst_eq, a_dats0, a_dats1, a_ret1, a_tBl, a_tTr, a_tNo, a_tAn, a_tOr, a_bool1, truth_bl, truth_non, truth_int, truth_lst, truth_tup, a_and, a_or, a_chain, a_boolK, a_not, a_nDV, a_neg, a_neg1, a_if, a_isi, a_oIsi, isi_int, isi_bool, isi_tuple, isi_list, isi_str, a_it, a_items_l, a_items_t, a_lc, a_wipe0, a_wipe1, a_gNm, a_gTp, a_gCo, a_gNo, a_yes, a_for, a_rg1, a_rg2, a_new, a_llst, a_rd, Option.bind_some, ends_nx, ends_rt, ends_ex, leave_dat, List.map_cons, List.map_nil, List.length_cons, List.length_nil, Nat.reduceSub, Nat.reduceAdd, List.replicate_succ, List.replicate_zero, List.cons_append, List.nil_append, List.append_nil, List.getElem?_cons_zero, List.getElem?_cons_succ, List.set_cons_zero, List.set_cons_succ, List.take_length, cond_true, cond_false, Bool.not_true, Bool.not_false, dLt_i, dLe_i, dGt_i, dGe_i, dAdd_i, dSub_i, dIsN_eq, dNotN_eq, dLen_l, dLen_t, dIx_l, dIx_t, dList_l, dList_t, dTuple_l, dTuple_t, szB_s, o1_end, oSl_t, oSl_l, oSl_s, a_sort, dInt_i, a_put, pen_rd, pen_0, pen_1, pen_2, pen_p1, pen_p2, take_cons, forGo_nil, a_star, dats_map, a_leave_end, Option.map_some, cellOf_end, rd_end, set_end, take_end, lit2, lit3, Bool.true_and, Bool.false_and, Bool.and_true, Bool.and_false, Bool.true_or, Bool.false_or, Bool.or_true, Bool.or_false, Bool.not_not, a_sl, a_pNo, a_pEx, a_asInt, a_frz0, a_zip, zip2_t, zip2_l, a_enum, enum1_l, enum1_t, e1, dEq_ii, ht0, ix, hN, hg]
        have := fin true 0
        simp -implicitDefEqProofs only [a_fn, a_seq, seq_nx, seq_rt, seq_ex, seq_bk, seq_ct, seq_cond, ends_cond, c_ok, c_dat, c_bl, c_int, c_and, c_or, c_nand, a_sif, a_ret, a_set, a_nils, a_tg, a_expr, a_raise, a_par, Res.bind_ok, Res.bind_ex, Res.bindS_ok, Res.bindS_ex, a_var0, a_c, a_x2, a_o2, a_res1, a_xN, a_cons, a_nil, a_o1, a_xN1, a_tup, a_lst, mkTup_eq, mkLst_eq, a_dats0, a_dats1, a_ret1, a_tBl, a_tTr, a_tNo, a_tAn, a_tOr, a_bool1, truth_bl, truth_non, truth_int, truth_lst, truth_tup, a_and, a_or, a_chain, a_boolK, a_not, a_nDV, a_neg, a_neg1, a_if, a_isi, a_oIsi, isi_int, isi_bool, isi_tuple, isi_list, isi_str, a_it, a_items_l, a_items_t, a_lc, a_wipe0, a_wipe1, a_gNm, a_gTp, a_gCo, a_gNo, a_yes, a_for, a_rg1, a_rg2, a_new, a_llst, a_rd, Option.bind_some, ends_nx, ends_rt, ends_ex, leave_dat, List.map_cons, List.map_nil, List.length_cons, List.length_nil, Nat.reduceSub, Nat.reduceAdd, List.replicate_succ, List.replicate_zero, List.cons_append, List.nil_append, List.append_nil, List.getElem?_cons_zero, List.getElem?_cons_succ, List.set_cons_zero, List.set_cons_succ, List.take_length, cond_true, cond_false, Bool.not_true, Bool.not_false, dLt_i, dLe_i, dGt_i, dGe_i, dAdd_i, dSub_i, dIsN_eq, dNotN_eq, dLen_l, dLen_t, dIx_l, dIx_t, dList_l, dList_t, dTuple_l, dTuple_t, szB_s, o1_end, oSl_t, oSl_l, oSl_s, a_sort, dInt_i, a_put, pen_rd, pen_0, pen_1, pen_2, pen_p1, pen_p2, take_cons, forGo_nil, a_star, dats_map, a_leave_end, Option.map_some, cellOf_end, rd_end, set_end, take_end, lit2, lit3, Bool.true_and, Bool.false_and, Bool.and_true, Bool.and_false, Bool.true_or, Bool.false_or, Bool.or_true, Bool.or_false, Bool.not_not, a_sl, a_pNo, a_pEx, a_asInt, a_frz0, a_zip, zip2_t, zip2_l, a_enum, enum1_l, enum1_t, ix, hN] at this
        exact ⟨_, _, _, _, this, pS _, pp true, by simp⟩
    · simp -implicitDefEqProofs only [a_fn, a_seq, seq_nx, seq_rt, seq_ex, seq_bk, seq_ct, seq_cond, ends_cond, c_ok, c_dat, c_bl, c_int, c_and, c_or, c_nand, a_sif, a_ret, a_set, a_nils, a_tg, a_expr, a_raise, a_par, Res.bind_ok, Res.bind_ex, Res.bindS_ok, Res.bindS_ex, a_var0, a_c, a_x2, a_o2, a_res1, a_xN, a_cons, a_nil, a_o1, a_xN1, a_tup, a_lst, mkTup_eq, mkLst_eq, a_dats0, a_dats1, a_ret1, a_tBl, a_tTr, a_tNo, a_tAn, a_tOr, a_bool1, truth_bl, truth_non, truth_int, truth_lst, truth_tup, a_and, a_or, a_chain, a_boolK, a_not, a_nDV, a_neg, a_neg1, a_if, a_isi, a_oIsi, isi_int, isi_bool, isi_tuple, isi_list, isi_str, a_it, a_items_l, a_items_t, a_lc, a_wipe0, a_wipe1, a_gNm, a_gTp, a_gCo, a_gNo, a_yes, a_for, a_rg1, a_rg2, a_new, a_llst, a_rd, Option.bind_some, ends_nx, ends_rt, ends_ex, leave_dat, List.map_cons, List.map_nil, List.length_cons, List.length_nil, Nat.reduceSub, Nat.reduceAdd, List.replicate_succ, List.replicate_zero, List.cons_append, List.nil_append, List.append_nil, List.getElem?_cons_zero, List.getElem?_cons_succ, List.set_cons_zero, List.set_cons_succ, List.take_length, cond_true, cond_false, Bool.not_true, Bool.not_false, dLt_i, dLe_i, dGt_i, dGe_i, dAdd_i, dSub_i, dIsN_eq, dNotN_eq, dLen_l, dLen_t, dIx_l, dIx_t, dList_l, dList_t, dTuple_l, dTuple_t, szB_s, o1_end, oSl_t, oSl_l, oSl_s, a_sort, dInt_i, a_put, pen_rd, pen_0, pen_1, pen_2, pen_p1, pen_p2, take_cons, forGo_nil, a_star, dats_map, a_leave_end, Option.map_some, cellOf_end, rd_end, set_end, take_end, lit2, lit3, Bool.true_and, Bool.false_and, Bool.and_true, Bool.and_false, Bool.true_or, Bool.false_or, Bool.or_true, Bool.or_false, Bool.not_not, a_sl, a_pNo, a_pEx, a_asInt, a_frz0, a_zip, zip2_t, zip2_l, a_enum, enum1_l, enum1_t, e1, dEq_ii, ht0, ix, hN]
      have := fin true 0
      simp -implicitDefEqProofs only [a_fn, a_seq, seq_nx, seq_rt, seq_ex, seq_bk, seq_ct, seq_cond, ends_cond, c_ok, c_dat, c_bl, c_int, c_and, c_or, c_nand, a_sif, a_ret, a_set, a_nils, a_tg, a_expr, a_raise, a_par, Res.bind_ok, Res.bind_ex, Res.bindS_ok, Res.bindS_ex, a_var0, a_c, a_x2, a_o2, a_res1, a_xN, a_cons, a_nil, a_o1, a_xN1, a_tup, a_lst, mkTup_eq, mkLst_eq, a_dats0, a_dats1, a_ret1, a_tBl, a_tTr, a_tNo, a_tAn, a_tOr, a_bool1, truth_bl, truth_non, truth_int, truth_lst, truth_tup, a_and, a_or, a_chain, a_boolK, a_not, a_nDV, a_neg, a_neg1, a_if, a_isi, a_oIsi, isi_int, isi_bool, isi_tuple, isi_list, isi_str, a_it, a_items_l, a_items_t, a_lc, a_wipe0, a_wipe1, a_gNm, a_gTp, a_gCo, a_gNo, a_yes, a_for, a_rg1, a_rg2, a_new, a_llst, a_rd, Option.bind_some, ends_nx, ends_rt, ends_ex, leave_dat, List.map_cons, List.map_nil, List.length_cons, List.length_nil, Nat.reduceSub, Nat.reduceAdd, List.replicate_succ, List.replicate_zero, List.cons_append, List.nil_append, List.append_nil, List.getElem?_cons_zero, List.getElem?_cons_succ, List.set_cons_zero, List.set_cons_succ, List.take_length, cond_true, cond_false, Bool.not_true, Bool.not_false, dLt_i, dLe_i, dGt_i, dGe_i, dAdd_i, dSub_i, dIsN_eq, dNotN_eq, dLen_l, dLen_t, dIx_l, dIx_t, dList_l, dList_t, dTuple_l, dTuple_t, szB_s, o1_end, oSl_t, oSl_l, oSl_s, a_sort, dInt_i, a_put, pen_rd, pen_0, pen_1, pen_2, pen_p1, pen_p2, take_cons, forGo_nil, a_star, dats_map, a_leave_end, Option.map_some, cellOf_end, rd_end, set_end, take_end, lit2, lit3, Bool.true_and, Bool.false_and, Bool.and_true, Bool.and_false, Bool.true_or, Bool.false_or, Bool.or_true, Bool.or_false, Bool.not_not, a_sl, a_pNo, a_pEx, a_asInt, a_frz0, a_zip, zip2_t, zip2_l, a_enum, enum1_l, enum1_t, ix, hN] at this
      exact ⟨_, _, _, _, this, pS _, pp true, by simp⟩

/-- a row of the draft -/
theorem draft_row {cs : List D} (hc : ∀ c ∈ cs, okC c) (hl : cs.length ≤ 4) {C S : Store} {n kk : Nat} {kept : List D} (h : Pen n C S) (hK : C[kk]? = some (some kept)) (hk : ∀ x ∈ kept, ∃ row, x = rowD row ∧ OkRow cs row) (lk : kept.length ≤ 100) (hn : n + 30 ≤ LIM) (step : Nat) (h0 : step ≠ 0 → kept ≠ []) (rows : List D) (hr : ∀ x ∈ rows, Sz 1 4 4 x) (lr : rows.length ≤ 100) (l odds : Int) (ho : 0 < odds ∧ odds ≤ 5) z7 z8 z9 z10 z11 : ∃ (S' C' : Store) (l' : Int) (kept' rows' : List D) (q7 q8 q9 q10 q11 : Option DV), lb2_l_law_draft [some (.obj 0), some (.dat (.tup cs)), some (.dat (.int (step : Nat))), some (.dat (.tup rows)), some (.obj (kk + 1)), some (.dat (.int l)), some (.dat (.int odds)), z7, z8, z9, z10, z11] S = .nx [some (.obj 0), some (.dat (.tup cs)), some (.dat (.int (step : Nat))), some (.dat (.tup rows')), some (.obj (kk + 1)), some (.dat (.int l')), some (.dat (.int odds)), q7, q8, q9, q10, q11] S' ∧ Pen (n + 30) C' S' ∧ C'[kk]? = some (some kept') ∧ (∀ x ∈ kept', ∃ row, x = rowD row ∧ OkRow cs row) ∧ kept'.length = kept.length + 1 ∧ (∀ x ∈ rows', Sz 1 4 4 x) ∧ rows'.length = rows.length + 1 ∧ C.take kk = C'.take kk := by
  have hn : n + 30 ≤ 2147483648 := hn
  obtain ⟨row0, S1, e1, p1, hw0, hv0⟩ := row_ok h (by have l_ : LIM = 2147483648 := rfl; omega) cs hc hl
  have hr0 := okRow_of hw0 hv0
  have nw : ∀ (l : LFn) (ρ : Slots) (S : Store), xNew l ρ S = (l ρ S).bind fun ds S1 => .ok (.obj S1.length) (S1 ++ [some ds]) := fun _ _ _ => rfl
  have sp : sPar 7 8 (xN g_l_law_row (aCons (xVar 0) (aCons (xVar 1) aNil))) (xNew (lLst aNil)) [some (.obj 0), some (.dat (.tup cs)), some (.dat (.int (step : Nat))), some (.dat (.tup rows)), some (.obj (kk + 1)), some (.dat (.int l)), some (.dat (.int odds)), z7, z8, z9, z10, z11] S = .nx [some (.obj 0), some (.dat (.tup cs)), some (.dat (.int (step : Nat))), some (.dat (.tup rows)), some (.obj (kk + 1)), some (.dat (.int l)), some (.dat (.int odds)), some (.dat (rowD row0)), some (.obj (C.length + 1)), z9, z10, z11] (S1 ++ [some []]) := by
    simp -implicitDefEqProofs only [a_fn, a_seq, seq_nx, seq_rt, seq_ex, seq_bk, seq_ct, seq_cond, ends_cond, c_ok, c_dat, c_bl, c_int, c_and, c_or, c_nand, a_sif, a_ret, a_set, a_nils, a_tg, a_expr, a_raise, a_par, Res.bind_ok, Res.bind_ex, Res.bindS_ok, Res.bindS_ex, a_var0, a_c, a_x2, a_o2, a_res1, a_xN, a_cons, a_nil, a_o1, a_xN1, a_tup, a_lst, mkTup_eq, mkLst_eq, a_dats0, a_dats1, a_ret1, a_tBl, a_tTr, a_tNo, a_tAn, a_tOr, a_bool1, truth_bl, truth_non, truth_int, truth_lst, truth_tup, a_and, a_or, a_chain, a_boolK, a_not, a_nDV, a_neg, a_neg1, a_if, a_isi, a_oIsi, isi_int, isi_bool, isi_tuple, isi_list, isi_str, a_it, a_items_l, a_items_t, a_lc, a_wipe0, a_wipe1, a_gNm, a_gTp, a_gCo, a_gNo, a_yes, a_for, a_rg1, a_rg2, a_new, a_llst, a_rd, Option.bind_some, ends_nx, ends_rt, ends_ex, leave_dat, List.map_cons, List.map_nil, List.length_cons, List.length_nil, Nat.reduceSub, Nat.reduceAdd, List.replicate_succ, List.replicate_zero, List.cons_append, List.nil_append, List.append_nil, List.getElem?_cons_zero, List.getElem?_cons_succ, List.set_cons_zero, List.set_cons_succ, List.take_length, cond_true, cond_false, Bool.not_true, Bool.not_false, dLt_i, dLe_i, dGt_i, dGe_i, dAdd_i, dSub_i, dIsN_eq, dNotN_eq, dLen_l, dLen_t, dIx_l, dIx_t, dList_l, dList_t, dTuple_l, dTuple_t, szB_s, o1_end, oSl_t, oSl_l, oSl_s, a_sort, dInt_i, a_put, pen_rd, pen_0, pen_1, pen_2, pen_p1, pen_p2, take_cons, forGo_nil, a_star, dats_map, a_leave_end, Option.map_some, cellOf_end, rd_end, set_end, take_end, lit2, lit3, Bool.true_and, Bool.false_and, Bool.and_true, Bool.and_false, Bool.true_or, Bool.false_or, Bool.or_true, Bool.or_false, Bool.not_not, a_sl, a_pNo, a_pEx, a_asInt, a_frz0, a_zip, zip2_t, zip2_l, a_enum, enum1_l, enum1_t, e1, nw, p1.len]
  have p2 : Pen (n + 16) (C ++ [some []]) (S1 ++ [some []]) := pen_new p1 _
  have kl : kk < C.length := (List.getElem?_eq_some_iff.mp hK).1
  have hK2 : (C ++ [some ([] : List D)])[kk]? = some (some kept) := by rw [List.getElem?_append_left kl]; exact hK
  -- the row that is taken
  obtain ⟨row, S3, e3, p3, hrow⟩ : ∃ (row : Row) (S3 : Store), sIf (tAn (tBl (x2 (o2 dGt) (xVar 2) (xC (.int 0)))) (tBl (x2 (o2 dEq) (xN g_l_law_take (aCons (xVar 0) (aCons (xC (.int 2)) aNil))) (xC (.int 0))))) (sSet 7 (xN g_l_law_one (aCons (xVar 0) (aCons (xVar 4) aNil)))) sNil [some (.obj 0), some (.dat (.tup cs)), some (.dat (.int (step : Nat))), some (.dat (.tup rows)), some (.obj (kk + 1)), some (.dat (.int l)), some (.dat (.int odds)), some (.dat (rowD row0)), some (.obj (C.length + 1)), z9, z10, z11] (S1 ++ [some []]) = .nx [some (.obj 0), some (.dat (.tup cs)), some (.dat (.int (step : Nat))), some (.dat (.tup rows)), some (.obj (kk + 1)), some (.dat (.int l)), some (.dat (.int odds)), some (.dat (rowD row)), some (.obj (C.length + 1)), z9, z10, z11] S3 ∧ Pen (n + 18) (C ++ [some []]) S3 ∧ OkRow cs row := by
    cases hs : decide (((step : Nat) : Int) > 0)
    · simp -implicitDefEqProofs only [a_fn, a_seq, seq_nx, seq_rt, seq_ex, seq_bk, seq_ct, seq_cond, ends_cond, c_ok, c_dat, c_bl, c_int, c_and, c_or, c_nand, a_sif, a_ret, a_set, a_nils, a_tg, a_expr, a_raise, a_par, Res.bind_ok, Res.bind_ex, Res.bindS_ok, Res.bindS_ex, a_var0, a_c, a_x2, a_o2, a_res1, a_xN, a_cons, a_nil, a_o1, a_xN1, a_tup, a_lst, mkTup_eq, mkLst_eq, a_dats0, a_dats1, a_ret1, a_tBl, a_tTr, a_tNo, a_tAn, a_tOr, a_bool1, truth_bl, truth_non, truth_int, truth_lst, truth_tup, a_and, a_or, a_chain, a_boolK, a_not, a_nDV, a_neg, a_neg1, a_if, a_isi, a_oIsi, isi_int, isi_bool, isi_tuple, isi_list, isi_str, a_it, a_items_l, a_items_t, a_lc, a_wipe0, a_wipe1, a_gNm, a_gTp, a_gCo, a_gNo, a_yes, a_for, a_rg1, a_rg2, a_new, a_llst, a_rd, Option.bind_some, ends_nx, ends_rt, ends_ex, leave_dat, List.map_cons, List.map_nil, List.length_cons, List.length_nil, Nat.reduceSub, Nat.reduceAdd, List.replicate_succ, List.replicate_zero, List.cons_append, List.nil_append, List.append_nil, List.getElem?_cons_zero, List.getElem?_cons_succ, List.set_cons_zero, List.set_cons_succ, List.take_length, cond_true, cond_false, Bool.not_true, Bool.not_false, dLt_i, dLe_i, dGt_i, dGe_i, dAdd_i, dSub_i, dIsN_eq, dNotN_eq, dLen_l, dLen_t, dIx_l, dIx_t, dList_l, dList_t, dTuple_l, dTuple_t, szB_s, o1_end, oSl_t, oSl_l, oSl_s, a_sort, dInt_i, a_put, pen_rd, pen_0, pen_1, pen_2, pen_p1, pen_p2, take_cons, forGo_nil, a_star, dats_map, a_leave_end, Option.map_some, cellOf_end, rd_end, set_end, take_end, lit2, lit3, Bool.true_and, Bool.false_and, Bool.and_true, Bool.and_false, Bool.true_or, Bool.false_or, Bool.or_true, Bool.or_false, Bool.not_not, a_sl, a_pNo, a_pEx, a_asInt, a_frz0, a_zip, zip2_t, zip2_l, a_enum, enum1_l, enum1_t, hs]
      exact ⟨row0, _, rfl, p2.mono (by omega), hr0⟩
    · obtain ⟨t, S2, e2, p2', ht⟩ := take_ok p2 (by have l_ : LIM = 2147483648 := rfl; omega) 2 (by decide) (by decide)
      have hne : kept ≠ [] := h0 (by simp at hs; omega)
      cases ht0 : (((t : Nat) : Int) == 0)
      · simp -implicitDefEqProofs only [a_fn, a_seq, seq_nx, seq_rt, seq_ex, seq_bk, seq_ct, seq_cond, ends_cond, c_ok, c_dat, c_bl, c_int, c_and, c_or, c_nand, a_sif, a_ret, a_set, a_nils, a_tg, a_expr, a_raise, a_par, Res.bind_ok, Res.bind_ex, Res.bindS_ok, Res.bindS_ex, a_var0, a_c, a_x2, a_o2, a_res1, a_xN, a_cons, a_nil, a_o1, a_xN1, a_tup, a_lst, mkTup_eq, mkLst_eq, a_dats0, a_dats1, a_ret1, a_tBl, a_tTr, a_tNo, a_tAn, a_tOr, a_bool1, truth_bl, truth_non, truth_int, truth_lst, truth_tup, a_and, a_or, a_chain, a_boolK, a_not, a_nDV, a_neg, a_neg1, a_if, a_isi, a_oIsi, isi_int, isi_bool, isi_tuple, isi_list, isi_str, a_it, a_items_l, a_items_t, a_lc, a_wipe0, a_wipe1, a_gNm, a_gTp, a_gCo, a_gNo, a_yes, a_for, a_rg1, a_rg2, a_new, a_llst, a_rd, Option.bind_some, ends_nx, ends_rt, ends_ex, leave_dat, List.map_cons, List.map_nil, List.length_cons, List.length_nil, Nat.reduceSub, Nat.reduceAdd, List.replicate_succ, List.replicate_zero, List.cons_append, List.nil_append, List.append_nil, List.getElem?_cons_zero, List.getElem?_cons_succ, List.set_cons_zero, List.set_cons_succ, List.take_length, cond_true, cond_false, Bool.not_true, Bool.not_false, dLt_i, dLe_i, dGt_i, dGe_i, dAdd_i, dSub_i, dIsN_eq, dNotN_eq, dLen_l, dLen_t, dIx_l, dIx_t, dList_l, dList_t, dTuple_l, dTuple_t, szB_s, o1_end, oSl_t, oSl_l, oSl_s, a_sort, dInt_i, a_put, pen_rd, pen_0, pen_1, pen_2, pen_p1, pen_p2, take_cons, forGo_nil, a_star, dats_map, a_leave_end, Option.map_some, cellOf_end, rd_end, set_end, take_end, lit2, lit3, Bool.true_and, Bool.false_and, Bool.and_true, Bool.and_false, Bool.true_or, Bool.false_or, Bool.or_true, Bool.or_false, Bool.not_not, a_sl, a_pNo, a_pEx, a_asInt, a_frz0, a_zip, zip2_t, zip2_l, a_enum, enum1_l, enum1_t, hs, e2, dEq_ii, ht0]
        exact ⟨row0, _, rfl, p2'.mono (by omega), hr0⟩
      · obtain ⟨x, S3, e3, p3, hx⟩ := one_cell p2' (by have l_ : LIM = 2147483648 := rfl; omega) kept hK2 (List.length_pos_iff.mpr hne) (by omega)
        obtain ⟨row, rfl, hrow⟩ := hk x hx
        simp -implicitDefEqProofs only [a_fn, a_seq, seq_nx, seq_rt, seq_ex, seq_bk, seq_ct, seq_cond, ends_cond, c_ok, c_dat, c_bl, c_int, c_and, c_or, c_nand, a_sif, a_ret, a_set, a_nils, a_tg, a_expr, a_raise, a_par, Res.bind_ok, Res.bind_ex, Res.bindS_ok, Res.bindS_ex, a_var0, a_c, a_x2, a_o2, a_res1, a_xN, a_cons, a_nil, a_o1, a_xN1, a_tup, a_lst, mkTup_eq, mkLst_eq, a_dats0, a_dats1, a_ret1, a_tBl, a_tTr, a_tNo, a_tAn, a_tOr, a_bool1, truth_bl, truth_non, truth_int, truth_lst, truth_tup, a_and, a_or, a_chain, a_boolK, a_not, a_nDV, a_neg, a_neg1, a_if, a_isi, a_oIsi, isi_int, isi_bool, isi_tuple, isi_list, isi_str, a_it, a_items_l, a_items_t, a_lc, a_wipe0, a_wipe1, a_gNm, a_gTp, a_gCo, a_gNo, a_yes, a_for, a_rg1, a_rg2, a_new, a_llst, a_rd, Option.bind_some, ends_nx, ends_rt, ends_ex, leave_dat, List.map_cons, List.map_nil, List.length_cons, List.length_nil, Nat.reduceSub, Nat.reduceAdd, List.replicate_succ, List.replicate_zero, List.cons_append, List.nil_append, List.append_nil, List.getElem?_cons_zero, List.getElem?_cons_succ, List.set_cons_zero, List.set_cons_succ, List.take_length, cond_true, cond_false, Bool.not_true, Bool.not_false, dLt_i, dLe_i, dGt_i, dGe_i, dAdd_i, dSub_i, dIsN_eq, dNotN_eq, dLen_l, dLen_t, dIx_l, dIx_t, dList_l, dList_t, dTuple_l, dTuple_t, szB_s, o1_end, oSl_t, oSl_l, oSl_s, a_sort, dInt_i, a_put, pen_rd, pen_0, pen_1, pen_2, pen_p1, pen_p2, take_cons, forGo_nil, a_star, dats_map, a_leave_end, Option.map_some, cellOf_end, rd_end, set_end, take_end, lit2, lit3, Bool.true_and, Bool.false_and, Bool.and_true, Bool.and_false, Bool.true_or, Bool.false_or, Bool.or_true, Bool.or_false, Bool.not_not, a_sl, a_pNo, a_pEx, a_asInt, a_frz0, a_zip, zip2_t, zip2_l, a_enum, enum1_l, enum1_t, hs, e2, dEq_ii, ht0, e3]
        exact ⟨row, _, rfl, p3.mono (by omega), hrow⟩
  have hlen := hrow.len
  have ap : sApp (xVar 4) (xVar 7) [some (.obj 0), some (.dat (.tup cs)), some (.dat (.int (step : Nat))), some (.dat (.tup rows)), some (.obj (kk + 1)), some (.dat (.int l)), some (.dat (.int odds)), some (.dat (rowD row)), some (.obj (C.length + 1)), z9, z10, z11] S3 = .nx [some (.obj 0), some (.dat (.tup cs)), some (.dat (.int (step : Nat))), some (.dat (.tup rows)), some (.obj (kk + 1)), some (.dat (.int l)), some (.dat (.int odds)), some (.dat (rowD row)), some (.obj (C.length + 1)), z9, z10, z11] (S3.set (kk + 1) (some (kept ++ [rowD row]))) := sapp_cell p3 p3 hK2 rfl (by simp -implicitDefEqProofs only [a_fn, a_seq, seq_nx, seq_rt, seq_ex, seq_bk, seq_ct, seq_cond, ends_cond, c_ok, c_dat, c_bl, c_int, c_and, c_or, c_nand, a_sif, a_ret, a_set, a_nils, a_tg, a_expr, a_raise, a_par, Res.bind_ok, Res.bind_ex, Res.bindS_ok, Res.bindS_ex, a_var0, a_c, a_x2, a_o2, a_res1, a_xN, a_cons, a_nil, a_o1, a_xN1, a_tup, a_lst, mkTup_eq, mkLst_eq, a_dats0, a_dats1, a_ret1, a_tBl, a_tTr, a_tNo, a_tAn, a_tOr, a_bool1, truth_bl, truth_non, truth_int, truth_lst, truth_tup, a_and, a_or, a_chain, a_boolK, a_not, a_nDV, a_neg, a_neg1, a_if, a_isi, a_oIsi, isi_int, isi_bool, isi_tuple, isi_list, isi_str, a_it, a_items_l, a_items_t, a_lc, a_wipe0, a_wipe1, a_gNm, a_gTp, a_gCo, a_gNo, a_yes, a_for, a_rg1, a_rg2, a_new, a_llst, a_rd, Option.bind_some, ends_nx, ends_rt, ends_ex, leave_dat, List.map_cons, List.map_nil, List.length_cons, List.length_nil, Nat.reduceSub, Nat.reduceAdd, List.replicate_succ, List.replicate_zero, List.cons_append, List.nil_append, List.append_nil, List.getElem?_cons_zero, List.getElem?_cons_succ, List.set_cons_zero, List.set_cons_succ, List.take_length, cond_true, cond_false, Bool.not_true, Bool.not_false, dLt_i, dLe_i, dGt_i, dGe_i, dAdd_i, dSub_i, dIsN_eq, dNotN_eq, dLen_l, dLen_t, dIx_l, dIx_t, dList_l, dList_t, dTuple_l, dTuple_t, szB_s, o1_end, oSl_t, oSl_l, oSl_s, a_sort, dInt_i, a_put, pen_rd, pen_0, pen_1, pen_2, pen_p1, pen_p2, take_cons, forGo_nil, a_star, dats_map, a_leave_end, Option.map_some, cellOf_end, rd_end, set_end, take_end, lit2, lit3, Bool.true_and, Bool.false_and, Bool.and_true, Bool.and_false, Bool.true_or, Bool.false_or, Bool.or_true, Bool.or_false, Bool.not_not, a_sl, a_pNo, a_pEx, a_asInt, a_frz0, a_zip, zip2_t, zip2_l, a_enum, enum1_l, enum1_t]) (by omega)
  have p4 := (pen_cell p3 hK2).2.2 (some (kept ++ [rowD row]))
  have st : (C ++ [some ([] : List D)]).set kk (some (kept ++ [rowD row])) = C.set kk (some (kept ++ [rowD row])) ++ [some []] := by rw [List.set_append, if_pos kl]
  rw [st] at p4
  let C1 : Store := C.set kk (some (kept ++ [rowD row]))
  have c1l : C1.length = C.length := by simp [C1]
  obtain ⟨ρ', S5, e5, part, l', z9, z10, z11, rfl, hp, lp, p5⟩ := forGo_run (enc := fun q : Nat × Int => pairD (.int ((q.1 : Nat) : Int)) (.int q.2)) (G := gTp (gCo (gNm 9) (gCo (gNm 10) gNo))) (f := lb1_l_law_draft) (fun pre ρ S => ∃ (part : List D) (l : Int) (z9 z10 z11 : Option DV), ρ = [some (.obj 0), some (.dat (.tup cs)), some (.dat (.int (step : Nat))), some (.dat (.tup rows)), some (.obj (kk + 1)), some (.dat (.int l)), some (.dat (.int odds)), some (.dat (rowD row)), some (.obj (C.length + 1)), z9, z10, z11] ∧ (∀ x ∈ part, Sz 0 1 0 x) ∧ part.length = pre.length ∧ Pen (n + 18 + pre.length) (C1 ++ [some part]) S) ((row.zipIdx).map fun p => (p.2, p.1)) [] [some (.obj 0), some (.dat (.tup cs)), some (.dat (.int (step : Nat))), some (.dat (.tup rows)), some (.obj (kk + 1)), some (.dat (.int l)), some (.dat (.int odds)), some (.dat (rowD row)), some (.obj (C.length + 1)), z9, z10, z11] _ ⟨[], l, _, _, _, rfl, (fun x hx => nomatch hx), rfl, p4⟩ (by
    rintro pre ⟨k, v⟩ post ρ S hpp ⟨part, l, z9, z10, z11, rfl, hp, lp, hpen⟩
    have hm : (k, v) ∈ (row.zipIdx.map fun p => (p.2, p.1)) := by rw [show (row.zipIdx.map fun p => (p.2, p.1)) = pre ++ (k, v) :: post by simpa using hpp]; simp
    have hq : (v, k) ∈ row.zipIdx := by
      obtain ⟨⟨a, b⟩, hq, e⟩ := List.mem_map.mp hm
      cases e
      exact hq
    have hq := List.mem_zipIdx_iff_getElem?.mp hq
    have hkl : k < row.length := (List.getElem?_eq_some_iff.mp hq).1
    have hpl : pre.length < 4 := by
      have := congrArg List.length (show (row.zipIdx.map fun p => (p.2, p.1)) = pre ++ (k, v) :: post by simpa using hpp)
      simp at this
      omega
    obtain ⟨S', l', part', q11, e, p, hp', lp'⟩ := draft_in hl hpen (kp := C.length) (by rw [← c1l]; simp) (by have l_ : LIM = 2147483648 := rfl; omega) k (by omega) v (hrow.tiny v (List.mem_of_getElem? hq)) l odds ho hp (by omega) (some (.dat (.int (step : Nat)))) (some (.dat (.tup rows))) (some (.obj (kk + 1))) (some (.dat (rowD row))) z11
    have st : (C1 ++ [some part]).set C.length (some part') = C1 ++ [some part'] := by rw [← c1l]; simp
    rw [st] at p
    exact ⟨_, _, S', rfl, .inl e, part', l', _, _, _, rfl, hp', by simp; omega, p.mono (by simp; omega)⟩)
  simp only [List.nil_append, List.length_map, List.length_zipIdx] at lp p5
  have en : ∀ S, enum1 (.dat (rowD row)) S = .ok ((row.zipIdx.map fun p => (p.2, p.1)).map fun p => pairD (.int ((p.1 : Nat) : Int)) (.int p.2)) S := fun S => by rw [rowD, enum1_t, enum_map]
  have tp : o1 dTuple [.obj (C.length + 1)] S5 = .ok (.dat (.tup part)) S5 := by
    have := (pen_cell p5 (k := C.length) (xs := part) (by rw [← c1l]; simp)).2.1
    simp only [o1, this]
    rfl
  have a1 : dAdd (.tup rows) (.tup [.tup part]) = some (.tup (rows ++ [.tup part])) := by rw [dAdd_t, szB_le (by simp; omega)]; rfl
  unfold lb2_l_law_draft
  rw [a_seq, sp, seq_nx, a_seq, e3, seq_nx, a_seq, ap, seq_nx]
  simp -implicitDefEqProofs only [a_fn, a_seq, seq_nx, seq_rt, seq_ex, seq_bk, seq_ct, seq_cond, ends_cond, c_ok, c_dat, c_bl, c_int, c_and, c_or, c_nand, a_sif, a_ret, a_set, a_nils, a_tg, a_expr, a_raise, a_par, Res.bind_ok, Res.bind_ex, Res.bindS_ok, Res.bindS_ex, a_var0, a_c, a_x2, a_o2, a_res1, a_xN, a_cons, a_nil, a_o1, a_xN1, a_tup, a_lst, mkTup_eq, mkLst_eq, a_dats0, a_dats1, a_ret1, a_tBl, a_tTr, a_tNo, a_tAn, a_tOr, a_bool1, truth_bl, truth_non, truth_int, truth_lst, truth_tup, a_and, a_or, a_chain, a_boolK, a_not, a_nDV, a_neg, a_neg1, a_if, a_isi, a_oIsi, isi_int, isi_bool, isi_tuple, isi_list, isi_str, a_it, a_items_l, a_items_t, a_lc, a_wipe0, a_wipe1, a_gNm, a_gTp, a_gCo, a_gNo, a_yes, a_for, a_rg1, a_rg2, a_new, a_llst, a_rd, Option.bind_some, ends_nx, ends_rt, ends_ex, leave_dat, List.map_cons, List.map_nil, List.length_cons, List.length_nil, Nat.reduceSub, Nat.reduceAdd, List.replicate_succ, List.replicate_zero, List.cons_append, List.nil_append, List.append_nil, List.getElem?_cons_zero, List.getElem?_cons_succ, List.set_cons_zero, List.set_cons_succ, List.take_length, cond_true, cond_false, Bool.not_true, Bool.not_false, dLt_i, dLe_i, dGt_i, dGe_i, dAdd_i, dSub_i, dIsN_eq, dNotN_eq, dLen_l, dLen_t, dIx_l, dIx_t, dList_l, dList_t, dTuple_l, dTuple_t, szB_s, o1_end, oSl_t, oSl_l, oSl_s, a_sort, dInt_i, a_put, pen_rd, pen_0, pen_1, pen_2, pen_p1, pen_p2, take_cons, forGo_nil, a_star, dats_map, a_leave_end, Option.map_some, cellOf_end, rd_end, set_end, take_end, lit2, lit3, Bool.true_and, Bool.false_and, Bool.and_true, Bool.and_false, Bool.true_or, Bool.false_or, Bool.or_true, Bool.or_false, Bool.not_not, a_sl, a_pNo, a_pEx, a_asInt, a_frz0, a_zip, zip2_t, zip2_l, a_enum, enum1_l, enum1_t, en, e5, tp, a1]
  refine ⟨S5, C1 ++ [some part], l', kept ++ [rowD row], rows ++ [.tup part], _, _, _, _, _, rfl, p5.mono (by omega), ?_, fun x hx => ?_, by simp, fun x hx => ?_, by simp, ?_⟩
  · rw [List.getElem?_append_left (by rw [c1l]; exact kl)]
    simp [C1, kl]
  · rcases List.mem_append.mp hx with hx | hx
    · exact hk x hx
    · exact ⟨row, List.mem_singleton.mp hx, hrow⟩
  · rcases List.mem_append.mp hx with hx | hx
    · exact hr x hx
    · rw [List.mem_singleton.mp hx]
      exact (SzL.of (n := 0) (w := 4) (b := 0) (c := 4) (fun z hz => (hp z hz).up (by decide) (by decide) (by decide)) (by omega) (by omega)).tup
  · rw [List.take_append_of_le_length (by rw [c1l]; omega)]
    rw [List.take_set, List.set_eq_of_length_le (by simp; omega)]
theorem pen_cutC {n k : Nat} {C S : Store} (h : Pen n C S) : Pen n (C.take k) (S.take (k + 1)) := by
  obtain ⟨c, a, u, rfl, ha⟩ := h
  exact ⟨c, a, u, rfl, ha⟩
theorem draft_ok {cs : List D} (hc : ∀ c ∈ cs, okC c) (hl : cs.length ≤ 4) {n : Nat} {T S : Store} (h : Pen n T S) (hn : n + 300 ≤ LIM) : ∃ (rows : List D) (S1 : Store), g_l_law_draft [.obj 0, .dat (.tup cs)] S = .ok (.dat (.tup rows)) S1 ∧ Pen (n + 300) T S1 ∧ (∀ x ∈ rows, Sz 1 4 4 x) ∧ rows.length ≤ 8 := by
  have hn : n + 300 ≤ 2147483648 := hn
  unfold g_l_law_draft s_l_law_draft
  have p0 : Pen n (T ++ [some []]) (S ++ [some []]) := pen_new h _
  obtain ⟨l, S1, e1, p1, hl1⟩ := one_ok p0 (by have l_ : LIM = 2147483648 := rfl; omega) [D.int 1, D.int 1, D.int 2] (by simp) (by simp) _ (.inl rfl)
  obtain ⟨l, rfl⟩ : ∃ i : Int, l = .int i := by
    simp only [List.mem_cons, List.not_mem_nil, or_false] at hl1
    rcases hl1 with rfl | rfl | rfl <;> exact ⟨_, rfl⟩
  obtain ⟨o, S2, e2, p2, ho1⟩ := one_ok p1 (by have l_ : LIM = 2147483648 := rfl; omega) [D.int 1, D.int 2, D.int 2, D.int 3, D.int 5] (by simp) (by simp) _ (.inl rfl)
  obtain ⟨odds, rfl, ho⟩ : ∃ i : Int, o = .int i ∧ 0 < i ∧ i ≤ 5 := by
    simp only [List.mem_cons, List.not_mem_nil, or_false] at ho1
    rcases ho1 with rfl | rfl | rfl | rfl | rfl <;> exact ⟨_, rfl, by decide, by decide⟩
  obtain ⟨x, S3, e3, p3, hx⟩ := one_ok p2 (by have l_ : LIM = 2147483648 := rfl; omega) ([0, 1, 2, 2, 3, 3, 3, 4, 8].map fun i : Nat => D.int ((i : Nat) : Int)) (by simp) (by simp) _ (.inl rfl)
  obtain ⟨k, rfl, hk, _⟩ := nat_of (m := 8) hx (by decide)
  obtain ⟨ρ', S4, e4, C', l', kept, rows, z2, z7, z8, z9, z10, z11, rfl, p4, hkc, hkr, hkl, hrr, hrl, hct⟩ := forGo_run (enc := fun i : Nat => D.int ((i : Nat) : Int)) (G := gNm 2) (f := lb2_l_law_draft) (fun pre ρ S => ∃ (C' : Store) (l' : Int) (kept rows : List D) (z2 z7 z8 z9 z10 z11 : Option DV), ρ = [some (.obj 0), some (.dat (.tup cs)), z2, some (.dat (.tup rows)), some (.obj (T.length + 1)), some (.dat (.int l')), some (.dat (.int odds)), z7, z8, z9, z10, z11] ∧ Pen (n + 3 + 30 * pre.length) C' S ∧ C'[T.length]? = some (some kept) ∧ (∀ x ∈ kept, ∃ row, x = rowD row ∧ OkRow cs row) ∧ kept.length = pre.length ∧ (∀ x ∈ rows, Sz 1 4 4 x) ∧ rows.length = pre.length ∧ C'.take T.length = T) (List.range k) [] [some (.obj 0), some (.dat (.tup cs)), none, some (.dat (.tup [])), some (.obj (T.length + 1)), some (.dat (.int l)), some (.dat (.int odds)), none, none, none, none, none] S3 ⟨T ++ [some []], l, [], [], _, _, _, _, _, _, rfl, p3, by simp, (fun x hx => nomatch hx), rfl, (fun x hx => nomatch hx), rfl, by simp⟩ (by
    rintro pre a post ρ S hpp ⟨C', l', kept, rows, z2, z7, z8, z9, z10, z11, rfl, hp, hkc, hkr, hkl, hrr, hrl, hct⟩
    obtain ⟨ha, ha2⟩ := range_at (by simpa using hpp)
    obtain ⟨S', C2, l2, kept2, rows2, q7, q8, q9, q10, q11, e, p, a1, a2, a3, a4, a5, a6⟩ := draft_row hc hl hp hkc hkr (by omega) (by have l_ : LIM = 2147483648 := rfl; omega) a (fun h => by intro z; subst z; simp at hkl; omega) rows hrr (by omega) l' odds ho z7 z8 z9 z10 z11
    exact ⟨_, _, S', rfl, .inl e, C2, l2, kept2, rows2, _, _, _, _, _, _, rfl, p.mono (by simp; omega), a1, a2, by simp; omega, a4, by simp; omega, by rw [← a6]; exact hct⟩)
  simp only [List.nil_append, List.length_range] at p4 hrl
  have tg : ∀ (f : AFn) (is : List Nat) (ρ : Slots) (S : Store), sTgV is f ρ S = (f ρ S).bindS ρ fun ds S1 => match setAll is ds ρ with
    | some ρ' => .nx ρ' S1
    | none => .bad := fun _ _ _ _ => rfl
  have nw : ∀ (l : LFn) (ρ : Slots) (S : Store), xNew l ρ S = (l ρ S).bind fun ds S1 => .ok (.obj S1.length) (S1 ++ [some ds]) := fun _ _ _ => rfl
  have sv : ∀ (a b c d : DV) (ρ : Slots), setAll [3, 4, 5, 6] [a, b, c, d] ρ = some ((((ρ.set 3 (some a)).set 4 (some b)).set 5 (some c)).set 6 (some d)) := fun _ _ _ _ _ => rfl
  have e3' : g_l_law_one [.obj 0, .dat (.lst [D.int 0, D.int 1, D.int 2, D.int 2, D.int 3, D.int 3, D.int 3, D.int 4, D.int 8])] S2 = .ok (.dat (.int (k : Nat))) S3 := e3
  simp -implicitDefEqProofs only [a_fn, a_seq, seq_nx, seq_rt, seq_ex, seq_bk, seq_ct, seq_cond, ends_cond, c_ok, c_dat, c_bl, c_int, c_and, c_or, c_nand, a_sif, a_ret, a_set, a_nils, a_tg, a_expr, a_raise, a_par, Res.bind_ok, Res.bind_ex, Res.bindS_ok, Res.bindS_ex, a_var0, a_c, a_x2, a_o2, a_res1, a_xN, a_cons, a_nil, a_o1, a_xN1, a_tup, a_lst, mkTup_eq, mkLst_eq, a_dats0, a_dats1, a_ret1, a_tBl, a_tTr, a_tNo, a_tAn, a_tOr, a_bool1, truth_bl, truth_non, truth_int, truth_lst, truth_tup, a_and, a_or, a_chain, a_boolK, a_not, a_nDV, a_neg, a_neg1, a_if, a_isi, a_oIsi, isi_int, isi_bool, isi_tuple, isi_list, isi_str, a_it, a_items_l, a_items_t, a_lc, a_wipe0, a_wipe1, a_gNm, a_gTp, a_gCo, a_gNo, a_yes, a_for, a_rg1, a_rg2, a_new, a_llst, a_rd, Option.bind_some, ends_nx, ends_rt, ends_ex, leave_dat, List.map_cons, List.map_nil, List.length_cons, List.length_nil, Nat.reduceSub, Nat.reduceAdd, List.replicate_succ, List.replicate_zero, List.cons_append, List.nil_append, List.append_nil, List.getElem?_cons_zero, List.getElem?_cons_succ, List.set_cons_zero, List.set_cons_succ, List.take_length, cond_true, cond_false, Bool.not_true, Bool.not_false, dLt_i, dLe_i, dGt_i, dGe_i, dAdd_i, dSub_i, dIsN_eq, dNotN_eq, dLen_l, dLen_t, dIx_l, dIx_t, dList_l, dList_t, dTuple_l, dTuple_t, szB_s, o1_end, oSl_t, oSl_l, oSl_s, a_sort, dInt_i, a_put, pen_rd, pen_0, pen_1, pen_2, pen_p1, pen_p2, take_cons, forGo_nil, a_star, dats_map, a_leave_end, Option.map_some, cellOf_end, rd_end, set_end, take_end, lit2, lit3, Bool.true_and, Bool.false_and, Bool.and_true, Bool.and_false, Bool.true_or, Bool.false_or, Bool.or_true, Bool.or_false, Bool.not_not, a_sl, a_pNo, a_pEx, a_asInt, a_frz0, a_zip, zip2_t, zip2_l, a_enum, enum1_l, enum1_t, tg, nw, h.len, e1, e2, sv, e3', rng1_n (le_size (show k ≤ 16000000 by omega)), e4]
  have pc := pen_cutC (k := T.length) p4
  rw [hct] at pc
  exact ⟨rows, _, rfl, pc.mono (by omega), hrr, by omega⟩
end T08

set_option maxHeartbeats 400000
namespace T08
open PySem PySem.Spec PyProof.Rows L2 DL
theorem p10_30 : dPow (.int 10) (.int 30) = some (.int 1000000000000000000000000000000) := dPow_i (i := 10) (j := 30) (by decide) (by decide)
theorem last_cat {T S0 : Store} {xs ys : List D} (l : T.length + 1 = S0.length) (h : xs.length + ys.length ≤ 1000000) : cat2 (.obj (T.length + 1)) (.dat (.lst ys)) (S0 ++ [some xs]) = .ok (xs ++ ys) (S0 ++ [some xs]) := by rw [l]; exact cat_end h
theorem last_add {T S0 : Store} {xs ys : List D} (l : T.length + 1 = S0.length) (h : xs.length + ys.length ≤ 1000000) : o2 dAdd (.obj (T.length + 1)) (.dat (.lst ys)) (S0 ++ [some xs]) = .ok (.dat (.lst (xs ++ ys))) (S0 ++ [some xs]) := by
  have : rd (S0 ++ [some xs]) (.obj (T.length + 1)) = some (.lst xs) := by rw [l]; exact rd_end S0 _
  simp only [o2, this, a_rd, dAdd_l]
  rw [szB_le (by omega)]
  rfl
theorem cut_but1 {α : Type} (xs : List α) : cutL xs none (some (-1)) = xs.take (xs.length - 1) := by
  simp only [cutL, HT.sIx_none, List.drop_zero, Nat.sub_zero]
  congr 1
  simp [HT.sIx]
  omega
abbrev noneR (m : Nat) : List D := List.replicate m .non
def baseL (m : Nat) (least : List D) : List D := [.non, .bl true, .int 0, .str "draft", .lst [], .lst [.tup (noneR m)], .tup (List.replicate 9 (.tup least)), .tup [.tup (noneR m ++ [.non])], .tup [.tup ((noneR m).drop 1)], .tup [.lst (noneR m)]]
theorem SzL.nones (m : Nat) (hm : m ≤ 4) : SzL 0 4 4 (noneR m) := SzL.rep (n := 0) (w := 0) (b := 0) (.non _ _ _) (by decide) hm (by omega)
abbrev V9 (d : D) : Prop := Sz 3 12 200 d
theorem V9.one {xs : List D} {w b : Nat} (h : SzL 1 w b xs) (h1 : w ≤ 12 := by decide) (h2 : b ≤ 100 := by decide) : V9 (.tup [.tup xs]) := ((SzL.one (n := 2) (w := 12) (b := 100) (h.tup.up (by decide) h1 h2) (by decide)).tup).up (by decide) (by decide) (by decide)
theorem SzL.up {n m w v b c : Nat} {xs : List D} (h : SzL n w b xs) (h1 : n ≤ m) (h2 : w ≤ v) (h3 : b ≤ c) : SzL m v c xs := ⟨fits_mono h1 h.fit, h.tiny, Nat.le_trans h.bulk h3, Nat.le_trans h.len h2, wideBs_mono h2 h.wide⟩
theorem bad_draft_in {cs : List D} (hc : ∀ c ∈ cs, okC c) (hl : cs.length ≤ 4) (closed : List Nat) (hcl : ∀ k ∈ closed, k < cs.length ∧ (cs.getD k .non).isN = false) (lc : 1 ≤ closed.length) (lc2 : closed.length ≤ 4) {k : Nat} (hk : k ∈ closed) {vals : List D} (hx : ∀ x ∈ vals, V9 x) (lv : vals.length ≤ 1000) {n : Nat} {T S : Store} (h : Pen n (T ++ [some vals]) S) z2 z7 z8 z9 z10 : ∃ (vals' : List D) (S' : Store) (q8 : Option DV), lb1_l_law_bad_draft [some (.obj 0), some (.dat (.tup cs)), z2, some (.dat (.lst (closed.map fun i => .int ((i : Nat) : Int)))), some (.obj (T.length + 1)), some (.dat (.int (k : Nat))), some (.dat (.tup (noneR cs.length))), z7, z8, z9, z10] S = .nx [some (.obj 0), some (.dat (.tup cs)), z2, some (.dat (.lst (closed.map fun i => .int ((i : Nat) : Int)))), some (.obj ((T ++ [some vals]).length + 1)), some (.dat (.int (k : Nat))), some (.dat (.tup (noneR cs.length))), z7, q8, z9, z10] S' ∧ Pen n (T ++ [some vals] ++ [some vals']) S' ∧ (∀ x ∈ vals', V9 x) ∧ vals'.length = vals.length + 4 := by
  obtain ⟨S0, rfl, l0, p0⟩ := pen_last h
  obtain ⟨hkl, hkn⟩ := hcl k hk
  have hcol := hc _ (getD_mem (d := D.non) hkl)
  rcases isCol_cases hcol.1 with hx' | ⟨ns, hx', l0', l1', nn, hs⟩
  · rw [hx'] at hkn; cases hkn
  have ix : atI cs (k : Nat) = some (.tup (ns.map .int)) := by rw [atI_nat D.non hkl, hx']
  have e3 : ∀ S, rng1 [.dat (.int 3)] S = .ok ((List.range 3).map fun i => .int ((i : Nat) : Int)) S := fun S => rng1_n (n := 3) (le_size (by decide)) S
  have lcq : ∀ (ρ : Slots) (S : Store), ρ[1]? = some (some (.dat (.tup cs))) → ρ[5]? = some (some (.dat (.int (k : Nat)))) → 10 < ρ.length → lcGo (gNm 10) (tBl (x2 (o2 dNin) (xVar 10) (x2 (o2 dIx) (xVar 1) (xVar 5)))) (xVar 10) ρ ((List.range 3).map fun i : Nat => D.int ((i : Nat) : Int)) S = .ok (((List.range 3).filter fun i : Nat => !dInB (.int ((i : Nat) : Int)) (ns.map .int)).map fun i : Nat => D.int ((i : Nat) : Int)) S := fun ρ S h1 h5 h10 => by
    rw [lcGo_filter (p := fun i : Nat => !dInB (.int ((i : Nat) : Int)) (ns.map .int)) (q := fun i : Nat => D.int ((i : Nat) : Int)) (List.range 3) ?h]
    case h =>
      intro i hi
      have nin : dNin (.int ((i : Nat) : Int)) (.tup (ns.map .int)) = some (.bl (!dInB (.int ((i : Nat) : Int)) (ns.map .int))) := dNin_t (n := 0) (m := 0) rfl (fits_ints 0 ns)
      have g1 : (ρ.set 10 (some (.dat (D.int ((i : Nat) : Int)))))[1]? = some (some (.dat (.tup cs))) := by rw [List.getElem?_set_ne (by decide)]; exact h1
      have g5 : (ρ.set 10 (some (.dat (D.int ((i : Nat) : Int)))))[5]? = some (some (.dat (.int (k : Nat)))) := by rw [List.getElem?_set_ne (by decide)]; exact h5
      have g10 : (ρ.set 10 (some (.dat (D.int ((i : Nat) : Int)))))[10]? = some (some (.dat (D.int ((i : Nat) : Int)))) := by rw [List.getElem?_set_self h10]
      exact ⟨_, rfl, by simp -implicitDefEqProofs only [a_fn, a_seq, seq_nx, seq_rt, seq_ex, seq_bk, seq_ct, seq_cond, ends_cond, c_ok, c_dat, c_bl, c_int, c_and, c_or, c_nand, a_sif, a_ret, a_set, a_nils, a_tg, a_expr, a_raise, a_par, Res.bind_ok, Res.bind_ex, Res.bindS_ok, Res.bindS_ex, a_var0, a_c, a_x2, a_o2, a_res1, a_xN, a_cons, a_nil, a_o1, a_xN1, a_tup, a_lst, mkTup_eq, mkLst_eq, a_dats0, a_dats1, a_ret1, a_tBl, a_tTr, a_tNo, a_tAn, a_tOr, a_bool1, truth_bl, truth_non, truth_int, truth_lst, truth_tup, a_and, a_or, a_chain, a_boolK, a_not, a_nDV, a_neg, a_neg1, a_if, a_isi, a_oIsi, isi_int, isi_bool, isi_tuple, isi_list, isi_str, a_it, a_items_l, a_items_t, a_lc, a_wipe0, a_wipe1, a_gNm, a_gTp, a_gCo, a_gNo, a_yes, a_for, a_rg1, a_rg2, a_new, a_llst, a_rd, Option.bind_some, ends_nx, ends_rt, ends_ex, leave_dat, List.map_cons, List.map_nil, List.length_cons, List.length_nil, Nat.reduceSub, Nat.reduceAdd, List.replicate_succ, List.replicate_zero, List.cons_append, List.nil_append, List.append_nil, List.getElem?_cons_zero, List.getElem?_cons_succ, List.set_cons_zero, List.set_cons_succ, List.take_length, cond_true, cond_false, Bool.not_true, Bool.not_false, dLt_i, dLe_i, dGt_i, dGe_i, dAdd_i, dSub_i, dIsN_eq, dNotN_eq, dLen_l, dLen_t, dIx_l, dIx_t, dList_l, dList_t, dTuple_l, dTuple_t, szB_s, o1_end, oSl_t, oSl_l, oSl_s, a_sort, dInt_i, a_put, pen_rd, pen_0, pen_1, pen_2, pen_p1, pen_p2, take_cons, forGo_nil, a_star, dats_map, a_leave_end, Option.map_some, cellOf_end, rd_end, set_end, take_end, lit2, lit3, Bool.true_and, Bool.false_and, Bool.and_true, Bool.and_false, Bool.true_or, Bool.false_or, Bool.or_true, Bool.or_false, Bool.not_not, a_sl, a_pNo, a_pEx, a_asInt, a_frz0, a_zip, zip2_t, zip2_l, a_enum, enum1_l, enum1_t, g1, g5, g10, ix, nin], fun _ => by simp -implicitDefEqProofs only [a_fn, a_seq, seq_nx, seq_rt, seq_ex, seq_bk, seq_ct, seq_cond, ends_cond, c_ok, c_dat, c_bl, c_int, c_and, c_or, c_nand, a_sif, a_ret, a_set, a_nils, a_tg, a_expr, a_raise, a_par, Res.bind_ok, Res.bind_ex, Res.bindS_ok, Res.bindS_ex, a_var0, a_c, a_x2, a_o2, a_res1, a_xN, a_cons, a_nil, a_o1, a_xN1, a_tup, a_lst, mkTup_eq, mkLst_eq, a_dats0, a_dats1, a_ret1, a_tBl, a_tTr, a_tNo, a_tAn, a_tOr, a_bool1, truth_bl, truth_non, truth_int, truth_lst, truth_tup, a_and, a_or, a_chain, a_boolK, a_not, a_nDV, a_neg, a_neg1, a_if, a_isi, a_oIsi, isi_int, isi_bool, isi_tuple, isi_list, isi_str, a_it, a_items_l, a_items_t, a_lc, a_wipe0, a_wipe1, a_gNm, a_gTp, a_gCo, a_gNo, a_yes, a_for, a_rg1, a_rg2, a_new, a_llst, a_rd, Option.bind_some, ends_nx, ends_rt, ends_ex, leave_dat, List.map_cons, List.map_nil, List.length_cons, List.length_nil, Nat.reduceSub, Nat.reduceAdd, List.replicate_succ, List.replicate_zero, List.cons_append, List.nil_append, List.append_nil, List.getElem?_cons_zero, List.getElem?_cons_succ, List.set_cons_zero, List.set_cons_succ, List.take_length, cond_true, cond_false, Bool.not_true, Bool.not_false, dLt_i, dLe_i, dGt_i, dGe_i, dAdd_i, dSub_i, dIsN_eq, dNotN_eq, dLen_l, dLen_t, dIx_l, dIx_t, dList_l, dList_t, dTuple_l, dTuple_t, szB_s, o1_end, oSl_t, oSl_l, oSl_s, a_sort, dInt_i, a_put, pen_rd, pen_0, pen_1, pen_2, pen_p1, pen_p2, take_cons, forGo_nil, a_star, dats_map, a_leave_end, Option.map_some, cellOf_end, rd_end, set_end, take_end, lit2, lit3, Bool.true_and, Bool.false_and, Bool.and_true, Bool.and_false, Bool.true_or, Bool.false_or, Bool.or_true, Bool.or_false, Bool.not_not, a_sl, a_pNo, a_pEx, a_asInt, a_frz0, a_zip, zip2_t, zip2_l, a_enum, enum1_l, enum1_t, g10]⟩
  generalize hF : ((List.range 3).filter fun i : Nat => !dInB (.int ((i : Nat) : Int)) (ns.map .int)) = F at *
  have hF3 : ∀ i ∈ F, i < 3 := fun i hi => by rw [← hF] at hi; exact List.mem_range.mp (List.mem_filter.mp hi).1
  have c1 : cutL (F.map fun i : Nat => D.int ((i : Nat) : Int)) none (some 1) = (F.take 1).map fun i : Nat => D.int ((i : Nat) : Int) := by rw [show (some (1 : Int)) = some ((1 : Nat) : Int) from rfl, cut_to, List.map_take]
  obtain ⟨v, hv, hvt⟩ : ∃ v : Int, atI ((F.take 1).map (fun i : Nat => D.int ((i : Nat) : Int)) ++ [.int 1000000000000000000000000000000]) 0 = some (.int v) ∧ (D.int v).tiny = true := by
    cases F with
    | nil => exact ⟨_, rfl, by decide +kernel⟩
    | cons i r => exact ⟨(i : Nat), rfl, nn_tiny (by have := hF3 i (by simp); omega)⟩
  have fl : (F.take 1).length ≤ 1 := by simp; omega
  have a0 : dAdd (.lst ((F.take 1).map fun i : Nat => D.int ((i : Nat) : Int))) (.lst [.int 1000000000000000000000000000000]) = some (.lst ((F.take 1).map (fun i : Nat => D.int ((i : Nat) : Int)) ++ [.int 1000000000000000000000000000000])) := by rw [dAdd_l, szB_le (by simp; omega)]; rfl
  have k1 : cutL (noneR cs.length) none (some ((k : Nat) : Int)) = (noneR cs.length).take k := cut_to _ _
  have k2 : cutL (noneR cs.length) (some (((k : Nat) : Int) + 1)) none = (noneR cs.length).drop (k + 1) := cut_from1 _ _
  have a1 : dAdd (.tup ((noneR cs.length).take k)) (.tup [.int v]) = some (.tup ((noneR cs.length).take k ++ [.int v])) := by rw [dAdd_t, szB_le (by simp; omega)]; rfl
  have a2 : dAdd (.tup ((noneR cs.length).take k ++ [.int v])) (.tup ((noneR cs.length).drop (k + 1))) = some (.tup ((noneR cs.length).take k ++ [.int v] ++ (noneR cs.length).drop (k + 1))) := by rw [dAdd_t, szB_le (by simp; omega)]; rfl
  have m3 : ∀ d : D, dMulA (.lst [d]) (.int 3) = some (.lst [d, d, d]) := fun _ => rfl
  have dv : dDiv (.int 6) (.int (closed.length : Nat)) = some (.int (6 / (closed.length : Nat))) := dDiv_i (by omega) (small_of (by omega) (by omega))
  have qe : (6 : Int) / (closed.length : Nat) + 1 = ((6 / closed.length + 1 : Nat) : Int) := by rw [Int.natCast_add, Int.natCast_ediv]; rfl
  have q6 : 6 / closed.length ≤ 6 := Nat.div_le_self _ _
  generalize hq : 6 / closed.length = q at *
  have mg : dMulZ (.tup [.tup (noneR cs.length)]) (.int (6 / (closed.length : Nat) + 1)) = some (.tup (List.replicate (q + 1) (.tup (noneR cs.length)))) := by rw [qe]; exact rep_z _ _ (by omega)
  have sn := SzL.nones cs.length hl
  have y1 : V9 (.tup [.tup ((noneR cs.length).take k ++ [.int v] ++ (noneR cs.length).drop (k + 1))]) := by
    refine V9.one (w := 10) (b := 20) (SzL.up (n := 0) (w := 10) (b := 20) (SzL.of (b := 0) (fun z hz => ?_) (by simp; omega) (by simp; omega)) (by decide) (by decide) (by decide))
    rcases List.mem_append.mp hz with hz | hz
    · rcases List.mem_append.mp hz with hz | hz
      · rw [List.eq_of_mem_replicate (List.mem_of_mem_take hz)]; exact .non _ _ _
      · rw [List.mem_singleton.mp hz]; exact .int0 hvt _ _ _
    · rw [List.eq_of_mem_replicate (List.mem_of_mem_drop hz)]; exact .non _ _ _
  have y2 : V9 (.tup (List.replicate (q + 1) (.tup (noneR cs.length)))) := (SzL.rep (k := q + 1) (v := 12) (c := 100) (sn.tup) (by decide) (by omega) (by omega)).tup.up (by decide) (by decide) (by decide)
  have ln : (S0 ++ [some vals]).length = (T ++ [some vals]).length + 1 := by simp; omega
  have p1 : Pen n (T ++ [some vals] ++ [some (vals ++ [.tup [.tup ((noneR cs.length).take k ++ [.int v] ++ (noneR cs.length).drop (k + 1))], .tup [.tup ((noneR cs.length).take k ++ [.int v] ++ (noneR cs.length).drop (k + 1))], .tup [.tup ((noneR cs.length).take k ++ [.int v] ++ (noneR cs.length).drop (k + 1))]])]) (S0 ++ [some vals] ++ [some (vals ++ [.tup [.tup ((noneR cs.length).take k ++ [.int v] ++ (noneR cs.length).drop (k + 1))], .tup [.tup ((noneR cs.length).take k ++ [.int v] ++ (noneR cs.length).drop (k + 1))], .tup [.tup ((noneR cs.length).take k ++ [.int v] ++ (noneR cs.length).drop (k + 1))]])]) := pen_new (pen_new p0 _) _
  generalize hY : D.tup [.tup ((noneR cs.length).take k ++ [.int v] ++ (noneR cs.length).drop (k + 1))] = Y at *
  refine ⟨vals ++ [Y, Y, Y] ++ [.tup (List.replicate (q + 1) (.tup (noneR cs.length)))], S0 ++ [some vals] ++ [some (vals ++ [Y, Y, Y] ++ [.tup (List.replicate (q + 1) (.tup (noneR cs.length)))])], some (.dat (.lst ((F.take 1).map (fun i : Nat => D.int ((i : Nat) : Int)) ++ [.int 1000000000000000000000000000000]))), ?_, pen_snoc.mpr ⟨S0 ++ [some vals], rfl, pen_new p0 _⟩, fun x hx' => ?_, by simp⟩
  rotate_left
  · rcases List.mem_append.mp hx' with hx' | hx'
    · rcases List.mem_append.mp hx' with hx' | hx'
      · exact hx x hx'
      · have : x = Y := by
          simp only [List.mem_cons, List.not_mem_nil, or_false] at hx'
          rcases hx' with h | h | h <;> exact h
        rw [this]; exact y1
    · rw [List.mem_singleton.mp hx']; exact y2
  unfold lb1_l_law_bad_draft
  simp -implicitDefEqProofs only [a_fn, a_seq, seq_nx, seq_rt, seq_ex, seq_bk, seq_ct, seq_cond, ends_cond, c_ok, c_dat, c_bl, c_int, c_and, c_or, c_nand, a_sif, a_ret, a_set, a_nils, a_tg, a_expr, a_raise, a_par, Res.bind_ok, Res.bind_ex, Res.bindS_ok, Res.bindS_ex, a_var0, a_c, a_x2, a_o2, a_res1, a_xN, a_cons, a_nil, a_o1, a_xN1, a_tup, a_lst, mkTup_eq, mkLst_eq, a_dats0, a_dats1, a_ret1, a_tBl, a_tTr, a_tNo, a_tAn, a_tOr, a_bool1, truth_bl, truth_non, truth_int, truth_lst, truth_tup, a_and, a_or, a_chain, a_boolK, a_not, a_nDV, a_neg, a_neg1, a_if, a_isi, a_oIsi, isi_int, isi_bool, isi_tuple, isi_list, isi_str, a_it, a_items_l, a_items_t, a_lc, a_wipe0, a_wipe1, a_gNm, a_gTp, a_gCo, a_gNo, a_yes, a_for, a_rg1, a_rg2, a_new, a_llst, a_rd, Option.bind_some, ends_nx, ends_rt, ends_ex, leave_dat, List.map_cons, List.map_nil, List.length_cons, List.length_nil, Nat.reduceSub, Nat.reduceAdd, List.replicate_succ, List.replicate_zero, List.cons_append, List.nil_append, List.append_nil, List.getElem?_cons_zero, List.getElem?_cons_succ, List.set_cons_zero, List.set_cons_succ, List.take_length, cond_true, cond_false, Bool.not_true, Bool.not_false, dLt_i, dLe_i, dGt_i, dGe_i, dAdd_i, dSub_i, dIsN_eq, dNotN_eq, dLen_l, dLen_t, dIx_l, dIx_t, dList_l, dList_t, dTuple_l, dTuple_t, szB_s, o1_end, oSl_t, oSl_l, oSl_s, a_sort, dInt_i, a_put, pen_rd, pen_0, pen_1, pen_2, pen_p1, pen_p2, take_cons, forGo_nil, a_star, dats_map, a_leave_end, Option.map_some, cellOf_end, rd_end, set_end, take_end, lit2, lit3, Bool.true_and, Bool.false_and, Bool.and_true, Bool.and_false, Bool.true_or, Bool.false_or, Bool.or_true, Bool.or_false, Bool.not_not, a_sl, a_pNo, a_pEx, a_asInt, a_frz0, a_zip, zip2_t, zip2_l, a_enum, enum1_l, enum1_t, e3, List.length_map, List.length_range, szB_le (show 3 ≤ 16777216 by decide)]
  rw [lcq _ _ rfl rfl (by simp)]
  simp -implicitDefEqProofs only [a_fn, a_seq, seq_nx, seq_rt, seq_ex, seq_bk, seq_ct, seq_cond, ends_cond, c_ok, c_dat, c_bl, c_int, c_and, c_or, c_nand, a_sif, a_ret, a_set, a_nils, a_tg, a_expr, a_raise, a_par, Res.bind_ok, Res.bind_ex, Res.bindS_ok, Res.bindS_ex, a_var0, a_c, a_x2, a_o2, a_res1, a_xN, a_cons, a_nil, a_o1, a_xN1, a_tup, a_lst, mkTup_eq, mkLst_eq, a_dats0, a_dats1, a_ret1, a_tBl, a_tTr, a_tNo, a_tAn, a_tOr, a_bool1, truth_bl, truth_non, truth_int, truth_lst, truth_tup, a_and, a_or, a_chain, a_boolK, a_not, a_nDV, a_neg, a_neg1, a_if, a_isi, a_oIsi, isi_int, isi_bool, isi_tuple, isi_list, isi_str, a_it, a_items_l, a_items_t, a_lc, a_wipe0, a_wipe1, a_gNm, a_gTp, a_gCo, a_gNo, a_yes, a_for, a_rg1, a_rg2, a_new, a_llst, a_rd, Option.bind_some, ends_nx, ends_rt, ends_ex, leave_dat, List.map_cons, List.map_nil, List.length_cons, List.length_nil, Nat.reduceSub, Nat.reduceAdd, List.replicate_succ, List.replicate_zero, List.cons_append, List.nil_append, List.append_nil, List.getElem?_cons_zero, List.getElem?_cons_succ, List.set_cons_zero, List.set_cons_succ, List.take_length, cond_true, cond_false, Bool.not_true, Bool.not_false, dLt_i, dLe_i, dGt_i, dGe_i, dAdd_i, dSub_i, dIsN_eq, dNotN_eq, dLen_l, dLen_t, dIx_l, dIx_t, dList_l, dList_t, dTuple_l, dTuple_t, szB_s, o1_end, oSl_t, oSl_l, oSl_s, a_sort, dInt_i, a_put, pen_rd, pen_0, pen_1, pen_2, pen_p1, pen_p2, take_cons, forGo_nil, a_star, dats_map, a_leave_end, Option.map_some, cellOf_end, rd_end, set_end, take_end, lit2, lit3, Bool.true_and, Bool.false_and, Bool.and_true, Bool.and_false, Bool.true_or, Bool.false_or, Bool.or_true, Bool.or_false, Bool.not_not, a_sl, a_pNo, a_pEx, a_asInt, a_frz0, a_zip, zip2_t, zip2_l, a_enum, enum1_l, enum1_t, c1, p10_30, a0, hv, k1, k2, a1, a2, hY, m3, a_cat, last_cat l0 (xs := vals) (ys := [Y, Y, Y]) (by simp; omega), ln]
  rw [sapp_pen (T := T ++ [some vals]) (S0 := S0 ++ [some vals]) (S1 := S0 ++ [some vals]) (xs := vals ++ [Y, Y, Y]) (d := .tup (List.replicate (q + 1) (.tup (noneR cs.length)))) rfl ln.symm ln.symm (by simp -implicitDefEqProofs only [a_fn, a_seq, seq_nx, seq_rt, seq_ex, seq_bk, seq_ct, seq_cond, ends_cond, c_ok, c_dat, c_bl, c_int, c_and, c_or, c_nand, a_sif, a_ret, a_set, a_nils, a_tg, a_expr, a_raise, a_par, Res.bind_ok, Res.bind_ex, Res.bindS_ok, Res.bindS_ex, a_var0, a_c, a_x2, a_o2, a_res1, a_xN, a_cons, a_nil, a_o1, a_xN1, a_tup, a_lst, mkTup_eq, mkLst_eq, a_dats0, a_dats1, a_ret1, a_tBl, a_tTr, a_tNo, a_tAn, a_tOr, a_bool1, truth_bl, truth_non, truth_int, truth_lst, truth_tup, a_and, a_or, a_chain, a_boolK, a_not, a_nDV, a_neg, a_neg1, a_if, a_isi, a_oIsi, isi_int, isi_bool, isi_tuple, isi_list, isi_str, a_it, a_items_l, a_items_t, a_lc, a_wipe0, a_wipe1, a_gNm, a_gTp, a_gCo, a_gNo, a_yes, a_for, a_rg1, a_rg2, a_new, a_llst, a_rd, Option.bind_some, ends_nx, ends_rt, ends_ex, leave_dat, List.map_cons, List.map_nil, List.length_cons, List.length_nil, Nat.reduceSub, Nat.reduceAdd, List.replicate_succ, List.replicate_zero, List.cons_append, List.nil_append, List.append_nil, List.getElem?_cons_zero, List.getElem?_cons_succ, List.set_cons_zero, List.set_cons_succ, List.take_length, cond_true, cond_false, Bool.not_true, Bool.not_false, dLt_i, dLe_i, dGt_i, dGe_i, dAdd_i, dSub_i, dIsN_eq, dNotN_eq, dLen_l, dLen_t, dIx_l, dIx_t, dList_l, dList_t, dTuple_l, dTuple_t, szB_s, o1_end, oSl_t, oSl_l, oSl_s, a_sort, dInt_i, a_put, pen_rd, pen_0, pen_1, pen_2, pen_p1, pen_p2, take_cons, forGo_nil, a_star, dats_map, a_leave_end, Option.map_some, cellOf_end, rd_end, set_end, take_end, lit2, lit3, Bool.true_and, Bool.false_and, Bool.and_true, Bool.and_false, Bool.true_or, Bool.false_or, Bool.or_true, Bool.or_false, Bool.not_not, a_sl, a_pNo, a_pEx, a_asInt, a_frz0, a_zip, zip2_t, zip2_l, a_enum, enum1_l, enum1_t, List.length_map, dv, mg]) (by simp; omega)]
  rfl
def leastD (c : D) : D := match c with | .tup (x :: _) => x | _ => .int 0
theorem leastD_sz {c : D} (h : okC c) : Sz 0 1 0 (leastD c) := by
  rcases isCol_cases h.1 with rfl | ⟨ns, rfl, l0, l1, nn, hs⟩
  · exact .int0 (by decide +kernel) _ _ _
  · cases ns with
    | nil => simp at l0
    | cons v r =>
      have ht := h.2.1
      simp only [D.tiny] at ht
      exact .int0 (tinys_iff.mp ht (.int v) (by simp)) _ _ _
theorem bad_draft_ok {cs : List D} (hc : ∀ c ∈ cs, okC c) (c1 : 1 ≤ cs.length) (hl : cs.length ≤ 4) {n : Nat} {T S : Store} (h : Pen n T S) (hn : n + 1 ≤ LIM) : ∃ (d : D) (S1 : Store), g_l_law_bad_draft [.obj 0, .dat (.tup cs)] S = .ok (.dat d) S1 ∧ Pen (n + 1) T S1 ∧ V9 d := by
  unfold g_l_law_bad_draft s_l_law_bad_draft
  have sn := SzL.nones cs.length hl
  let closed : List Nat := (List.range cs.length).filter fun k => !(cs.getD k .non).isN
  have hcl : ∀ k ∈ closed, k < cs.length ∧ (cs.getD k .non).isN = false := fun k hk => by
    have := List.mem_filter.mp hk
    exact ⟨List.mem_range.mp this.1, by simpa using this.2⟩
  have lcl : closed.length ≤ 4 := Nat.le_trans (List.length_filter_le ..) (by simpa using hl)
  have sl : SzL 0 4 4 (cs.map leastD) := SzL.of (b := 0) (fun x hx => by obtain ⟨c, h, rfl⟩ := List.mem_map.mp hx; exact (leastD_sz (hc c h)).up (by decide) (by decide) (by decide)) (by simpa using hl) (by simpa using hl)
  have mr : dMulA (.lst [.non]) (.int (cs.length : Nat)) = some (.lst (noneR cs.length)) := by
    have e : ((cs.length : Nat) : Int) ≤ 1000 ∧ -1000 ≤ ((cs.length : Nat) : Int) ∧ [D.non].length * ((cs.length : Nat) : Int).toNat ≤ sizeLine := ⟨by omega, by omega, le_size (by simp; omega)⟩
    simp only [dMulA, dMul]
    rw [if_pos e, Int.toNat_natCast]
    congr 2
    induction cs.length with
    | zero => rfl
    | succ n ih => simp only [List.replicate_succ, List.flatten_cons, ih]; rfl
  have lcL : ∀ (ρ : Slots) (S : Store), 9 < ρ.length → lcGo (gNm 9) tYesD (xIf (tBl (x2 (o2 dIsN) (xVar 9) (xC .non))) (xC (.int 0)) (x2 (o2 dIx) (xVar 9) (xC (.int 0)))) ρ cs S = .ok (cs.map leastD) S := fun ρ S h9 => lcGo_mapD cs fun c hcm => by
    have g9 : (ρ.set 9 (some (.dat c)))[9]? = some (some (.dat c)) := by rw [List.getElem?_set_self h9]
    refine ⟨_, rfl, rfl, ?_⟩
    rcases isCol_cases (hc c hcm).1 with rfl | ⟨ns, rfl, l0, l1, nn, hs⟩
    · simp -implicitDefEqProofs only [a_fn, a_seq, seq_nx, seq_rt, seq_ex, seq_bk, seq_ct, seq_cond, ends_cond, c_ok, c_dat, c_bl, c_int, c_and, c_or, c_nand, a_sif, a_ret, a_set, a_nils, a_tg, a_expr, a_raise, a_par, Res.bind_ok, Res.bind_ex, Res.bindS_ok, Res.bindS_ex, a_var0, a_c, a_x2, a_o2, a_res1, a_xN, a_cons, a_nil, a_o1, a_xN1, a_tup, a_lst, mkTup_eq, mkLst_eq, a_dats0, a_dats1, a_ret1, a_tBl, a_tTr, a_tNo, a_tAn, a_tOr, a_bool1, truth_bl, truth_non, truth_int, truth_lst, truth_tup, a_and, a_or, a_chain, a_boolK, a_not, a_nDV, a_neg, a_neg1, a_if, a_isi, a_oIsi, isi_int, isi_bool, isi_tuple, isi_list, isi_str, a_it, a_items_l, a_items_t, a_lc, a_wipe0, a_wipe1, a_gNm, a_gTp, a_gCo, a_gNo, a_yes, a_for, a_rg1, a_rg2, a_new, a_llst, a_rd, Option.bind_some, ends_nx, ends_rt, ends_ex, leave_dat, List.map_cons, List.map_nil, List.length_cons, List.length_nil, Nat.reduceSub, Nat.reduceAdd, List.replicate_succ, List.replicate_zero, List.cons_append, List.nil_append, List.append_nil, List.getElem?_cons_zero, List.getElem?_cons_succ, List.set_cons_zero, List.set_cons_succ, List.take_length, cond_true, cond_false, Bool.not_true, Bool.not_false, dLt_i, dLe_i, dGt_i, dGe_i, dAdd_i, dSub_i, dIsN_eq, dNotN_eq, dLen_l, dLen_t, dIx_l, dIx_t, dList_l, dList_t, dTuple_l, dTuple_t, szB_s, o1_end, oSl_t, oSl_l, oSl_s, a_sort, dInt_i, a_put, pen_rd, pen_0, pen_1, pen_2, pen_p1, pen_p2, take_cons, forGo_nil, a_star, dats_map, a_leave_end, Option.map_some, cellOf_end, rd_end, set_end, take_end, lit2, lit3, Bool.true_and, Bool.false_and, Bool.and_true, Bool.and_false, Bool.true_or, Bool.false_or, Bool.or_true, Bool.or_false, Bool.not_not, a_sl, a_pNo, a_pEx, a_asInt, a_frz0, a_zip, zip2_t, zip2_l, a_enum, enum1_l, enum1_t, g9, D.isN, leastD]
    · cases ns with
      | nil => simp at l0
      | cons v r =>
        have i0 : atI (D.int v :: r.map D.int) 0 = some (.int v) := atI_nat (n := 0) D.non (by simp)
        simp only [List.map_cons] at g9 ⊢
        simp -implicitDefEqProofs only [a_fn, a_seq, seq_nx, seq_rt, seq_ex, seq_bk, seq_ct, seq_cond, ends_cond, c_ok, c_dat, c_bl, c_int, c_and, c_or, c_nand, a_sif, a_ret, a_set, a_nils, a_tg, a_expr, a_raise, a_par, Res.bind_ok, Res.bind_ex, Res.bindS_ok, Res.bindS_ex, a_var0, a_c, a_x2, a_o2, a_res1, a_xN, a_cons, a_nil, a_o1, a_xN1, a_tup, a_lst, mkTup_eq, mkLst_eq, a_dats0, a_dats1, a_ret1, a_tBl, a_tTr, a_tNo, a_tAn, a_tOr, a_bool1, truth_bl, truth_non, truth_int, truth_lst, truth_tup, a_and, a_or, a_chain, a_boolK, a_not, a_nDV, a_neg, a_neg1, a_if, a_isi, a_oIsi, isi_int, isi_bool, isi_tuple, isi_list, isi_str, a_it, a_items_l, a_items_t, a_lc, a_wipe0, a_wipe1, a_gNm, a_gTp, a_gCo, a_gNo, a_yes, a_for, a_rg1, a_rg2, a_new, a_llst, a_rd, Option.bind_some, ends_nx, ends_rt, ends_ex, leave_dat, List.map_cons, List.map_nil, List.length_cons, List.length_nil, Nat.reduceSub, Nat.reduceAdd, List.replicate_succ, List.replicate_zero, List.cons_append, List.nil_append, List.append_nil, List.getElem?_cons_zero, List.getElem?_cons_succ, List.set_cons_zero, List.set_cons_succ, List.take_length, cond_true, cond_false, Bool.not_true, Bool.not_false, dLt_i, dLe_i, dGt_i, dGe_i, dAdd_i, dSub_i, dIsN_eq, dNotN_eq, dLen_l, dLen_t, dIx_l, dIx_t, dList_l, dList_t, dTuple_l, dTuple_t, szB_s, o1_end, oSl_t, oSl_l, oSl_s, a_sort, dInt_i, a_put, pen_rd, pen_0, pen_1, pen_2, pen_p1, pen_p2, take_cons, forGo_nil, a_star, dats_map, a_leave_end, Option.map_some, cellOf_end, rd_end, set_end, take_end, lit2, lit3, Bool.true_and, Bool.false_and, Bool.and_true, Bool.and_false, Bool.true_or, Bool.false_or, Bool.or_true, Bool.or_false, Bool.not_not, a_sl, a_pNo, a_pEx, a_asInt, a_frz0, a_zip, zip2_t, zip2_l, a_enum, enum1_l, enum1_t, g9, D.isN, leastD, i0]
  have lcC : ∀ (ρ : Slots) (S : Store), ρ[1]? = some (some (.dat (.tup cs))) → 5 < ρ.length → lcGo (gNm 5) (tBl (x2 (o2 dNotN) (x2 (o2 dIx) (xVar 1) (xVar 5)) (xC .non))) (xVar 5) ρ ((List.range cs.length).map fun i : Nat => D.int ((i : Nat) : Int)) S = .ok (closed.map fun i : Nat => D.int ((i : Nat) : Int)) S := fun ρ S h1 h5 => by
    rw [lcGo_filter (p := fun k => !(cs.getD k .non).isN) (q := fun i => .int ((i : Nat) : Int)) (List.range cs.length) ?h1]
    case h1 =>
      intro k hk
      have hk := List.mem_range.mp hk
      have g1 : (ρ.set 5 (some (.dat (D.int ((k : Nat) : Int)))))[1]? = some (some (.dat (.tup cs))) := by rw [List.getElem?_set_ne (by decide)]; exact h1
      have g5 : (ρ.set 5 (some (.dat (D.int ((k : Nat) : Int)))))[5]? = some (some (.dat (D.int ((k : Nat) : Int)))) := by rw [List.getElem?_set_self h5]
      exact ⟨_, rfl, by simp -implicitDefEqProofs only [a_fn, a_seq, seq_nx, seq_rt, seq_ex, seq_bk, seq_ct, seq_cond, ends_cond, c_ok, c_dat, c_bl, c_int, c_and, c_or, c_nand, a_sif, a_ret, a_set, a_nils, a_tg, a_expr, a_raise, a_par, Res.bind_ok, Res.bind_ex, Res.bindS_ok, Res.bindS_ex, a_var0, a_c, a_x2, a_o2, a_res1, a_xN, a_cons, a_nil, a_o1, a_xN1, a_tup, a_lst, mkTup_eq, mkLst_eq, a_dats0, a_dats1, a_ret1, a_tBl, a_tTr, a_tNo, a_tAn, a_tOr, a_bool1, truth_bl, truth_non, truth_int, truth_lst, truth_tup, a_and, a_or, a_chain, a_boolK, a_not, a_nDV, a_neg, a_neg1, a_if, a_isi, a_oIsi, isi_int, isi_bool, isi_tuple, isi_list, isi_str, a_it, a_items_l, a_items_t, a_lc, a_wipe0, a_wipe1, a_gNm, a_gTp, a_gCo, a_gNo, a_yes, a_for, a_rg1, a_rg2, a_new, a_llst, a_rd, Option.bind_some, ends_nx, ends_rt, ends_ex, leave_dat, List.map_cons, List.map_nil, List.length_cons, List.length_nil, Nat.reduceSub, Nat.reduceAdd, List.replicate_succ, List.replicate_zero, List.cons_append, List.nil_append, List.append_nil, List.getElem?_cons_zero, List.getElem?_cons_succ, List.set_cons_zero, List.set_cons_succ, List.take_length, cond_true, cond_false, Bool.not_true, Bool.not_false, dLt_i, dLe_i, dGt_i, dGe_i, dAdd_i, dSub_i, dIsN_eq, dNotN_eq, dLen_l, dLen_t, dIx_l, dIx_t, dList_l, dList_t, dTuple_l, dTuple_t, szB_s, o1_end, oSl_t, oSl_l, oSl_s, a_sort, dInt_i, a_put, pen_rd, pen_0, pen_1, pen_2, pen_p1, pen_p2, take_cons, forGo_nil, a_star, dats_map, a_leave_end, Option.map_some, cellOf_end, rd_end, set_end, take_end, lit2, lit3, Bool.true_and, Bool.false_and, Bool.and_true, Bool.and_false, Bool.true_or, Bool.false_or, Bool.or_true, Bool.or_false, Bool.not_not, a_sl, a_pNo, a_pEx, a_asInt, a_frz0, a_zip, zip2_t, zip2_l, a_enum, enum1_l, enum1_t, g1, g5, atI_nat D.non hk], fun _ => by simp -implicitDefEqProofs only [a_fn, a_seq, seq_nx, seq_rt, seq_ex, seq_bk, seq_ct, seq_cond, ends_cond, c_ok, c_dat, c_bl, c_int, c_and, c_or, c_nand, a_sif, a_ret, a_set, a_nils, a_tg, a_expr, a_raise, a_par, Res.bind_ok, Res.bind_ex, Res.bindS_ok, Res.bindS_ex, a_var0, a_c, a_x2, a_o2, a_res1, a_xN, a_cons, a_nil, a_o1, a_xN1, a_tup, a_lst, mkTup_eq, mkLst_eq, a_dats0, a_dats1, a_ret1, a_tBl, a_tTr, a_tNo, a_tAn, a_tOr, a_bool1, truth_bl, truth_non, truth_int, truth_lst, truth_tup, a_and, a_or, a_chain, a_boolK, a_not, a_nDV, a_neg, a_neg1, a_if, a_isi, a_oIsi, isi_int, isi_bool, isi_tuple, isi_list, isi_str, a_it, a_items_l, a_items_t, a_lc, a_wipe0, a_wipe1, a_gNm, a_gTp, a_gCo, a_gNo, a_yes, a_for, a_rg1, a_rg2, a_new, a_llst, a_rd, Option.bind_some, ends_nx, ends_rt, ends_ex, leave_dat, List.map_cons, List.map_nil, List.length_cons, List.length_nil, Nat.reduceSub, Nat.reduceAdd, List.replicate_succ, List.replicate_zero, List.cons_append, List.nil_append, List.append_nil, List.getElem?_cons_zero, List.getElem?_cons_succ, List.set_cons_zero, List.set_cons_succ, List.take_length, cond_true, cond_false, Bool.not_true, Bool.not_false, dLt_i, dLe_i, dGt_i, dGe_i, dAdd_i, dSub_i, dIsN_eq, dNotN_eq, dLen_l, dLen_t, dIx_l, dIx_t, dList_l, dList_t, dTuple_l, dTuple_t, szB_s, o1_end, oSl_t, oSl_l, oSl_s, a_sort, dInt_i, a_put, pen_rd, pen_0, pen_1, pen_2, pen_p1, pen_p2, take_cons, forGo_nil, a_star, dats_map, a_leave_end, Option.map_some, cellOf_end, rd_end, set_end, take_end, lit2, lit3, Bool.true_and, Bool.false_and, Bool.and_true, Bool.and_false, Bool.true_or, Bool.false_or, Bool.or_true, Bool.or_false, Bool.not_not, a_sl, a_pNo, a_pEx, a_asInt, a_frz0, a_zip, zip2_t, zip2_l, a_enum, enum1_l, enum1_t, g5]⟩
  have er : ∀ S, rng1 [.dat (.int (cs.length : Nat))] S = .ok ((List.range cs.length).map fun i => .int ((i : Nat) : Int)) S := fun S => rng1_n (le_size (by omega)) S
  have m9 : dMulA (.tup [.tup (cs.map leastD)]) (.int 9) = some (.tup (List.replicate 9 (.tup (cs.map leastD)))) := rep_1 _ 9 (by decide) (by decide)
  have gl : (noneR cs.length).length ≤ 4 := by simpa using hl
  have ga : ∀ d : D, dAdd (.tup (noneR cs.length)) (.tup [d]) = some (.tup (noneR cs.length ++ [d])) := fun d => by rw [dAdd_t, szB_le (by simp; omega)]; rfl
  have gb : ∀ d : D, dAdd (.tup ((noneR cs.length).take ((noneR cs.length).length - 1))) (.tup [d]) = some (.tup ((noneR cs.length).take ((noneR cs.length).length - 1) ++ [d])) := fun d => by rw [dAdd_t, szB_le (by simp; omega)]; rfl
  have gc : dAdd (.tup [.bl false]) (.tup ((noneR cs.length).drop 1)) = some (.tup ([.bl false] ++ (noneR cs.length).drop 1)) := by rw [dAdd_t, szB_le (by simp; omega)]; rfl
  have k1 : cutL (noneR cs.length) (some 1) none = (noneR cs.length).drop 1 := cut_from _ 1
  have km : cutL (noneR cs.length) none (some (-1)) = (noneR cs.length).take ((noneR cs.length).length - 1) := cut_but1 _
  have gd : Sz 1 4 4 (.tup (noneR cs.length)) := sn.tup
  have gmL : SzL 0 4 4 ((noneR cs.length).take ((noneR cs.length).length - 1)) := sn.sub (List.take_sublist ..)
  have gmx : ∀ d : D, Sz 1 1 10 d → SzL 1 10 20 ((noneR cs.length).take ((noneR cs.length).length - 1) ++ [d]) := fun d hd => ((gmL.up (by decide) (by decide : 4 ≤ 5) (Nat.le_refl _)).app (SzL.one (w := 5) (hd.up (by decide) (by decide) (Nat.le_refl _)) (by decide))).up (Nat.le_refl _) (by decide) (by decide)
  let V1 : List D := [.non, .bl true, .int 0, .str "draft", .lst [], .lst [.tup (noneR cs.length)], .tup [D.tup (cs.map leastD), D.tup (cs.map leastD), D.tup (cs.map leastD), D.tup (cs.map leastD), D.tup (cs.map leastD), D.tup (cs.map leastD), D.tup (cs.map leastD), D.tup (cs.map leastD), D.tup (cs.map leastD)], .tup [.tup (noneR cs.length ++ [.non])], .tup [.tup ((noneR cs.length).drop 1)], .tup [.lst (noneR cs.length)]]
  let V2 : List D := [.tup [.non], .tup [.tup []], (bif decide (((cs.length : Nat) : Int) > 1) then .tup (noneR cs.length) else .tup [.int 0]), .tup [.tup ((noneR cs.length).take ((noneR cs.length).length - 1) ++ [.int (-1)])], .tup [.tup ((noneR cs.length).take ((noneR cs.length).length - 1) ++ [.bl true])]]
  let V3 : List D := [.tup [.tup (noneR cs.length), .tup ((noneR cs.length).take ((noneR cs.length).length - 1) ++ [.str "0"])], .tup [.tup ((noneR cs.length).take ((noneR cs.length).length - 1) ++ [.tup []]), .tup (noneR cs.length)], .tup [.tup ([.bl false] ++ (noneR cs.length).drop 1)]]
  have s0 : Sz 1 1 10 (.str "0") := .of (by decide +kernel) (by decide +kernel) (by decide +kernel) rfl
  have st : Sz 1 1 10 (.tup []) := .of (by decide +kernel) (by decide +kernel) (by decide +kernel) rfl
  have gx : Sz 2 10 20 (.tup (noneR cs.length)) := gd.up (by decide) (by decide) (by decide)
  have hV : ∀ x ∈ V1 ++ V2 ++ V3, V9 x := by
    intro x hx
    simp only [V1, V2, V3, List.cons_append, List.nil_append, List.mem_cons, List.not_mem_nil, or_false] at hx
    rcases hx with rfl | rfl | rfl | rfl | rfl | rfl | rfl | rfl | rfl | rfl | rfl | rfl | rfl | rfl | rfl | rfl | rfl | rfl
    · exact .non _ _ _
    · exact .bl _ _ _ _
    · exact .int0 (by decide +kernel) _ _ _
    · exact .of (by decide +kernel) (by decide +kernel) (by decide +kernel) rfl
    · exact .of (by decide +kernel) (by decide +kernel) (by decide +kernel) rfl
    · exact (SzL.one gd (by decide)).lst.up (by decide) (by decide) (by decide)
    · exact (SzL.rep (k := 9) (v := 12) (c := 100) sl.tup (by decide) (by decide) (by decide)).tup.up (by decide) (by decide) (by decide)
    · exact V9.one (w := 10) (b := 20) (((sn.up (by decide : 0 ≤ 1) (by decide : 4 ≤ 5) (Nat.le_refl _)).app (SzL.one (w := 5) (.non 1 5 0) (by decide))).up (Nat.le_refl _) (by decide) (by decide))
    · exact V9.one (w := 4) (b := 4) ((sn.sub (List.drop_sublist ..)).up (by decide) (by decide) (by decide))
    · exact (SzL.one (sn.lst) (by decide)).tup.up (by decide) (by decide) (by decide)
    · exact .of (by decide +kernel) (by decide +kernel) (by decide +kernel) rfl
    · exact .of (by decide +kernel) (by decide +kernel) (by decide +kernel) rfl
    · cases decide (((cs.length : Nat) : Int) > 1)
      · show V9 (.tup [.int 0])
        exact Sz.up (n := 1) (w := 1) (b := 1) (.of (by decide +kernel) (by decide +kernel) (by decide +kernel) rfl) (by decide) (by decide) (by decide)
      · exact gd.up (by decide) (by decide) (by decide)
    · exact V9.one (gmx _ (.int0 (by decide +kernel) _ _ _))
    · exact V9.one (gmx _ (.bl _ _ _ _))
    · exact (Sz.t2 (n := 2) (w := 10) (b := 20) (c := 42) gx (gmx _ s0).tup).up (by decide) (by decide) (by decide)
    · exact (Sz.t2 (n := 2) (w := 10) (b := 20) (c := 42) (gmx _ st).tup gx).up (by decide) (by decide) (by decide)
    · exact V9.one (w := 10) (b := 20) (((SzL.one (n := 1) (w := 4) (b := 0) (.bl _ _ _ false) (by decide)).app ((sn.sub (List.drop_sublist ..)).up (by decide : 0 ≤ 1) (Nat.le_refl _) (Nat.le_refl _))).up (Nat.le_refl _) (by decide) (by decide))
  let T1 : Store := T ++ [some V1]
  let T2 : Store := T1 ++ [some (V1 ++ V2)]
  have hS := h.len
  have p3 : Pen n (T2 ++ [some (V1 ++ V2 ++ V3)]) (S ++ [some V1] ++ [some (V1 ++ V2)] ++ [some (V1 ++ V2 ++ V3)]) := pen_new (pen_new (pen_new h _) _) _
  obtain ⟨ρ', S4, e4, vals, T', z5, z8, rfl, hvl, hll, p4, hT⟩ := forGo_run (enc := fun i : Nat => D.int ((i : Nat) : Int)) (G := gNm 5) (f := lb1_l_law_bad_draft) (fun pre ρ S => ∃ (vals : List D) (T' : Store) (z5 z8 : Option DV), ρ = [some (.obj 0), some (.dat (.tup cs)), some (.dat (.int (cs.length : Nat))), some (.dat (.lst (closed.map fun i => .int ((i : Nat) : Int)))), some (.obj (T'.length + 1)), z5, some (.dat (.tup (noneR cs.length))), some (.dat (.tup (cs.map leastD))), z8, none, none] ∧ (∀ x ∈ vals, V9 x) ∧ (1 ≤ vals.length ∧ vals.length ≤ 18 + 4 * pre.length) ∧ Pen n (T' ++ [some vals]) S ∧ ∃ J, T' = T ++ J) closed [] [some (.obj 0), some (.dat (.tup cs)), some (.dat (.int (cs.length : Nat))), some (.dat (.lst (closed.map fun i => .int ((i : Nat) : Int)))), some (.obj (T2.length + 1)), none, some (.dat (.tup (noneR cs.length))), some (.dat (.tup (cs.map leastD))), none, none, none] _ ⟨V1 ++ V2 ++ V3, T2, _, _, rfl, hV, by simp [V1, V2, V3], p3, ⟨[some V1] ++ [some (V1 ++ V2)], by simp [T2, T1]⟩⟩ (by
    rintro pre k post ρ S hpp ⟨vals, T', z5, z8, rfl, hv, hl', hp, J, rfl⟩
    have hm : k ∈ closed := by rw [show closed = pre ++ k :: post by simpa using hpp]; simp
    have hpl : pre.length < 4 := by
      have := congrArg List.length (show closed = pre ++ k :: post by simpa using hpp)
      simp only [List.length_append, List.length_cons] at this
      omega
    obtain ⟨vals', S', q8, e, p, hv', hl2⟩ := bad_draft_in hc hl closed hcl (List.length_pos_of_mem hm) lcl hm hv (by omega) hp (some (.dat (.int (cs.length : Nat)))) (some (.dat (.tup (cs.map leastD)))) z8 none none
    exact ⟨_, _, S', rfl, .inl e, vals', _, _, _, rfl, hv', by simp; omega, p, J ++ [some vals], by simp⟩)
  obtain ⟨J, rfl⟩ := hT
  simp only [List.nil_append] at hll
  obtain ⟨d, S6, e6, p6, hd⟩ := one_cell p4 (by have l_ : LIM = 2147483648 := rfl; omega) vals (at_0 _) hll.1 (by omega)
  have c2 : cat2 (.obj (T.length + 1)) (.dat (.lst V2)) (S ++ [some V1]) = .ok (V1 ++ V2) (S ++ [some V1]) := last_cat hS.symm (by simp [V1, V2])
  have l1 : (S ++ [some V1]).length = T1.length + 1 := by simp [T1]; omega
  have c3 : cat2 (.obj (T1.length + 1)) (.dat (.lst V3)) (S ++ [some V1] ++ [some (V1 ++ V2)]) = .ok (V1 ++ V2 ++ V3) (S ++ [some V1] ++ [some (V1 ++ V2)]) := last_cat l1.symm (by simp [V1, V2, V3])
  have l2 : (S ++ [some V1] ++ [some (V1 ++ V2)]).length = T2.length + 1 := by simp [T2, T1]; omega
  have v1 : [D.non, .bl true, .int 0, .str "draft", .lst [], .lst [.tup (noneR cs.length)], .tup [D.tup (cs.map leastD), D.tup (cs.map leastD), D.tup (cs.map leastD), D.tup (cs.map leastD), D.tup (cs.map leastD), D.tup (cs.map leastD), D.tup (cs.map leastD), D.tup (cs.map leastD), D.tup (cs.map leastD)], .tup [.tup (noneR cs.length ++ [.non])], .tup [.tup ((noneR cs.length).drop 1)], .tup [.lst (noneR cs.length)]] = V1 := rfl
  have v2 : [D.tup [.non], .tup [.tup []], (bif decide (((cs.length : Nat) : Int) > 1) then .tup (noneR cs.length) else .tup [.int 0]), .tup [.tup ((noneR cs.length).take ((noneR cs.length).length - 1) ++ [.int (-1)])], .tup [.tup ((noneR cs.length).take ((noneR cs.length).length - 1) ++ [.bl true])]] = V2 := rfl
  have v3 : [D.tup [.tup (noneR cs.length), .tup ((noneR cs.length).take ((noneR cs.length).length - 1) ++ [.str "0"])], .tup [.tup ((noneR cs.length).take ((noneR cs.length).length - 1) ++ [.tup []]), .tup (noneR cs.length)], .tup [.tup (.bl false :: (noneR cs.length).drop 1)]] = V3 := rfl
  have m9' : dMulA (.tup [.tup (cs.map leastD)]) (.int 9) = some (.tup [D.tup (cs.map leastD), D.tup (cs.map leastD), D.tup (cs.map leastD), D.tup (cs.map leastD), D.tup (cs.map leastD), D.tup (cs.map leastD), D.tup (cs.map leastD), D.tup (cs.map leastD), D.tup (cs.map leastD)]) := m9
  have zc : szB cs.length = true := szB_le (by omega)
  have tn : o1 dTuple [.dat (.lst (noneR cs.length))] = fun S => .ok (.dat (.tup (noneR cs.length))) S := rfl
  simp -implicitDefEqProofs only [a_fn, a_seq, seq_nx, seq_rt, seq_ex, seq_bk, seq_ct, seq_cond, ends_cond, c_ok, c_dat, c_bl, c_int, c_and, c_or, c_nand, a_sif, a_ret, a_set, a_nils, a_tg, a_expr, a_raise, a_par, Res.bind_ok, Res.bind_ex, Res.bindS_ok, Res.bindS_ex, a_var0, a_c, a_x2, a_o2, a_res1, a_xN, a_cons, a_nil, a_o1, a_xN1, a_tup, a_lst, mkTup_eq, mkLst_eq, a_dats0, a_dats1, a_ret1, a_tBl, a_tTr, a_tNo, a_tAn, a_tOr, a_bool1, truth_bl, truth_non, truth_int, truth_lst, truth_tup, a_and, a_or, a_chain, a_boolK, a_not, a_nDV, a_neg, a_neg1, a_if, a_isi, a_oIsi, isi_int, isi_bool, isi_tuple, isi_list, isi_str, a_it, a_items_l, a_items_t, a_lc, a_wipe0, a_wipe1, a_gNm, a_gTp, a_gCo, a_gNo, a_yes, a_for, a_rg1, a_rg2, a_new, a_llst, a_rd, Option.bind_some, ends_nx, ends_rt, ends_ex, leave_dat, List.map_cons, List.map_nil, List.length_cons, List.length_nil, Nat.reduceSub, Nat.reduceAdd, List.replicate_succ, List.replicate_zero, List.cons_append, List.nil_append, List.append_nil, List.getElem?_cons_zero, List.getElem?_cons_succ, List.set_cons_zero, List.set_cons_succ, List.take_length, cond_true, cond_false, Bool.not_true, Bool.not_false, dLt_i, dLe_i, dGt_i, dGe_i, dAdd_i, dSub_i, dIsN_eq, dNotN_eq, dLen_l, dLen_t, dIx_l, dIx_t, dList_l, dList_t, dTuple_l, dTuple_t, szB_s, o1_end, oSl_t, oSl_l, oSl_s, a_sort, dInt_i, a_put, pen_rd, pen_0, pen_1, pen_2, pen_p1, pen_p2, take_cons, forGo_nil, a_star, dats_map, a_leave_end, Option.map_some, cellOf_end, rd_end, set_end, take_end, lit2, lit3, Bool.true_and, Bool.false_and, Bool.and_true, Bool.and_false, Bool.true_or, Bool.false_or, Bool.or_true, Bool.or_false, Bool.not_not, a_sl, a_pNo, a_pEx, a_asInt, a_frz0, a_zip, zip2_t, zip2_l, a_enum, enum1_l, enum1_t, mr, zc]
  rw [lcL _ _ (by simp)]
  simp -implicitDefEqProofs only [a_fn, a_seq, seq_nx, seq_rt, seq_ex, seq_bk, seq_ct, seq_cond, ends_cond, c_ok, c_dat, c_bl, c_int, c_and, c_or, c_nand, a_sif, a_ret, a_set, a_nils, a_tg, a_expr, a_raise, a_par, Res.bind_ok, Res.bind_ex, Res.bindS_ok, Res.bindS_ex, a_var0, a_c, a_x2, a_o2, a_res1, a_xN, a_cons, a_nil, a_o1, a_xN1, a_tup, a_lst, mkTup_eq, mkLst_eq, a_dats0, a_dats1, a_ret1, a_tBl, a_tTr, a_tNo, a_tAn, a_tOr, a_bool1, truth_bl, truth_non, truth_int, truth_lst, truth_tup, a_and, a_or, a_chain, a_boolK, a_not, a_nDV, a_neg, a_neg1, a_if, a_isi, a_oIsi, isi_int, isi_bool, isi_tuple, isi_list, isi_str, a_it, a_items_l, a_items_t, a_lc, a_wipe0, a_wipe1, a_gNm, a_gTp, a_gCo, a_gNo, a_yes, a_for, a_rg1, a_rg2, a_new, a_llst, a_rd, Option.bind_some, ends_nx, ends_rt, ends_ex, leave_dat, List.map_cons, List.map_nil, List.length_cons, List.length_nil, Nat.reduceSub, Nat.reduceAdd, List.replicate_succ, List.replicate_zero, List.cons_append, List.nil_append, List.append_nil, List.getElem?_cons_zero, List.getElem?_cons_succ, List.set_cons_zero, List.set_cons_succ, List.take_length, cond_true, cond_false, Bool.not_true, Bool.not_false, dLt_i, dLe_i, dGt_i, dGe_i, dAdd_i, dSub_i, dIsN_eq, dNotN_eq, dLen_l, dLen_t, dIx_l, dIx_t, dList_l, dList_t, dTuple_l, dTuple_t, szB_s, o1_end, oSl_t, oSl_l, oSl_s, a_sort, dInt_i, a_put, pen_rd, pen_0, pen_1, pen_2, pen_p1, pen_p2, take_cons, forGo_nil, a_star, dats_map, a_leave_end, Option.map_some, cellOf_end, rd_end, set_end, take_end, lit2, lit3, Bool.true_and, Bool.false_and, Bool.and_true, Bool.and_false, Bool.true_or, Bool.false_or, Bool.or_true, Bool.or_false, Bool.not_not, a_sl, a_pNo, a_pEx, a_asInt, a_frz0, a_zip, zip2_t, zip2_l, a_enum, enum1_l, enum1_t, er, List.length_map, List.length_range, zc]
  rw [lcC _ _ rfl (by simp)]
  simp -implicitDefEqProofs only [a_fn, a_seq, seq_nx, seq_rt, seq_ex, seq_bk, seq_ct, seq_cond, ends_cond, c_ok, c_dat, c_bl, c_int, c_and, c_or, c_nand, a_sif, a_ret, a_set, a_nils, a_tg, a_expr, a_raise, a_par, Res.bind_ok, Res.bind_ex, Res.bindS_ok, Res.bindS_ex, a_var0, a_c, a_x2, a_o2, a_res1, a_xN, a_cons, a_nil, a_o1, a_xN1, a_tup, a_lst, mkTup_eq, mkLst_eq, a_dats0, a_dats1, a_ret1, a_tBl, a_tTr, a_tNo, a_tAn, a_tOr, a_bool1, truth_bl, truth_non, truth_int, truth_lst, truth_tup, a_and, a_or, a_chain, a_boolK, a_not, a_nDV, a_neg, a_neg1, a_if, a_isi, a_oIsi, isi_int, isi_bool, isi_tuple, isi_list, isi_str, a_it, a_items_l, a_items_t, a_lc, a_wipe0, a_wipe1, a_gNm, a_gTp, a_gCo, a_gNo, a_yes, a_for, a_rg1, a_rg2, a_new, a_llst, a_rd, Option.bind_some, ends_nx, ends_rt, ends_ex, leave_dat, List.map_cons, List.map_nil, List.length_cons, List.length_nil, Nat.reduceSub, Nat.reduceAdd, List.replicate_succ, List.replicate_zero, List.cons_append, List.nil_append, List.append_nil, List.getElem?_cons_zero, List.getElem?_cons_succ, List.set_cons_zero, List.set_cons_succ, List.take_length, cond_true, cond_false, Bool.not_true, Bool.not_false, dLt_i, dLe_i, dGt_i, dGe_i, dAdd_i, dSub_i, dIsN_eq, dNotN_eq, dLen_l, dLen_t, dIx_l, dIx_t, dList_l, dList_t, dTuple_l, dTuple_t, szB_s, o1_end, oSl_t, oSl_l, oSl_s, a_sort, dInt_i, a_put, pen_rd, pen_0, pen_1, pen_2, pen_p1, pen_p2, take_cons, forGo_nil, a_star, dats_map, a_leave_end, Option.map_some, cellOf_end, rd_end, set_end, take_end, lit2, lit3, Bool.true_and, Bool.false_and, Bool.and_true, Bool.and_false, Bool.true_or, Bool.false_or, Bool.or_true, Bool.or_false, Bool.not_not, a_sl, a_pNo, a_pEx, a_asInt, a_frz0, a_zip, zip2_t, zip2_l, a_enum, enum1_l, enum1_t, m9', ga, k1]
  rw [v1]
  simp -implicitDefEqProofs only [a_fn, a_seq, seq_nx, seq_rt, seq_ex, seq_bk, seq_ct, seq_cond, ends_cond, c_ok, c_dat, c_bl, c_int, c_and, c_or, c_nand, a_sif, a_ret, a_set, a_nils, a_tg, a_expr, a_raise, a_par, Res.bind_ok, Res.bind_ex, Res.bindS_ok, Res.bindS_ex, a_var0, a_c, a_x2, a_o2, a_res1, a_xN, a_cons, a_nil, a_o1, a_xN1, a_tup, a_lst, mkTup_eq, mkLst_eq, a_dats0, a_dats1, a_ret1, a_tBl, a_tTr, a_tNo, a_tAn, a_tOr, a_bool1, truth_bl, truth_non, truth_int, truth_lst, truth_tup, a_and, a_or, a_chain, a_boolK, a_not, a_nDV, a_neg, a_neg1, a_if, a_isi, a_oIsi, isi_int, isi_bool, isi_tuple, isi_list, isi_str, a_it, a_items_l, a_items_t, a_lc, a_wipe0, a_wipe1, a_gNm, a_gTp, a_gCo, a_gNo, a_yes, a_for, a_rg1, a_rg2, a_new, a_llst, a_rd, Option.bind_some, ends_nx, ends_rt, ends_ex, leave_dat, List.map_cons, List.map_nil, List.length_cons, List.length_nil, Nat.reduceSub, Nat.reduceAdd, List.replicate_succ, List.replicate_zero, List.cons_append, List.nil_append, List.append_nil, List.getElem?_cons_zero, List.getElem?_cons_succ, List.set_cons_zero, List.set_cons_succ, List.take_length, cond_true, cond_false, Bool.not_true, Bool.not_false, dLt_i, dLe_i, dGt_i, dGe_i, dAdd_i, dSub_i, dIsN_eq, dNotN_eq, dLen_l, dLen_t, dIx_l, dIx_t, dList_l, dList_t, dTuple_l, dTuple_t, szB_s, o1_end, oSl_t, oSl_l, oSl_s, a_sort, dInt_i, a_put, pen_rd, pen_0, pen_1, pen_2, pen_p1, pen_p2, take_cons, forGo_nil, a_star, dats_map, a_leave_end, Option.map_some, cellOf_end, rd_end, set_end, take_end, lit2, lit3, Bool.true_and, Bool.false_and, Bool.and_true, Bool.and_false, Bool.true_or, Bool.false_or, Bool.or_true, Bool.or_false, Bool.not_not, a_sl, a_pNo, a_pEx, a_asInt, a_frz0, a_zip, zip2_t, zip2_l, a_enum, enum1_l, enum1_t, show szB V1.length = true from rfl, hS, a_cat, km, gb]
  rw [v2]
  simp -implicitDefEqProofs only [a_fn, a_seq, seq_nx, seq_rt, seq_ex, seq_bk, seq_ct, seq_cond, ends_cond, c_ok, c_dat, c_bl, c_int, c_and, c_or, c_nand, a_sif, a_ret, a_set, a_nils, a_tg, a_expr, a_raise, a_par, Res.bind_ok, Res.bind_ex, Res.bindS_ok, Res.bindS_ex, a_var0, a_c, a_x2, a_o2, a_res1, a_xN, a_cons, a_nil, a_o1, a_xN1, a_tup, a_lst, mkTup_eq, mkLst_eq, a_dats0, a_dats1, a_ret1, a_tBl, a_tTr, a_tNo, a_tAn, a_tOr, a_bool1, truth_bl, truth_non, truth_int, truth_lst, truth_tup, a_and, a_or, a_chain, a_boolK, a_not, a_nDV, a_neg, a_neg1, a_if, a_isi, a_oIsi, isi_int, isi_bool, isi_tuple, isi_list, isi_str, a_it, a_items_l, a_items_t, a_lc, a_wipe0, a_wipe1, a_gNm, a_gTp, a_gCo, a_gNo, a_yes, a_for, a_rg1, a_rg2, a_new, a_llst, a_rd, Option.bind_some, ends_nx, ends_rt, ends_ex, leave_dat, List.map_cons, List.map_nil, List.length_cons, List.length_nil, Nat.reduceSub, Nat.reduceAdd, List.replicate_succ, List.replicate_zero, List.cons_append, List.nil_append, List.append_nil, List.getElem?_cons_zero, List.getElem?_cons_succ, List.set_cons_zero, List.set_cons_succ, List.take_length, cond_true, cond_false, Bool.not_true, Bool.not_false, dLt_i, dLe_i, dGt_i, dGe_i, dAdd_i, dSub_i, dIsN_eq, dNotN_eq, dLen_l, dLen_t, dIx_l, dIx_t, dList_l, dList_t, dTuple_l, dTuple_t, szB_s, o1_end, oSl_t, oSl_l, oSl_s, a_sort, dInt_i, a_put, pen_rd, pen_0, pen_1, pen_2, pen_p1, pen_p2, take_cons, forGo_nil, a_star, dats_map, a_leave_end, Option.map_some, cellOf_end, rd_end, set_end, take_end, lit2, lit3, Bool.true_and, Bool.false_and, Bool.and_true, Bool.and_false, Bool.true_or, Bool.false_or, Bool.or_true, Bool.or_false, Bool.not_not, a_sl, a_pNo, a_pEx, a_asInt, a_frz0, a_zip, zip2_t, zip2_l, a_enum, enum1_l, enum1_t, show szB V2.length = true from rfl, c2, l1, a_cat, km, gb, k1, gc]
  rw [v3]
  simp -implicitDefEqProofs only [a_fn, a_seq, seq_nx, seq_rt, seq_ex, seq_bk, seq_ct, seq_cond, ends_cond, c_ok, c_dat, c_bl, c_int, c_and, c_or, c_nand, a_sif, a_ret, a_set, a_nils, a_tg, a_expr, a_raise, a_par, Res.bind_ok, Res.bind_ex, Res.bindS_ok, Res.bindS_ex, a_var0, a_c, a_x2, a_o2, a_res1, a_xN, a_cons, a_nil, a_o1, a_xN1, a_tup, a_lst, mkTup_eq, mkLst_eq, a_dats0, a_dats1, a_ret1, a_tBl, a_tTr, a_tNo, a_tAn, a_tOr, a_bool1, truth_bl, truth_non, truth_int, truth_lst, truth_tup, a_and, a_or, a_chain, a_boolK, a_not, a_nDV, a_neg, a_neg1, a_if, a_isi, a_oIsi, isi_int, isi_bool, isi_tuple, isi_list, isi_str, a_it, a_items_l, a_items_t, a_lc, a_wipe0, a_wipe1, a_gNm, a_gTp, a_gCo, a_gNo, a_yes, a_for, a_rg1, a_rg2, a_new, a_llst, a_rd, Option.bind_some, ends_nx, ends_rt, ends_ex, leave_dat, List.map_cons, List.map_nil, List.length_cons, List.length_nil, Nat.reduceSub, Nat.reduceAdd, List.replicate_succ, List.replicate_zero, List.cons_append, List.nil_append, List.append_nil, List.getElem?_cons_zero, List.getElem?_cons_succ, List.set_cons_zero, List.set_cons_succ, List.take_length, cond_true, cond_false, Bool.not_true, Bool.not_false, dLt_i, dLe_i, dGt_i, dGe_i, dAdd_i, dSub_i, dIsN_eq, dNotN_eq, dLen_l, dLen_t, dIx_l, dIx_t, dList_l, dList_t, dTuple_l, dTuple_t, szB_s, o1_end, oSl_t, oSl_l, oSl_s, a_sort, dInt_i, a_put, pen_rd, pen_0, pen_1, pen_2, pen_p1, pen_p2, take_cons, forGo_nil, a_star, dats_map, a_leave_end, Option.map_some, cellOf_end, rd_end, set_end, take_end, lit2, lit3, Bool.true_and, Bool.false_and, Bool.and_true, Bool.and_false, Bool.true_or, Bool.false_or, Bool.or_true, Bool.or_false, Bool.not_not, a_sl, a_pNo, a_pEx, a_asInt, a_frz0, a_zip, zip2_t, zip2_l, a_enum, enum1_l, enum1_t, show szB V3.length = true from rfl, c3, l2]
  rw [e4]
  simp -implicitDefEqProofs only [a_fn, a_seq, seq_nx, seq_rt, seq_ex, seq_bk, seq_ct, seq_cond, ends_cond, c_ok, c_dat, c_bl, c_int, c_and, c_or, c_nand, a_sif, a_ret, a_set, a_nils, a_tg, a_expr, a_raise, a_par, Res.bind_ok, Res.bind_ex, Res.bindS_ok, Res.bindS_ex, a_var0, a_c, a_x2, a_o2, a_res1, a_xN, a_cons, a_nil, a_o1, a_xN1, a_tup, a_lst, mkTup_eq, mkLst_eq, a_dats0, a_dats1, a_ret1, a_tBl, a_tTr, a_tNo, a_tAn, a_tOr, a_bool1, truth_bl, truth_non, truth_int, truth_lst, truth_tup, a_and, a_or, a_chain, a_boolK, a_not, a_nDV, a_neg, a_neg1, a_if, a_isi, a_oIsi, isi_int, isi_bool, isi_tuple, isi_list, isi_str, a_it, a_items_l, a_items_t, a_lc, a_wipe0, a_wipe1, a_gNm, a_gTp, a_gCo, a_gNo, a_yes, a_for, a_rg1, a_rg2, a_new, a_llst, a_rd, Option.bind_some, ends_nx, ends_rt, ends_ex, leave_dat, List.map_cons, List.map_nil, List.length_cons, List.length_nil, Nat.reduceSub, Nat.reduceAdd, List.replicate_succ, List.replicate_zero, List.cons_append, List.nil_append, List.append_nil, List.getElem?_cons_zero, List.getElem?_cons_succ, List.set_cons_zero, List.set_cons_succ, List.take_length, cond_true, cond_false, Bool.not_true, Bool.not_false, dLt_i, dLe_i, dGt_i, dGe_i, dAdd_i, dSub_i, dIsN_eq, dNotN_eq, dLen_l, dLen_t, dIx_l, dIx_t, dList_l, dList_t, dTuple_l, dTuple_t, szB_s, o1_end, oSl_t, oSl_l, oSl_s, a_sort, dInt_i, a_put, pen_rd, pen_0, pen_1, pen_2, pen_p1, pen_p2, take_cons, forGo_nil, a_star, dats_map, a_leave_end, Option.map_some, cellOf_end, rd_end, set_end, take_end, lit2, lit3, Bool.true_and, Bool.false_and, Bool.and_true, Bool.and_false, Bool.true_or, Bool.false_or, Bool.or_true, Bool.or_false, Bool.not_not, a_sl, a_pNo, a_pEx, a_asInt, a_frz0, a_zip, zip2_t, zip2_l, a_enum, enum1_l, enum1_t, e6]
  have p7 := pen_cutC (k := T.length) p6
  rw [show (T ++ J ++ [some vals]).take T.length = T by simp] at p7
  exact ⟨d, _, rfl, p7, hvl d hd⟩
end T08

set_option maxHeartbeats 400000
namespace T08
open PySem PySem.Spec PyProof.Rows L2 DL
theorem open_body (cells : List Int) (hl : cells.length = 12) (ns : List Int) (k : Nat) (v : Int) : ∃ cells' : List Int, cells'.length = 12 ∧
    lb1_l_law_open [some (.scr ns), some (.obj 0), some (.dat (.int (k : Nat))), some (.dat (.int v))] [some (cells.map .int)] = .nx [some (.scr ns), some (.obj 0), some (.dat (.int (k : Nat))), some (.dat (.int v))] [some (cells'.map .int)] := by
  unfold lb1_l_law_open
  have m : dMod (.int (k : Nat)) (.int 12) = some (.int (((k % 12 : Nat) : Int))) := by rw [dMod_i (by decide)]; congr 1
  have hk : k % 12 < cells.length := by omega
  simp -implicitDefEqProofs only [a_fn, a_seq, seq_nx, seq_rt, seq_ex, seq_bk, seq_ct, seq_cond, ends_cond, c_ok, c_dat, c_bl, c_int, c_and, c_or, c_nand, a_sif, a_ret, a_set, a_nils, a_tg, a_expr, a_raise, a_par, Res.bind_ok, Res.bind_ex, Res.bindS_ok, Res.bindS_ex, a_var0, a_c, a_x2, a_o2, a_res1, a_xN, a_cons, a_nil, a_o1, a_xN1, a_tup, a_lst, mkTup_eq, mkLst_eq, a_dats0, a_dats1, a_ret1, a_tBl, a_tTr, a_tNo, a_tAn, a_tOr, a_bool1, truth_bl, truth_non, truth_int, truth_lst, truth_tup, a_and, a_or, a_chain, a_boolK, a_not, a_nDV, a_neg, a_neg1, a_if, a_isi, a_oIsi, isi_int, isi_bool, isi_tuple, isi_list, isi_str, a_it, a_items_l, a_items_t, a_lc, a_wipe0, a_wipe1, a_gNm, a_gTp, a_gCo, a_gNo, a_yes, a_for, a_rg1, a_rg2, a_new, a_llst, a_rd, Option.bind_some, ends_nx, ends_rt, ends_ex, leave_dat, List.map_cons, List.map_nil, List.length_cons, List.length_nil, Nat.reduceSub, Nat.reduceAdd, List.replicate_succ, List.replicate_zero, List.cons_append, List.nil_append, List.append_nil, List.getElem?_cons_zero, List.getElem?_cons_succ, List.set_cons_zero, List.set_cons_succ, List.take_length, cond_true, cond_false, Bool.not_true, Bool.not_false, dLt_i, dLe_i, dGt_i, dGe_i, dAdd_i, dSub_i, dIsN_eq, dNotN_eq, dLen_l, dLen_t, dIx_l, dIx_t, dList_l, dList_t, dTuple_l, dTuple_t, szB_s, o1_end, oSl_t, oSl_l, oSl_s, a_sort, dInt_i, a_put, pen_rd, pen_0, pen_1, pen_2, pen_p1, pen_p2, take_cons, forGo_nil, a_star, dats_map, a_leave_end, Option.map_some, cellOf_end, rd_end, set_end, take_end, lit2, lit3, Bool.true_and, Bool.false_and, Bool.and_true, Bool.and_false, Bool.true_or, Bool.false_or, Bool.or_true, Bool.or_false, Bool.not_not, a_sl, a_pNo, a_pEx, a_asInt, a_frz0, a_zip, zip2_t, zip2_l, a_enum, enum1_l, enum1_t, m, atI_map D.int 0 hk]
  have e : ixN (cells.map D.int).length ((k % 12 : Nat) : Int) = some (k % 12) := by
    unfold ixN
    rw [if_pos (by omega), if_pos (by simp; omega), Int.toNat_natCast]
  refine ⟨cells.set (k % 12) (cells.getD (k % 12) 0 + v), by simpa using hl, ?_⟩
  simp only [putIx, DL.cellOf, List.getElem?_cons_zero, e, List.set_cons_zero, List.map_set]
theorem open_ok (ns : List Int) (hn : ns.length ≤ 63) : ∃ S, g_l_law_open [.scr ns] [] = .ok (.obj 0) S ∧ Pen 0 [] S := by
  unfold g_l_law_open s_l_law_open
  have c1 : cutL ns none (some 12) = ns.take 12 := cut_to ns 12
  have c2 : cutL ns (some 12) (some 63) = (ns.drop 12).take 51 := cut_mid ns 12 63 (by decide)
  simp -implicitDefEqProofs only [a_fn, a_seq, seq_nx, seq_rt, seq_ex, seq_bk, seq_ct, seq_cond, ends_cond, c_ok, c_dat, c_bl, c_int, c_and, c_or, c_nand, a_sif, a_ret, a_set, a_nils, a_tg, a_expr, a_raise, a_par, Res.bind_ok, Res.bind_ex, Res.bindS_ok, Res.bindS_ex, a_var0, a_c, a_x2, a_o2, a_res1, a_xN, a_cons, a_nil, a_o1, a_xN1, a_tup, a_lst, mkTup_eq, mkLst_eq, a_dats0, a_dats1, a_ret1, a_tBl, a_tTr, a_tNo, a_tAn, a_tOr, a_bool1, truth_bl, truth_non, truth_int, truth_lst, truth_tup, a_and, a_or, a_chain, a_boolK, a_not, a_nDV, a_neg, a_neg1, a_if, a_isi, a_oIsi, isi_int, isi_bool, isi_tuple, isi_list, isi_str, a_it, a_items_l, a_items_t, a_lc, a_wipe0, a_wipe1, a_gNm, a_gTp, a_gCo, a_gNo, a_yes, a_for, a_rg1, a_rg2, a_new, a_llst, a_rd, Option.bind_some, ends_nx, ends_rt, ends_ex, leave_dat, List.map_cons, List.map_nil, List.length_cons, List.length_nil, Nat.reduceSub, Nat.reduceAdd, List.replicate_succ, List.replicate_zero, List.cons_append, List.nil_append, List.append_nil, List.getElem?_cons_zero, List.getElem?_cons_succ, List.set_cons_zero, List.set_cons_succ, List.take_length, cond_true, cond_false, Bool.not_true, Bool.not_false, dLt_i, dLe_i, dGt_i, dGe_i, dAdd_i, dSub_i, dIsN_eq, dNotN_eq, dLen_l, dLen_t, dIx_l, dIx_t, dList_l, dList_t, dTuple_l, dTuple_t, szB_s, o1_end, oSl_t, oSl_l, oSl_s, a_sort, dInt_i, a_put, pen_rd, pen_0, pen_1, pen_2, pen_p1, pen_p2, take_cons, forGo_nil, a_star, dats_map, a_leave_end, Option.map_some, cellOf_end, rd_end, set_end, take_end, lit2, lit3, Bool.true_and, Bool.false_and, Bool.and_true, Bool.and_false, Bool.true_or, Bool.false_or, Bool.or_true, Bool.or_false, Bool.not_not, a_sl, a_pNo, a_pEx, a_asInt, a_frz0, a_zip, zip2_t, zip2_l, a_enum, enum1_l, enum1_t, a_retN, a_list, c1, c2, enum_map]
  have loop : ∃ ρ' S', forGo (gTp (gCo (gNm 2) (gCo (gNm 3) gNo))) lb1_l_law_open ((((ns.drop 12).take 51).zipIdx.map fun p => (p.2, p.1)).map fun p => pairD (.int ((p.1 : Nat) : Int)) (.int p.2)) [some (.scr ns), some (.obj 0), none, none] [some ((ns.take 12).map .int)] = .nx ρ' S' ∧ ∃ o2 o3, ∃ cells : List Int, ρ' = [some (.scr ns), some (.obj 0), o2, o3] ∧ S' = [some (cells.map .int)] := by
    obtain ⟨ρ', S', e, o2, o3, cells, h1, h2, _⟩ := forGo_run (enc := fun p : Nat × Int => pairD (.int ((p.1 : Nat) : Int)) (.int p.2)) (G := gTp (gCo (gNm 2) (gCo (gNm 3) gNo))) (f := lb1_l_law_open) (fun _ ρ S => ∃ o2 o3, ∃ cells : List Int, ρ = [some (.scr ns), some (.obj 0), o2, o3] ∧ S = [some (cells.map .int)] ∧ (ns.length > 12 → cells.length = 12)) (((ns.drop 12).take 51).zipIdx.map fun p => (p.2, p.1)) [] [some (.scr ns), some (.obj 0), none, none] [some ((ns.take 12).map .int)] ⟨_, _, ns.take 12, rfl, rfl, fun h => by simp; omega⟩ (by
      rintro pre a post ρ S hpp ⟨o2, o3, cells, rfl, rfl, hc⟩
      have hlen : ns.length > 12 := by
        have := congrArg List.length hpp
        simp at this
        omega
      obtain ⟨cells', l', e⟩ := open_body cells (hc hlen) ns a.1 a.2
      exact ⟨_, _, _, rfl, .inl e, ⟨_, _, cells', rfl, rfl, fun _ => l'⟩⟩)
    exact ⟨ρ', S', e, o2, o3, cells, h1, h2⟩
  obtain ⟨ρ', S', e, o2, o3, cells, rfl, rfl⟩ := loop
  simp -implicitDefEqProofs only [a_fn, a_seq, seq_nx, seq_rt, seq_ex, seq_bk, seq_ct, seq_cond, ends_cond, c_ok, c_dat, c_bl, c_int, c_and, c_or, c_nand, a_sif, a_ret, a_set, a_nils, a_tg, a_expr, a_raise, a_par, Res.bind_ok, Res.bind_ex, Res.bindS_ok, Res.bindS_ex, a_var0, a_c, a_x2, a_o2, a_res1, a_xN, a_cons, a_nil, a_o1, a_xN1, a_tup, a_lst, mkTup_eq, mkLst_eq, a_dats0, a_dats1, a_ret1, a_tBl, a_tTr, a_tNo, a_tAn, a_tOr, a_bool1, truth_bl, truth_non, truth_int, truth_lst, truth_tup, a_and, a_or, a_chain, a_boolK, a_not, a_nDV, a_neg, a_neg1, a_if, a_isi, a_oIsi, isi_int, isi_bool, isi_tuple, isi_list, isi_str, a_it, a_items_l, a_items_t, a_lc, a_wipe0, a_wipe1, a_gNm, a_gTp, a_gCo, a_gNo, a_yes, a_for, a_rg1, a_rg2, a_new, a_llst, a_rd, Option.bind_some, ends_nx, ends_rt, ends_ex, leave_dat, List.map_cons, List.map_nil, List.length_cons, List.length_nil, Nat.reduceSub, Nat.reduceAdd, List.replicate_succ, List.replicate_zero, List.cons_append, List.nil_append, List.append_nil, List.getElem?_cons_zero, List.getElem?_cons_succ, List.set_cons_zero, List.set_cons_succ, List.take_length, cond_true, cond_false, Bool.not_true, Bool.not_false, dLt_i, dLe_i, dGt_i, dGe_i, dAdd_i, dSub_i, dIsN_eq, dNotN_eq, dLen_l, dLen_t, dIx_l, dIx_t, dList_l, dList_t, dTuple_l, dTuple_t, szB_s, o1_end, oSl_t, oSl_l, oSl_s, a_sort, dInt_i, a_put, pen_rd, pen_0, pen_1, pen_2, pen_p1, pen_p2, take_cons, forGo_nil, a_star, dats_map, a_leave_end, Option.map_some, cellOf_end, rd_end, set_end, take_end, lit2, lit3, Bool.true_and, Bool.false_and, Bool.and_true, Bool.and_false, Bool.true_or, Bool.false_or, Bool.or_true, Bool.or_false, Bool.not_not, a_sl, a_pNo, a_pEx, a_asInt, a_frz0, a_zip, zip2_t, zip2_l, a_enum, enum1_l, enum1_t, e, DL.cellOf, a_retN]
  exact ⟨_, rfl, cells, 0, 0, rfl, Nat.le_refl _⟩
theorem gchanged {n w b k : Nat} {d : D} {T S : Store} (hw : 4 ≤ w) (hw2 : w ≤ 1000) (hn : n < 30) (h : Sz n w b d) (hp : Pen k T S) (hk : k + 120 ≤ LIM) : ∃ (x : D) (S1 : Store), g_l_law_changed [.obj 0, .dat d] S = .ok (.dat x) S1 ∧ Pen (k + 120) T S1 ∧ Sz (n + 2) (w + 1) (2 * b + 40) x := changed_ok hw hw2 30 n d b k T S h.fit hn h hp hk
theorem step_ok {cs : List D} (hC : isCols (.tup cs) = true) (hc : ∀ c ∈ cs, okC c) {draft : D} (hd : Sz 2 8 50 draft) {n : Nat} {T S : Store} (h : Pen n T S) (hn : n + 300 ≤ LIM) z0 z2 z5 z6 z7 z8 z9 z10 : ∃ (S' : Store) (q10 : Option DV), lb1_law [z0, some (.obj 0), z2, some (.dat (.tup cs)), some (.dat draft), z5, z6, z7, z8, z9, z10] S = .nx [z0, some (.obj 0), z2, some (.dat (.tup cs)), some (.dat draft), z5, z6, z7, z8, z9, q10] S' ∧ Pen (n + 300) T S' := by
  have hn : n + 300 ≤ 2147483648 := hn
  obtain ⟨cs', e, c1, c4, _⟩ := isCols_cases hC
  cases e
  have sC : Sm 20 20000 (.tup cs) := Sm.cols hc c4 |>.mono (by decide) (by decide)
  obtain ⟨x, S1, e1, p1, h1⟩ := gchanged (by decide) (by decide) (by decide) hd h (by have l_ : LIM = 2147483648 := rfl; omega)
  obtain ⟨t, S2, e2, p2, ht⟩ := take_ok p1 (by have l_ : LIM = 2147483648 := rfl; omega) 4 (by decide) (by decide)
  unfold lb1_law
  cases ht0 : (((t : Nat) : Int) == 0)
  · simp -implicitDefEqProofs only [a_fn, a_seq, seq_nx, seq_rt, seq_ex, seq_bk, seq_ct, seq_cond, ends_cond, c_ok, c_dat, c_bl, c_int, c_and, c_or, c_nand, a_sif, a_ret, a_set, a_nils, a_tg, a_expr, a_raise, a_par, Res.bind_ok, Res.bind_ex, Res.bindS_ok, Res.bindS_ex, a_var0, a_c, a_x2, a_o2, a_res1, a_xN, a_cons, a_nil, a_o1, a_xN1, a_tup, a_lst, mkTup_eq, mkLst_eq, a_dats0, a_dats1, a_ret1, a_tBl, a_tTr, a_tNo, a_tAn, a_tOr, a_bool1, truth_bl, truth_non, truth_int, truth_lst, truth_tup, a_and, a_or, a_chain, a_boolK, a_not, a_nDV, a_neg, a_neg1, a_if, a_isi, a_oIsi, isi_int, isi_bool, isi_tuple, isi_list, isi_str, a_it, a_items_l, a_items_t, a_lc, a_wipe0, a_wipe1, a_gNm, a_gTp, a_gCo, a_gNo, a_yes, a_for, a_rg1, a_rg2, a_new, a_llst, a_rd, Option.bind_some, ends_nx, ends_rt, ends_ex, leave_dat, List.map_cons, List.map_nil, List.length_cons, List.length_nil, Nat.reduceSub, Nat.reduceAdd, List.replicate_succ, List.replicate_zero, List.cons_append, List.nil_append, List.append_nil, List.getElem?_cons_zero, List.getElem?_cons_succ, List.set_cons_zero, List.set_cons_succ, List.take_length, cond_true, cond_false, Bool.not_true, Bool.not_false, dLt_i, dLe_i, dGt_i, dGe_i, dAdd_i, dSub_i, dIsN_eq, dNotN_eq, dLen_l, dLen_t, dIx_l, dIx_t, dList_l, dList_t, dTuple_l, dTuple_t, szB_s, o1_end, oSl_t, oSl_l, oSl_s, a_sort, dInt_i, a_put, pen_rd, pen_0, pen_1, pen_2, pen_p1, pen_p2, take_cons, forGo_nil, a_star, dats_map, a_leave_end, Option.map_some, cellOf_end, rd_end, set_end, take_end, lit2, lit3, Bool.true_and, Bool.false_and, Bool.and_true, Bool.and_false, Bool.true_or, Bool.false_or, Bool.or_true, Bool.or_false, Bool.not_not, a_sl, a_pNo, a_pEx, a_asInt, a_frz0, a_zip, zip2_t, zip2_l, a_enum, enum1_l, enum1_t, e1, e2, dEq_ii, ht0, right_ok hC sC (d := x) h1.v20]
    exact ⟨S2, _, rfl, p2.mono (by omega)⟩
  · obtain ⟨y, S3, e3, p3, h3⟩ := gchanged (by decide) (by decide) (by decide) h1 p2 (by have l_ : LIM = 2147483648 := rfl; omega)
    simp -implicitDefEqProofs only [a_fn, a_seq, seq_nx, seq_rt, seq_ex, seq_bk, seq_ct, seq_cond, ends_cond, c_ok, c_dat, c_bl, c_int, c_and, c_or, c_nand, a_sif, a_ret, a_set, a_nils, a_tg, a_expr, a_raise, a_par, Res.bind_ok, Res.bind_ex, Res.bindS_ok, Res.bindS_ex, a_var0, a_c, a_x2, a_o2, a_res1, a_xN, a_cons, a_nil, a_o1, a_xN1, a_tup, a_lst, mkTup_eq, mkLst_eq, a_dats0, a_dats1, a_ret1, a_tBl, a_tTr, a_tNo, a_tAn, a_tOr, a_bool1, truth_bl, truth_non, truth_int, truth_lst, truth_tup, a_and, a_or, a_chain, a_boolK, a_not, a_nDV, a_neg, a_neg1, a_if, a_isi, a_oIsi, isi_int, isi_bool, isi_tuple, isi_list, isi_str, a_it, a_items_l, a_items_t, a_lc, a_wipe0, a_wipe1, a_gNm, a_gTp, a_gCo, a_gNo, a_yes, a_for, a_rg1, a_rg2, a_new, a_llst, a_rd, Option.bind_some, ends_nx, ends_rt, ends_ex, leave_dat, List.map_cons, List.map_nil, List.length_cons, List.length_nil, Nat.reduceSub, Nat.reduceAdd, List.replicate_succ, List.replicate_zero, List.cons_append, List.nil_append, List.append_nil, List.getElem?_cons_zero, List.getElem?_cons_succ, List.set_cons_zero, List.set_cons_succ, List.take_length, cond_true, cond_false, Bool.not_true, Bool.not_false, dLt_i, dLe_i, dGt_i, dGe_i, dAdd_i, dSub_i, dIsN_eq, dNotN_eq, dLen_l, dLen_t, dIx_l, dIx_t, dList_l, dList_t, dTuple_l, dTuple_t, szB_s, o1_end, oSl_t, oSl_l, oSl_s, a_sort, dInt_i, a_put, pen_rd, pen_0, pen_1, pen_2, pen_p1, pen_p2, take_cons, forGo_nil, a_star, dats_map, a_leave_end, Option.map_some, cellOf_end, rd_end, set_end, take_end, lit2, lit3, Bool.true_and, Bool.false_and, Bool.and_true, Bool.and_false, Bool.true_or, Bool.false_or, Bool.or_true, Bool.or_false, Bool.not_not, a_sl, a_pNo, a_pEx, a_asInt, a_frz0, a_zip, zip2_t, zip2_l, a_enum, enum1_l, enum1_t, e1, e2, dEq_ii, ht0, e3, right_ok hC sC (d := y) h3.v20]
    exact ⟨S3, _, rfl, p3.mono (by omega)⟩
theorem turn_ok {n : Nat} {T S : Store} (h : Pen n T S) (hn : n + 3000 ≤ LIM) z0 z2 z3 z4 z5 z6 z7 z8 z9 z10 : ∃ (ρ' : Slots) (T' S' : Store), lb3_law [z0, some (.obj 0), z2, z3, z4, z5, z6, z7, z8, z9, z10] S = .nx ρ' S' ∧ Pen (n + 3000) T' S' ∧ ∃ z2 z3 z4 z5 z6 z7 z8 z9 z10, ρ' = [z0, some (.obj 0), z2, z3, z4, z5, z6, z7, z8, z9, z10] := by
  have hn : n + 3000 ≤ 2147483648 := hn
  obtain ⟨S1, e1, p1⟩ := anew_ok h
  obtain ⟨cs, S2, e2, p2, hC, hc, _⟩ := columns_ok p1 (by have l_ : LIM = 2147483648 := rfl; omega) 4 (by decide) (by decide)
  obtain ⟨cs', e, c1, c4, _⟩ := isCols_cases hC
  cases e
  have sC : Sm 20 20000 (.tup cs) := Sm.cols hc c4 |>.mono (by decide) (by decide)
  have e2 : g_l_law_columns [.obj 0, .dat (.int 4)] S1 = .ok (.dat (.tup cs)) S2 := e2
  obtain ⟨rows, S3, e3, p3, hr, hl⟩ := draft_ok hc c4 p2 (by have l_ : LIM = 2147483648 := rfl; omega)
  have rl : SzL 1 8 40 rows := SzL.of (b := 4) (fun z hz => (hr z hz).up (by decide) (by decide) (by decide)) hl (by omega)
  have sD : Sz 2 8 50 (.tup rows) := rl.tup.up (by decide) (by decide) (by decide)
  obtain ⟨ρ', S4, e4, z5, z10, rfl, p4⟩ := forGo_run (enc := fun i : Nat => D.int ((i : Nat) : Int)) (G := gNm 5) (f := lb1_law) (fun pre ρ S => ∃ z5 z10, ρ = [z0, some (.obj 0), z2, some (.dat (.tup cs)), some (.dat (.tup rows)), z5, z6, z7, z8, z9, z10] ∧ Pen (n + 8 + 300 + 300 * pre.length) T S) (List.range 6) [] [z0, some (.obj 0), z2, some (.dat (.tup cs)), some (.dat (.tup rows)), z5, z6, z7, z8, z9, z10] S3 ⟨_, _, rfl, p3⟩ (by
    rintro pre a post ρ S hpp ⟨z5, z10, rfl, hp⟩
    obtain ⟨ha, ha2⟩ := range_at (by simpa using hpp)
    obtain ⟨S', q10, e, p⟩ := step_ok hC hc sD hp (by have l_ : LIM = 2147483648 := rfl; omega) z0 z2 (some (.dat (.int (a : Nat)))) z6 z7 z8 z9 z10
    exact ⟨_, _, S', rfl, .inl e, _, _, rfl, p.mono (by simp; omega)⟩)
  simp only [List.nil_append, List.length_range] at p4
  obtain ⟨row, S5, e5, p5, hw, hv⟩ := row_ok p4 (by have l_ : LIM = 2147483648 := rfl; omega) cs hc c4
  have hrow := okRow_of hw hv
  have hlen := hrow.len
  have srow : Sz 1 4 4 (rowD row) := (SzL.ints hrow.tiny (by omega)).tup
  obtain ⟨k9, S6, e6, p6, h9⟩ := take_ok p5 (by have l_ : LIM = 2147483648 := rfl; omega) 9 (by decide) (by decide)
  obtain ⟨k10, S7, e7, p7, h10⟩ := take_ok p6 (by have l_ : LIM = 2147483648 := rfl; omega) 10 (by decide) (by decide)
  obtain ⟨bd, S8, e8, p8, hbd⟩ := bad_draft_ok hc c1 c4 p7 (by have l_ : LIM = 2147483648 := rfl; omega)
  have sn := SzL.nones cs.length c4
  let V0 : List D := [.tup rows, .tup (List.replicate k10 (rowD row)), .tup (rows ++ [rowD row]), bd, .tup (List.replicate k9 (D.tup (noneR cs.length)))]
  let V1 : List D := V0 ++ [.tup ((List.replicate k9 (D.tup (noneR cs.length)) ++ rows).take 8)]
  have nl : SzL 1 9 50 (List.replicate k9 (D.tup (noneR cs.length))) := SzL.rep sn.tup (by decide) (by omega) (by omega)
  have hV : ∀ x ∈ V1 ++ [.lst rows, rowD row], V20 x := by
    intro x hx
    simp only [V1, V0, List.cons_append, List.nil_append, List.mem_cons, List.not_mem_nil, or_false] at hx
    rcases hx with rfl | rfl | rfl | rfl | rfl | rfl | rfl | rfl
    · exact sD.v20
    · exact (SzL.rep (v := 10) (c := 60) srow (by decide) (by omega) (by omega)).tup.v20
    · exact (rl.app (SzL.one srow (by decide))).tup.v20
    · exact hbd.v20
    · exact nl.tup.v20
    · exact ((nl.app rl).sub (List.take_sublist ..)).tup.v20
    · exact rl.lst.v20
    · exact srow.v20
  have hS8 := p8.len
  let SS : Store := S8 ++ [some V1]
  have loop := for_all (enc := id) (G := gNm 9) (f := lb2_law) (P := fun ρ => ∃ z9, ρ = [z0, some (.obj 0), z2, some (.dat (.tup cs)), some (.dat (.tup rows)), z5, some (.dat (rowD row)), some (.dat (.tup (List.replicate k9 (D.tup (noneR cs.length))))), some (.obj (T.length + 1)), z9, z10]) (p := fun _ => true) (v := .dat (.bl false)) (S := SS) (V1 ++ [.lst rows, rowD row]) [z0, some (.obj 0), z2, some (.dat (.tup cs)), some (.dat (.tup rows)), z5, some (.dat (rowD row)), some (.dat (.tup (List.replicate k9 (D.tup (noneR cs.length))))), some (.obj (T.length + 1)), z9, z10] ⟨_, rfl⟩ (by
    rintro x hm ρ ⟨z9, rfl⟩
    refine ⟨_, rfl, fun _ => ?_, fun h => nomatch h⟩
    unfold lb2_law
    simp -implicitDefEqProofs only [a_fn, a_seq, seq_nx, seq_rt, seq_ex, seq_bk, seq_ct, seq_cond, ends_cond, c_ok, c_dat, c_bl, c_int, c_and, c_or, c_nand, a_sif, a_ret, a_set, a_nils, a_tg, a_expr, a_raise, a_par, Res.bind_ok, Res.bind_ex, Res.bindS_ok, Res.bindS_ex, a_var0, a_c, a_x2, a_o2, a_res1, a_xN, a_cons, a_nil, a_o1, a_xN1, a_tup, a_lst, mkTup_eq, mkLst_eq, a_dats0, a_dats1, a_ret1, a_tBl, a_tTr, a_tNo, a_tAn, a_tOr, a_bool1, truth_bl, truth_non, truth_int, truth_lst, truth_tup, a_and, a_or, a_chain, a_boolK, a_not, a_nDV, a_neg, a_neg1, a_if, a_isi, a_oIsi, isi_int, isi_bool, isi_tuple, isi_list, isi_str, a_it, a_items_l, a_items_t, a_lc, a_wipe0, a_wipe1, a_gNm, a_gTp, a_gCo, a_gNo, a_yes, a_for, a_rg1, a_rg2, a_new, a_llst, a_rd, Option.bind_some, ends_nx, ends_rt, ends_ex, leave_dat, List.map_cons, List.map_nil, List.length_cons, List.length_nil, Nat.reduceSub, Nat.reduceAdd, List.replicate_succ, List.replicate_zero, List.cons_append, List.nil_append, List.append_nil, List.getElem?_cons_zero, List.getElem?_cons_succ, List.set_cons_zero, List.set_cons_succ, List.take_length, cond_true, cond_false, Bool.not_true, Bool.not_false, dLt_i, dLe_i, dGt_i, dGe_i, dAdd_i, dSub_i, dIsN_eq, dNotN_eq, dLen_l, dLen_t, dIx_l, dIx_t, dList_l, dList_t, dTuple_l, dTuple_t, szB_s, o1_end, oSl_t, oSl_l, oSl_s, a_sort, dInt_i, a_put, pen_rd, pen_0, pen_1, pen_2, pen_p1, pen_p2, take_cons, forGo_nil, a_star, dats_map, a_leave_end, Option.map_some, cellOf_end, rd_end, set_end, take_end, lit2, lit3, Bool.true_and, Bool.false_and, Bool.and_true, Bool.and_false, Bool.true_or, Bool.false_or, Bool.or_true, Bool.or_false, Bool.not_not, a_sl, a_pNo, a_pEx, a_asInt, a_frz0, a_zip, zip2_t, zip2_l, a_enum, enum1_l, enum1_t, id, right_ok hC sC (hV x hm)]
    exact ⟨_, rfl, _, rfl⟩)
  obtain ⟨ρ', e9, z9, rfl⟩ := loop.1 (by simp)
  simp only [List.map_id] at e9
  have pS : Pen (n + 8 + 300 + 300 * 6 + 16 + 1 + 1 + 1) (T ++ [some V1]) SS := pen_new p8 _
  obtain ⟨bad, S10, e10, p10, hb, sb⟩ := bad_columns_ok pS (by have l_ : LIM = 2147483648 := rfl; omega) cs hc c4
  obtain ⟨od, S11, e11, p11, _⟩ := one_ok p10 (by have l_ : LIM = 2147483648 := rfl; omega) [D.tup rows, .non] (by simp) (by simp) _ (.inl rfl)
  have e6' : ∀ S, rng1 [.dat (.int 6)] S = .ok ((List.range 6).map fun i => .int ((i : Nat) : Int)) S := fun S => rng1_n (n := 6) (le_size (by decide)) S
  have m1 : dMulZ (.tup [.non]) (.int (cs.length : Nat)) = some (.tup (noneR cs.length)) := rep_z _ _ (by omega)
  have m2 : dMulZ (.tup [.tup (noneR cs.length)]) (.int (k9 : Nat)) = some (.tup (List.replicate k9 (D.tup (noneR cs.length)))) := rep_z _ _ (by omega)
  have m3 : dMulZ (.tup [rowD row]) (.int (k10 : Nat)) = some (.tup (List.replicate k10 (rowD row))) := rep_z _ _ (by omega)
  have a1 : dAdd (.tup rows) (.tup [rowD row]) = some (.tup (rows ++ [rowD row])) := by rw [dAdd_t, szB_le (by simp; omega)]; rfl
  have a2 : dAdd (.tup (List.replicate k9 (D.tup (noneR cs.length)))) (.tup rows) = some (.tup (List.replicate k9 (D.tup (noneR cs.length)) ++ rows)) := by rw [dAdd_t, szB_le (by simp; omega)]; rfl
  have c8 : cutL (List.replicate k9 (D.tup (noneR cs.length)) ++ rows) none (some 8) = (List.replicate k9 (D.tup (noneR cs.length)) ++ rows).take 8 := cut_to _ 8
  have v0 : [D.tup rows, .tup (List.replicate k10 (rowD row)), .tup (rows ++ [rowD row]), bd, .tup (List.replicate k9 (D.tup (noneR cs.length)))] = V0 := rfl
  have lr : dList (.tup rows) = some (.lst rows) := rfl
  unfold lb3_law
  simp -implicitDefEqProofs only [a_fn, a_seq, seq_nx, seq_rt, seq_ex, seq_bk, seq_ct, seq_cond, ends_cond, c_ok, c_dat, c_bl, c_int, c_and, c_or, c_nand, a_sif, a_ret, a_set, a_nils, a_tg, a_expr, a_raise, a_par, Res.bind_ok, Res.bind_ex, Res.bindS_ok, Res.bindS_ex, a_var0, a_c, a_x2, a_o2, a_res1, a_xN, a_cons, a_nil, a_o1, a_xN1, a_tup, a_lst, mkTup_eq, mkLst_eq, a_dats0, a_dats1, a_ret1, a_tBl, a_tTr, a_tNo, a_tAn, a_tOr, a_bool1, truth_bl, truth_non, truth_int, truth_lst, truth_tup, a_and, a_or, a_chain, a_boolK, a_not, a_nDV, a_neg, a_neg1, a_if, a_isi, a_oIsi, isi_int, isi_bool, isi_tuple, isi_list, isi_str, a_it, a_items_l, a_items_t, a_lc, a_wipe0, a_wipe1, a_gNm, a_gTp, a_gCo, a_gNo, a_yes, a_for, a_rg1, a_rg2, a_new, a_llst, a_rd, Option.bind_some, ends_nx, ends_rt, ends_ex, leave_dat, List.map_cons, List.map_nil, List.length_cons, List.length_nil, Nat.reduceSub, Nat.reduceAdd, List.replicate_succ, List.replicate_zero, List.cons_append, List.nil_append, List.append_nil, List.getElem?_cons_zero, List.getElem?_cons_succ, List.set_cons_zero, List.set_cons_succ, List.take_length, cond_true, cond_false, Bool.not_true, Bool.not_false, dLt_i, dLe_i, dGt_i, dGe_i, dAdd_i, dSub_i, dIsN_eq, dNotN_eq, dLen_l, dLen_t, dIx_l, dIx_t, dList_l, dList_t, dTuple_l, dTuple_t, szB_s, o1_end, oSl_t, oSl_l, oSl_s, a_sort, dInt_i, a_put, pen_rd, pen_0, pen_1, pen_2, pen_p1, pen_p2, take_cons, forGo_nil, a_star, dats_map, a_leave_end, Option.map_some, cellOf_end, rd_end, set_end, take_end, lit2, lit3, Bool.true_and, Bool.false_and, Bool.and_true, Bool.and_false, Bool.true_or, Bool.false_or, Bool.or_true, Bool.or_false, Bool.not_not, a_sl, a_pNo, a_pEx, a_asInt, a_frz0, a_zip, zip2_t, zip2_l, a_enum, enum1_l, enum1_t, e1, e2, e3, e6', e4, e5, m1, e6, m2, e7, m3, a1, e8]
  rw [v0]
  simp -implicitDefEqProofs only [a_fn, a_seq, seq_nx, seq_rt, seq_ex, seq_bk, seq_ct, seq_cond, ends_cond, c_ok, c_dat, c_bl, c_int, c_and, c_or, c_nand, a_sif, a_ret, a_set, a_nils, a_tg, a_expr, a_raise, a_par, Res.bind_ok, Res.bind_ex, Res.bindS_ok, Res.bindS_ex, a_var0, a_c, a_x2, a_o2, a_res1, a_xN, a_cons, a_nil, a_o1, a_xN1, a_tup, a_lst, mkTup_eq, mkLst_eq, a_dats0, a_dats1, a_ret1, a_tBl, a_tTr, a_tNo, a_tAn, a_tOr, a_bool1, truth_bl, truth_non, truth_int, truth_lst, truth_tup, a_and, a_or, a_chain, a_boolK, a_not, a_nDV, a_neg, a_neg1, a_if, a_isi, a_oIsi, isi_int, isi_bool, isi_tuple, isi_list, isi_str, a_it, a_items_l, a_items_t, a_lc, a_wipe0, a_wipe1, a_gNm, a_gTp, a_gCo, a_gNo, a_yes, a_for, a_rg1, a_rg2, a_new, a_llst, a_rd, Option.bind_some, ends_nx, ends_rt, ends_ex, leave_dat, List.map_cons, List.map_nil, List.length_cons, List.length_nil, Nat.reduceSub, Nat.reduceAdd, List.replicate_succ, List.replicate_zero, List.cons_append, List.nil_append, List.append_nil, List.getElem?_cons_zero, List.getElem?_cons_succ, List.set_cons_zero, List.set_cons_succ, List.take_length, cond_true, cond_false, Bool.not_true, Bool.not_false, dLt_i, dLe_i, dGt_i, dGe_i, dAdd_i, dSub_i, dIsN_eq, dNotN_eq, dLen_l, dLen_t, dIx_l, dIx_t, dList_l, dList_t, dTuple_l, dTuple_t, szB_s, o1_end, oSl_t, oSl_l, oSl_s, a_sort, dInt_i, a_put, pen_rd, pen_0, pen_1, pen_2, pen_p1, pen_p2, take_cons, forGo_nil, a_star, dats_map, a_leave_end, Option.map_some, cellOf_end, rd_end, set_end, take_end, lit2, lit3, Bool.true_and, Bool.false_and, Bool.and_true, Bool.and_false, Bool.true_or, Bool.false_or, Bool.or_true, Bool.or_false, Bool.not_not, a_sl, a_pNo, a_pEx, a_asInt, a_frz0, a_zip, zip2_t, zip2_l, a_enum, enum1_l, enum1_t, show szB V0.length = true from rfl, hS8]
  rw [sapp_pen (T := T) (S0 := S8) (S1 := S8) (xs := V0) (d := .tup ((List.replicate k9 (D.tup (noneR cs.length)) ++ rows).take 8)) rfl hS8.symm hS8.symm (by simp -implicitDefEqProofs only [a_fn, a_seq, seq_nx, seq_rt, seq_ex, seq_bk, seq_ct, seq_cond, ends_cond, c_ok, c_dat, c_bl, c_int, c_and, c_or, c_nand, a_sif, a_ret, a_set, a_nils, a_tg, a_expr, a_raise, a_par, Res.bind_ok, Res.bind_ex, Res.bindS_ok, Res.bindS_ex, a_var0, a_c, a_x2, a_o2, a_res1, a_xN, a_cons, a_nil, a_o1, a_xN1, a_tup, a_lst, mkTup_eq, mkLst_eq, a_dats0, a_dats1, a_ret1, a_tBl, a_tTr, a_tNo, a_tAn, a_tOr, a_bool1, truth_bl, truth_non, truth_int, truth_lst, truth_tup, a_and, a_or, a_chain, a_boolK, a_not, a_nDV, a_neg, a_neg1, a_if, a_isi, a_oIsi, isi_int, isi_bool, isi_tuple, isi_list, isi_str, a_it, a_items_l, a_items_t, a_lc, a_wipe0, a_wipe1, a_gNm, a_gTp, a_gCo, a_gNo, a_yes, a_for, a_rg1, a_rg2, a_new, a_llst, a_rd, Option.bind_some, ends_nx, ends_rt, ends_ex, leave_dat, List.map_cons, List.map_nil, List.length_cons, List.length_nil, Nat.reduceSub, Nat.reduceAdd, List.replicate_succ, List.replicate_zero, List.cons_append, List.nil_append, List.append_nil, List.getElem?_cons_zero, List.getElem?_cons_succ, List.set_cons_zero, List.set_cons_succ, List.take_length, cond_true, cond_false, Bool.not_true, Bool.not_false, dLt_i, dLe_i, dGt_i, dGe_i, dAdd_i, dSub_i, dIsN_eq, dNotN_eq, dLen_l, dLen_t, dIx_l, dIx_t, dList_l, dList_t, dTuple_l, dTuple_t, szB_s, o1_end, oSl_t, oSl_l, oSl_s, a_sort, dInt_i, a_put, pen_rd, pen_0, pen_1, pen_2, pen_p1, pen_p2, take_cons, forGo_nil, a_star, dats_map, a_leave_end, Option.map_some, cellOf_end, rd_end, set_end, take_end, lit2, lit3, Bool.true_and, Bool.false_and, Bool.and_true, Bool.and_false, Bool.true_or, Bool.false_or, Bool.or_true, Bool.or_false, Bool.not_not, a_sl, a_pNo, a_pEx, a_asInt, a_frz0, a_zip, zip2_t, zip2_l, a_enum, enum1_l, enum1_t, a2, c8]) (by simp [V0])]
  simp -implicitDefEqProofs only [a_fn, a_seq, seq_nx, seq_rt, seq_ex, seq_bk, seq_ct, seq_cond, ends_cond, c_ok, c_dat, c_bl, c_int, c_and, c_or, c_nand, a_sif, a_ret, a_set, a_nils, a_tg, a_expr, a_raise, a_par, Res.bind_ok, Res.bind_ex, Res.bindS_ok, Res.bindS_ex, a_var0, a_c, a_x2, a_o2, a_res1, a_xN, a_cons, a_nil, a_o1, a_xN1, a_tup, a_lst, mkTup_eq, mkLst_eq, a_dats0, a_dats1, a_ret1, a_tBl, a_tTr, a_tNo, a_tAn, a_tOr, a_bool1, truth_bl, truth_non, truth_int, truth_lst, truth_tup, a_and, a_or, a_chain, a_boolK, a_not, a_nDV, a_neg, a_neg1, a_if, a_isi, a_oIsi, isi_int, isi_bool, isi_tuple, isi_list, isi_str, a_it, a_items_l, a_items_t, a_lc, a_wipe0, a_wipe1, a_gNm, a_gTp, a_gCo, a_gNo, a_yes, a_for, a_rg1, a_rg2, a_new, a_llst, a_rd, Option.bind_some, ends_nx, ends_rt, ends_ex, leave_dat, List.map_cons, List.map_nil, List.length_cons, List.length_nil, Nat.reduceSub, Nat.reduceAdd, List.replicate_succ, List.replicate_zero, List.cons_append, List.nil_append, List.append_nil, List.getElem?_cons_zero, List.getElem?_cons_succ, List.set_cons_zero, List.set_cons_succ, List.take_length, cond_true, cond_false, Bool.not_true, Bool.not_false, dLt_i, dLe_i, dGt_i, dGe_i, dAdd_i, dSub_i, dIsN_eq, dNotN_eq, dLen_l, dLen_t, dIx_l, dIx_t, dList_l, dList_t, dTuple_l, dTuple_t, szB_s, o1_end, oSl_t, oSl_l, oSl_s, a_sort, dInt_i, a_put, pen_rd, pen_0, pen_1, pen_2, pen_p1, pen_p2, take_cons, forGo_nil, a_star, dats_map, a_leave_end, Option.map_some, cellOf_end, rd_end, set_end, take_end, lit2, lit3, Bool.true_and, Bool.false_and, Bool.and_true, Bool.and_false, Bool.true_or, Bool.false_or, Bool.or_true, Bool.or_false, Bool.not_not, a_sl, a_pNo, a_pEx, a_asInt, a_frz0, a_zip, zip2_t, zip2_l, a_enum, enum1_l, enum1_t, last_add (xs := V1) (ys := [.lst rows, rowD row]) hS8.symm (by simp [V1, V0])]
  have v1 : V0 ++ [.tup ((List.replicate k9 (D.tup (noneR cs.length)) ++ rows).take 8)] = V1 := rfl
  have ss : S8 ++ [some V1] = SS := rfl
  rw [v1, ss]
  simp -implicitDefEqProofs only [a_fn, a_seq, seq_nx, seq_rt, seq_ex, seq_bk, seq_ct, seq_cond, ends_cond, c_ok, c_dat, c_bl, c_int, c_and, c_or, c_nand, a_sif, a_ret, a_set, a_nils, a_tg, a_expr, a_raise, a_par, Res.bind_ok, Res.bind_ex, Res.bindS_ok, Res.bindS_ex, a_var0, a_c, a_x2, a_o2, a_res1, a_xN, a_cons, a_nil, a_o1, a_xN1, a_tup, a_lst, mkTup_eq, mkLst_eq, a_dats0, a_dats1, a_ret1, a_tBl, a_tTr, a_tNo, a_tAn, a_tOr, a_bool1, truth_bl, truth_non, truth_int, truth_lst, truth_tup, a_and, a_or, a_chain, a_boolK, a_not, a_nDV, a_neg, a_neg1, a_if, a_isi, a_oIsi, isi_int, isi_bool, isi_tuple, isi_list, isi_str, a_it, a_items_l, a_items_t, a_lc, a_wipe0, a_wipe1, a_gNm, a_gTp, a_gCo, a_gNo, a_yes, a_for, a_rg1, a_rg2, a_new, a_llst, a_rd, Option.bind_some, ends_nx, ends_rt, ends_ex, leave_dat, List.map_cons, List.map_nil, List.length_cons, List.length_nil, Nat.reduceSub, Nat.reduceAdd, List.replicate_succ, List.replicate_zero, List.cons_append, List.nil_append, List.append_nil, List.getElem?_cons_zero, List.getElem?_cons_succ, List.set_cons_zero, List.set_cons_succ, List.take_length, cond_true, cond_false, Bool.not_true, Bool.not_false, dLt_i, dLe_i, dGt_i, dGe_i, dAdd_i, dSub_i, dIsN_eq, dNotN_eq, dLen_l, dLen_t, dIx_l, dIx_t, dList_l, dList_t, dTuple_l, dTuple_t, szB_s, o1_end, oSl_t, oSl_l, oSl_s, a_sort, dInt_i, a_put, pen_rd, pen_0, pen_1, pen_2, pen_p1, pen_p2, take_cons, forGo_nil, a_star, dats_map, a_leave_end, Option.map_some, cellOf_end, rd_end, set_end, take_end, lit2, lit3, Bool.true_and, Bool.false_and, Bool.and_true, Bool.and_false, Bool.true_or, Bool.false_or, Bool.or_true, Bool.or_false, Bool.not_not, a_sl, a_pNo, a_pEx, a_asInt, a_frz0, a_zip, zip2_t, zip2_l, a_enum, enum1_l, enum1_t, lr, ← ss, last_add (xs := V1) (ys := [.lst rows, rowD row]) hS8.symm (by simp [V1, V0])]
  rw [ss, e9]
  simp -implicitDefEqProofs only [a_fn, a_seq, seq_nx, seq_rt, seq_ex, seq_bk, seq_ct, seq_cond, ends_cond, c_ok, c_dat, c_bl, c_int, c_and, c_or, c_nand, a_sif, a_ret, a_set, a_nils, a_tg, a_expr, a_raise, a_par, Res.bind_ok, Res.bind_ex, Res.bindS_ok, Res.bindS_ex, a_var0, a_c, a_x2, a_o2, a_res1, a_xN, a_cons, a_nil, a_o1, a_xN1, a_tup, a_lst, mkTup_eq, mkLst_eq, a_dats0, a_dats1, a_ret1, a_tBl, a_tTr, a_tNo, a_tAn, a_tOr, a_bool1, truth_bl, truth_non, truth_int, truth_lst, truth_tup, a_and, a_or, a_chain, a_boolK, a_not, a_nDV, a_neg, a_neg1, a_if, a_isi, a_oIsi, isi_int, isi_bool, isi_tuple, isi_list, isi_str, a_it, a_items_l, a_items_t, a_lc, a_wipe0, a_wipe1, a_gNm, a_gTp, a_gCo, a_gNo, a_yes, a_for, a_rg1, a_rg2, a_new, a_llst, a_rd, Option.bind_some, ends_nx, ends_rt, ends_ex, leave_dat, List.map_cons, List.map_nil, List.length_cons, List.length_nil, Nat.reduceSub, Nat.reduceAdd, List.replicate_succ, List.replicate_zero, List.cons_append, List.nil_append, List.append_nil, List.getElem?_cons_zero, List.getElem?_cons_succ, List.set_cons_zero, List.set_cons_succ, List.take_length, cond_true, cond_false, Bool.not_true, Bool.not_false, dLt_i, dLe_i, dGt_i, dGe_i, dAdd_i, dSub_i, dIsN_eq, dNotN_eq, dLen_l, dLen_t, dIx_l, dIx_t, dList_l, dList_t, dTuple_l, dTuple_t, szB_s, o1_end, oSl_t, oSl_l, oSl_s, a_sort, dInt_i, a_put, pen_rd, pen_0, pen_1, pen_2, pen_p1, pen_p2, take_cons, forGo_nil, a_star, dats_map, a_leave_end, Option.map_some, cellOf_end, rd_end, set_end, take_end, lit2, lit3, Bool.true_and, Bool.false_and, Bool.and_true, Bool.and_false, Bool.true_or, Bool.false_or, Bool.or_true, Bool.or_false, Bool.not_not, a_sl, a_pNo, a_pEx, a_asInt, a_frz0, a_zip, zip2_t, zip2_l, a_enum, enum1_l, enum1_t, e10, e11, refused_ok hb]
  exact ⟨_, _, S11, rfl, p11.mono (by omega), _, _, _, _, _, _, _, _, _, rfl⟩
theorem answers (ns : List Int) (h : ns.length ≤ 63) : ∃ S, g_law [.scr ns] [] = .ok (.dat (.bl true)) S := by
  unfold g_law s_law
  obtain ⟨S, e, p⟩ := open_ok ns h
  simp -implicitDefEqProofs only [a_fn, a_seq, seq_nx, seq_rt, seq_ex, seq_bk, seq_ct, seq_cond, ends_cond, c_ok, c_dat, c_bl, c_int, c_and, c_or, c_nand, a_sif, a_ret, a_set, a_nils, a_tg, a_expr, a_raise, a_par, Res.bind_ok, Res.bind_ex, Res.bindS_ok, Res.bindS_ex, a_var0, a_c, a_x2, a_o2, a_res1, a_xN, a_cons, a_nil, a_o1, a_xN1, a_tup, a_lst, mkTup_eq, mkLst_eq, a_dats0, a_dats1, a_ret1, a_tBl, a_tTr, a_tNo, a_tAn, a_tOr, a_bool1, truth_bl, truth_non, truth_int, truth_lst, truth_tup, a_and, a_or, a_chain, a_boolK, a_not, a_nDV, a_neg, a_neg1, a_if, a_isi, a_oIsi, isi_int, isi_bool, isi_tuple, isi_list, isi_str, a_it, a_items_l, a_items_t, a_lc, a_wipe0, a_wipe1, a_gNm, a_gTp, a_gCo, a_gNo, a_yes, a_for, a_rg1, a_rg2, a_new, a_llst, a_rd, Option.bind_some, ends_nx, ends_rt, ends_ex, leave_dat, List.map_cons, List.map_nil, List.length_cons, List.length_nil, Nat.reduceSub, Nat.reduceAdd, List.replicate_succ, List.replicate_zero, List.cons_append, List.nil_append, List.append_nil, List.getElem?_cons_zero, List.getElem?_cons_succ, List.set_cons_zero, List.set_cons_succ, List.take_length, cond_true, cond_false, Bool.not_true, Bool.not_false, dLt_i, dLe_i, dGt_i, dGe_i, dAdd_i, dSub_i, dIsN_eq, dNotN_eq, dLen_l, dLen_t, dIx_l, dIx_t, dList_l, dList_t, dTuple_l, dTuple_t, szB_s, o1_end, oSl_t, oSl_l, oSl_s, a_sort, dInt_i, a_put, pen_rd, pen_0, pen_1, pen_2, pen_p1, pen_p2, take_cons, forGo_nil, a_star, dats_map, a_leave_end, Option.map_some, cellOf_end, rd_end, set_end, take_end, lit2, lit3, Bool.true_and, Bool.false_and, Bool.and_true, Bool.and_false, Bool.true_or, Bool.false_or, Bool.or_true, Bool.or_false, Bool.not_not, a_sl, a_pNo, a_pEx, a_asInt, a_frz0, a_zip, zip2_t, zip2_l, a_enum, enum1_l, enum1_t, e, show rng1 [.dat (.int 12)] S = .ok ((List.range 12).map fun i => .int ((i : Nat) : Int)) S from rng1_n (n := 12) (le_size (by decide)) S]
  obtain ⟨ρ', S', e2, z2, z3, z4, z5, z6, z7, z8, z9, z10, T, rfl, p2⟩ := forGo_run (enc := fun i : Nat => D.int ((i : Nat) : Int)) (G := gNm 2) (f := lb3_law) (fun pre ρ S => ∃ z2 z3 z4 z5 z6 z7 z8 z9 z10 T, ρ = [some (.scr ns), some (.obj 0), z2, z3, z4, z5, z6, z7, z8, z9, z10] ∧ Pen (3000 * pre.length) T S) (List.range 12) [] [some (.scr ns), some (.obj 0), none, none, none, none, none, none, none, none, none] S ⟨_, _, _, _, _, _, _, _, _, _, rfl, p⟩ (by
    rintro pre a post ρ S hpp ⟨z2, z3, z4, z5, z6, z7, z8, z9, z10, T, rfl, hp⟩
    obtain ⟨ha, ha2⟩ := range_at (by simpa using hpp)
    obtain ⟨ρ', T', S', e, p, q2, q3, q4, q5, q6, q7, q8, q9, q10, rfl⟩ := turn_ok hp (by have l_ : LIM = 2147483648 := rfl; omega) (some (.scr ns)) (some (.dat (.int (a : Nat)))) z3 z4 z5 z6 z7 z8 z9 z10
    exact ⟨_, _, S', rfl, .inl e, _, _, _, _, _, _, _, _, _, T', rfl, by rw [List.length_append]; exact p.mono (by simp; omega)⟩)
  simp -implicitDefEqProofs only [a_fn, a_seq, seq_nx, seq_rt, seq_ex, seq_bk, seq_ct, seq_cond, ends_cond, c_ok, c_dat, c_bl, c_int, c_and, c_or, c_nand, a_sif, a_ret, a_set, a_nils, a_tg, a_expr, a_raise, a_par, Res.bind_ok, Res.bind_ex, Res.bindS_ok, Res.bindS_ex, a_var0, a_c, a_x2, a_o2, a_res1, a_xN, a_cons, a_nil, a_o1, a_xN1, a_tup, a_lst, mkTup_eq, mkLst_eq, a_dats0, a_dats1, a_ret1, a_tBl, a_tTr, a_tNo, a_tAn, a_tOr, a_bool1, truth_bl, truth_non, truth_int, truth_lst, truth_tup, a_and, a_or, a_chain, a_boolK, a_not, a_nDV, a_neg, a_neg1, a_if, a_isi, a_oIsi, isi_int, isi_bool, isi_tuple, isi_list, isi_str, a_it, a_items_l, a_items_t, a_lc, a_wipe0, a_wipe1, a_gNm, a_gTp, a_gCo, a_gNo, a_yes, a_for, a_rg1, a_rg2, a_new, a_llst, a_rd, Option.bind_some, ends_nx, ends_rt, ends_ex, leave_dat, List.map_cons, List.map_nil, List.length_cons, List.length_nil, Nat.reduceSub, Nat.reduceAdd, List.replicate_succ, List.replicate_zero, List.cons_append, List.nil_append, List.append_nil, List.getElem?_cons_zero, List.getElem?_cons_succ, List.set_cons_zero, List.set_cons_succ, List.take_length, cond_true, cond_false, Bool.not_true, Bool.not_false, dLt_i, dLe_i, dGt_i, dGe_i, dAdd_i, dSub_i, dIsN_eq, dNotN_eq, dLen_l, dLen_t, dIx_l, dIx_t, dList_l, dList_t, dTuple_l, dTuple_t, szB_s, o1_end, oSl_t, oSl_l, oSl_s, a_sort, dInt_i, a_put, pen_rd, pen_0, pen_1, pen_2, pen_p1, pen_p2, take_cons, forGo_nil, a_star, dats_map, a_leave_end, Option.map_some, cellOf_end, rd_end, set_end, take_end, lit2, lit3, Bool.true_and, Bool.false_and, Bool.and_true, Bool.and_false, Bool.true_or, Bool.false_or, Bool.or_true, Bool.or_false, Bool.not_not, a_sl, a_pNo, a_pEx, a_asInt, a_frz0, a_zip, zip2_t, zip2_l, a_enum, enum1_l, enum1_t, e2]
  exact ⟨_, rfl⟩
end T08

set_option maxHeartbeats 0
open PySem PySem.W PySem.Calls PyProof.Rows
theorem PySem.Challenge.cw_whererules_k08_what_is_a_draft_holds : PySem.Challenge.rw_whererules_k08_what_is_a_draft.Holds := by
  w_on; o_law
  refine HandSHeadRun.head_any (r := OpenLaw.row PySem.Challenge.rw_whererules_k08_what_is_a_draft) (q := view (OpenLaw.row PySem.Challenge.rw_whererules_k08_what_is_a_draft).prog [36]) (H := T08.hk) (ob := T08.ob) (M := 20000) (loose := T08.loose) (d := HandSHeadRun.topDef (OpenLaw.row PySem.Challenge.rw_whererules_k08_what_is_a_draft).prog 36) (kwd := []) T08.ob_eq
    (by kernel_rfl) (fun s => by kernel_rfl) T08.run (by kernel_rfl) (by kernel_rfl) (by kernel_rfl) (by rfl) (by first | assumption | decide +kernel) (by decide +kernel) ⟨rfl, rfl, rfl, rfl, rfl, by decide +kernel⟩ ?hw ?hc
  case hw => w_witness2
  case hc =>
    refine DL.walkD (l := PySem.Challenge.rw_whererules_k08_what_is_a_draft) (n := 63) (k := 34) (x := "_law_script") (g := T08.g_law) rfl (by decide) (by kernel_rfl) ⟨rfl, by decide, by decide⟩ ?F T08.answers
    intro w mg fa h Y G hmg0
    obtain ⟨K, KX, c, xo⟩ := Y
    have T := T08.txt_of KX G c xo
    obtain ⟨f, fd, Fd, hm⟩ := T.d_law
    have e : (HandSHeadRun.topDef (OpenLaw.row PySem.Challenge.rw_whererules_k08_what_is_a_draft).prog 36).name = ("law" : PySem.Str) := by kernel_rfl
    rw [e, hm] at hmg0
    cases hmg0
    exact ⟨K, fd, KX, fun s u => L2.FunD.bindsA (ps := ["_law_script"]) Fd (fun _ _ _ _ _ _ us hl => match us, hl with | [_], _ => rfl) s [u] rfl, fun base _ _ => DL.fn_D Fd T08.sc_law rfl rfl (T08.bd_law T fa)⟩

