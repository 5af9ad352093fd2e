import PyProof.Rows.All
import Wide.All
import OpenK.AllK
import HandS.ForMost
import HandS.SetFor
import Wide.FinOn
import HandS.ForExc
import HandS.More
import HandS.TupAny
import HandS.Conv
import HandS.Strs
import HandS.Zip
import HandS.Star
import HandS.IsInst
import HandS.TupMul
import HandS.Wide
import HandS.WideMore
import HandS.Flow
import HandS.Deep
import HandS.Exc
import HandS.HeadHook1
import HandS.WideBits
import HandS.TupLe
import HandS.Walk
import HandS.Defaults
import HandS.HeadHook2
import KE.GoesEnum
import KE.GoesMore
import HandS.HeadEnd
import HandS.TryMany
import KE.SortData
import HandS.TupSets
import HandS.SortInts
import HandS.ExcIs
import HandS.ExcValue
import KE.DataFind
import PyProof.SetRoads
import KE.DataMinMax
import HandS.DictTup
import KE.KDictOf
import KE.KDictCopyH
import HandS.DictComp
import KE.KDictSum
import HandS.WordsDict
import HandS.Style
import KE.KDictZip
import HandS.Flt
import KE.KStateDown
import HandS.Base
import HandS.Call
import HandS.Ends
import HandS.Words
import HandS.WordsExc
import HandS.Head0
import HandS.Head1
import HandS.Head2
import PySem.Challenge.RW_whererules_k41_whole_finding
set_option Elab.async false
set_option linter.all false
set_option maxRecDepth 100000
set_option maxHeartbeats 8000000
namespace PySem
namespace DLSet
open L2 PyProof.Rows
abbrev emp (w : World) : Obj := { cls := .type "set", dict := none, data := .set #[] 0 (.fresh 0 0 (!w.params.followText "set-order")) }
section
variable {P : Program} {w : World} {A : Around} {E : Value → Shared → Prop} {s : Shared}
theorem set_of_list {l : Addr} {items : Array Value} (ns : List Int) {Q : Value → Shared → Prop} (hh : A.handled = none) (hl : s.heap.IsList l items) (hit : IntsAre items.toList ns) (hb : ns.length + 1 < scanBound)
    (h : ∀ (h' : Heap) (tk c : Nat), SetR w h' s.heap.objs.size (fun j => decide (j ∈ ns)) c → c ≤ ns.length → (∀ b o, s.heap.get? b = some o → h'.get? b = some o) → Q (.ref s.heap.objs.size) { s with heap := h', toks := tk }) :
    wpAny (model P w) A (call (.type "set") [.ref l]) Q E s := by
  have size_eq : items.size = ns.length := by simpa using IntsAre.length hit
  obtain ⟨c, tl, hmro⟩ := F.called_set.mro
  have hmade := F.called_set.made
  have hsub := F.called_set.sub
  apply wpAny_call
  apply codeAny_of_tree
  show wpAny _ _ (callAny (.type "set") _) _ _ _
  apply wpAny_pure
  refine ⟨Code.quiet_builtin _ (by decide +kernel), ?_⟩
  apply codeAny_builtin F.entry_type_call
  rw [Around.under_plain (weight_type_call_type "set" [.ref l] []) rfl]
  have h1 := F.called_set.notType
  have h2 := F.called_set.canCreate
  have hct := F.typeCall_set_1 (.ref l)
  repeat (any_goals (first | assumption | wp_step))
  refine codeAny_mono (code_set_led1 (.ref l) (E := E) (Q₁ := fun ob s1 => ob = .ref s.heap.objs.size ∧ s1 = { s with heap := s.heap.push (emp w) }) ⟨rfl, rfl⟩) ?_
  intro r s1 hr
  cases r with
  | error e => exact hr
  | ok fl =>
    cases fl with
    | ret ob =>
      obtain ⟨rfl, rfl⟩ := hr
      have hS : (s.heap.push (emp w)).get? s.heap.objs.size = some (emp w) := Heap.get?_push_size _ rfl
      have hT : Shared.TypeIs { s with heap := s.heap.push (emp w) } (.ref s.heap.objs.size) "set" := ⟨_, hS, rfl⟩
      have hli := F.called_set.init.lookup
      have hbi := F.called_set.init.bind (.ref s.heap.objs.size)
      repeat (any_goals (first | assumption | wp_step))
      refine codeAny_mono (codeAny_call_builtin (R := wants (fun r s2 => r = .none ∧ ∃ h' tk c, s2 = { s with heap := h', toks := tk } ∧ SetR w h' s.heap.objs.size (fun j => decide (j ∈ ns)) c ∧ c ≤ ns.length ∧
          (∀ b o, s.heap.get? b = some o → h'.get? b = some o)) E) F.called_set.init.plain F.entry_set_init (check_set_init_1 hT ?_)) ?_
      · obtain ⟨ol, hol, hcl, nl, hdl⟩ := hl
        obtain ⟨ocls, odict, odata, oslots⟩ := ol
        simp only at hcl hdl
        subst hcl
        subst hdl
        have hol1 : (s.heap.push (emp w)).get? l = some { cls := .type "list", dict := odict, data := .seq items nl, slots := oslots } := Heap.get?_push_of_some _ hol
        have hsls := F.sub_list_set
        have hslf := F.sub_list_frozenset
        have hne : (Value.type "list" == Value.type "dict") = false := by decide
        have hl1 : (s.heap.push (emp w)).IsList l items := ⟨_, hol1, rfl, nl, rfl⟩
        unfold Builtin.«set.__init__» noKeywords Builtin.Frozenset.updateFrom
        generalize hPI : pyIter = PI
        wp_walk
        subst hPI
        refine wpAny_pyIter_list hl1 ?_
        refine wpAny_bind (wpAny_runValue ?_)
        have lt : l < s.heap.objs.size := Heap.lt_size hol
        have calm3 : A.in1.in1.in1.handled = none := by simp [hh]
        have sz : (s.heap.push (emp w)).objs.size = s.heap.objs.size + 1 := Heap.size_push ..
        have apart : l ≠ (s.heap.push (emp w)).objs.size := by rw [sz]; exact Nat.ne_of_lt (Nat.lt_succ_of_lt lt)
        have free : s.heap.objs.size ∉ [(s.heap.push (emp w)).objs.size, l] := by
          rw [sz]
          simp only [List.mem_cons, List.not_mem_nil, or_false, not_or]
          exact ⟨Nat.ne_of_lt (Nat.lt_succ_self _), Nat.ne_of_gt lt⟩
        have val : ∀ (i : Nat) (v : Value), items[i]? = some v → ∃ k t, ns[i]? = some k ∧ v = .int k t := by
          intro i v hv
          have hi : i < ns.length := by rw [← size_eq]; exact (Array.getElem?_eq_some_iff.mp hv).1
          obtain ⟨t, e⟩ := PyProof.Rows.IntsAre.int_at hit i v (by rw [Array.getElem?_toList]; exact hv)
          refine ⟨ns[i], t, List.getElem?_eq_getElem hi, ?_⟩
          rw [e, List.getD_eq_getElem?_getD, List.getElem?_eq_getElem hi]
          rfl
        refine set_update_ints ((Walks.list calm3 _ l apart items).toS) s.heap.objs.size free ns size_eq hb val (items.size - 0) 0 _ (by omega) (Nat.zero_le _)
          ⟨⟨_, Heap.get?_push_size _ rfl, rfl, rfl⟩, (hl1.push _)⟩ ?hA ?hB
        case hA => exact ⟨0, Nat.le_refl 0, setR_new_at (Heap.get?_push_of_some _ hS)⟩
        case hB =>
          intro s' c' mv hc' hS'
          obtain ⟨h', g2, d', tk', os'⟩ := s'
          obtain rfl : g2 = s.gens := mv.gens
          obtain rfl : d' = s.drawn := mv.drawn
          obtain rfl : os' = s.os := mv.os
          show wpAny _ _ _ _ _ _
          apply wpAny_pure
          show wpAny _ _ (ret Value.none) _ _ _
          rw [size_eq] at hc'
          refine wpAny_pure ⟨rfl, h', tk', c', rfl, hS', hc', fun b o e => ?_⟩
          have hb0 : b < s.heap.objs.size := Heap.lt_size e
          refine mv.heap b o ?_ (Heap.get?_push_of_some _ (Heap.get?_push_of_some _ e))
          rw [sz]
          simp only [List.mem_cons, List.not_mem_nil, or_false, not_or]
          exact ⟨Nat.ne_of_lt hb0, Nat.ne_of_lt (Nat.lt_succ_of_lt hb0)⟩
      · intro r2 s2 hr2
        cases r2 with
        | error e => exact hr2
        | ok fl2 =>
          cases fl2 with
          | ret v2 =>
            obtain ⟨rfl, h', tk, c, rfl, hS', hc', hk⟩ := hr2
            repeat (any_goals (first | assumption | wp_step))
            exact h h' tk c hS' hc' hk
          | _ => exact hr2.elim
    | _ => exact hr.elim
end
end DLSet
end PySem
set_option maxHeartbeats 4000000
namespace DL
open PySem PySem.Spec PyProof.Rows L2
/-! ## data by value -/
structure Cas where
  cols : List (Option (List Int))
  n : Nat
  lab : List Nat
  facts : List (List Int)
inductive D where
  | non | bl (b : Bool) | int (i : Int) | str (x : Str) | lst (xs : List D) | tup (xs : List D) | cas (c : Cas) | dct (m : List (Key × Int))
inductive DV where
  | dat (d : D) | obj (k : Nat) | scr (ns : List Int) | exn (c : Str) (p : Option (Str × D))
abbrev zae := List (Option (List D))
abbrev zan := List (Option DV)
inductive Res (α : Type) where
  | ok (a : α) (S : zae) | ex (c : Str) (S : zae) | bad
def Res.bind {α β : Type} (r : Res α) (f : α → zae → Res β) : Res β := match r with
  | .ok a S => f a S
  | .ex c S => .ex c S
  | .bad => .bad
@[simp] theorem Res.bind_ok {α β : Type} (a : α) (S : zae) (f : α → zae → Res β) : (Res.ok a S).bind f = f a S := rfl
@[simp] theorem Res.bind_ex {α β : Type} (c : Str) (S : zae) (f : α → zae → Res β) : (Res.ex c S : Res α).bind f = .ex c S := rfl
@[simp] theorem Res.bind_bad {α β : Type} (f : α → zae → Res β) : (Res.bad : Res α).bind f = .bad := rfl
def ColV (K : PySem.W.Frag) (F : Hp) : V → Option (List Int) → Prop
  | v, none => v = .non
  | v, some ns => ∃ a, v = .ref a ∧ SqT K F a (ns.map V.int)
def ColVs (K : PySem.W.Frag) (F : Hp) : List V → List (Option (List Int)) → Prop
  | [], [] => True
  | v :: vs, c :: cs => ColV K F v c ∧ ColVs K F vs cs
  | _, _ => False
def zch (n m : Nat) : List (List Key) := (List.range n).flatMap fun r => (List.range m).map fun c => [Sum.inl ((r : Nat) : Int), Sum.inl ((c : Nat) : Int)]
structure CasK (K : PySem.W.Frag) : Prop where
  cl : Cls K (He.ga K "Case")
  na : ∀ f : Str, f ∈ (["columns", "count", "labels", "facts"] : List Str) → NoAttr K (He.ga K "Case") f
  ha : PySem.W.findIn K (.ref (He.ga K "Case")) "__class__" = some (some (.builtin "object.__class__"))
  hn : PySem.W.specialIn K (.builtin "object.__class__") "__get__" = some (some (.builtin "getset_descriptor.__get__"))
  htk : PySem.W.takesIn K (.builtin "object.__class__") = some true
  hm : PySem.W.mroIn K (He.ga K "Case") (.type "object") = some true
  kit : ∀ T : String, T ∈ ["int", "bool", "tuple", "list", "str"] → PySem.W.kitOne K (.ref (He.ga K "Case")) (.type T) = some false
structure CasAt (K : PySem.W.Frag) (F : Hp) (a : Addr) (c : Cas) : Prop where
  kit : CasK K
  of : ∃ (dx ca la fa : Addr) (fs : Nat → Addr) (cv : List V) (lo fo : Obj),
    F a = some (.ins (He.ga K "Case") dx [("columns", .ref ca), ("count", .int (c.n : Nat)), ("labels", .ref la), ("facts", .ref fa)]) ∧ F dx = some (.own a) ∧
    SqT K F ca cv ∧ ColVs K F cv c.cols ∧ c.lab.length = c.n * c.cols.length ∧ c.facts.length = c.n * c.cols.length ∧ (∀ l ∈ c.lab, l < c.facts.length) ∧
    F la = some (.frz lo (.dT ((zch c.n c.cols.length).zip (c.lab.map fun l => V.int (l : Nat))))) ∧
    F fa = some (.frz fo (.dK ((List.range c.facts.length).map fun i => (Sum.inl ((i : Nat) : Int), V.ref (fs i))))) ∧
    ∀ i, i < c.facts.length → F (fs i) = some (.lst ((c.facts.getD i []).map V.int))
mutual
inductive Wd (K : PySem.W.Frag) (F : Hp) : V → D → Prop
  | non : Wd K F .non .non
  | bl (b : Bool) : Wd K F (.bl b) (.bl b)
  | int (i : Int) : Wd K F (.int i) (.int i)
  | str (x : Str) : Wd K F (.str x) (.str x)
  | lst {a : Addr} {vs : List V} {ds : List D} : F a = some (.lst vs) → WdA K F vs ds → Wd K F (.ref a) (.lst ds)
  | tup {a : Addr} {vs : List V} {ds : List D} : SqT K F a vs → WdA K F vs ds → Wd K F (.ref a) (.tup ds)
  | cas {a : Addr} {c : Cas} : CasAt K F a c → Wd K F (.ref a) (.cas c)
  | dct {a : Addr} {m : List (Key × Int)} {o : Obj} : F a = some (.frz o (.dK (m.map fun p => (p.1, V.int p.2)))) → Wd K F (.ref a) (.dct m)
inductive WdA (K : PySem.W.Frag) (F : Hp) : List V → List D → Prop
  | nil : WdA K F [] []
  | cons {v : V} {vs : List V} {d : D} {ds : List D} : Wd K F v d → WdA K F vs ds → WdA K F (v :: vs) (d :: ds)
end
section
variable {K : PySem.W.Frag} {F F' : Hp}
theorem zbr (e : Same F F') {a : Addr} {xs : List V} (h : SqT K F a xs) : SqT K F' a xs := by
  rcases h with (h | ⟨o, h⟩) | h
  · exact .inl (.inl (e _ _ h))
  · exact .inl (.inr ⟨o, e _ _ h⟩)
  · exact .inr h
theorem ColV.mono (e : Same F F') {v : V} : ∀ {c : Option (List Int)}, ColV K F v c → ColV K F' v c
  | none, h => h
  | some _, ⟨a, h1, h2⟩ => ⟨a, h1, zbr e h2⟩
theorem ColVs.mono (e : Same F F') : ∀ {vs : List V} {cs : List (Option (List Int))}, ColVs K F vs cs → ColVs K F' vs cs
  | [], [], _ => trivial
  | _ :: _, _ :: _, ⟨h1, h2⟩ => ⟨h1.mono e, ColVs.mono e h2⟩
theorem CasAt.mono (e : Same F F') {a : Addr} {c : Cas} (h : CasAt K F a c) : CasAt K F' a c := by
  obtain ⟨dx, ca, la, fa, fs, cv, lo, fo, h1, h2, h3, h4, h5, h6, h7, h8, h9, h10⟩ := h.of
  exact ⟨h.kit, dx, ca, la, fa, fs, cv, lo, fo, e _ _ h1, e _ _ h2, zbr e h3, h4.mono e, h5, h6, h7, e _ _ h8, e _ _ h9, fun i hi => e _ _ (h10 i hi)⟩
mutual
theorem Wd.mono (e : Same F F') : ∀ {d : D} {v : V}, Wd K F v d → Wd K F' v d
  | .non, _, h => by cases h; exact .non
  | .bl _, _, h => by cases h; exact .bl _
  | .int _, _, h => by cases h; exact .int _
  | .str _, _, h => by cases h; exact .str _
  | .lst ds, _, h => by
    cases h with
    | lst s a => exact .lst (e _ _ s) (WdA.mono e a)
  | .tup ds, _, h => by
    cases h with
    | tup s a => exact .tup (zbr e s) (WdA.mono e a)
  | .cas _, _, h => by
    cases h with
    | cas h => exact .cas (h.mono e)
  | .dct _, _, h => by
    cases h with
    | dct h => exact .dct (e _ _ h)
theorem WdA.mono (e : Same F F') : ∀ {ds : List D} {vs : List V}, WdA K F vs ds → WdA K F' vs ds
  | [], _, h => by cases h; exact .nil
  | d :: ds, _, h => by
    cases h with
    | cons a b => exact .cons (Wd.mono e a) (WdA.mono e b)
end
theorem WdA.length : ∀ {ds : List D} {vs : List V}, WdA K F vs ds → vs.length = ds.length
  | [], _, h => by cases h; rfl
  | d :: ds, _, h => by
    cases h with
    | cons a b => simp [WdA.length b]
theorem WdA.get : ∀ {ds : List D} {vs : List V} {i : Nat} {v : V}, WdA K F vs ds → vs[i]? = some v → ∃ d, ds[i]? = some d ∧ Wd K F v d
  | [], _, i, v, h, e => by cases h; simp at e
  | d :: ds, _, 0, v, h, e => by
    cases h with
    | cons a b => simp at e; subst e; exact ⟨d, rfl, a⟩
  | d :: ds, _, i + 1, v, h, e => by
    cases h with
    | cons a b => simp at e; obtain ⟨q, h1, h2⟩ := WdA.get b e; exact ⟨q, by simpa using h1, h2⟩
theorem WdA.get' : ∀ {ds : List D} {vs : List V} {i : Nat} {d : D}, WdA K F vs ds → ds[i]? = some d → ∃ v, vs[i]? = some v ∧ Wd K F v d
  | [], _, i, v, h, e => by simp at e
  | d :: ds, _, 0, v, h, e => by
    cases h with
    | cons a b => simp at e; subst e; exact ⟨_, rfl, a⟩
  | d :: ds, _, i + 1, v, h, e => by
    cases h with
    | cons a b => simp at e; obtain ⟨q, h1, h2⟩ := WdA.get' b e; exact ⟨q, by simpa using h1, h2⟩
theorem WdA.append : ∀ {ds es : List D} {vs us : List V}, WdA K F vs ds → WdA K F us es → WdA K F (vs ++ us) (ds ++ es)
  | [], _, _, _, h, g => by cases h; exact g
  | d :: ds, _, _, _, h, g => by
    cases h with
    | cons a b => exact .cons a (WdA.append b g)
theorem WdA.take : ∀ {ds : List D} {vs : List V} (n : Nat), WdA K F vs ds → WdA K F (vs.take n) (ds.take n)
  | _, _, 0, _ => by simp; exact .nil
  | [], _, n + 1, h => by cases h; exact .nil
  | d :: ds, _, n + 1, h => by
    cases h with
    | cons a b => exact .cons a (WdA.take n b)
theorem WdA.drop : ∀ {ds : List D} {vs : List V} (n : Nat), WdA K F vs ds → WdA K F (vs.drop n) (ds.drop n)
  | _, _, 0, h => by simpa using h
  | [], _, n + 1, h => by cases h; exact .nil
  | d :: ds, _, n + 1, h => by
    cases h with
    | cons a b => simpa using WdA.drop n b
theorem WdA.set : ∀ {ds : List D} {vs : List V} (n : Nat) {v : V} {d : D}, WdA K F vs ds → Wd K F v d → WdA K F (vs.set n v) (ds.set n d)
  | [], _, _, _, _, h, _ => by cases h; exact .nil
  | d :: ds, _, 0, _, _, h, g => by
    cases h with
    | cons a b => exact .cons g b
  | d :: ds, _, n + 1, _, _, h, g => by
    cases h with
    | cons a b => exact .cons a (WdA.set n b g)
end
/-! ## how a state of the layer L2 is worth slots and a store -/
def ExK (K : PySem.W.Frag) (c : Str) (d : Option Addr) (a : Addr) : HO := .ext fun h => ∃ (oe : Obj) (vs : Array Value), h.get? a = some oe ∧ Zc (.ref (He.ga K c)) d oe ∧ oe.data = .fields vs
def WExn (K : PySem.W.Frag) (F : Hp) (a : Addr) (c : Str) : Option (Str × D) → Prop
  | none => F a = some (ExK K c none a)
  | some (f, y) => ∃ (dx : Addr) (v : V), F a = some (ExK K c (some dx) a) ∧ F dx = some (.xd [(f, v)]) ∧ Wd K F v y
theorem WExn.mono {K : PySem.W.Frag} {F F' : Hp} {a : Addr} {c : Str} {p : Option (Str × D)} (sm : Same F F') (h : WExn K F a c p) : WExn K F' a c p := by
  cases p with
  | none => exact sm _ _ h
  | some q =>
    obtain ⟨f, y⟩ := q
    obtain ⟨dx, v, h1, h2, h3⟩ := h
    exact ⟨dx, v, sm _ _ h1, sm _ _ h2, h3.mono sm⟩
def WV (K : PySem.W.Frag) (ι : List Addr) (F : Hp) (v : V) : DV → Prop
  | .dat d => Wd K F v d
  | .obj k => ∃ a, ι[k]? = some a ∧ v = .ref a
  | .scr ns => ∃ a, v = .ref a ∧ SqL K F a (ns.map V.int)
  | .exn c p => ∃ a, v = .ref a ∧ WExn K F a c p
inductive WVs (K : PySem.W.Frag) (ι : List Addr) (F : Hp) : List V → List DV → Prop
  | nil : WVs K ι F [] []
  | cons {v : V} {vs : List V} {d : DV} {ds : List DV} : WV K ι F v d → WVs K ι F vs ds → WVs K ι F (v :: vs) (d :: ds)
structure StR (K : PySem.W.Frag) (ι : List Addr) (F : Hp) (S : zae) (H : Hp) : Prop where
  sub : Same F H
  len : ι.length = S.length
  nd : ι.Nodup
  full : ∀ b ∈ ι, H b ≠ none
  cell : ∀ (k : Nat) (ds : List D), S[k]? = some (some ds) → ∃ a vs, ι[k]? = some a ∧ H a = some (.lst vs) ∧ F a = none ∧ WdA K F vs ds
structure RR (K : PySem.W.Frag) (ι : List Addr) (F : Hp) (ρ : zan) (S : zae) (σ : L2.St) (H : Hp) : Prop where
  st : StR K ι F S H
  len : ρ.length = σ.length
  slot : ∀ (i : Nat) (dv : DV), ρ[i]? = some (some dv) → ∃ v, σ[i]? = some (some v) ∧ WV K ι F v dv
def NoT (o : HO) : Prop := ∀ xs, o ≠ .tup xs
structure Grow (ι : List Addr) (F H : Hp) (ι' : List Addr) (F' H' : Hp) : Prop where
  pre : ι <+: ι'
  sf : Same F F'
  keep : ∀ b o, H b = some o → b ∉ ι → H' b = some o
  new : ∀ b o, H b = some o → NoT o → F b = none → b ∉ ι → F' b = none
  nio : ∀ b ∈ ι', b ∈ ι ∨ H b = none
  dom : ∀ b, H' b = none → H b = none
theorem Grow.refl {ι : List Addr} {F H : Hp} : Grow ι F H ι F H := ⟨List.prefix_rfl, Same.refl _, fun _ _ h _ => h, fun _ _ _ _ h _ => h, fun _ h => .inl h, fun _ h => h⟩
theorem zcv {H : Hp} {p b : Addr} {o : HO} (h : upd H p o b = none) : H b = none := by
  by_cases e : b = p
  · subst e; rw [upd_same] at h; cases h
  · rw [upd_ne e] at h; exact h
theorem zj8 {H : Hp} {p b : Addr} {o : HO} (h : H b ≠ none) : upd H p o b ≠ none := fun z => h (zcv z)
theorem Grow.trans {ι ι1 ι2 : List Addr} {F F1 F2 H H1 H2 : Hp} (a : Grow ι F H ι1 F1 H1) (b : Grow ι1 F1 H1 ι2 F2 H2) : Grow ι F H ι2 F2 H2 := by
  have out : ∀ c o, H c = some o → c ∉ ι → c ∉ ι1 := fun c o h n m => by
    rcases a.nio c m with q | q
    · exact n q
    · rw [h] at q; cases q
  refine ⟨a.pre.trans b.pre, a.sf.trans b.sf, fun c o h n => b.keep c o (a.keep c o h n) (out c o h n), fun c o h t f n => b.new c o (a.keep c o h n) t (a.new c o h t f n) (out c o h n), fun c m => ?_, fun c h => a.dom c (b.dom c h)⟩
  rcases b.nio c m with q | q
  · exact a.nio c q
  · by_cases n : c ∈ ι
    · exact .inl n
    · cases e : H c with
      | none => exact .inr rfl
      | some o => rw [a.keep c o e n] at q; cases q
theorem WV.grow {K : PySem.W.Frag} {ι ι' : List Addr} {F F' H H' : Hp} (g : Grow ι F H ι' F' H') {v : V} {dv : DV} (h : WV K ι F v dv) : WV K ι' F' v dv := by
  cases dv with
  | dat d => exact Wd.mono g.sf h
  | obj k =>
    obtain ⟨a, h1, h2⟩ := h
    refine ⟨a, ?_, h2⟩
    obtain ⟨t, rfl⟩ := g.pre
    rw [List.getElem?_append_left (List.getElem?_eq_some_iff.mp h1).1]; exact h1
  | scr ns =>
    obtain ⟨a, h1, h2⟩ := h
    exact ⟨a, h1, g.sf.seq h2⟩
  | exn c p =>
    obtain ⟨a, h1, h2⟩ := h
    exact ⟨a, h1, h2.mono g.sf⟩
theorem WVs.grow {K : PySem.W.Frag} {ι ι' : List Addr} {F F' H H' : Hp} (g : Grow ι F H ι' F' H') {vs : List V} {ds : List DV} (h : WVs K ι F vs ds) : WVs K ι' F' vs ds := by
  induction h with
  | nil => exact .nil
  | cons a _ ih => exact .cons (a.grow g) ih
theorem WVs.length {K : PySem.W.Frag} {ι : List Addr} {F : Hp} {vs : List V} {ds : List DV} (h : WVs K ι F vs ds) : vs.length = ds.length := by
  induction h with
  | nil => rfl
  | cons _ _ ih => simp [ih]
theorem StR.push {K : PySem.W.Frag} {ι : List Addr} {F H : Hp} {S : zae} (r : StR K ι F S H) {p : Addr} (hp : H p = none) (o : HO) : StR K ι (upd F p o) S (upd H p o) := by
  refine ⟨fun b u e => ?_, r.len, r.nd, fun b hb => zj8 (r.full b hb), fun k ds e => ?_⟩
  · by_cases h : b = p
    · subst h; rw [upd_same] at e ⊢; exact e
    · rw [upd_ne h] at e ⊢; exact r.sub b u e
  · obtain ⟨a, vs, h1, h2, h3, h4⟩ := r.cell k ds e
    have n : a ≠ p := fun z => by rw [z, hp] at h2; cases h2
    refine ⟨a, vs, h1, by rw [upd_ne n]; exact h2, by rw [upd_ne n]; exact h3, WdA.mono (fun b u e => ?_) h4⟩
    rw [upd_ne (fun z => by rw [z] at e; rw [r.sub p u e] at hp; cases hp)]; exact e
theorem zia {F H : Hp} (s : Same F H) {p : Addr} (hp : H p = none) (o : HO) : Same F (upd F p o) := fun b u e => by
  rw [upd_ne (fun z => by rw [z] at e; rw [s p u e] at hp; cases hp)]; exact e
theorem zi_ {ι : List Addr} {F H : Hp} (s : Same F H) {p : Addr} (hp : H p = none) (o : HO) : Grow ι F H ι (upd F p o) (upd H p o) := by
  have n : ∀ b u, H b = some u → b ≠ p := fun b u e z => by rw [z, hp] at e; cases e
  exact ⟨List.prefix_rfl, zia s hp o, fun b u e _ => by rw [upd_ne (n b u e)]; exact e, fun b u e _ f _ => by rw [upd_ne (n b u e)]; exact f, fun b h => .inl h, fun b h => zcv h⟩
theorem zfa {ι : List Addr} {F H : Hp} {p : Addr} (hp : H p = none) (o : HO) : Grow ι F H ι F (upd H p o) := by
  have n : ∀ b u, H b = some u → b ≠ p := fun b u e z => by rw [z, hp] at e; cases e
  exact ⟨List.prefix_rfl, Same.refl _, fun b u e _ => by rw [upd_ne (n b u e)]; exact e, fun b u e _ f _ => f, fun b h => .inl h, fun b h => zcv h⟩
theorem StR.alone {K : PySem.W.Frag} {ι : List Addr} {F H : Hp} {S : zae} (r : StR K ι F S H) {p : Addr} (hp : H p = none) (o : HO) : StR K ι F S (upd H p o) := by
  have n : ∀ b u, H b = some u → b ≠ p := fun b u e z => by rw [z, hp] at e; cases e
  exact ⟨fun b u e => by rw [upd_ne (n b u (r.sub b u e))]; exact r.sub b u e, r.len, r.nd, fun b hb => zj8 (r.full b hb), fun k ds e =>
    let ⟨a, vs, h1, h2, h3, h4⟩ := r.cell k ds e
    ⟨a, vs, h1, by rw [upd_ne (n a _ h2)]; exact h2, h3, h4⟩⟩
theorem RR.slots {K : PySem.W.Frag} {ι ι' : List Addr} {F F' H H' : Hp} {ρ : zan} {S S' : zae} {σ : L2.St} (r : RR K ι F ρ S σ H) (g : Grow ι F H ι' F' H') (st : StR K ι' F' S' H') : RR K ι' F' ρ S' σ H' :=
  ⟨st, r.len, fun i dv e => let ⟨v, h1, h2⟩ := r.slot i dv e; ⟨v, h1, h2.grow g⟩⟩
theorem RR.push {K : PySem.W.Frag} {ι : List Addr} {F H : Hp} {ρ : zan} {S : zae} {σ : L2.St} (r : RR K ι F ρ S σ H) {p : Addr} (hp : H p = none) (o : HO) : RR K ι (upd F p o) ρ S σ (upd H p o) :=
  r.slots (zi_ r.st.sub hp o) (r.st.push hp o)
end DL
set_option maxHeartbeats 4000000
namespace DL
open PySem PySem.Spec PyProof.Rows L2
/-! ## judgements -/
abbrev XFn := zan → zae → Res DV
abbrev TFn := zan → zae → Res Bool
abbrev AFn := zan → zae → Res (List DV)
def Post {α : Type} (K : PySem.W.Frag) (mg : Str → Option Value) (E : XK) (ι : List Addr) (F H : Hp) (r : Res α) (Q : α → List Addr → Hp → Hp → Prop) : Prop :=
  match r with
  | .ok a S' => ∀ ι' F' H', Grow ι F H ι' F' H' → StR K ι' F' S' H' → Q a ι' F' H'
  | .ex c S' => ∀ C ι' F' H', Grow ι F H ι' F' H' → StR K ι' F' S' H' → mg c = some (.ref C) → E (.ref C) none H'
  | .bad => False
section
variable {α β : Type} {K : PySem.W.Frag} {mg : Str → Option Value} {E : XK} {ι : List Addr} {F H : Hp}
theorem Post.mono {r : Res α} {Q Q' : α → List Addr → Hp → Hp → Prop} (h : Post K mg E ι F H r Q) (k : ∀ a ι' F' H', Grow ι F H ι' F' H' → Q a ι' F' H' → Q' a ι' F' H') : Post K mg E ι F H r Q' := by
  cases r with
  | ok a S' => exact fun ι' F' H' g st => k a ι' F' H' g (h ι' F' H' g st)
  | ex c S' => exact h
  | bad => exact h
theorem Post.grow {r : Res α} {ι1 : List Addr} {F1 H1 : Hp} {Q : α → List Addr → Hp → Hp → Prop} (h : Post K mg E ι F H r Q) (g : Grow ι F H ι1 F1 H1) : Post K mg E ι1 F1 H1 r Q := by
  cases r with
  | ok a S' => exact fun ι' F' H' g' st => h ι' F' H' (g.trans g') st
  | ex c S' => exact fun C ι' F' H' g' st m => h C ι' F' H' (g.trans g') st m
  | bad => exact h
end
def tD (X : Cx) (W : WX) (f : XFn) : TE := fun σ H Q => ∃ ι F ρ S, RR X.K ι F ρ S σ H ∧ Post X.K X.mg (fun c d H' => W c d σ H') ι F H (f ρ S) fun dv ι' F' H' => ∀ v, WV X.K ι' F' v dv → Q v H'
def tT (X : Cx) (W : WX) (f : TFn) : TT := fun σ H Q => ∃ ι F ρ S, RR X.K ι F ρ S σ H ∧ Post X.K X.mg (fun c d H' => W c d σ H') ι F H (f ρ S) fun b ι' F' H' => Q b H'
def tA (X : Cx) (W : WX) (f : AFn) : TA := fun σ H Q => ∃ ι F ρ S, RR X.K ι F ρ S σ H ∧ Post X.K X.mg (fun c d H' => W c d σ H') ι F H (f ρ S) fun ds ι' F' H' => ∀ vs, WVs X.K ι' F' vs ds → Q vs H'
structure DE (X : Cx) (W : WX) (e : Expr) (f : XFn) : Prop where
  pe : PE X e (tD X W f)
structure DT (X : Cx) (W : WX) (e : Expr) (f : TFn) : Prop where
  pt : PT X e (tT X W f)
structure DW (X : Cx) (W : WX) (e : Expr) (f : TFn) : Prop where
  pw : PW X e (tT X W f)
structure DA (X : Cx) (W : WX) (es : List Expr) (f : AFn) : Prop where
  pa : PA X es (tA X W f)
section
variable {X : Cx} {W : WX} {e a b c : Expr} {es : List Expr} {pos p : Pos}
theorem PE.weak {te te' : TE} (h : PE X e te) (k : ∀ σ H Q, te' σ H Q → te σ H Q) : PE X e te' := ⟨fun pins s σ H Q I q => h.run pins s σ H Q I (k σ H Q q)⟩
theorem PT.weak {te te' : TT} (h : PT X e te) (k : ∀ σ H Q, te' σ H Q → te σ H Q) : PT X e te' := ⟨fun pins s σ H Q I q => h.run pins s σ H Q I (k σ H Q q)⟩
theorem PW.weak {te te' : TT} (h : PW X e te) (k : ∀ σ H Q, te' σ H Q → te σ H Q) : PW X e te' := ⟨fun whole pins s σ H Q I q => h.run whole pins s σ H Q I (k σ H Q q)⟩
theorem PA.weak {te te' : TA} (h : PA X es te) (k : ∀ σ H Q, te' σ H Q → te σ H Q) : PA X es te' := ⟨fun pos pins s σ H Q I q => h.run pos pins s σ H Q I (k σ H Q q)⟩
theorem tD.bind {α : Type} {f : XFn} {g : zan → DV → zae → Res α} {σ : L2.St} {H : Hp} {R : VK} {Q : α → List Addr → Hp → Hp → Prop} {ι : List Addr} {F : Hp} {ρ : zan} {S : zae} (r : RR X.K ι F ρ S σ H)
    (h : Post X.K X.mg (fun c d H' => W c d σ H') ι F H ((f ρ S).bind (g ρ)) Q)
    (k : ∀ v dv ι1 F1 S1 H1, RR X.K ι1 F1 ρ S1 σ H1 → WV X.K ι1 F1 v dv → Grow ι F H ι1 F1 H1 → Post X.K X.mg (fun c d H' => W c d σ H') ι1 F1 H1 (g ρ dv S1) Q → R v H1) : tD X W f σ H R := by
  refine ⟨ι, F, ρ, S, r, ?_⟩
  cases q : f ρ S with
  | ok dv S1 =>
    rw [q] at h
    exact fun ι1 F1 H1 g1 st v wv => k v dv ι1 F1 S1 H1 (r.slots g1 st) wv g1 (Post.grow (r := g ρ dv S1) h g1)
  | ex c S1 => rw [q] at h; exact h
  | bad => rw [q] at h; exact h
theorem tT.bind {α : Type} {f : TFn} {g : zan → Bool → zae → Res α} {σ : L2.St} {H : Hp} {R : Bool → Hp → Prop} {Q : α → List Addr → Hp → Hp → Prop} {ι : List Addr} {F : Hp} {ρ : zan} {S : zae} (r : RR X.K ι F ρ S σ H)
    (h : Post X.K X.mg (fun c d H' => W c d σ H') ι F H ((f ρ S).bind (g ρ)) Q)
    (k : ∀ b ι1 F1 S1 H1, RR X.K ι1 F1 ρ S1 σ H1 → Grow ι F H ι1 F1 H1 → Post X.K X.mg (fun c d H' => W c d σ H') ι1 F1 H1 (g ρ b S1) Q → R b H1) : tT X W f σ H R := by
  refine ⟨ι, F, ρ, S, r, ?_⟩
  cases q : f ρ S with
  | ok b S1 =>
    rw [q] at h
    exact fun ι1 F1 H1 g1 st => k b ι1 F1 S1 H1 (r.slots g1 st) g1 (Post.grow (r := g ρ b S1) h g1)
  | ex c S1 => rw [q] at h; exact h
  | bad => rw [q] at h; exact h
theorem tA.bind {α : Type} {f : AFn} {g : zan → List DV → zae → Res α} {σ : L2.St} {H : Hp} {R : List V → Hp → Prop} {Q : α → List Addr → Hp → Hp → Prop} {ι : List Addr} {F : Hp} {ρ : zan} {S : zae} (r : RR X.K ι F ρ S σ H)
    (h : Post X.K X.mg (fun c d H' => W c d σ H') ι F H ((f ρ S).bind (g ρ)) Q)
    (k : ∀ vs ds ι1 F1 S1 H1, RR X.K ι1 F1 ρ S1 σ H1 → WVs X.K ι1 F1 vs ds → Grow ι F H ι1 F1 H1 → Post X.K X.mg (fun c d H' => W c d σ H') ι1 F1 H1 (g ρ ds S1) Q → R vs H1) : tA X W f σ H R := by
  refine ⟨ι, F, ρ, S, r, ?_⟩
  cases q : f ρ S with
  | ok ds S1 =>
    rw [q] at h
    exact fun ι1 F1 H1 g1 st vs wv => k vs ds ι1 F1 S1 H1 (r.slots g1 st) wv g1 (Post.grow (r := g ρ ds S1) h g1)
  | ex c S1 => rw [q] at h; exact h
  | bad => rw [q] at h; exact h
/-! ## names, constants -/
def xVar (i : Nat) : XFn := fun ρ S => match ρ[i]? with
  | some (some dv) => .ok dv S
  | _ => .bad
def xC (d : D) : XFn := fun _ S => .ok (.dat d) S
theorem zaa {i : Nat} {x : Str} (hN : X.N[i]? = some x := by rfl) (hv : Vis X.env.scope x := by first | exact .inl rfl | exact .inr (.inl rfl) | exact .inr (.inr rfl)) (hd : (x == ("__debug__" : Str)) = false := by decide) (hcd : (x == ("__classdict__" : Str)) = false := by decide) : DE X W (.Name x pos) (xVar i) := by
  refine ⟨PE.weak (pe_var hN hv hd hcd) fun σ H Q ⟨ι, F, ρ, S, r, h⟩ => ?_⟩
  unfold xVar at h
  cases q : ρ[i]? with
  | none => rw [q] at h; exact h.elim
  | some o =>
    cases o with
    | none => rw [q] at h; exact h.elim
    | some dv =>
      rw [q] at h
      obtain ⟨v, h1, h2⟩ := r.slot i dv q
      exact ⟨v, h1, h ι F H .refl r.st v h2⟩
theorem zl6 {d : D} {v : V} (h : PE X e (tC v)) (w : ∀ K F, Wd K F v d) : DE X W e (xC d) :=
  ⟨PE.weak h fun σ H Q ⟨ι, F, ρ, S, r, h⟩ => h ι F H .refl r.st v (w _ _)⟩
theorem zag {i : Int} {j : Nat} : DE X W (.Constant (.int i) j pos) (xC (.int i)) := zl6 pe_int fun _ _ => .int i
theorem zgy {i : Bool} {j : Nat} : DE X W (.Constant (.bool i) j pos) (xC (.bl i)) := zl6 pe_bl fun _ _ => .bl i
theorem zec {j : Nat} : DE X W (.Constant .none j pos) (xC .non) := zl6 pe_non fun _ _ => .non
theorem zk4 {x : Str} {i : Int} (hg : Gl X x) (hm : ∃ t, X.mg x = some (.int i t)) (hd : (x == ("__debug__" : Str)) = false := by decide) : DE X W (.Name x pos) (xC (.int i)) := by
  obtain ⟨t, hm⟩ := hm
  exact zl6 (v := .int i) (pe_glob hg hm ⟨_, rfl⟩ hd) fun _ _ => .int i
/-! ## argument lists -/
def aNil : AFn := fun _ S => .ok [] S
def zac (f : XFn) (g : AFn) : AFn := fun ρ S => (f ρ S).bind fun d S1 => (g ρ S1).bind fun ds S2 => .ok (d :: ds) S2
theorem zad : DA X W [] aNil := ⟨PA.weak pa_nil fun σ H Q ⟨ι, F, ρ, S, r, h⟩ => h ι F H .refl r.st [] .nil⟩
theorem za_ {f : XFn} {g : AFn} (he : DE X W e f) (hs : DA X W es g) (hse : starEach (e :: es) X.env = (false, eval e X.env) :: starEach es X.env := by rfl) : DA X W (e :: es) (zac f g) := by
  refine ⟨PA.weak (pa_cons he.pe hs.pa hse) fun σ H Q ⟨ι, F, ρ, S, r, h⟩ => ?_⟩
  refine tD.bind (g := fun ρ d S1 => (g ρ S1).bind fun ds S2 => .ok (d :: ds) S2) r h fun v dv ι1 F1 S1 H1 r1 w1 g1 h1 => ?_
  refine tA.bind (g := fun ρ ds S2 => .ok (dv :: ds) S2) r1 h1 fun vs ds ι2 F2 S2 H2 r2 w2 g2 h2 => ?_
  exact h2 ι2 F2 H2 .refl r2.st (v :: vs) (.cons (w1.grow g2) w2)
/-! ## reading data -/
def rd (S : zae) : DV → Option D
  | .dat d => some d
  | .obj k => match S[k]? with
    | some (some xs) => some (.lst xs)
    | _ => none
  | .scr _ => none
  | .exn _ _ => none
inductive Vw (K : PySem.W.Frag) (F H : Hp) : V → D → Prop
  | non : Vw K F H .non .non
  | bl (b : Bool) : Vw K F H (.bl b) (.bl b)
  | int (i : Int) : Vw K F H (.int i) (.int i)
  | str (x : Str) : Vw K F H (.str x) (.str x)
  | lst {a : Addr} {vs : List V} {ds : List D} : H a = some (.lst vs) → WdA K F vs ds → Vw K F H (.ref a) (.lst ds)
  | tup {a : Addr} {vs : List V} {ds : List D} : SqT K F a vs → WdA K F vs ds → Vw K F H (.ref a) (.tup ds)
  | cas {a : Addr} {c : Cas} : CasAt K F a c → Vw K F H (.ref a) (.cas c)
  | dct {a : Addr} {m : List (Key × Int)} {o : Obj} : F a = some (.frz o (.dK (m.map fun p => (p.1, V.int p.2)))) → Vw K F H (.ref a) (.dct m)
theorem Wd.vw {K : PySem.W.Frag} {F H : Hp} (s : Same F H) {v : V} {d : D} (h : Wd K F v d) : Vw K F H v d := by
  cases h with
  | non => exact .non
  | bl b => exact .bl b
  | int b => exact .int b
  | str b => exact .str b
  | lst q w => exact .lst (s _ _ q) w
  | tup q w => exact .tup q w
  | cas h => exact .cas h
  | dct h => exact .dct h
theorem Vw.wd {K : PySem.W.Frag} {F H : Hp} (s : Same F H) {v : V} {d : D} (h : Vw K F H v d) : Wd K H v d := by
  cases h with
  | non => exact .non
  | bl b => exact .bl b
  | int b => exact .int b
  | str b => exact .str b
  | lst q w => exact .lst q (w.mono s)
  | tup q w => exact .tup (zbr s q) (w.mono s)
  | cas h => exact .cas (h.mono s)
  | dct h => exact .dct (s _ _ h)
theorem StR.vw {K : PySem.W.Frag} {ι : List Addr} {F H : Hp} {S : zae} (st : StR K ι F S H) {v : V} {dv : DV} {d : D} (w : WV K ι F v dv) (e : rd S dv = some d) : Vw K F H v d := by
  cases dv with
  | dat d' => cases e; exact Wd.vw st.sub w
  | obj k =>
    obtain ⟨a, h1, h2⟩ := w
    simp only [rd] at e
    cases q : S[k]? with
    | none => simp [q] at e
    | some o =>
      cases o with
      | none => simp [q] at e
      | some xs =>
        simp [q] at e
        subst e
        obtain ⟨a', vs, h3, h4, h5, h6⟩ := st.cell k xs q
        rw [h1] at h3
        cases h3
        subst h2
        exact .lst h4 h6
  | scr ns => cases e
  | exn c p => cases e
/-! ## tuples, lists -/
def dats : List DV → Option (List D)
  | [] => some []
  | .dat d :: r => (dats r).map (d :: ·)
  | _ :: _ => none
theorem WVs.dats {K : PySem.W.Frag} {ι : List Addr} {F : Hp} {vs : List V} {ds : List DV} (h : WVs K ι F vs ds) : ∀ {xs : List D}, DL.dats ds = some xs → WdA K F vs xs := by
  induction h with
  | nil => intro xs e; cases e; exact .nil
  | @cons v vs d ds a _ ih =>
    intro xs e
    cases d with
    | obj k => cases e
    | scr ns => cases e
    | exn c p => cases e
    | dat d =>
      unfold DL.dats at e
      cases q : DL.dats ds with
      | none => rw [q] at e; cases e
      | some ys => rw [q] at e; cases e; exact .cons a (ih q)
def mkTup (ds : List DV) (S : zae) : Res DV := match dats ds with
  | some xs => if xs.length ≤ sizeLine then .ok (.dat (.tup xs)) S else .bad
  | none => .bad
def mkLst (ds : List DV) (S : zae) : Res DV := match dats ds with
  | some xs => if xs.length ≤ sizeLine then .ok (.dat (.lst xs)) S else .bad
  | none => .bad
def xTup (f : AFn) : XFn := fun ρ S => (f ρ S).bind mkTup
def xLst (f : AFn) : XFn := fun ρ S => (f ρ S).bind mkLst
theorem zdx {f : AFn} {k : Nat} (h : DA X W es f) : DE X W (.Tuple es k pos) (xTup f) := by
  refine ⟨PE.weak (pe_tup h.pa) fun σ H Q ⟨ι, F, ρ, S, r, h⟩ => ?_⟩
  refine tA.bind (g := fun _ => mkTup) r h fun vs ds ι1 F1 S1 H1 r1 w1 g1 h1 => ?_
  unfold mkTup at h1
  cases q : dats ds with
  | none => rw [q] at h1; exact h1.elim
  | some xs =>
    rw [q] at h1
    have wx := w1.dats q
    by_cases hl : xs.length ≤ sizeLine
    · simp only [hl, if_true] at h1
      refine ⟨by rw [wx.length]; exact hl, fun p hp => ?_⟩
      exact h1 ι1 _ _ (zi_ r1.st.sub hp _) (r1.st.push hp _) _ (.tup (.of upd_same) (wx.mono (zia r1.st.sub hp _)))
    · simp only [hl, if_false] at h1; exact h1.elim
theorem zkc {f : AFn} (h : DA X W es f) : DE X W (.List es pos) (xLst f) := by
  refine ⟨PE.weak (pe_lst h.pa) fun σ H Q ⟨ι, F, ρ, S, r, h⟩ => ?_⟩
  refine tA.bind (g := fun _ => mkLst) r h fun vs ds ι1 F1 S1 H1 r1 w1 g1 h1 => ?_
  unfold mkLst at h1
  cases q : dats ds with
  | none => rw [q] at h1; exact h1.elim
  | some xs =>
    rw [q] at h1
    have wx := w1.dats q
    by_cases hl : xs.length ≤ sizeLine
    · simp only [hl, if_true] at h1
      refine ⟨by rw [wx.length]; exact hl, fun p hp => ?_⟩
      exact h1 ι1 _ _ (zi_ r1.st.sub hp _) (r1.st.push hp _) _ (.lst upd_same (wx.mono (zia r1.st.sub hp _)))
    · simp only [hl, if_false] at h1; exact h1.elim
end
end DL
set_option maxHeartbeats 4000000
namespace DL
open PySem PySem.Spec PyProof.Rows L2
/-! ## operators on data -/
abbrev Op2 := DV → DV → zae → Res DV
def res1 (o : Option D) (S : zae) : Res DV := match o with
  | some c => .ok (.dat c) S
  | none => .bad
def o2 (f : D → D → Option D) : Op2 := fun x y S => match rd S x, rd S y with
  | some a, some b => res1 (f a b) S
  | _, _ => .bad
def x2 (o : Op2) (f g : XFn) : XFn := fun ρ S => (f ρ S).bind fun x S1 => (g ρ S1).bind fun y S2 => o x y S2
def Ret (K : PySem.W.Frag) (ι : List Addr) (F H : Hp) (S : zae) (c : D) (Q : VK) : Prop :=
  ∀ z F' H', Grow ι F H ι F' H' → StR K ι F' S H' → Wd K F' z c → Q z H'
def OpOk (K : PySem.W.Frag) (r : R2) (o : Op2) : Prop := ∀ (mg : Str → Option Value) (E : XK) (ι : List Addr) (F H : Hp) (S : zae) (v u : V) (x y : DV) (Q : VK), StR K ι F S H → WV K ι F v x → WV K ι F u y →
  Post K mg E ι F H (o x y S) (fun dv ι' F' H' => ∀ z, WV K ι' F' z dv → Q z H') → r v u H Q
section
variable {X : Cx} {W : WX} {e a b c : Expr} {es : List Expr} {pos p : Pos} {K : PySem.W.Frag} {ι : List Addr} {F H : Hp} {S : zae}
theorem Ret.same {c : D} {Q : VK} (h : Ret K ι F H S c Q) (st : StR K ι F S H) {z : V} (w : Wd K F z c) : Q z H := h z F H .refl st w
theorem Ret.tup {ds : List D} {vs : List V} {Q : VK} (h : Ret K ι F H S (.tup ds) Q) (st : StR K ι F S H) (w : WdA K F vs ds) {p : Addr} (hp : H p = none) : Q (.ref p) (upd H p (.tup vs)) :=
  h _ _ _ (zi_ st.sub hp _) (st.push hp _) (.tup (.of upd_same) (w.mono (zia st.sub hp _)))
theorem Ret.lst {ds : List D} {vs : List V} {Q : VK} (h : Ret K ι F H S (.lst ds) Q) (st : StR K ι F S H) (w : WdA K F vs ds) {p : Addr} (hp : H p = none) : Q (.ref p) (upd H p (.lst vs)) :=
  h _ _ _ (zi_ st.sub hp _) (st.push hp _) (.lst upd_same (w.mono (zia st.sub hp _)))
theorem znl {r : R2} {f : D → D → Option D} (h : ∀ (ι : List Addr) (F H : Hp) (S : zae) (v u : V) (a b c : D) (Q : VK), StR K ι F S H → Vw K F H v a → Vw K F H u b → f a b = some c → Ret K ι F H S c Q → r v u H Q) : OpOk K r (o2 f) := by
  intro mg E ι F H S v u x y Q st wx wy q
  unfold o2 at q
  cases ex : rd S x with
  | none => rw [ex] at q; exact q.elim
  | some a =>
    cases ey : rd S y with
    | none => rw [ex, ey] at q; exact q.elim
    | some b =>
      rw [ex, ey] at q
      cases ec : f a b with
      | none => simp only [ec, res1] at q; exact q.elim
      | some c =>
        simp only [ec, res1] at q
        exact h ι F H S v u a b c Q st (st.vw wx ex) (st.vw wy ey) ec fun z F' H' g st' w => q ι F' H' g st' z w
theorem za8 {op : Operator} {r : R2} {o : Op2} {f g : XFn} (ho : OpR X (binaryOp op) r) (k : OpOk X.K r o) (ha : DE X W a f) (hb : DE X W b g) : DE X W (.BinOp a op b pos) (x2 o f g) := by
  refine ⟨PE.weak (pe_op ho ha.pe hb.pe) fun σ H Q ⟨ι, F, ρ, S, r0, h⟩ => ?_⟩
  refine tD.bind (g := fun ρ x S1 => (g ρ S1).bind fun y S2 => o x y S2) r0 h fun v dv ι1 F1 S1 H1 r1 w1 g1 h1 => ?_
  refine tD.bind (g := fun ρ y S2 => o dv y S2) r1 h1 fun u du ι2 F2 S2 H2 r2 w2 g2 h2 => ?_
  exact k _ _ ι2 F2 H2 S2 v u dv du Q r2.st (w1.grow g2) w2 h2
theorem ze7 {op : CmpOp} {r : R2} {o : Op2} {f g : XFn} (ho : OpR X (compareOp op) r) (k : OpOk X.K r o) (ha : DE X W a f) (hb : DE X W b g) (hm : behindInMarks op b = false := by rfl) : DE X W (.Compare a [op] [b] pos) (x2 o f g) := by
  refine ⟨PE.weak (pe_cmpR ho ha.pe hb.pe hm) fun σ H Q ⟨ι, F, ρ, S, r0, h⟩ => ?_⟩
  refine tD.bind (g := fun ρ x S1 => (g ρ S1).bind fun y S2 => o x y S2) r0 h fun v dv ι1 F1 S1 H1 r1 w1 g1 h1 => ?_
  refine tD.bind (g := fun ρ y S2 => o dv y S2) r1 h1 fun u du ι2 F2 S2 H2 r2 w2 g2 h2 => ?_
  exact k _ _ ι2 F2 H2 S2 v u dv du Q r2.st (w1.grow g2) w2 h2
def zln (o o' : Op2) (f g k : XFn) : XFn := fun ρ S => (f ρ S).bind fun x S1 => (g ρ S1).bind fun y S2 => (o x y S2).bind fun z S3 => match z with
  | .dat (.bl true) => (k ρ S3).bind fun w S4 => o' y w S4
  | .dat (.bl false) => .ok (.dat (.bl false)) S3
  | _ => .bad
def dAdd : D → D → Option D
  | .int i, .int j => some (.int (i + j))
  | .tup a, .tup b => if a.length + b.length ≤ sizeLine then some (.tup (a ++ b)) else none
  | .lst a, .lst b => if a.length + b.length ≤ sizeLine then some (.lst (a ++ b)) else none
  | .str a, .str b => if a.length + b.length ≤ sizeLine then some (.str (a ++ b)) else none
  | _, _ => none
abbrev rAddD (K : PySem.W.Frag) : R2 := fun x y H Q => (((rI0 fun i j => .int (i + j)) x y H Q ∨ rCatA K x y H Q) ∨ rCat x y H Q) ∨ (∃ i j, x = .str i ∧ y = .str j ∧ i.length + j.length ≤ sizeLine ∧ Q (.str (i ++ j)) H)
theorem za4 : OpR X (binaryOp .Add) (rAddD X.K) := ((op_add.or op_catA).or op_cat).or op_add_str
theorem wda_nil {vs : List V} {ds : List D} (w : WdA K F vs ds) (h : vs = []) : ds = [] := by
  subst h; cases w; rfl
theorem za3 : OpOk K (rAddD K) (o2 dAdd) := znl fun ι F H S v u a b c Q st va vb e q => by
  cases va with
  | int i =>
    cases vb <;> try cases e
    exact .inl (.inl (.inl ⟨_, _, rfl, rfl, q.same st (.int _)⟩))
  | str i =>
    cases vb with
    | str j =>
      simp only [dAdd] at e
      split at e
      · cases e; exact .inr ⟨_, _, rfl, rfl, by assumption, q.same st (.str _)⟩
      · cases e
    | _ => cases e
  | tup s w =>
    cases vb with
    | tup s' w' =>
      simp only [dAdd] at e
      split at e
      · rename_i hl
        cases e
        refine .inl (.inl (.inr ⟨_, _, _, _, rfl, rfl, zbr st.sub s, zbr st.sub s', by rw [w.length, w'.length]; exact hl, fun z => ?_, fun _ z => ?_, fun _ _ p hp => q.tup st (w.append w') hp⟩))
        · have := wda_nil w z; subst this
          exact q.same st (.tup s' w')
        · have := wda_nil w' z; subst this
          rw [List.append_nil] at q
          exact q.same st (.tup s w)
      · cases e
    | _ => cases e
  | lst s w =>
    cases vb with
    | lst s' w' =>
      simp only [dAdd] at e
      split at e
      · rename_i hl
        cases e
        exact .inl (.inr ⟨_, _, _, _, rfl, rfl, s, s', by rw [w.length, w'.length]; exact hl, fun p hp => q.lst st (w.append w') hp⟩)
      · cases e
    | _ => cases e
  | _ => cases vb <;> cases e
/-! ### ints -/
theorem i2_ok {g : Int → Int → D} {g' : Int → Int → V} {C : Int → Int → Prop} {f : D → D → Option D} (hg : ∀ i j K F, Wd K F (g' i j) (g i j))
    (hf : ∀ a b c, f a b = some c → ∃ i j, a = .int i ∧ b = .int j ∧ C i j ∧ c = g i j) : OpOk K (rI C g') (o2 f) := znl fun ι F H S v u a b c Q st va vb e q => by
  obtain ⟨i, j, rfl, rfl, hc, rfl⟩ := hf a b c e
  cases va; cases vb
  exact ⟨i, j, rfl, rfl, hc, q.same st (hg i j _ _)⟩
theorem i20_ok {g : Int → Int → D} {g' : Int → Int → V} {f : D → D → Option D} (hg : ∀ i j K F, Wd K F (g' i j) (g i j))
    (hf : ∀ a b c, f a b = some c → ∃ i j, a = .int i ∧ b = .int j ∧ c = g i j) : OpOk K (rI0 g') (o2 f) := znl fun ι F H S v u a b c Q st va vb e q => by
  obtain ⟨i, j, rfl, rfl, rfl⟩ := hf a b c e
  cases va; cases vb
  exact ⟨i, j, rfl, rfl, q.same st (hg i j _ _)⟩
def dSub : D → D → Option D
  | .int i, .int j => some (.int (i - j))
  | _, _ => none
def dMod : D → D → Option D
  | .int i, .int j => if 0 < j then some (.int (i % j)) else none
  | _, _ => none
def dDiv : D → D → Option D
  | .int i, .int j => if 0 < j ∧ j.natAbs.log2 < 9000 then some (.int (i / j)) else none
  | _, _ => none
def dPow : D → D → Option D
  | .int i, .int j => if 0 ≤ j ∧ j ≤ 1000000 ∧ i.natAbs < 2 ^ 64 then some (.int (i ^ j.toNat)) else none
  | _, _ => none
def dLt : D → D → Option D
  | .int i, .int j => some (.bl (decide (i < j)))
  | _, _ => none
def dLe : D → D → Option D
  | .int i, .int j => some (.bl (decide (i ≤ j)))
  | _, _ => none
def dGt : D → D → Option D
  | .int i, .int j => some (.bl (decide (i > j)))
  | _, _ => none
def dGe : D → D → Option D
  | .int i, .int j => some (.bl (decide (i ≥ j)))
  | _, _ => none
theorem dSub_ok : OpOk K (rI0 fun i j => .int (i - j)) (o2 dSub) := i20_ok (g := fun i j => .int (i - j)) (fun _ _ _ _ => .int _) (by
  intro a b c e
  cases a <;> cases b <;> simp only [dSub] at e <;> first | (cases e; done) | (cases e; exact ⟨_, _, rfl, rfl, rfl⟩) | (split at e <;> first | (cases e; done) | (cases e; exact ⟨_, _, rfl, rfl, by assumption, rfl⟩)))
theorem zer : OpOk K (rI (fun _ j => 0 < j) fun i j => .int (i % j)) (o2 dMod) := i2_ok (g := fun i j => .int (i % j)) (fun _ _ _ _ => .int _) (by
  intro a b c e
  cases a <;> cases b <;> simp only [dMod] at e <;> first | (cases e; done) | (cases e; exact ⟨_, _, rfl, rfl, rfl⟩) | (split at e <;> first | (cases e; done) | (cases e; exact ⟨_, _, rfl, rfl, by assumption, rfl⟩)))
theorem dDiv_ok : OpOk K (rI CDivW fun i j => .int (i / j)) (o2 dDiv) := i2_ok (g := fun i j => .int (i / j)) (fun _ _ _ _ => .int _) (by
  intro a b c e
  cases a <;> cases b <;> simp only [dDiv] at e <;> first | (cases e; done) | (cases e; exact ⟨_, _, rfl, rfl, rfl⟩) | (split at e <;> first | (cases e; done) | (cases e; exact ⟨_, _, rfl, rfl, by assumption, rfl⟩)))
theorem zjy : OpOk K (rI CPow fun i j => .int (i ^ j.toNat)) (o2 dPow) := i2_ok (g := fun i j => .int (i ^ j.toNat)) (fun _ _ _ _ => .int _) (by
  intro a b c e
  cases a <;> cases b <;> simp only [dPow] at e <;> first | (cases e; done) | (cases e; exact ⟨_, _, rfl, rfl, rfl⟩) | (split at e <;> first | (cases e; done) | (cases e; exact ⟨_, _, rfl, rfl, by assumption, rfl⟩)))
theorem zn2 : OpOk K (rI0 fun i j => .bl (decide (i < j))) (o2 dLt) := i20_ok (g := fun i j => .bl (decide (i < j))) (fun _ _ _ _ => .bl _) (by
  intro a b c e
  cases a <;> cases b <;> simp only [dLt] at e <;> first | (cases e; done) | (cases e; exact ⟨_, _, rfl, rfl, rfl⟩) | (split at e <;> first | (cases e; done) | (cases e; exact ⟨_, _, rfl, rfl, by assumption, rfl⟩)))
theorem zmm : OpOk K (rI0 fun i j => .bl (decide (i ≤ j))) (o2 dLe) := i20_ok (g := fun i j => .bl (decide (i ≤ j))) (fun _ _ _ _ => .bl _) (by
  intro a b c e
  cases a <;> cases b <;> simp only [dLe] at e <;> first | (cases e; done) | (cases e; exact ⟨_, _, rfl, rfl, rfl⟩) | (split at e <;> first | (cases e; done) | (cases e; exact ⟨_, _, rfl, rfl, by assumption, rfl⟩)))
theorem dGt_ok : OpOk K (rI0 fun i j => .bl (decide (i > j))) (o2 dGt) := i20_ok (g := fun i j => .bl (decide (i > j))) (fun _ _ _ _ => .bl _) (by
  intro a b c e
  cases a <;> cases b <;> simp only [dGt] at e <;> first | (cases e; done) | (cases e; exact ⟨_, _, rfl, rfl, rfl⟩) | (split at e <;> first | (cases e; done) | (cases e; exact ⟨_, _, rfl, rfl, by assumption, rfl⟩)))
theorem dGe_ok : OpOk K (rI0 fun i j => .bl (decide (i ≥ j))) (o2 dGe) := i20_ok (g := fun i j => .bl (decide (i ≥ j))) (fun _ _ _ _ => .bl _) (by
  intro a b c e
  cases a <;> cases b <;> simp only [dGe] at e <;> first | (cases e; done) | (cases e; exact ⟨_, _, rfl, rfl, rfl⟩) | (split at e <;> first | (cases e; done) | (cases e; exact ⟨_, _, rfl, rfl, by assumption, rfl⟩)))
def dMul : D → D → Option D
  | .int i, .int j => if i.natAbs.log2 + j.natAbs.log2 < 1000000 then some (.int (i * j)) else none
  | .lst a, .int k => if k ≤ 1000 ∧ -1000 ≤ k ∧ a.length * k.toNat ≤ sizeLine then some (.lst (List.replicate k.toNat a).flatten) else none
  | .tup a, .int k => if a ≠ [] ∧ 2 ≤ k ∧ k ≤ 1000 ∧ a.length ≤ 1000 then some (.tup (List.replicate k.toNat a).flatten) else none
  | _, _ => none
abbrev rMulD (K : PySem.W.Frag) : R2 := fun x y H Q => ((rI CMulW fun i j => .int (i * j)) x y H Q ∨ rRep x y H Q) ∨ rRepT K x y H Q
theorem op_mulD : OpR X (binaryOp .Mult) (rMulD X.K) := (op_mulW.or op_rep).or op_repT
theorem wda_rep {F : Hp} {vs : List V} {ds : List D} (w : WdA K F vs ds) : ∀ n : Nat, WdA K F (List.replicate n vs).flatten (List.replicate n ds).flatten
  | 0 => .nil
  | n + 1 => by
    rw [List.replicate_succ, List.replicate_succ, List.flatten_cons, List.flatten_cons]
    exact w.append (wda_rep w n)
theorem dMul_core {v u : V} {a b c : D} {Q : VK} (st : StR K ι F S H) (va : Vw K F H v a) (vb : Vw K F H u b) (e : dMul a b = some c) (q : Ret K ι F H S c Q) : rMulD K v u H Q := by
  cases va with
  | int i =>
    cases vb <;> try cases e
    simp only [dMul] at e
    split at e
    · cases e; exact .inl (.inl ⟨_, _, rfl, rfl, by assumption, q.same st (.int _)⟩)
    · cases e
  | lst s w =>
    cases vb <;> try cases e
    simp only [dMul] at e
    split at e
    · rename_i hl
      cases e
      refine .inl (.inr ⟨_, _, _, rfl, rfl, s, by omega, by omega, by rw [w.length]; exact hl.2.2, fun p hp => q.lst st (wda_rep w _) hp⟩)
    · cases e
  | tup s w =>
    cases vb <;> try cases e
    simp only [dMul] at e
    split at e
    · rename_i hl
      cases e
      refine .inr ⟨_, _, _, rfl, rfl, zbr st.sub s, fun z => hl.1 (wda_nil w z), hl.2.1, hl.2.2.1, by rw [w.length]; exact hl.2.2.2, fun p hp => q.tup st (wda_rep w _) hp⟩
    · cases e
  | _ => cases vb <;> cases e
/-! ### is None -/
def dIsN : D → D → Option D
  | a, .non => some (.bl (match a with | .non => true | _ => false))
  | _, _ => none
def dNotN : D → D → Option D
  | a, .non => some (.bl (match a with | .non => false | _ => true))
  | _, _ => none
theorem zio : OpOk K (fun x y H Q => y = .non ∧ Q (.bl (decide (x = .non))) H) (o2 dIsN) := znl fun ι F H S v u a b c Q st va vb e q => by
  cases vb <;> simp only [dIsN] at e <;> cases e
  refine ⟨rfl, ?_⟩
  cases va <;> exact q.same st (.bl _)
theorem zmc : OpOk K (fun x y H Q => y = .non ∧ Q (.bl (!decide (x = .non))) H) (o2 dNotN) := znl fun ι F H S v u a b c Q st va vb e q => by
  cases vb <;> simp only [dNotN] at e <;> cases e
  refine ⟨rfl, ?_⟩
  cases va <;> exact q.same st (.bl _)
/-! ### == and in -/
mutual
def D.py : D → PyData
  | .non => .none
  | .bl b => .bool b
  | .int i => .int i
  | .str x => .str x
  | .lst xs => .list (D.pys xs)
  | .tup xs => .tuple (D.pys xs)
  | .cas _ => .dict []
  | .dct _ => .dict []
def D.pys : List D → List PyData
  | [] => []
  | x :: xs => D.py x :: D.pys xs
end
mutual
theorem Wd.dp {F : Hp} : ∀ {d : D} {v : V}, Wd K F v d → d.py.canLay0 = true → Dp K F v d.py
  | .non, _, h, _ => by cases h; exact .non
  | .bl _, _, h, _ => by cases h; exact .bl _
  | .int _, _, h, _ => by cases h; exact .int _
  | .str _, _, h, _ => by cases h; exact .str _
  | .lst ds, _, h, c => by
    cases h with
    | lst s a => exact .lst (.of s) (WdA.dp a c)
  | .tup ds, _, h, c => by
    cases h with
    | tup s a => exact .tup s (WdA.dp a c)
  | .cas _, _, _, c => by cases c
  | .dct _, _, _, c => by cases c
theorem WdA.dp {F : Hp} : ∀ {ds : List D} {vs : List V}, WdA K F vs ds → PyData.canLayAll0 (D.pys ds) = true → DpAll K F vs (D.pys ds)
  | [], _, h, _ => by cases h; exact .nil
  | d :: ds, _, h, c => by
    simp only [D.pys, PyData.canLayAll0, Bool.and_eq_true] at c
    cases h with
    | cons a b => exact .cons (Wd.dp a c.1) (WdA.dp b c.2)
end
def dEqB (a b : D) : Bool := PyData.eqv a.py b.py
def znw (a b : D) : Bool := a.py.canLay0 && b.py.canLay0 && decide (min a.py.depth b.py.depth ≤ 64)
def dEq (a b : D) : Option D := if znw a b = true then some (.bl (dEqB a b)) else none
def dNe (a b : D) : Option D := if znw a b = true then some (.bl (!dEqB a b)) else none
def rEqDD (K : PySem.W.Frag) : R2 := fun x y H Q => ∃ d e, Dp K H x d ∧ Dp K H y e ∧ d.canLay0 = true ∧ e.canLay0 = true ∧ min d.depth e.depth ≤ 64 ∧ Q (.bl (PyData.eqv d e)) H
def rNeDD (K : PySem.W.Frag) : R2 := fun x y H Q => ∃ d e, Dp K H x d ∧ Dp K H y e ∧ d.canLay0 = true ∧ e.canLay0 = true ∧ min d.depth e.depth ≤ 64 ∧ Q (.bl (!PyData.eqv d e)) H
theorem zf_ (hu : X.A.units + 64 < cLine) : OpR X (compareOp .Eq) (rEqDD X.K) := by
  intro pins s σ H x y v u Q I rx ry ⟨d, e, hd, he, cd, ce, dp, q⟩
  obtain ⟨as, r1⟩ := Dp.reads I d x v hd rx
  obtain ⟨bs, r2⟩ := Dp.reads I e y u he ry
  exact SeqAt.compareEq_reads r1 r2 cd ce (by omega) ⟨.bl _, H, I, rfl, q⟩
theorem zhs (hu : X.A.units + 64 < cLine) : OpR X (compareOp .NotEq) (rNeDD X.K) := by
  intro pins s σ H x y v u Q I rx ry ⟨d, e, hd, he, cd, ce, dp, q⟩
  obtain ⟨as, r1⟩ := Dp.reads I d x v hd rx
  obtain ⟨bs, r2⟩ := Dp.reads I e y u he ry
  exact SeqAt.compareNe_reads r1 r2 cd ce (by omega) ⟨.bl _, H, I, rfl, q⟩
theorem canEq_of {a b : D} (h : znw a b = true) : a.py.canLay0 = true ∧ b.py.canLay0 = true ∧ min a.py.depth b.py.depth ≤ 64 := by
  unfold znw at h
  simp only [Bool.and_eq_true, decide_eq_true_eq] at h
  exact ⟨h.1.1, h.1.2, h.2⟩
theorem zh8 : OpOk K (rEqDD K) (o2 dEq) := znl fun ι F H S v u a b c Q st va vb e q => by
  unfold dEq at e
  split at e
  · rename_i h
    cases e
    obtain ⟨h1, h2, h3⟩ := canEq_of h
    exact ⟨_, _, (va.wd st.sub).dp h1, (vb.wd st.sub).dp h2, h1, h2, h3, q.same st (.bl _)⟩
  · cases e
theorem zjm : OpOk K (rNeDD K) (o2 dNe) := znl fun ι F H S v u a b c Q st va vb e q => by
  unfold dNe at e
  split at e
  · rename_i h
    cases e
    obtain ⟨h1, h2, h3⟩ := canEq_of h
    exact ⟨_, _, (va.wd st.sub).dp h1, (vb.wd st.sub).dp h2, h1, h2, h3, q.same st (.bl _)⟩
  · cases e
end
end DL
set_option maxHeartbeats 4000000
namespace DL
open PySem PySem.Spec PyProof.Rows L2
section
variable {X : Cx} {W : WX} {e a b c : Expr} {es : List Expr} {pos p : Pos} {K : PySem.W.Frag} {ι : List Addr} {F H : Hp} {S : zae}
/-! ## in -/
def canIn (d : D) (xs : List D) : Bool := d.py.canLay0 && PyData.canLayAll0 (D.pys xs) && decide (min (PyData.depthAll (D.pys xs)) d.py.depth ≤ 64)
def dInB (d : D) (xs : List D) : Bool := xs.any fun z => dEqB z d
def dIn (d : D) : D → Option D
  | .lst xs => if canIn d xs = true then some (.bl (dInB d xs)) else none
  | .tup xs => if canIn d xs = true then some (.bl (dInB d xs)) else none
  | _ => none
def rInDD (K : PySem.W.Frag) (neg : Bool) : R2 := fun x y H Q => ∃ d ds, Dp K H x d ∧ (Dp K H y (.list ds) ∨ Dp K H y (.tuple ds)) ∧ d.canLay0 = true ∧ PyData.canLayAll0 ds = true ∧ min (PyData.depthAll ds) d.depth ≤ 64 ∧ Q (.bl (if neg then !(ds.any fun z => PyData.eqv z d) else ds.any fun z => PyData.eqv z d)) H
theorem zju (hu : X.A.units + 65 < cLine) : OpR X (compareOp .In) (rInDD X.K false) := by
  intro pins s σ H x y v u Q I rx ry ⟨d, ds, hd, he, cd, ce, dp, q⟩
  obtain ⟨as, r1⟩ := Dp.reads I d x v hd rx
  rcases he with he | he
  · obtain ⟨bs, r2⟩ := Dp.reads I (.list ds) y u he ry
    exact SeqAt.in_list_reads r2 r1 ce cd (by omega) ⟨.bl _, H, I, rfl, q⟩
  · obtain ⟨bs, r2⟩ := Dp.reads I (.tuple ds) y u he ry
    exact SeqAt.in_tuple_reads r2 r1 ce cd (by omega) ⟨.bl _, H, I, rfl, q⟩
theorem any_pys (d : D) : ∀ xs : List D, ((D.pys xs).any fun z => PyData.eqv z d.py) = dInB d xs
  | [] => rfl
  | x :: xs => by
    have h := any_pys d xs
    show (PyData.eqv x.py d.py || (D.pys xs).any fun z => PyData.eqv z d.py) = (dEqB x d || dInB d xs)
    rw [h]; rfl
theorem canIn_of {d : D} {xs : List D} (h : canIn d xs = true) : d.py.canLay0 = true ∧ PyData.canLayAll0 (D.pys xs) = true ∧ min (PyData.depthAll (D.pys xs)) d.py.depth ≤ 64 := by
  unfold canIn at h
  simp only [Bool.and_eq_true, decide_eq_true_eq] at h
  exact ⟨h.1.1, h.1.2, h.2⟩
theorem zme : OpOk K (rInDD K false) (o2 dIn) := znl fun ι F H S v u a b c Q st va vb e q => by
  have wb := (vb.wd st.sub).dp
  cases b <;> simp only [dIn] at e <;> first | (cases e; done) | skip
  all_goals
    split at e
    · rename_i h
      cases e
      obtain ⟨h1, h2, h3⟩ := canIn_of h
      refine ⟨_, _, (va.wd st.sub).dp h1, by first | exact .inl (wb h2) | exact .inr (wb h2), h1, h2, h3, ?_⟩
      rw [any_pys]
      exact q.same st (.bl _)
    · cases e
/-! ## items, slices -/
def dIx : D → D → Option D
  | .lst xs, .int i => atI xs i
  | .tup xs, .int i => atI xs i
  | _, _ => none
theorem WdA.atI {vs : List V} {ds : List D} {i : Int} {d : D} (w : WdA K F vs ds) (h : L2.atI ds i = some d) : ∃ v, L2.atI vs i = some v ∧ Wd K F v d := by
  unfold L2.atI at h ⊢
  rw [w.length]
  cases q : ixN ds.length i with
  | none => rw [q] at h; cases h
  | some j => rw [q] at h; exact w.get' h
theorem zbx {f g : XFn} (ha : DE X W a f) (hb : DE X W b g) (hs : PlainIx b := by exact fun _ _ => rfl) : DE X W (.Subscript a b pos) (x2 (o2 dIx) f g) := by
  refine ⟨PE.weak (pe_ix (ix_list.or ix_tup) ha.pe hb.pe hs) fun σ H Q ⟨ι, F, ρ, S, r0, h⟩ => ?_⟩
  have k : OpOk X.K (fun x y H Q => rIxL X.K x y H Q ∨ rIxT X.K x y H Q) (o2 dIx) := znl fun ι F H S v u a b c Q st va vb e q => by
    cases va with
    | lst s w =>
      cases vb <;> try cases e
      obtain ⟨z, h1, h2⟩ := w.atI e
      exact .inl ⟨_, _, _, z, rfl, rfl, .of s, h1, q.same st h2⟩
    | tup s w =>
      cases vb <;> try cases e
      obtain ⟨z, h1, h2⟩ := w.atI e
      exact .inr ⟨_, _, _, z, rfl, rfl, zbr st.sub s, h1, q.same st h2⟩
    | _ => cases vb <;> cases e
  refine tD.bind (g := fun ρ x S1 => (g ρ S1).bind fun y S2 => o2 dIx x y S2) r0 h fun v dv ι1 F1 S1 H1 r1 w1 g1 h1 => ?_
  refine tD.bind (g := fun ρ y S2 => o2 dIx dv y S2) r1 h1 fun u du ι2 F2 S2 H2 r2 w2 g2 h2 => ?_
  exact k _ _ ι2 F2 H2 S2 v u dv du Q r2.st (w1.grow g2) w2 h2
abbrev PFn := zan → zae → Res (Option Int)
def tP (X : Cx) (W : WX) (f : PFn) : TO := fun σ H Q => ∃ ι F ρ S, RR X.K ι F ρ S σ H ∧ Post X.K X.mg (fun c d H' => W c d σ H') ι F H (f ρ S) fun o ι' F' H' => Q o H'
structure DP (X : Cx) (W : WX) (e : Option Expr) (f : PFn) : Prop where
  po : ∃ t, PO X e t ∧ ∀ σ H Q, tP X W f σ H Q → t σ H Q
def pNo : PFn := fun _ S => .ok none S
def asInt (x : DV) (S : zae) : Res (Option Int) := match x with
  | .dat (.int i) => .ok (some i) S
  | _ => .bad
def pEx (f : XFn) : PFn := fun ρ S => (f ρ S).bind asInt
theorem zjw : DP X W none pNo := ⟨_, po_none, fun σ H Q ⟨ι, F, ρ, S, r, h⟩ => h ι F H .refl r.st⟩
theorem zir {f : XFn} (h : DE X W e f) : DP X W (some e) (pEx f) := by
  refine ⟨_, po_some h.pe, fun σ H Q ⟨ι, F, ρ, S, r, h⟩ => ?_⟩
  refine tD.bind (g := fun _ => asInt) r h fun v dv ι1 F1 S1 H1 r1 w1 g1 h1 => ?_
  unfold asInt at h1
  split at h1
  · rename_i i
    have w1' : Wd X.K F1 v (.int i) := w1
    cases w1'
    exact ⟨i, rfl, h1 ι1 F1 H1 .refl r1.st⟩
  · exact h1.elim
theorem tP.bind {α : Type} {f : PFn} {g : zan → Option Int → zae → Res α} {σ : L2.St} {H : Hp} {R : Option Int → Hp → Prop} {Q : α → List Addr → Hp → Hp → Prop} {ι : List Addr} {F : Hp} {ρ : zan} {S : zae} (r : RR X.K ι F ρ S σ H)
    (h : Post X.K X.mg (fun c d H' => W c d σ H') ι F H ((f ρ S).bind (g ρ)) Q)
    (k : ∀ b ι1 F1 S1 H1, RR X.K ι1 F1 ρ S1 σ H1 → Grow ι F H ι1 F1 H1 → Post X.K X.mg (fun c d H' => W c d σ H') ι1 F1 H1 (g ρ b S1) Q → R b H1) : tP X W f σ H R := by
  refine ⟨ι, F, ρ, S, r, ?_⟩
  cases q : f ρ S with
  | ok b S1 =>
    rw [q] at h
    exact fun ι1 F1 H1 g1 st => k b ι1 F1 S1 H1 (r.slots g1 st) g1 (Post.grow (r := g ρ b S1) h g1)
  | ex c S1 => rw [q] at h; exact h
  | bad => rw [q] at h; exact h
def cutL {α : Type} (xs : List α) (lo hi : Option Int) : List α := (xs.drop (HT.sIx xs.length 0 lo)).take (HT.sIx xs.length xs.length hi - HT.sIx xs.length 0 lo)
theorem WdA.cut {vs : List V} {ds : List D} (w : WdA K F vs ds) (lo hi : Option Int) : WdA K F (cutV vs lo hi) (cutL ds lo hi) := by
  unfold cutV cutL
  rw [w.length]
  exact (w.drop _).take _
theorem zo7 {α β : Type} (f : α → β) (xs : List α) (lo hi : Option Int) : cutL (xs.map f) lo hi = (cutL xs lo hi).map f := by
  unfold cutL
  rw [List.length_map, List.map_take, List.map_drop]
theorem zl8 : ∀ ns : List Int, WdA K F (ns.map V.int) (ns.map D.int)
  | [] => .nil
  | n :: ns => .cons (.int n) (zl8 ns)
def oSl (x : DV) (lo hi : Option Int) (S : zae) : Res DV := match x with
  | .scr ns => .ok (.dat (.lst ((cutL ns lo hi).map .int))) S
  | _ => match rd S x with
    | some (.lst xs) => .ok (.dat (.lst (cutL xs lo hi))) S
    | some (.tup xs) => .ok (.dat (.tup (cutL xs lo hi))) S
    | _ => .bad
def xSl (f : XFn) (l h : PFn) : XFn := fun ρ S => (f ρ S).bind fun x S1 => (l ρ S1).bind fun lo S2 => (h ρ S2).bind fun hi S3 => oSl x lo hi S3
theorem cutV_all (vs : List V) (lo hi : Option Int) (h : HT.sIx vs.length 0 lo = 0 ∧ HT.sIx vs.length vs.length hi = vs.length) : cutV vs lo hi = vs := by
  unfold cutV
  rw [h.1, h.2]
  simp
theorem zi4 {f : XFn} {l h : PFn} {lo hi : Option Expr} {p2 : Pos} (ha : DE X W e f) (hl : DP X W lo l) (hh : DP X W hi h) : DE X W (.Subscript e (.Slice lo hi none p2) pos) (xSl f l h) := by
  obtain ⟨tl, pl, kl⟩ := hl.po
  obtain ⟨th, ph, kh⟩ := hh.po
  refine ⟨PE.weak (pe_slice (sl_list.or sl_tupA) ha.pe pl ph) fun σ H Q ⟨ι, F, ρ, S, r, h0⟩ => ?_⟩
  refine tD.bind (g := fun ρ x S1 => (l ρ S1).bind fun lo S2 => (h ρ S2).bind fun hi S3 => oSl x lo hi S3) r h0 fun v dv ι1 F1 S1 H1 r1 w1 g1 h1 => ?_
  refine kl _ _ _ (tP.bind (g := fun ρ lo S2 => (h ρ S2).bind fun hi S3 => oSl dv lo hi S3) r1 h1 fun lo ι2 F2 S2 H2 r2 g2 h2 => ?_)
  refine kh _ _ _ (tP.bind (g := fun ρ hi S3 => oSl dv lo hi S3) r2 h2 fun hi ι3 F3 S3 H3 r3 g3 h3 => ?_)
  have w3 : WV X.K ι3 F3 v dv := (w1.grow g2).grow g3
  have st := r3.st
  have fin : ∀ d, rd S3 dv = some d → Post X.K X.mg (fun c d H' => W c d σ H') ι3 F3 H3 (match some d with
    | some (.lst xs) => Res.ok (.dat (.lst (cutL xs lo hi))) S3
    | some (.tup xs) => .ok (.dat (.tup (cutL xs lo hi))) S3
    | _ => .bad) (fun dv ι' F' H' => ∀ v, WV X.K ι' F' v dv → Q v H') → rSlL X.K v lo hi H3 Q ∨ rSlA X.K v lo hi H3 Q := fun d ed h3 => by
    have vw := st.vw w3 ed
    cases vw with
    | lst s w =>
      have q : Ret X.K ι3 F3 H3 S3 (.lst (cutL _ lo hi)) Q := fun z F' H' g st' w => h3 ι3 F' H' g st' z w
      exact .inl ⟨_, _, rfl, .of s, fun p hp => q.lst st (w.cut lo hi) hp⟩
    | tup s w =>
      have q : Ret X.K ι3 F3 H3 S3 (.tup (cutL _ lo hi)) Q := fun z F' H' g st' w => h3 ι3 F' H' g st' z w
      refine .inr ⟨_, _, rfl, zbr st.sub s, fun z => ?_, fun _ p hp => q.tup st (w.cut lo hi) hp⟩
      have wc := w.cut lo hi
      rw [cutV_all _ _ _ z] at wc
      exact q.same st (.tup s wc)
    | _ => exact h3.elim
  unfold oSl at h3
  cases dv with
  | scr ns =>
    obtain ⟨a, rfl, hs⟩ := w3
    have q : Ret X.K ι3 F3 H3 S3 (.lst ((cutL ns lo hi).map .int)) Q := fun z F' H' g st' w => h3 ι3 F' H' g st' z w
    refine .inl ⟨a, _, rfl, st.sub.seq hs, fun p hp => q.lst st ?_ hp⟩
    show WdA X.K F3 (cutL (ns.map V.int) lo hi) _
    rw [zo7]
    exact zl8 _
  | dat d => exact fin d rfl h3
  | obj k =>
    cases ed : rd S3 (.obj k) with
    | none => simp only [ed] at h3; exact h3.elim
    | some d => simp only [ed] at h3; exact fin d ed h3
  | exn c p => exact h3.elim
/-! ## built-in functions -/
abbrev OpN := List DV → zae → Res DV
def xN (o : OpN) (f : AFn) : XFn := fun ρ S => (f ρ S).bind o
def zjq (K : PySem.W.Frag) (r : List V → Hp → VK → Prop) (o : OpN) : Prop := ∀ (mg : Str → Option Value) (E : XK) (ι : List Addr) (F H : Hp) (S : zae) (vs : List V) (ds : List DV) (Q : VK), StR K ι F S H → WVs K ι F vs ds →
  Post K mg E ι F H (o ds S) (fun dv ι' F' H' => ∀ z, WV K ι' F' z dv → Q z H') → r vs H Q
theorem zam {r : List V → Hp → VK → Prop} {o : OpN} {f : AFn} {x : Str} {id : String} (hc : CallR X (.builtin id) r) (k : zjq X.K r o) (hm : X.mg x = none) (hv : bootBuiltins x = some (.builtin id)) (ha : DA X W (e :: es) f) (hg : Gl X x := by rfl) (hn : x ≠ "__name__" := by decide) (hdb : (x == ("__debug__" : Str)) = false := by decide)
    (he : starEach (e :: es) X.env = (false, eval e X.env) :: starEach es X.env := by rfl) (hpl : (backTo pos (starEach es X.env)).any (·.1) = false := by rfl) : DE X W (.Call (.Name x p) (e :: es) [] pos) (xN o f) := by
  refine ⟨PE.weak (pe_callB hc hg hm hv ha.pa hn hdb he hpl) fun σ H Q ⟨ι, F, ρ, S, r, h⟩ => ?_⟩
  exact tA.bind (g := fun _ => o) r h fun vs ds ι1 F1 S1 H1 r1 w1 g1 h1 => k _ _ ι1 F1 H1 S1 vs ds Q r1.st w1 h1
theorem zbu {r : List V → Hp → VK → Prop} {o : OpN} {f : AFn} {x : Str} {T : String} (hc : CallR X (.type T) r) (k : zjq X.K r o) (hm : X.mg x = none) (hv : bootBuiltins x = some (.type T)) (ha : DA X W (e :: es) f) (hg : Gl X x := by rfl) (hn : x ≠ "__name__" := by decide) (hdb : (x == ("__debug__" : Str)) = false := by decide)
    (he : starEach (e :: es) X.env = (false, eval e X.env) :: starEach es X.env := by rfl) (hpl : (backTo pos (starEach es X.env)).any (·.1) = false := by rfl) : DE X W (.Call (.Name x p) (e :: es) [] pos) (xN o f) := by
  refine ⟨PE.weak (pe_callTy hc hg hm hv ha.pa hn hdb he hpl) fun σ H Q ⟨ι, F, ρ, S, r, h⟩ => ?_⟩
  exact tA.bind (g := fun _ => o) r h fun vs ds ι1 F1 S1 H1 r1 w1 g1 h1 => k _ _ ι1 F1 H1 S1 vs ds Q r1.st w1 h1
def o1 (f : D → Option D) : OpN := fun ds S => match ds with
  | [x] => (match rd S x with
    | some a => res1 (f a) S
    | none => .bad)
  | _ => .bad
theorem o1_ok {r : List V → Hp → VK → Prop} {f : D → Option D} (h : ∀ (ι : List Addr) (F H : Hp) (S : zae) (v : V) (a c : D) (Q : VK), StR K ι F S H → Vw K F H v a → f a = some c → Ret K ι F H S c Q → r [v] H Q) : zjq K r (o1 f) := by
  intro mg E ι F H S vs ds Q st ws q
  unfold o1 at q
  cases ws with
  | nil => exact q.elim
  | cons w ws =>
    cases ws with
    | cons _ _ => exact q.elim
    | nil =>
      rename_i v dv
      cases ex : rd S dv with
      | none => simp only [ex] at q; exact q.elim
      | some a =>
        simp only [ex] at q
        cases ec : f a with
        | none => simp only [ec, res1] at q; exact q.elim
        | some c =>
          simp only [ec, res1] at q
          exact h ι F H S v a c Q st (st.vw w ex) ec fun z F' H' g st' w => q ι F' H' g st' z w
def dLen : D → Option D
  | .lst xs => some (.int xs.length)
  | .tup xs => some (.int xs.length)
  | .str x => if x.length ≤ sizeLine then some (.int x.length) else none
  | _ => none
theorem zb2 : zjq K (fun xs H Q => ∃ x n, xs = [x] ∧ LenV K x H n ∧ Q (.int n) H) (o1 dLen) := o1_ok fun ι F H S v a c Q st va e q => by
  cases va with
  | lst s w => cases e; rw [← w.length] at q; exact ⟨_, _, rfl, .inl ⟨_, .of s, rfl⟩, q.same st (.int _)⟩
  | tup s w => cases e; rw [← w.length] at q; exact ⟨_, _, rfl, .inr ⟨_, zbr st.sub s, rfl⟩, q.same st (.int _)⟩
  | str x =>
    simp only [dLen] at e
    split at e
    · cases e; exact ⟨_, _, rfl, ⟨by assumption, rfl⟩, q.same st (.int _)⟩
    · cases e
  | _ => cases e
def zhq : List D → Option (List Bool)
  | [] => some []
  | .bl b :: r => (zhq r).map (b :: ·)
  | _ :: _ => none
theorem zk7 : ∀ {ds : List D} {vs : List V} {bs : List Bool}, WdA K F vs ds → zhq ds = some bs → vs = bs.map V.bl
  | [], _, _, w, e => by cases w; cases e; rfl
  | d :: ds, _, _, w, e => by
    cases w with
    | cons a r =>
      cases d <;> simp only [zhq] at e <;> first | (cases e; done) | skip
      rename_i b
      cases q : zhq ds with
      | none => rw [q] at e; cases e
      | some cs =>
        rw [q] at e; cases e
        have h := zk7 r q
        cases a
        rw [h]; rfl
def dAll : D → Option D
  | .lst xs => (zhq xs).map fun bs => .bl (bs.all id)
  | _ => none
def dAny : D → Option D
  | .lst xs => (zhq xs).map fun bs => .bl (bs.any id)
  | _ => none
theorem zht : zjq K (rAll K) (o1 dAll) := o1_ok fun ι F H S v a c Q st va e q => by
  cases va <;> simp only [dAll] at e <;> first | (cases e; done) | skip
  rename_i s w
  cases z : zhq _ with
  | none => rw [z] at e; cases e
  | some bs =>
    rw [z] at e; cases e
    exact ⟨_, bs, rfl, by rw [← zk7 w z]; exact .of s, q.same st (.bl _)⟩
theorem dAny_ok : zjq K (rAny K) (o1 dAny) := o1_ok fun ι F H S v a c Q st va e q => by
  cases va <;> simp only [dAny] at e <;> first | (cases e; done) | skip
  rename_i s w
  cases z : zhq _ with
  | none => rw [z] at e; cases e
  | some bs =>
    rw [z] at e; cases e
    exact ⟨_, bs, rfl, by rw [← zk7 w z]; exact .of s, q.same st (.bl _)⟩
def zhj : List D → Option (List Int)
  | [] => some []
  | .int b :: r => (zhj r).map (b :: ·)
  | _ :: _ => none
theorem zmp : ∀ {ds : List D} {vs : List V} {bs : List Int}, WdA K F vs ds → zhj ds = some bs → vs = bs.map V.int
  | [], _, _, w, e => by cases w; cases e; rfl
  | d :: ds, _, _, w, e => by
    cases w with
    | cons a r =>
      cases d <;> simp only [zhj] at e <;> first | (cases e; done) | skip
      rename_i b
      cases q : zhj ds with
      | none => rw [q] at e; cases e
      | some cs =>
        rw [q] at e; cases e
        have h := zmp r q
        cases a
        rw [h]; rfl
def dInt : D → Option D
  | .int i => some (.int i)
  | .bl b => some (.int (if b then 1 else 0))
  | _ => none
theorem zej : zjq K (fun xs H Q => (∃ i, xs = [.int i] ∧ Q (.int i) H) ∨ ∃ k, xs = [.bl k] ∧ Q (.int (if k then 1 else 0)) H) (o1 dInt) := o1_ok fun ι F H S v a c Q st va e q => by
  cases va <;> cases e
  · exact .inr ⟨_, rfl, q.same st (.int _)⟩
  · exact .inl ⟨_, rfl, q.same st (.int _)⟩
def dList : D → Option D
  | .lst xs => some (.lst xs)
  | .tup xs => some (.lst xs)
  | _ => none
theorem dList_ok : zjq K (fun xs H Q => ∃ p ys, xs = [.ref p] ∧ (SqL K H p ys ∨ SqT K H p ys) ∧ ∀ l, H l = none → Q (.ref l) (upd H l (.lst ys))) (o1 dList) := o1_ok fun ι F H S v a c Q st va e q => by
  cases va with
  | lst s w => cases e; exact ⟨_, _, rfl, .inl (.of s), fun l hl => q.lst st w hl⟩
  | tup s w => cases e; exact ⟨_, _, rfl, .inr (zbr st.sub s), fun l hl => q.lst st w hl⟩
  | _ => cases e
def dTuple : D → Option D
  | .lst xs => some (.tup xs)
  | .tup xs => some (.tup xs)
  | _ => none
theorem dTuple_ok : zjq K (fun xs H Q => ∃ p ys, xs = [.ref p] ∧ ((SqL K H p ys ∧ ∀ l, H l = none → Q (.ref l) (upd H l (.tup ys))) ∨ (SqT K H p ys ∧ Q (.ref p) H))) (o1 dTuple) := o1_ok fun ι F H S v a c Q st va e q => by
  cases va with
  | lst s w => cases e; exact ⟨_, _, rfl, .inl ⟨.of s, fun l hl => q.tup st w hl⟩⟩
  | tup s w => cases e; exact ⟨_, _, rfl, .inr ⟨zbr st.sub s, q.same st (.tup s w)⟩⟩
  | _ => cases e
end
end DL
set_option maxHeartbeats 4000000
namespace DL
open PySem PySem.Spec PyProof.Rows L2
section
variable {X : Cx} {W : WX} {e a b c : Expr} {es : List Expr} {pos p : Pos} {K : PySem.W.Frag} {ι : List Addr} {F H : Hp} {S : zae}
/-! ## and, or, not, conditional expressions; tests -/
def xAnd (f g : XFn) : XFn := fun ρ S => (f ρ S).bind fun x S1 => match x with
  | .dat (.bl true) => g ρ S1
  | .dat (.bl false) => .ok (.dat (.bl false)) S1
  | _ => .bad
def xOr (f g : XFn) : XFn := fun ρ S => (f ρ S).bind fun x S1 => match x with
  | .dat (.bl false) => g ρ S1
  | .dat (.bl true) => .ok (.dat (.bl true)) S1
  | _ => .bad
def nDV (x : DV) (S : zae) : Res DV := match x with
  | .dat (.bl c) => .ok (.dat (.bl (!c))) S
  | _ => .bad
def xNot (f : XFn) : XFn := fun ρ S => (f ρ S).bind nDV
theorem zi5 {op : BoolOp} {f : XFn} (h : DE X W a f) : DE X W (.BoolOp op [a] pos) f := ⟨pe_one h.pe⟩
theorem znb {f g : XFn} {rest : List Expr} (ha : DE X W a f) (hb : DE X W (.BoolOp .And (b :: rest) pos) g) : DE X W (.BoolOp .And (a :: b :: rest) pos) (xAnd f g) := by
  refine ⟨PE.weak (pe_and ha.pe hb.pe) fun σ H Q ⟨ι, F, ρ, S, r, h⟩ => ?_⟩
  refine tD.bind (g := fun ρ x S1 => match x with
    | .dat (.bl true) => g ρ S1
    | .dat (.bl false) => .ok (.dat (.bl false)) S1
    | _ => .bad) r h fun v dv ι1 F1 S1 H1 r1 w1 g1 h1 => ?_
  split at h1
  · have w' : Wd X.K F1 v (.bl true) := w1
    cases w'
    exact ⟨true, rfl, by rw [if_pos rfl]; exact ⟨ι1, F1, ρ, S1, r1, h1⟩⟩
  · have w' : Wd X.K F1 v (.bl false) := w1
    cases w'
    exact ⟨false, rfl, by rw [if_neg (by simp)]; exact h1 ι1 F1 H1 .refl r1.st _ (.bl _)⟩
  · exact h1.elim
theorem de_or {f g : XFn} {rest : List Expr} (ha : DE X W a f) (hb : DE X W (.BoolOp .Or (b :: rest) pos) g) : DE X W (.BoolOp .Or (a :: b :: rest) pos) (xOr f g) := by
  refine ⟨PE.weak (pe_or ha.pe hb.pe) fun σ H Q ⟨ι, F, ρ, S, r, h⟩ => ?_⟩
  refine tD.bind (g := fun ρ x S1 => match x with
    | .dat (.bl false) => g ρ S1
    | .dat (.bl true) => .ok (.dat (.bl true)) S1
    | _ => .bad) r h fun v dv ι1 F1 S1 H1 r1 w1 g1 h1 => ?_
  split at h1
  · have w' : Wd X.K F1 v (.bl false) := w1
    cases w'
    exact ⟨false, rfl, by rw [if_neg (by simp)]; exact ⟨ι1, F1, ρ, S1, r1, h1⟩⟩
  · have w' : Wd X.K F1 v (.bl true) := w1
    cases w'
    exact ⟨true, rfl, by rw [if_pos rfl]; exact h1 ι1 F1 H1 .refl r1.st _ (.bl _)⟩
  · exact h1.elim
theorem de_not {f : XFn} (ha : DE X W a f) : DE X W (.UnaryOp .Not a pos) (xNot f) := by
  refine ⟨PE.weak (pe_not ha.pe) fun σ H Q ⟨ι, F, ρ, S, r, h⟩ => ?_⟩
  refine tD.bind (g := fun _ => nDV) r h fun v dv ι1 F1 S1 H1 r1 w1 g1 h1 => ?_
  unfold nDV at h1
  split at h1
  · rename_i c
    have w' : Wd X.K F1 v (.bl c) := w1
    cases w'
    exact ⟨_, rfl, h1 ι1 F1 H1 .refl r1.st _ (.bl _)⟩
  · exact h1.elim
def zns (x : DV) (S : zae) : Res Bool := match rd S x with
  | some .non => .ok false S
  | some (.bl b) => .ok b S
  | some (.int i) => .ok (i != 0) S
  | some (.lst xs) => .ok (!xs.isEmpty) S
  | some (.tup xs) => .ok (!xs.isEmpty) S
  | _ => .bad
def tTr (f : XFn) : TFn := fun ρ S => (f ρ S).bind zns
theorem wda_empty {vs : List V} {ds : List D} (w : WdA K F vs ds) : vs.isEmpty = ds.isEmpty := by
  cases w <;> rfl
theorem zem {f : XFn} (h : DE X W a f) (he : ∀ whole, isTrue a X.env whole = (do let v ← whole; standAt a.pos; holding [v] (truthy v)) := by intro _; rfl) : DT X W a (tTr f) := by
  refine ⟨PT.weak (pt_truth h.pe he) fun σ H Q ⟨ι, F, ρ, S, r, h⟩ => ?_⟩
  refine tD.bind (g := fun _ => zns) r h fun v dv ι1 F1 S1 H1 r1 w1 g1 h1 => ?_
  unfold zns at h1
  cases ed : rd S1 dv with
  | none => rw [ed] at h1; exact h1.elim
  | some d =>
    rw [ed] at h1
    have vw := r1.st.vw w1 ed
    cases vw with
    | non => exact ⟨false, rfl, h1 ι1 F1 H1 .refl r1.st⟩
    | bl b => exact ⟨b, rfl, h1 ι1 F1 H1 .refl r1.st⟩
    | int i => exact ⟨i != 0, rfl, h1 ι1 F1 H1 .refl r1.st⟩
    | str x => exact h1.elim
    | cas x => exact h1.elim
    | dct x => exact h1.elim
    | lst s w => exact ⟨_, .inl ⟨_, .of s, rfl⟩, by rw [wda_empty w]; exact h1 ι1 F1 H1 .refl r1.st⟩
    | tup s w => exact ⟨_, .inr (.inl ⟨_, zbr r1.st.sub s, rfl⟩), by rw [wda_empty w]; exact h1 ι1 F1 H1 .refl r1.st⟩
def tNo (f : TFn) : TFn := fun ρ S => (f ρ S).bind fun b S1 => .ok (!b) S1
def tAn (f g : TFn) : TFn := fun ρ S => (f ρ S).bind fun b S1 => if b then g ρ S1 else .ok false S1
def tOr_ (f g : TFn) : TFn := fun ρ S => (f ρ S).bind fun b S1 => if b then .ok true S1 else g ρ S1
theorem zd_ {f : TFn} (h : DT X W a f) : DT X W (.UnaryOp .Not a pos) (tNo f) := by
  refine ⟨PT.weak (pt_not h.pt) fun σ H Q ⟨ι, F, ρ, S, r, h⟩ => ?_⟩
  exact tT.bind (g := fun _ b S1 => .ok (!b) S1) r h fun b ι1 F1 S1 H1 r1 g1 h1 => h1 ι1 F1 H1 .refl r1.st
theorem zmj {f : TFn} (h : DT X W a f) : DW X W (.BoolOp .And [a] pos) f := ⟨pw_and1 h.pt⟩
theorem zji {f : TFn} (h : DT X W a f) : DW X W (.BoolOp .Or [a] pos) f := ⟨pw_or1 h.pt⟩
theorem znz {f g : TFn} {rest : List Expr} (ha : DT X W a f) (hb : DW X W (.BoolOp .And (b :: rest) pos) g) : DW X W (.BoolOp .And (a :: b :: rest) pos) (tAn f g) := by
  refine ⟨PW.weak (pw_and ha.pt hb.pw) fun σ H Q ⟨ι, F, ρ, S, r, h⟩ => ?_⟩
  refine tT.bind (g := fun ρ b S1 => if b then g ρ S1 else .ok false S1) r h fun b ι1 F1 S1 H1 r1 g1 h1 => ?_
  cases b with
  | true => rw [if_pos rfl]; exact ⟨ι1, F1, ρ, S1, r1, h1⟩
  | false => rw [if_neg (by simp)]; exact h1 ι1 F1 H1 .refl r1.st
theorem zl5 {f g : TFn} {rest : List Expr} (ha : DT X W a f) (hb : DW X W (.BoolOp .Or (b :: rest) pos) g) : DW X W (.BoolOp .Or (a :: b :: rest) pos) (tOr_ f g) := by
  refine ⟨PW.weak (pw_or ha.pt hb.pw) fun σ H Q ⟨ι, F, ρ, S, r, h⟩ => ?_⟩
  refine tT.bind (g := fun ρ b S1 => if b then .ok true S1 else g ρ S1) r h fun b ι1 F1 S1 H1 r1 g1 h1 => ?_
  cases b with
  | true => rw [if_pos rfl]; exact h1 ι1 F1 H1 .refl r1.st
  | false => rw [if_neg (by simp)]; exact ⟨ι1, F1, ρ, S1, r1, h1⟩
theorem DW.dt {f : TFn} (h : DW X W a f) : DT X W a f := ⟨h.pw.pt⟩
def xIf (t : TFn) (f g : XFn) : XFn := fun ρ S => (t ρ S).bind fun b S1 => if b then f ρ S1 else g ρ S1
theorem de_if {t : TFn} {f g : XFn} (hc : DT X W c t) (ha : DE X W a f) (hb : DE X W b g) : DE X W (.IfExp c a b pos) (xIf t f g) := by
  refine ⟨PE.weak (pe_ifExp hc.pt ha.pe hb.pe) fun σ H Q ⟨ι, F, ρ, S, r, h⟩ => ?_⟩
  refine tT.bind (g := fun ρ b S1 => if b then f ρ S1 else g ρ S1) r h fun b ι1 F1 S1 H1 r1 g1 h1 => ?_
  cases b with
  | true => rw [if_pos rfl]; exact ⟨ι1, F1, ρ, S1, r1, h1⟩
  | false => rw [if_neg (by simp)]; exact ⟨ι1, F1, ρ, S1, r1, h1⟩
theorem de_chain {op op' : CmpOp} {r r' : R2} {o o' : Op2} {f g k : XFn} (ho : OpR X (compareOp op) r) (ho' : OpR X (compareOp op') r') (k1 : OpOk X.K r o) (k2 : OpOk X.K r' o') (ha : DE X W a f) (hb : DE X W b g) (hc : DE X W c k)
    (hm : lastMarks [op, op'] [b, c] = false := by rfl) : DE X W (.Compare a [op, op'] [b, c] pos) (zln o o' f g k) := by
  refine ⟨PE.weak (pe_chain ho ho' ha.pe hb.pe hc.pe hm) fun σ H Q ⟨ι, F, ρ, S, r0, h⟩ => ?_⟩
  refine tD.bind (g := fun ρ x S1 => (g ρ S1).bind fun y S2 => (o x y S2).bind fun z S3 => match z with
    | .dat (.bl true) => (k ρ S3).bind fun w S4 => o' y w S4
    | .dat (.bl false) => .ok (.dat (.bl false)) S3
    | _ => .bad) r0 h fun v dv ι1 F1 S1 H1 r1 w1 g1 h1 => ?_
  refine tD.bind (g := fun ρ y S2 => (o dv y S2).bind fun z S3 => match z with
    | .dat (.bl true) => (k ρ S3).bind fun w S4 => o' y w S4
    | .dat (.bl false) => .ok (.dat (.bl false)) S3
    | _ => .bad) r1 h1 fun u du ι2 F2 S2 H2 r2 w2 g2 h2 => ?_
  refine k1 X.mg (fun c d H' => W c d σ H') ι2 F2 H2 S2 v u dv du _ r2.st (w1.grow g2) w2 ?_
  cases q : o dv du S2 with
  | ex c S3 => rw [q] at h2; exact h2
  | bad => rw [q] at h2; exact h2
  | ok z S3 =>
    rw [q] at h2
    intro ι3 F3 H3 g3 st3 zv wz
    have h3 := Post.grow (r := (match z with
      | .dat (.bl true) => (k ρ S3).bind fun w S4 => o' du w S4
      | .dat (.bl false) => .ok (.dat (.bl false)) S3
      | _ => .bad)) h2 g3
    have r3 := r2.slots g3 st3
    split at h3
    · have w' : Wd X.K F3 zv (.bl true) := wz
      cases w'
      refine ⟨true, rfl, ?_⟩
      rw [if_pos rfl]
      refine tD.bind (g := fun ρ w S4 => o' du w S4) r3 h3 fun t dt ι4 F4 S4 H4 r4 w4 g4 h4 => ?_
      exact k2 _ _ ι4 F4 H4 S4 u t du dt Q r4.st ((w2.grow g3).grow g4) w4 h4
    · have w' : Wd X.K F3 zv (.bl false) := wz
      cases w'
      exact ⟨false, rfl, by rw [if_neg (by simp)]; exact h3 ι3 F3 H3 .refl st3 _ (.bl _)⟩
    · exact h3.elim
end
/-! ## statements -/
inductive RS where
  | nx (ρ : zan) (S : zae) | rt (v : DV) (S : zae) | bk (ρ : zan) (S : zae) | ct (ρ : zan) (S : zae) | ex (c : Str) (ρ : zan) (S : zae) | bad
abbrev SFn := zan → zae → RS
def PostS (K : PySem.W.Frag) (mg : Str → Option Value) (W : WX) (ι : List Addr) (F H : Hp) (r : RS) (D : Ends) : Prop := match r with
  | .nx ρ' S' => ∀ σ' ι' F' H', Grow ι F H ι' F' H' → RR K ι' F' ρ' S' σ' H' → D.nx σ' H'
  | .rt dv S' => ∀ v ι' F' H', Grow ι F H ι' F' H' → StR K ι' F' S' H' → WV K ι' F' v dv → D.rt v H'
  | .bk ρ' S' => ∀ σ' ι' F' H', Grow ι F H ι' F' H' → RR K ι' F' ρ' S' σ' H' → D.bk σ' H'
  | .ct ρ' S' => ∀ σ' ι' F' H', Grow ι F H ι' F' H' → RR K ι' F' ρ' S' σ' H' → D.ct σ' H'
  | .ex c ρ' S' => ∀ C σ' ι' F' H', Grow ι F H ι' F' H' → RR K ι' F' ρ' S' σ' H' → mg c = some (.ref C) → W (.ref C) none σ' H'
  | .bad => False
def tS (X : Cx) (W : WX) (f : SFn) : TS := fun D σ H => ∃ ι F ρ S, RR X.K ι F ρ S σ H ∧ PostS X.K X.mg W ι F H (f ρ S) D
structure DS (X : Cx) (W : WX) (st : Stmt) (f : SFn) : Prop where
  ps : ∃ t, PS X st t ∧ ∀ D σ H, tS X W f D σ H → t D σ H
structure DSs (X : Cx) (W : WX) (st : List Stmt) (f : SFn) : Prop where
  ps : ∃ t, PSs X st t ∧ ∀ D σ H, tS X W f D σ H → t D σ H
section
variable {X : Cx} {W : WX} {e a b c : Expr} {es : List Expr} {pos p : Pos} {K : PySem.W.Frag} {ι : List Addr} {F H : Hp} {S : zae} {mg : Str → Option Value}
theorem PostS.grow {r : RS} {D : Ends} {ι1 : List Addr} {F1 H1 : Hp} (h : PostS K mg W ι F H r D) (g : Grow ι F H ι1 F1 H1) : PostS K mg W ι1 F1 H1 r D := by
  cases r with
  | nx ρ' S' => exact fun σ' ι' F' H' g' r => h σ' ι' F' H' (g.trans g') r
  | bk ρ' S' => exact fun σ' ι' F' H' g' r => h σ' ι' F' H' (g.trans g') r
  | ct ρ' S' => exact fun σ' ι' F' H' g' r => h σ' ι' F' H' (g.trans g') r
  | rt dv S' => exact fun v ι' F' H' g' st w => h v ι' F' H' (g.trans g') st w
  | ex c ρ' S' => exact fun C σ' ι' F' H' g' r m => h C σ' ι' F' H' (g.trans g') r m
  | bad => exact h
def Res.bindS {α : Type} (r : Res α) (ρ : zan) (f : α → zae → RS) : RS := match r with
  | .ok a S => f a S
  | .ex c S => .ex c ρ S
  | .bad => .bad
@[simp] theorem Res.bindS_ok {α : Type} (a : α) (S : zae) (ρ : zan) (f : α → zae → RS) : (Res.ok a S).bindS ρ f = f a S := rfl
@[simp] theorem Res.bindS_ex {α : Type} (c : Str) (S : zae) (ρ : zan) (f : α → zae → RS) : (Res.ex c S : Res α).bindS ρ f = .ex c ρ S := rfl
@[simp] theorem Res.bindS_bad {α : Type} (ρ : zan) (f : α → zae → RS) : (Res.bad : Res α).bindS ρ f = .bad := rfl
theorem tD.bindS {f : XFn} {g : zan → DV → zae → RS} {σ : L2.St} {H : Hp} {R : VK} {D : Ends} {ι : List Addr} {F : Hp} {ρ : zan} {S : zae} (r : RR X.K ι F ρ S σ H)
    (h : PostS X.K X.mg W ι F H ((f ρ S).bindS ρ (g ρ)) D)
    (k : ∀ v dv ι1 F1 S1 H1, RR X.K ι1 F1 ρ S1 σ H1 → WV X.K ι1 F1 v dv → Grow ι F H ι1 F1 H1 → PostS X.K X.mg W ι1 F1 H1 (g ρ dv S1) D → R v H1) : tD X W f σ H R := by
  refine ⟨ι, F, ρ, S, r, ?_⟩
  cases q : f ρ S with
  | ok dv S1 =>
    rw [q] at h
    exact fun ι1 F1 H1 g1 st v wv => k v dv ι1 F1 S1 H1 (r.slots g1 st) wv g1 (PostS.grow (r := g ρ dv S1) h g1)
  | ex c S1 => rw [q] at h; exact fun C ι' F' H' g' st m => h C σ ι' F' H' g' (r.slots g' st) m
  | bad => rw [q] at h; exact h
theorem tT.bindS {f : TFn} {g : zan → Bool → zae → RS} {σ : L2.St} {H : Hp} {R : Bool → Hp → Prop} {D : Ends} {ι : List Addr} {F : Hp} {ρ : zan} {S : zae} (r : RR X.K ι F ρ S σ H)
    (h : PostS X.K X.mg W ι F H ((f ρ S).bindS ρ (g ρ)) D)
    (k : ∀ b ι1 F1 S1 H1, RR X.K ι1 F1 ρ S1 σ H1 → Grow ι F H ι1 F1 H1 → PostS X.K X.mg W ι1 F1 H1 (g ρ b S1) D → R b H1) : tT X W f σ H R := by
  refine ⟨ι, F, ρ, S, r, ?_⟩
  cases q : f ρ S with
  | ok b S1 =>
    rw [q] at h
    exact fun ι1 F1 H1 g1 st => k b ι1 F1 S1 H1 (r.slots g1 st) g1 (PostS.grow (r := g ρ b S1) h g1)
  | ex c S1 => rw [q] at h; exact fun C ι' F' H' g' st m => h C σ ι' F' H' g' (r.slots g' st) m
  | bad => rw [q] at h; exact h
theorem RR.set {ρ : zan} {σ : L2.St} (r : RR K ι F ρ S σ H) {v : V} {dv : DV} (w : WV K ι F v dv) (i : Nat) : RR K ι F (ρ.set i (some dv)) S (σ.set i (some v)) H := by
  refine ⟨r.st, by simp [r.len], fun j d e => ?_⟩
  by_cases h : i = j
  · subst h
    rw [List.getElem?_set] at e ⊢
    rw [← r.len]
    split at e
    · split at e
      · rename_i h2
        simp at e; subst e
        exact ⟨v, by simp [h2], w⟩
      · cases e
    · rename_i h2; exact absurd rfl h2
  · rw [List.getElem?_set_ne h] at e ⊢
    exact r.slot j d e
theorem RR.unset {ρ : zan} {σ : L2.St} (r : RR K ι F ρ S σ H) (i : Nat) : RR K ι F (ρ.set i none) S (σ.set i none) H := by
  refine ⟨r.st, by simp [r.len], fun j d e => ?_⟩
  by_cases h : i = j
  · subst h
    rw [List.getElem?_set] at e
    split at e
    · split at e <;> cases e
    · rename_i h2; exact absurd rfl h2
  · rw [List.getElem?_set_ne h] at e ⊢
    exact r.slot j d e
def sNil : SFn := fun ρ S => .nx ρ S
def sSeq (f g : SFn) : SFn := fun ρ S => match f ρ S with
  | .nx ρ' S' => g ρ' S'
  | r => r
theorem za2 : DSs X W [] sNil := ⟨_, pss_nil, fun D σ H ⟨ι, F, ρ, S, r, h⟩ => h σ ι F H .refl r⟩
theorem tS.seq {f g : SFn} {D : Ends} {σ : L2.St} {H : Hp} (h : tS X W (sSeq f g) D σ H) : tS X W f { D with nx := tS X W g D } σ H := by
  obtain ⟨ι, F, ρ, S, r, h⟩ := h
  refine ⟨ι, F, ρ, S, r, ?_⟩
  unfold sSeq at h
  cases q : f ρ S with
  | nx ρ' S' => rw [q] at h; exact fun σ' ι' F' H' g' r' => ⟨ι', F', ρ', S', r', PostS.grow (r := g ρ' S') h g'⟩
  | rt dv S' => rw [q] at h; exact h
  | bk ρ' S' => rw [q] at h; exact h
  | ct ρ' S' => rw [q] at h; exact h
  | ex c ρ' S' => rw [q] at h; exact h
  | bad => rw [q] at h; exact h
theorem tS.mono {f : SFn} {D D' : Ends} {σ : L2.St} {H : Hp} (h : tS X W f D σ H) (k1 : ∀ σ H, D.nx σ H → D'.nx σ H) (k2 : ∀ v H, D.rt v H → D'.rt v H) (k3 : ∀ σ H, D.bk σ H → D'.bk σ H) (k4 : ∀ σ H, D.ct σ H → D'.ct σ H) : tS X W f D' σ H := by
  obtain ⟨ι, F, ρ, S, r, h⟩ := h
  refine ⟨ι, F, ρ, S, r, ?_⟩
  cases q : f ρ S with
  | nx ρ' S' => rw [q] at h; exact fun σ' ι' F' H' g' r' => k1 _ _ (h σ' ι' F' H' g' r')
  | rt dv S' => rw [q] at h; exact fun v ι' F' H' g' st w => k2 _ _ (h v ι' F' H' g' st w)
  | bk ρ' S' => rw [q] at h; exact fun σ' ι' F' H' g' r' => k3 _ _ (h σ' ι' F' H' g' r')
  | ct ρ' S' => rw [q] at h; exact fun σ' ι' F' H' g' r' => k4 _ _ (h σ' ι' F' H' g' r')
  | ex c ρ' S' => rw [q] at h; exact h
  | bad => rw [q] at h; exact h
theorem zaf {st : Stmt} {rest : List Stmt} {f g : SFn} (h : DS X W st f) (k : DSs X W rest g) : DSs X W (st :: rest) (sSeq f g) := by
  obtain ⟨t, p, i⟩ := h.ps
  obtain ⟨u, q, j⟩ := k.ps
  exact ⟨_, pss_cons p q, fun D σ H h => i _ σ H (h.seq.mono (fun σ H => j D σ H) (fun _ _ x => x) (fun _ _ x => x) (fun _ _ x => x))⟩
theorem zah {st : Stmt} {f : SFn} (h : DS X W st f) : DSs X W [st] f := let ⟨t, p, i⟩ := h.ps; ⟨t, pss_one p, i⟩
def sRet (f : XFn) : SFn := fun ρ S => (f ρ S).bindS ρ fun v S1 => .rt v S1
theorem zao {f : XFn} (h : DE X W e f) : DS X W (.Return (some e) pos) (sRet f) :=
  ⟨_, ps_ret h.pe, fun D σ H ⟨ι, F, ρ, S, r, h⟩ => tD.bindS (g := fun _ v S1 => .rt v S1) r h fun v dv ι1 F1 S1 H1 r1 w1 g1 h1 => h1 v ι1 F1 H1 .refl r1.st w1⟩
def sSet (i : Nat) (f : XFn) : SFn := fun ρ S => (f ρ S).bindS ρ fun v S1 => .nx (ρ.set i (some v)) S1
theorem zbm {i : Nat} {x : Str} {f : XFn} {p2 : Pos} (h : DE X W e f) (hN : X.N.Nodup) (hi : X.N[i]? = some x := by rfl) (hx : Loc X.env.scope x := by first | exact .inl rfl | exact .inr rfl) (hs : swapsWith e (some (.Name x p2)) pos.line X.env = pure false := by rfl)
    (hf : X.fn x = true ∨ X.env.scope.names.lookup x = some .local := by exact .inl rfl) (hs2 : swapsWithSole [.Name x p2] e pos.line X.env = pure false := by rfl) : DS X W (.Assign [.Name x p2] e pos) (sSet i f) :=
  ⟨_, ps_asg h.pe (pg_name hN hi hx hf) hs2, fun D σ H ⟨ι, F, ρ, S, r, h⟩ => tD.bindS (g := fun ρ v S1 => .nx (ρ.set i (some v)) S1) r h fun v dv ι1 F1 S1 H1 r1 w1 g1 h1 => h1 _ ι1 F1 H1 .refl (r1.set w1 i)⟩
def zk0 (f : XFn) : SFn := fun ρ S => (f ρ S).bindS ρ fun _ S1 => .nx ρ S1
theorem zhc {f : XFn} (h : DE X W e f) (hs : swapsWith e none pos.line X.env = pure false := by rfl) : DS X W (.Expr e pos) (zk0 f) :=
  ⟨_, ps_expr h.pe hs, fun D σ H ⟨ι, F, ρ, S, r, h⟩ => tD.bindS (g := fun ρ v S1 => .nx ρ S1) r h fun v dv ι1 F1 S1 H1 r1 w1 g1 h1 => h1 _ ι1 F1 H1 .refl r1⟩
def sIf (t : TFn) (f g : SFn) : SFn := fun ρ S => (t ρ S).bindS ρ fun b S1 => if b then f ρ S1 else g ρ S1
theorem zcy {t : TFn} {f g : SFn} {sa sb : List Stmt} (hc : DT X W c t) (ha : DSs X W sa f) (hb : DSs X W sb g) : DS X W (.If c sa sb pos) (sIf t f g) := by
  obtain ⟨t1, p1, i1⟩ := ha.ps
  obtain ⟨t2, p2, i2⟩ := hb.ps
  refine ⟨_, ps_if hc.pt p1 p2, fun D σ H ⟨ι, F, ρ, S, r, h⟩ => ?_⟩
  refine tT.bindS (g := fun ρ b S1 => if b then f ρ S1 else g ρ S1) r h fun b ι1 F1 S1 H1 r1 g1 h1 => ?_
  cases b with
  | true => rw [if_pos rfl]; exact i1 _ _ _ ⟨ι1, F1, ρ, S1, r1, h1⟩
  | false => rw [if_neg (by simp)]; exact i2 _ _ _ ⟨ι1, F1, ρ, S1, r1, h1⟩
end
end DL
set_option maxHeartbeats 4000000
namespace DL
open PySem PySem.Spec PyProof.Rows L2
section
variable {X : Cx} {W : WX} {e a b c : Expr} {es : List Expr} {pos p : Pos} {K : PySem.W.Frag} {ι : List Addr} {F H : Hp} {S : zae} {mg : Str → Option Value}
/-! ## lists of the store -/
theorem StR.put (st : StR K ι F S H) {k : Nat} {a : Addr} {o : HO} {vs : List V} {ds : List D} (hk : ι[k]? = some a) (hF : F a = none) (hH : H a = some o) (w : WdA K F vs ds) : StR K ι F (S.set k (some ds)) (upd H a (.lst vs)) := by
  refine ⟨fun b u e => ?_, by simp [st.len], st.nd, fun b hb => zj8 (st.full b hb), fun j es e => ?_⟩
  · have n : b ≠ a := fun z => by rw [z, hF] at e; cases e
    rw [upd_ne n]; exact st.sub b u e
  · by_cases h : k = j
    · subst h
      rw [List.getElem?_set] at e
      split at e
      · split at e
        · simp at e; subst e
          exact ⟨a, vs, hk, upd_same, hF, w⟩
        · cases e
      · rename_i h2; exact absurd rfl h2
    · rw [List.getElem?_set_ne h] at e
      obtain ⟨a', vs', h1, h2, h3, h4⟩ := st.cell j es e
      have n : a' ≠ a := fun z => by
        subst z
        obtain ⟨i1, g1⟩ := List.getElem?_eq_some_iff.mp hk
        obtain ⟨i2, g2⟩ := List.getElem?_eq_some_iff.mp h1
        exact h ((List.getElem_inj st.nd).mp (by rw [g1, g2]))
      exact ⟨a', vs', h1, by rw [upd_ne n]; exact h2, h3, h4⟩
theorem zos {k : Nat} {a : Addr} {o : HO} (hk : ι[k]? = some a) : Grow ι F H ι F (upd H a o) := by
  have m : a ∈ ι := List.mem_of_getElem? hk
  exact ⟨List.prefix_rfl, Same.refl _, fun b u e n => by rw [upd_ne (fun z => n (by rw [z]; exact m))]; exact e, fun b u e _ f _ => f, fun b h => .inl h, fun b h => zcv h⟩
theorem StR.freeze (st : StR K ι F S H) {k : Nat} {a : Addr} {vs : List V} (hk : ι[k]? = some a) (hF : F a = none) (hH : H a = some (.lst vs)) : StR K ι (upd F a (.lst vs)) (S.set k none) H ∧ Grow ι F H ι (upd F a (.lst vs)) H ∧ Same F (upd F a (.lst vs)) := by
  have m : a ∈ ι := List.mem_of_getElem? hk
  have s : Same F (upd F a (.lst vs)) := fun b u e => by rw [upd_ne (fun z => by rw [z, hF] at e; cases e)]; exact e
  refine ⟨⟨fun b u e => ?_, by simp [st.len], st.nd, st.full, fun j es e => ?_⟩, ⟨List.prefix_rfl, s, fun b u e n => e, fun b u e _ f n => by rw [upd_ne (fun z => n (by rw [z]; exact m))]; exact f, fun b h => .inl h, fun b h => h⟩, s⟩
  · by_cases h : b = a
    · subst h; rw [upd_same] at e; rw [hH]; exact e
    · rw [upd_ne h] at e; exact st.sub b u e
  · by_cases h : k = j
    · subst h
      rw [List.getElem?_set] at e
      split at e
      · split at e <;> cases e
      · rename_i h2; exact absurd rfl h2
    · rw [List.getElem?_set_ne h] at e
      obtain ⟨a', vs', h1, h2, h3, h4⟩ := st.cell j es e
      have n : a' ≠ a := fun z => by
        subst z
        obtain ⟨i1, g1⟩ := List.getElem?_eq_some_iff.mp hk
        obtain ⟨i2, g2⟩ := List.getElem?_eq_some_iff.mp h1
        exact h ((List.getElem_inj st.nd).mp (by rw [g1, g2]))
      exact ⟨a', vs', h1, h2, by rw [upd_ne n]; exact h3, h4.mono s⟩
theorem StR.add (st : StR K ι F S H) {p : Addr} {vs : List V} {ds : List D} (hH : H p = some (.lst vs)) (hF : F p = none) (hι : p ∉ ι) (w : WdA K F vs ds) : StR K (ι ++ [p]) F (S ++ [some ds]) H := by
  refine ⟨st.sub, by simp [st.len], List.nodup_append.mpr ⟨st.nd, by simp, fun x hx y hy => by simp at hy; subst hy; exact fun z => hι (z ▸ hx)⟩, fun b hb => by
    rcases List.mem_append.mp hb with h | h
    · exact st.full b h
    · simp at h; subst h; rw [hH]; simp, fun j es e => ?_⟩
  by_cases h : j < S.length
  · rw [List.getElem?_append_left h] at e
    obtain ⟨a', vs', h1, h2, h3, h4⟩ := st.cell j es e
    exact ⟨a', vs', by rw [List.getElem?_append_left (by rw [st.len]; exact h)]; exact h1, h2, h3, h4⟩
  · have h' := (List.getElem?_eq_some_iff.mp e).1
    simp at h'
    have : j = S.length := by omega
    subst this
    simp at e
    subst e
    exact ⟨p, vs, by rw [← st.len]; simp, hH, hF, w⟩
/-! ### new lists -/
abbrev LFn := zan → zae → Res (List D)
def tN (X : Cx) (W : WX) (f : LFn) : TE := fun σ H Q => ∃ ι F ρ S, RR X.K ι F ρ S σ H ∧ Post X.K X.mg (fun c d H' => W c d σ H') ι F H (f ρ S) fun ds ι' F' H' =>
  ∀ p vs, H p = none → H' p = some (.lst vs) → F' p = none → p ∉ ι' → WdA X.K F' vs ds → Q (.ref p) H'
structure NE (X : Cx) (W : WX) (e : Expr) (f : LFn) : Prop where
  pe : PE X e (tN X W f)
def xN1 (f : LFn) : XFn := fun ρ S => (f ρ S).bind fun ds S1 => .ok (.dat (.lst ds)) S1
theorem grow_freeze {ι' : List Addr} {F' H' : Hp} (g : Grow ι F H ι' F' H') {p : Addr} {o : HO} (hp : H p = none) (hF : F' p = none) : Grow ι F H ι' (upd F' p o) H' :=
  ⟨g.pre, fun b u e => by rw [upd_ne (fun z => by have := g.sf b u e; rw [z, hF] at this; cases this)]; exact g.sf b u e, g.keep, fun b u e t f n => by rw [upd_ne (fun z => by rw [z, hp] at e; cases e)]; exact g.new b u e t f n, g.nio, g.dom⟩
theorem StR.frz (st : StR K ι F S H) {p : Addr} {vs : List V} (hH : H p = some (.lst vs)) (hF : F p = none) (hι : p ∉ ι) : StR K ι (upd F p (.lst vs)) S H ∧ Same F (upd F p (.lst vs)) := by
  have s : Same F (upd F p (.lst vs)) := fun b u e => by rw [upd_ne (fun z => by rw [z, hF] at e; cases e)]; exact e
  refine ⟨⟨fun b u e => ?_, st.len, st.nd, st.full, fun j es e => ?_⟩, s⟩
  · by_cases h : b = p
    · subst h; rw [upd_same] at e; rw [hH]; exact e
    · rw [upd_ne h] at e; exact st.sub b u e
  · obtain ⟨a', vs', h1, h2, h3, h4⟩ := st.cell j es e
    have n : a' ≠ p := fun z => hι (z ▸ List.mem_of_getElem? h1)
    exact ⟨a', vs', h1, h2, by rw [upd_ne n]; exact h3, h4.mono s⟩
theorem tD.toN {f : LFn} {σ : L2.St} {H : Hp} {Q : VK} (h : tD X W (xN1 f) σ H Q) : tN X W f σ H Q := by
  obtain ⟨ι, F, ρ, S, r, h⟩ := h
  refine ⟨ι, F, ρ, S, r, ?_⟩
  unfold xN1 at h
  cases q : f ρ S with
  | bad => rw [q] at h; exact h
  | ex c S1 => rw [q] at h; exact h
  | ok ds S1 =>
    rw [q] at h
    intro ι' F' H' g st p vs hp hH hF hι w
    obtain ⟨st', s⟩ := st.frz hH hF hι
    exact h ι' _ H' (grow_freeze g hp hF) st' (.ref p) (.lst upd_same (w.mono s))
theorem NE.de {f : LFn} (h : NE X W e f) : DE X W e (xN1 f) := ⟨PE.weak h.pe fun σ H Q h => h.toN⟩
def sNew (i : Nat) (f : LFn) : SFn := fun ρ S => (f ρ S).bindS ρ fun ds S1 => .nx (ρ.set i (some (.obj S1.length))) (S1 ++ [some ds])
theorem zma {ι' : List Addr} {F' H' : Hp} (g : Grow ι F H ι' F' H') {p : Addr} (hp : H p = none) : Grow ι F H (ι' ++ [p]) F' H' :=
  ⟨g.pre.trans (List.prefix_append _ _), g.sf, g.keep, g.new, fun b h => by
    rcases List.mem_append.mp h with h | h
    · exact g.nio b h
    · simp at h; subst h; exact .inr hp, g.dom⟩
theorem tS.new {i : Nat} {f : LFn} {D : Ends} {σ : L2.St} {H : Hp} (h : tS X W (sNew i f) D σ H) : tN X W f σ H fun v H1 => D.nx (σ.set i (some v)) H1 := by
  obtain ⟨ι, F, ρ, S, r, h⟩ := h
  refine ⟨ι, F, ρ, S, r, ?_⟩
  unfold sNew at h
  cases q : f ρ S with
  | bad => rw [q] at h; exact h
  | ex c S1 => rw [q] at h; exact fun C ι' F' H' g st m => h C σ ι' F' H' g (r.slots g st) m
  | ok ds S1 =>
    rw [q] at h
    intro ι' F' H' g st p vs hp hH hF hι w
    have r1 := r.slots (zma g hp) (st.add hH hF hι w)
    exact h _ _ F' H' (zma g hp) (r1.set (dv := .obj S1.length) ⟨p, by rw [← st.len]; simp, rfl⟩ i)
theorem tS.set {i : Nat} {f : XFn} {D : Ends} {σ : L2.St} {H : Hp} (h : tS X W (sSet i f) D σ H) : tD X W f σ H fun v H1 => D.nx (σ.set i (some v)) H1 := by
  obtain ⟨ι, F, ρ, S, r, h⟩ := h
  exact tD.bindS (g := fun ρ v S1 => .nx (ρ.set i (some v)) S1) r h fun v dv ι1 F1 S1 H1 r1 w1 g1 h1 => h1 _ ι1 F1 H1 .refl (r1.set w1 i)
theorem ds_new {i : Nat} {x : Str} {f : LFn} {p2 : Pos} (h : NE X W e f) (hN : X.N.Nodup) (hi : X.N[i]? = some x := by rfl) (hx : Loc X.env.scope x := by first | exact .inl rfl | exact .inr rfl)
    (hf : X.fn x = true ∨ X.env.scope.names.lookup x = some .local := by exact .inl rfl) (hs2 : swapsWithSole [.Name x p2] e pos.line X.env = pure false := by rfl) : DS X W (.Assign [.Name x p2] e pos) (sNew i f) :=
  ⟨_, ps_asg h.pe (pg_name hN hi hx hf) hs2, fun D σ H h => h.new⟩
def lLst (f : AFn) : LFn := fun ρ S => (f ρ S).bind fun ds S1 => match dats ds with
  | some xs => if xs.length ≤ sizeLine then .ok xs S1 else .bad
  | none => .bad
theorem zoc {Q : VK} {ι1 : List Addr} {F1 H1 : Hp} {S1 : zae} {xs : List D} {vs : List V} {E : XK} (st : StR K ι1 F1 S1 H1) (g : Grow ι F H ι1 F1 H1)
    (h : Post K mg E ι1 F1 H1 (.ok xs S1) fun ds ι' F' H' => ∀ p vs, H p = none → H' p = some (.lst vs) → F' p = none → p ∉ ι' → WdA K F' vs ds → Q (.ref p) H')
    (w : WdA K F1 vs xs) {p : Addr} (hp : H1 p = none) : Q (.ref p) (upd H1 p (.lst vs)) := by
  have hF : F1 p = none := by
    cases q : F1 p with
    | none => rfl
    | some o => rw [st.sub p o q] at hp; cases hp
  exact h ι1 F1 _ (zfa hp _) (st.alone hp _) p vs (g.dom p hp) upd_same hF (fun m => st.full p m hp) w
theorem ne_lst {f : AFn} (h : DA X W es f) : NE X W (.List es pos) (lLst f) := by
  refine ⟨PE.weak (pe_lst h.pa) fun σ H Q ⟨ι, F, ρ, S, r, h⟩ => ?_⟩
  refine tA.bind (g := fun _ ds S1 => match dats ds with
    | some xs => if xs.length ≤ sizeLine then .ok xs S1 else .bad
    | none => .bad) r h fun vs ds ι1 F1 S1 H1 r1 w1 g1 h1 => ?_
  cases q : dats ds with
  | none => simp only [q] at h1; exact h1.elim
  | some xs =>
    simp only [q] at h1
    have wx := w1.dats q
    by_cases hl : xs.length ≤ sizeLine
    · simp only [hl, if_true] at h1
      exact ⟨by rw [wx.length]; exact hl, fun p hp => zoc r1.st g1 h1 wx hp⟩
    · simp only [hl, if_false] at h1; exact h1.elim
def lList (f : XFn) : LFn := fun ρ S => (f ρ S).bind fun x S1 => match rd S1 x with
  | some (.lst xs) => .ok xs S1
  | some (.tup xs) => .ok xs S1
  | _ => .bad
theorem ne_list {f : XFn} {p2 : Pos} (h : DE X W a f) (hm : X.mg "list" = none) (hg : Gl X "list" := by rfl)
    (he : starEach (a :: []) X.env = (false, eval a X.env) :: starEach [] X.env := by rfl) : NE X W (.Call (.Name "list" p) [a] [] pos) (lList f) := by
  refine ⟨PE.weak (pe_callTy call_list_of hg hm (by decide +kernel) (pa_cons h.pe pa_nil he) (by decide) (by decide) he rfl) fun σ H Q ⟨ι, F, ρ, S, r, h⟩ => ?_⟩
  refine tD.bind (g := fun _ x S1 => match rd S1 x with
    | some (.lst xs) => .ok xs S1
    | some (.tup xs) => .ok xs S1
    | _ => .bad) r h fun v dv ι1 F1 S1 H1 r1 w1 g1 h1 => ?_
  cases ed : rd S1 dv with
  | none => simp only [ed] at h1; exact h1.elim
  | some d =>
    have vw := r1.st.vw w1 ed
    cases vw with
    | lst s w => simp only [ed] at h1; exact ⟨_, _, rfl, .inl (.of s), fun l hl => zoc r1.st g1 h1 w hl⟩
    | tup s w => simp only [ed] at h1; exact ⟨_, _, rfl, .inr (zbr r1.st.sub s), fun l hl => zoc r1.st g1 h1 w hl⟩
    | _ => simp only [ed] at h1; exact h1.elim
/-! ### x.append(e) and its like: statements -/
def zdv (S : zae) : DV → Option (Nat × List D)
  | .obj k => match S[k]? with
    | some (some ds) => some (k, ds)
    | _ => none
  | _ => none
theorem zm1 {S : zae} {x : DV} {k : Nat} {ds : List D} {v : V} (st : StR K ι F S H) (w : WV K ι F v x) (e : zdv S x = some (k, ds)) : ∃ a vs, v = .ref a ∧ ι[k]? = some a ∧ H a = some (.lst vs) ∧ F a = none ∧ WdA K F vs ds := by
  cases x with
  | dat d => cases e
  | scr ns => cases e
  | exn c p => cases e
  | obj j =>
    simp only [zdv] at e
    split at e
    · rename_i es q
      cases e
      obtain ⟨a, h1, h2⟩ := w
      obtain ⟨a', vs, h3, h4, h5, h6⟩ := st.cell _ _ q
      rw [h1] at h3; cases h3
      exact ⟨a, vs, h2, h1, h4, h5, h6⟩
    · cases e
def putApp (x y : DV) (ρ : zan) (S : zae) : RS := match zdv S x, y with
  | some (k, ds), .dat d => if ds.length < sizeLine then .nx ρ (S.set k (some (ds ++ [d]))) else .bad
  | _, _ => .bad
def sApp (f g : XFn) : SFn := fun ρ S => (f ρ S).bindS ρ fun x S1 => match zdv S1 x with
  | some _ => (g ρ S1).bindS ρ fun y S2 => putApp x y ρ S2
  | none => .bad
theorem cell_view {S : zae} {x : DV} {z : Nat × List D} {v : V} (st : StR K ι F S H) (w : WV K ι F v x) (e : zdv S x = some z) : tyV K "list" v H := by
  obtain ⟨k, ds⟩ := z
  obtain ⟨a, vs, rfl, h1, h2, h3, h4⟩ := zm1 st w e
  exact .inl ⟨rfl, vs, .of h2⟩
theorem ds_append {o : Expr} {f g : XFn} {apos : Pos} (ho : DE X W o f) (ha : DE X W a g)
    (hbase : attributeBase o "append" X.env (eval o X.env) = eval o X.env := by rfl)
    (hfew : ((backTo p (starEach (a :: []) X.env)).all (fun x => !x.1) && (backToKw p (keywordEach [] X.env)).all (fun x => x.1.isSome)
      && decide ((a :: []).length + ([] : List Keyword).length + (if ([] : List Keyword).isEmpty then 0 else 1) < 30)) = true := by rfl)
    (hline : (apos.endLine == p.line) = true := by rfl) (hse : starEach (a :: []) X.env = (false, eval a X.env) :: starEach [] X.env := by rfl)
    (hs : swapsWith (.Call (.Attribute o "append" apos) [a] [] p) none pos.line X.env = pure false := by rfl) :
    DS X W (.Expr (.Call (.Attribute o "append" apos) [a] [] p) pos) (sApp f g) := by
  refine ⟨_, ps_expr (pe_bm PySem.F.plainAttrs_list PySem.F.slot_list_append PySem.F.type_list_append mt_append ho.pe (pa_cons ha.pe pa_nil hse) hbase hfew hline hse rfl) hs, fun D σ H ⟨ι, F, ρ, S, r, h⟩ => ?_⟩
  refine tD.bindS (g := fun ρ x S1 => match zdv S1 x with
    | some _ => (g ρ S1).bindS ρ fun y S2 => putApp x y ρ S2
    | none => .bad) r h fun v dv ι1 F1 S1 H1 r1 w1 g1 h1 => ?_
  cases ec : zdv S1 dv with
  | none => simp only [ec] at h1; exact h1.elim
  | some z =>
    simp only [ec] at h1
    refine ⟨cell_view r1.st w1 ec, ?_⟩
    refine tD.bindS (g := fun ρ y S2 => putApp dv y ρ S2) r1 h1 fun u du ι2 F2 S2 H2 r2 w2 g2 h2 => ?_
    unfold putApp at h2
    cases ec2 : zdv S2 dv with
    | none => simp only [ec2] at h2; exact h2.elim
    | some z2 =>
      obtain ⟨k, ds⟩ := z2
      simp only [ec2] at h2
      cases du with
      | dat d =>
        simp only at h2
        split at h2
        · rename_i hl
          obtain ⟨a, vs, rfl, q1, q2, q3, q4⟩ := zm1 r2.st (w1.grow g2) ec2
          refine ⟨a, vs, u, rfl, rfl, q2, by rw [q4.length]; exact hl, ?_⟩
          have gp := zos (F := F2) (H := H2) (o := .lst (vs ++ [u])) q1
          exact h2 σ ι2 F2 _ gp (r2.slots gp (r2.st.put q1 q3 q2 (q4.append (.cons w2 .nil))))
        · exact h2.elim
      | _ => exact h2.elim
end
end DL
set_option maxHeartbeats 4000000
namespace DL
open PySem PySem.Spec PyProof.Rows L2
section
variable {X : Cx} {W : WX} {e a b c : Expr} {es : List Expr} {pos p : Pos} {K : PySem.W.Frag} {ι : List Addr} {F H : Hp} {S : zae} {mg : Str → Option Value}
def putExt (x y : DV) (ρ : zan) (S : zae) : RS := match zdv S x, y with
  | some (k, ds), .dat (.lst es) => if ds.length + es.length ≤ sizeLine then .nx ρ (S.set k (some (ds ++ es))) else .bad
  | _, _ => .bad
def sExt (f g : XFn) : SFn := fun ρ S => (f ρ S).bindS ρ fun x S1 => match zdv S1 x with
  | some _ => (g ρ S1).bindS ρ fun y S2 => putExt x y ρ S2
  | none => .bad
theorem ds_extend {o : Expr} {f g : XFn} {apos : Pos} (ho : DE X W o f) (ha : DE X W a g)
    (hbase : attributeBase o "extend" X.env (eval o X.env) = eval o X.env := by rfl)
    (hfew : ((backTo p (starEach (a :: []) X.env)).all (fun x => !x.1) && (backToKw p (keywordEach [] X.env)).all (fun x => x.1.isSome)
      && decide ((a :: []).length + ([] : List Keyword).length + (if ([] : List Keyword).isEmpty then 0 else 1) < 30)) = true := by rfl)
    (hline : (apos.endLine == p.line) = true := by rfl) (hse : starEach (a :: []) X.env = (false, eval a X.env) :: starEach [] X.env := by rfl)
    (hs : swapsWith (.Call (.Attribute o "extend" apos) [a] [] p) none pos.line X.env = pure false := by rfl) :
    DS X W (.Expr (.Call (.Attribute o "extend" apos) [a] [] p) pos) (sExt f g) := by
  refine ⟨_, ps_expr (pe_bm PySem.F.plainAttrs_list PySem.F.slot_list_extend PySem.F.type_list_extend mt_extend ho.pe (pa_cons ha.pe pa_nil hse) hbase hfew hline hse rfl) hs, fun D σ H ⟨ι, F, ρ, S, r, h⟩ => ?_⟩
  refine tD.bindS (g := fun ρ x S1 => match zdv S1 x with
    | some _ => (g ρ S1).bindS ρ fun y S2 => putExt x y ρ S2
    | none => .bad) r h fun v dv ι1 F1 S1 H1 r1 w1 g1 h1 => ?_
  cases ec : zdv S1 dv with
  | none => simp only [ec] at h1; exact h1.elim
  | some z =>
    simp only [ec] at h1
    refine ⟨cell_view r1.st w1 ec, ?_⟩
    refine tD.bindS (g := fun ρ y S2 => putExt dv y ρ S2) r1 h1 fun u du ι2 F2 S2 H2 r2 w2 g2 h2 => ?_
    unfold putExt at h2
    cases ec2 : zdv S2 dv with
    | none => simp only [ec2] at h2; exact h2.elim
    | some z2 =>
      obtain ⟨k, ds⟩ := z2
      simp only [ec2] at h2
      cases du with
      | dat d =>
        cases d with
        | lst es =>
          have vu := r2.st.vw w2 (d := .lst es) rfl
          cases vu with
          | lst su wu =>
            rename_i a2 us
            simp only at h2
            split at h2
            · rename_i hl
              obtain ⟨a, vs, rfl, q1, q2, q3, q4⟩ := zm1 r2.st (w1.grow g2) ec2
              refine ⟨a, _, vs, _, rfl, rfl, q2, su, by rw [q4.length, wu.length]; exact hl, ?_⟩
              have gp := zos (F := F2) (H := H2) (o := .lst (vs ++ us)) q1
              exact h2 σ ι2 F2 _ gp (r2.slots gp (r2.st.put q1 q3 q2 (q4.append wu)))
            · exact h2.elim
        | _ => exact h2.elim
      | _ => exact h2.elim
/-! ### x.insert(i, e) -/
/-! ### x[i] = e -/
def zou (x i y : DV) (ρ : zan) (S : zae) : RS := match zdv S x, i, y with
  | some (k, ds), .dat (.int n), .dat d => (match ixN ds.length n with
    | some j => .nx ρ (S.set k (some (ds.set j d)))
    | none => .bad)
  | _, _, _ => .bad
def sPut (f i g : XFn) : SFn := fun ρ S => (g ρ S).bindS ρ fun y S1 => (f ρ S1).bindS ρ fun x S2 => (i ρ S2).bindS ρ fun n S3 => zou x n y ρ S3
theorem ds_put {o : Expr} {f i g : XFn} {p2 : Pos} (ho : DE X W o f) (hi : DE X W a i) (hb : DE X W b g)
    (ha : ∀ v, assign (.Subscript o a p2) X.env v = (do
      let ov ← holding [v] (eval o X.env)
      let iv ← holding [v, ov] (eval a X.env)
      standAt p2
      holding [v, ov, iv] (setItem ov iv v)
      release [v, ov, iv] []) := by intro _; rfl)
    (hs : swapsWithSole [.Subscript o a p2] b pos.line X.env = pure false := by rfl) :
    DS X W (.Assign [.Subscript o a p2] b pos) (sPut f i g) := by
  refine ⟨_, ps_asg hb.pe (pg_sub ho.pe hi.pe set_list ha) hs, fun D σ H ⟨ι, F, ρ, S, r, h⟩ => ?_⟩
  refine tD.bindS (g := fun ρ y S1 => (f ρ S1).bindS ρ fun x S2 => (i ρ S2).bindS ρ fun n S3 => zou x n y ρ S3) r h fun v dv ι1 F1 S1 H1 r1 w1 g1 h1 => ?_
  refine tD.bindS (g := fun ρ x S2 => (i ρ S2).bindS ρ fun n S3 => zou x n dv ρ S3) r1 h1 fun o dx ι2 F2 S2 H2 r2 w2 g2 h2 => ?_
  refine tD.bindS (g := fun ρ n S3 => zou dx n dv ρ S3) r2 h2 fun n dn ι3 F3 S3 H3 r3 w3 g3 h3 => ?_
  unfold zou at h3
  cases ec2 : zdv S3 dx with
  | none => simp only [ec2] at h3; exact h3.elim
  | some z2 =>
    obtain ⟨k, ds⟩ := z2
    simp only [ec2] at h3
    cases dn with
    | dat d =>
      cases d with
      | int j =>
        have wj : Wd X.K F3 n (.int j) := w3
        cases wj
        cases dv with
        | dat d =>
          simp only at h3
          cases ej : ixN ds.length j with
          | none => simp only [ej] at h3; exact h3.elim
          | some m =>
            simp only [ej] at h3
            obtain ⟨a, vs, rfl, q1, q2, q3, q4⟩ := zm1 r3.st (w2.grow g3) ec2
            refine ⟨a, vs, j, m, rfl, rfl, q2, by rw [q4.length]; exact ej, ?_⟩
            have gp := zos (F := F3) (H := H3) (o := .lst (vs.set m v)) q1
            exact h3 σ ι3 F3 _ gp (r3.slots gp (r3.st.put q1 q3 q2 (q4.set m ((w1.grow g2).grow g3))))
        | _ => exact h3.elim
      | _ => exact h3.elim
    | _ => exact h3.elim
/-! ### a list of the store is not changed any more: from here on it is data -/
def sFrz (i : Nat) : SFn := fun ρ S => match ρ[i]? with
  | some (some x) => (match zdv S x with
    | some (k, ds) => .nx (ρ.set i (some (.dat (.lst ds)))) (S.set k none)
    | none => .bad)
  | _ => .bad
theorem RR.frz {ρ : zan} {σ : L2.St} (r : RR K ι F ρ S σ H) {i : Nat} {x : DV} {k : Nat} {ds : List D} (h : ρ[i]? = some (some x)) (ec : zdv S x = some (k, ds)) :
    ∃ F', Grow ι F H ι F' H ∧ RR K ι F' (ρ.set i (some (.dat (.lst ds)))) (S.set k none) σ H := by
  obtain ⟨v, h1, w⟩ := r.slot i x h
  obtain ⟨a, vs, rfl, q1, q2, q3, q4⟩ := zm1 r.st w ec
  obtain ⟨st, g, s⟩ := r.st.freeze q1 q3 q2
  refine ⟨_, g, st, by simp [r.len], fun j dv e => ?_⟩
  by_cases hij : i = j
  · subst hij
    rw [List.getElem?_set] at e
    split at e
    · split at e
      · simp at e; subst e
        exact ⟨_, h1, Wd.lst upd_same (q4.mono s)⟩
      · cases e
    · rename_i h2; exact absurd rfl h2
  · rw [List.getElem?_set_ne hij] at e
    obtain ⟨v', h2, w'⟩ := r.slot j dv e
    exact ⟨v', h2, w'.grow g⟩
theorem zoy {i : Nat} {st : List Stmt} {f : SFn} (h : DSs X W st f) : DSs X W st (sSeq (sFrz i) f) := by
  obtain ⟨t, q, j⟩ := h.ps
  refine ⟨t, q, fun D σ H ⟨ι, F, ρ, S, r, h⟩ => j D σ H ?_⟩
  unfold sSeq sFrz at h
  cases ex : ρ[i]? with
  | none => simp only [ex] at h; exact h.elim
  | some o =>
    cases o with
    | none => simp only [ex] at h; exact h.elim
    | some x =>
      simp only [ex] at h
      cases ec : zdv S x with
      | none => simp only [ec] at h; exact h.elim
      | some z =>
        obtain ⟨k, ds⟩ := z
        simp only [ec] at h
        obtain ⟨F', g, r'⟩ := r.frz ex ec
        exact ⟨ι, F', _, _, r', PostS.grow (r := f _ _) h g⟩
end
end DL
set_option maxHeartbeats 4000000
namespace DL
open PySem PySem.Spec PyProof.Rows L2
section
variable {X : Cx} {W : WX} {e a b c : Expr} {es : List Expr} {pos p : Pos} {K : PySem.W.Frag} {ι : List Addr} {F H : Hp} {S : zae} {mg : Str → Option Value}
/-! ## targets -/
abbrev GFn := D → zan → Option zan
abbrev GsFn := List D → zan → Option zan
theorem wipe_comm (σ : L2.St) (i : Nat) (o : Option V) (h : ∀ vs : List Nat, True) : ∀ vs : List Nat, (i ∈ vs → wipe (σ.set i o) vs = wipe σ vs) ∧ (i ∉ vs → wipe (σ.set i o) vs = (wipe σ vs).set i o)
  | [] => ⟨fun z => absurd z (by simp), fun _ => rfl⟩
  | v :: vs => by
    obtain ⟨h1, h2⟩ := wipe_comm σ i o h vs
    refine ⟨fun m => ?_, fun m => ?_⟩
    · show (wipe (σ.set i o) vs).set v none = (wipe σ vs).set v none
      by_cases q : i ∈ vs
      · rw [h1 q]
      · rw [h2 q]
        have e : i = v := by
          rcases List.mem_cons.mp m with z | z
          · exact z
          · exact absurd z q
        subst e
        rw [List.set_set]
    · have q : i ∉ vs := fun z => m (List.mem_cons_of_mem _ z)
      have n : v ≠ i := fun z => m (by rw [z]; exact List.mem_cons_self)
      show (wipe (σ.set i o) vs).set v none = ((wipe σ vs).set v none).set i o
      rw [h2 q, List.set_comm _ _ n]
theorem wipe_set {σ : L2.St} {i : Nat} {o : Option V} {vs : List Nat} (m : i ∈ vs) : wipe (σ.set i o) vs = wipe σ vs := (wipe_comm σ i o (fun _ => trivial) vs).1 m
def Only (sl : List Nat) (σ σ' : L2.St) : Prop := ∀ vs : List Nat, (∀ i ∈ sl, i ∈ vs) → wipe σ' vs = wipe σ vs
structure DG (X : Cx) (tg : Expr) (sl : List Nat) (g : GFn) : Prop where
  pg : ∃ t, PG X tg t ∧ ∀ v σ H Q ι F ρ S d ρ', RR X.K ι F ρ S σ H → Wd X.K F v d → g d ρ = some ρ' → (∀ σ', RR X.K ι F ρ' S σ' H → Only sl σ σ' → Q σ' H) → t v σ H Q
structure DGs (X : Cx) (tgs : List Expr) (sl : List Nat) (g : GsFn) : Prop where
  pg : ∃ t, PGs X tgs t ∧ ∀ vs σ H Q ι F ρ S ds ρ', RR X.K ι F ρ S σ H → WdA X.K F vs ds → g ds ρ = some ρ' → (∀ σ', RR X.K ι F ρ' S σ' H → Only sl σ σ' → Q σ' H) → t vs σ H Q
def gNm (i : Nat) : GFn := fun d ρ => some (ρ.set i (some (.dat d)))
def gNo : GsFn := fun ds ρ => match ds with
  | [] => some ρ
  | _ => none
def gCo (g : GFn) (gs : GsFn) : GsFn := fun ds ρ => match ds with
  | d :: r => (g d ρ).bind (gs r)
  | [] => none
def gTp (gs : GsFn) : GFn := fun d ρ => match d with
  | .tup ds => gs ds ρ
  | _ => none
theorem zaj {i : Nat} {x : Str} (hN : X.N.Nodup) (hi : X.N[i]? = some x := by rfl) (hx : Loc X.env.scope x := by first | exact .inl rfl | exact .inr rfl)
    (hf : X.fn x = true ∨ X.env.scope.names.lookup x = some .local := by first | exact .inl rfl | exact .inr rfl) : DG X (.Name x pos) [i] (gNm i) := by
  refine ⟨_, pg_name hN hi hx hf, fun v σ H Q ι F ρ S d ρ' r w e k => ?_⟩
  cases e
  exact k _ (r.set (dv := .dat d) w i) fun vs h => wipe_set (h i (by simp))
theorem zik : DGs X [] [] gNo := by
  refine ⟨_, pgs_nil, fun vs σ H Q ι F ρ S ds ρ' r w e k => ?_⟩
  unfold gNo at e
  split at e
  · cases e; cases w
    exact ⟨rfl, k σ r fun _ _ => rfl⟩
  · cases e
theorem zby {sl sl' : List Nat} {g : GFn} {gs : GsFn} (h : DG X a sl g) (k : DGs X es sl' gs) (hs : (assignEach (a :: es) X.env).map (·.2) = assign a X.env :: (assignEach es X.env).map (·.2) := by rfl) : DGs X (a :: es) (sl ++ sl') (gCo g gs) := by
  obtain ⟨t, p, i⟩ := h.pg
  obtain ⟨u, q, j⟩ := k.pg
  refine ⟨_, pgs_cons p q hs, fun vs σ H Q ι F ρ S ds ρ' r w e k => ?_⟩
  cases ds with
  | nil => cases e
  | cons d ds =>
    cases w with
    | cons w ws =>
      simp only [gCo] at e
      cases q1 : g d ρ with
      | none => rw [q1] at e; cases e
      | some ρ1 =>
        rw [q1] at e
        refine ⟨_, _, rfl, i _ σ H _ ι F ρ S d ρ1 r w q1 fun σ1 r1 o1 => j _ σ1 H Q ι F ρ1 S ds ρ' r1 ws e fun σ2 r2 o2 => k σ2 r2 fun vs hv => ?_⟩
        rw [o2 vs (fun i m => hv i (List.mem_append_right _ m)), o1 vs (fun i m => hv i (List.mem_append_left _ m))]
def GLen (gs : GsFn) (n : Nat) : Prop := ∀ ds ρ ρ', gs ds ρ = some ρ' → ds.length = n
theorem zg2 : GLen gNo 0 := fun ds ρ ρ' e => by
  unfold gNo at e
  split at e
  · rfl
  · cases e
theorem zbk {g : GFn} {gs : GsFn} {n : Nat} (h : GLen gs n) : GLen (gCo g gs) (n + 1) := fun ds ρ ρ' e => by
  cases ds with
  | nil => cases e
  | cons d ds =>
    simp only [gCo] at e
    cases q1 : g d ρ with
    | none => rw [q1] at e; cases e
    | some ρ1 => rw [q1] at e; simp [h ds ρ1 ρ' e]
theorem zj0 {sl : List Nat} {gs : GsFn} {k n : Nat} (hc : X.calm = true) (h : DGs X es sl gs) (hl : GLen gs n) (hn : (assignEach es X.env).length = n := by rfl) (hst : (assignEach es X.env).findIdx? (·.1) = none := by rfl) : DG X (.Tuple es k pos) sl (gTp gs) := by
  obtain ⟨t, p, i⟩ := h.pg
  refine ⟨_, pg_tup hc p hn hst, fun v σ H Q ι F ρ S d ρ' r w e k => ?_⟩
  cases d <;> simp only [gTp] at e <;> first | (cases e; done) | skip
  rename_i ds
  cases w with
  | tup s w => exact ⟨_, _, rfl, zbr r.st.sub s, by rw [w.length]; exact hl ds ρ ρ' e, i _ σ H Q ι F ρ S ds ρ' r w e k⟩
def sTg (g : GFn) (f : XFn) : SFn := fun ρ S => (f ρ S).bindS ρ fun v S1 => match v with
  | .dat d => (match g d ρ with
    | some ρ' => .nx ρ' S1
    | none => .bad)
  | _ => .bad
theorem ds_tg {sl : List Nat} {g : GFn} {f : XFn} {tg : Expr} (h : DE X W e f) (hg : DG X tg sl g) (hs : swapsWithSole [tg] e pos.line X.env = pure false := by rfl) (hw : swappedStores [tg] e X.env = pure none := by rfl) (h1 : (assignEach [tg] X.env).map (·.2) = [assign tg X.env] := by rfl) : DS X W (.Assign [tg] e pos) (sTg g f) := by
  obtain ⟨t, p, i⟩ := hg.pg
  refine ⟨_, ps_asg h.pe p hs hw h1, fun D σ H ⟨ι, F, ρ, S, r, h⟩ => ?_⟩
  refine tD.bindS (g := fun ρ v S1 => match v with
    | .dat d => (match g d ρ with
      | some ρ' => .nx ρ' S1
      | none => .bad)
    | _ => .bad) r h fun v dv ι1 F1 S1 H1 r1 w1 g1 h1 => ?_
  cases dv with
  | dat d =>
    simp only at h1
    cases q : g d ρ with
    | none => simp only [q] at h1; exact h1.elim
    | some ρ' => simp only [q] at h1; exact i v σ H1 _ ι1 F1 ρ S1 d ρ' r1 w1 q fun σ' r' o => h1 σ' ι1 F1 H1 .refl r'
  | _ => exact h1.elim
/-! ## what is walked -/
def ItOk (K : PySem.W.Frag) (F' : Hp) (ds : List D) (J : It) : Prop := ∃ (G : Hp → Prop) (Y : Nat → Hp → V → Hp → Prop), Walk J ds.length G Y ∧ (∀ ι F1 S1 H1, StR K ι F1 S1 H1 → Same F' F1 → G H1) ∧
  ∀ ι F1 S1 H1 i x H2, StR K ι F1 S1 H1 → Same F' F1 → i < ds.length → Y i H1 x H2 → ∃ F2 d, Grow ι F1 H1 ι F2 H2 ∧ StR K ι F2 S1 H2 ∧ ds[i]? = some d ∧ Wd K F2 x d
def tI (X : Cx) (W : WX) (f : LFn) : TI := fun σ H R => ∃ ι F ρ S, RR X.K ι F ρ S σ H ∧ Post X.K X.mg (fun c d H' => W c d σ H') ι F H (f ρ S) fun ds ι' F' H' => ∀ J, ItOk X.K F' ds J → R J H'
structure DI (X : Cx) (W : WX) (tg e : Expr) (f : LFn) : Prop where
  pi : ∃ t, PI X tg e t ∧ ∀ σ H R, tI X W f σ H R → t σ H R
theorem itOk_list {F1 : Hp} {a : Addr} {vs : List V} {ds : List D} (s : F1 a = some (.lst vs)) (w : WdA K F1 vs ds) : ItOk K F1 ds (Itl K a) := by
  refine ⟨fun H => SqL K H a vs, YAt vs, by rw [← w.length]; exact walk_list, fun ι F2 S2 H2 st sm => .of (st.sub _ _ (sm _ _ s)), fun ι F2 S2 H2 i x H3 st sm hi y => ?_⟩
  obtain ⟨rfl, hx⟩ := y
  obtain ⟨d, h1, h2⟩ := w.get hx
  exact ⟨F2, d, .refl, st, h1, h2.mono sm⟩
theorem itOk_tup {F1 : Hp} {a : Addr} {vs : List V} {ds : List D} (s : SqT K F1 a vs) (w : WdA K F1 vs ds) : ItOk K F1 ds (Itt K a) := by
  refine ⟨fun H => SqT K H a vs, YAt vs, by rw [← w.length]; exact walk_tup, fun ι F2 S2 H2 st sm => zbr st.sub (zbr sm s), fun ι F2 S2 H2 i x H3 st sm hi y => ?_⟩
  obtain ⟨rfl, hx⟩ := y
  obtain ⟨d, h1, h2⟩ := w.get hx
  exact ⟨F2, d, .refl, st, h1, h2.mono sm⟩
def zld (lo : Int) (n : Nat) : List D := (List.range n).map fun i => .int (lo + (i : Nat))
theorem itOk_range {F1 : Hp} {lo : Int} {n : Nat} : ItOk K F1 (zld lo n) (Itr lo n) := by
  refine ⟨fun _ => True, YFn fun i => .int (lo + i), by rw [show (zld lo n).length = n by simp [zld]]; exact walk_range, fun _ _ _ _ _ _ => trivial, fun ι F2 S2 H2 i x H3 st sm hi y => ?_⟩
  obtain ⟨rfl, rfl⟩ := y
  exact ⟨F2, .int (lo + i), .refl, st, by simp [zld] at hi ⊢; exact ⟨i, by simp [hi], rfl⟩, .int _⟩
def rng1 (ds : List DV) (S : zae) : Res (List D) := match ds with
  | [.dat (.int j)] => if -(2 ^ 62) ≤ j ∧ j < 2 ^ 62 then .ok (zld 0 j.toNat) S else .bad
  | _ => .bad
def rng2 (ds : List DV) (S : zae) : Res (List D) := match ds with
  | [.dat (.int i), .dat (.int j)] => if -(2 ^ 62) ≤ i ∧ i < 2 ^ 62 ∧ -(2 ^ 62) ≤ j ∧ j < 2 ^ 62 then .ok (zld i (j - i).toNat) S else .bad
  | _ => .bad
def lRg1 (f : AFn) : LFn := fun ρ S => (f ρ S).bind rng1
def lRg2 (f : AFn) : LFn := fun ρ S => (f ρ S).bind rng2
theorem zei {tg : Expr} {f : AFn} (h : DA X W [a] f) (hm : X.mg "range" = none) (hg : Gl X "range" := by rfl) (hs : starEach [a] X.env = [(false, eval a X.env)] := by rfl) : DI X W tg (.Call (.Name "range" p) [a] [] pos) (lRg1 f) := by
  refine ⟨_, pi_range1 hg hm h.pa hs, fun σ H R ⟨ι, F, ρ, S, r, h⟩ => ?_⟩
  refine tA.bind (g := fun _ => rng1) r h fun vs ds ι1 F1 S1 H1 r1 w1 g1 h1 => ?_
  unfold rng1 at h1
  split at h1
  · rename_i j
    split at h1
    · rename_i hl
      cases w1 with
      | cons w ws =>
        cases ws
        have w' : Wd X.K F1 _ (.int j) := w
        cases w'
        exact ⟨j, rfl, hl.1, hl.2, h1 ι1 F1 H1 .refl r1.st _ itOk_range⟩
    · exact h1.elim
  · exact h1.elim
/-! ## for -/
def zfk (g : GFn) (f : SFn) : List D → zan → zae → RS
  | [], ρ, S => .nx ρ S
  | d :: ds, ρ, S => match g d ρ with
    | none => .bad
    | some ρ1 => (match f ρ1 S with
      | .nx ρ2 S2 => zfk g f ds ρ2 S2
      | .ct ρ2 S2 => zfk g f ds ρ2 S2
      | .bk ρ2 S2 => .nx ρ2 S2
      | r => r)
def sFor (l : LFn) (g : GFn) (f : SFn) : SFn := fun ρ S => (l ρ S).bindS ρ fun ds S1 => zfk g f ds ρ S1
theorem zh1 {iter tg : Expr} {body : List Stmt} {l : LFn} {sl : List Nat} {g : GFn} {f : SFn} (hp : PassesOwn (model X.prog X.w) X.A X.env X.xe) (hc : X.calm = true) (hi : DI X W tg iter l) (hg : DG X tg sl g) (hb : DSs X W body f)
    (hs : ∀ x, foldedSetIterable iter X.env x = pure x := by intro _; rfl) : DS X W (.For tg iter body [] pos) (sFor l g f) := by
  obtain ⟨ti, pi, ki⟩ := hi.pi
  obtain ⟨tg', pg, kg⟩ := hg.pg
  obtain ⟨tb, pb, kb⟩ := hb.ps
  refine ⟨_, ps_for hp hc pi pg pb hs, fun D σ H ⟨ι, F, ρ, S, r, h⟩ => ki _ _ _ ⟨ι, F, ρ, S, r, ?_⟩⟩
  unfold sFor at h
  cases q : l ρ S with
  | bad => rw [q] at h; exact h
  | ex c S1 => rw [q] at h; exact fun C ι' F' H' g st m => h C σ ι' F' H' g (r.slots g st) m
  | ok ds S1 =>
    rw [q] at h
    intro ι1 F1 H1 g1 st1 J ⟨G, Y, w, hG, hY⟩
    refine for_it w (fun i σ' H' => ∃ ι2 F2 ρ2 S2, RR X.K ι2 F2 ρ2 S2 σ' H' ∧ Grow ι1 F1 H1 ι2 F2 H' ∧ PostS X.K X.mg W ι2 F2 H' (zfk g f (ds.drop i) ρ2 S2) D)
      ⟨ι1, F1, ρ, S1, r.slots g1 st1, .refl, PostS.grow (r := zfk g f ds ρ S1) h g1⟩ (fun i σ' H' _ ⟨ι2, F2, ρ2, S2, r2, g2, _⟩ => hG ι2 F2 S2 H' r2.st g2.sf) (fun i x σ' H' H2 hi ⟨ι2, F2, ρ2, S2, r2, g2, h2⟩ y => ?_) (fun σ' H' ⟨ι2, F2, ρ2, S2, r2, g2, h2⟩ => ?_)
    · obtain ⟨F3, d, g3, st3, hd, wd⟩ := hY ι2 F2 S2 H' i x H2 r2.st g2.sf hi y
      have ed : ds.drop i = d :: ds.drop (i + 1) := by
        rw [List.drop_eq_getElem_cons hi]
        obtain ⟨_, h⟩ := List.getElem?_eq_some_iff.mp hd
        rw [h]
      rw [ed] at h2
      simp only [zfk] at h2
      have r3 := r2.slots g3 st3
      cases e1 : g d ρ2 with
      | none => simp only [e1] at h2; exact h2.elim
      | some ρ3 =>
        simp only [e1] at h2
        refine kg x σ' H2 _ ι2 F3 ρ2 S2 d ρ3 r3 wd e1 fun σ3 r3' _ => kb _ _ _ ⟨ι2, F3, ρ3, S2, r3', ?_⟩
        have gg := g2.trans g3
        cases e2 : f ρ3 S2 with
        | nx ρ4 S4 => simp only [e2] at h2; exact fun σ4 ι4 F4 H4 g4 r4 => ⟨ι4, F4, ρ4, S4, r4, gg.trans g4, PostS.grow (r := zfk g f _ ρ4 S4) h2 (g3.trans g4)⟩
        | ct ρ4 S4 => simp only [e2] at h2; exact fun σ4 ι4 F4 H4 g4 r4 => ⟨ι4, F4, ρ4, S4, r4, gg.trans g4, PostS.grow (r := zfk g f _ ρ4 S4) h2 (g3.trans g4)⟩
        | bk ρ4 S4 => simp only [e2] at h2; exact fun σ4 ι4 F4 H4 g4 r4 => h2 σ4 ι4 F4 H4 (g3.trans g4) r4
        | rt dv S4 => simp only [e2] at h2; exact fun v ι4 F4 H4 g4 st4 w4 => h2 v ι4 F4 H4 (g3.trans g4) st4 w4
        | ex c ρ4 S4 => simp only [e2] at h2; exact fun C σ4 ι4 F4 H4 g4 r4 m => h2 C σ4 ι4 F4 H4 (g3.trans g4) r4 m
        | bad => simp only [e2] at h2; exact h2
    · rw [List.drop_length] at h2
      exact h2 σ' ι2 F2 H' .refl r2
/-! ## comprehensions -/
def Res.bindN {α β : Type} (r : Res α) (f : α → zae → Res β) : Res β := match r with
  | .ok a S => f a S
  | _ => .bad
@[simp] theorem Res.bindN_ok {α β : Type} (a : α) (S : zae) (f : α → zae → Res β) : (Res.ok a S).bindN f = f a S := rfl
def lcGo (g : GFn) (t : TFn) (f : XFn) (ρ : zan) : List D → zae → Res (List D)
  | [], S => .ok [] S
  | d :: ds, S => match g d ρ with
    | none => .bad
    | some ρ1 => (t ρ1 S).bindN fun b S1 => if b then (f ρ1 S1).bindN fun y S2 => (match y with
      | .dat z => (lcGo g t f ρ ds S2).bindN fun zs S3 => .ok (z :: zs) S3
      | _ => .bad) else lcGo g t f ρ ds S1
def zh2 (ρ : zan) : List Nat → zan
  | [] => ρ
  | v :: vs => (zh2 ρ vs).set v none
def lLc (l : LFn) (own : List Nat) (g : GFn) (t : TFn) (f : XFn) : LFn := fun ρ S => (l ρ S).bind fun ds S1 => if ds.length ≤ sizeLine then lcGo g t f (zh2 ρ own) ds S1 else .bad
theorem RR.wipe {ρ : zan} {σ : L2.St} (r : RR K ι F ρ S σ H) : ∀ vs : List Nat, RR K ι F (zh2 ρ vs) S (L2.wipe σ vs) H
  | [] => r
  | v :: vs => (r.wipe vs).unset v
def zdw : TFn := fun _ S => .ok true S
structure DTs (X : Cx) (W : WX) (ifs : List Expr) (t : TFn) : Prop where
  pt : PTs X ifs (tT X W t)
theorem zbq : DTs X W [] zdw := ⟨⟨fun pins s σ H Q I ⟨ι, F, ρ, S, r, h⟩ => pts_nil.run pins s σ H Q I (h ι F H .refl r.st)⟩⟩
theorem zhu {t : TFn} (h : DT X W c t) : DTs X W [c] t := ⟨pts_one h.pt⟩
abbrev W0 : WX := fun _ _ _ _ => False
theorem bindN_ok {α β : Type} {r : Res α} {f : α → zae → Res β} {E : XK} {Q : β → List Addr → Hp → Hp → Prop} (h : Post K mg E ι F H (r.bindN f) Q) : ∃ a S', r = .ok a S' ∧ Post K mg E ι F H (f a S') Q := by
  cases r with
  | ok a S' => exact ⟨a, S', rfl, h⟩
  | ex c S' => exact h.elim
  | bad => exact h.elim
theorem zfc {α β : Type} {r : Res α} {f : α → zae → Res β} {b : β} {S' : zae} (h : r.bindN f = .ok b S') : ∃ a S1, r = .ok a S1 ∧ f a S1 = .ok b S' := by
  cases r with
  | ok a S1 => exact ⟨a, S1, rfl, h⟩
  | ex c S1 => cases h
  | bad => cases h
theorem lcGo_ok {g : GFn} {t : TFn} {f : XFn} {ρ : zan} : ∀ {ds : List D} {S : zae} {E : XK} {Q : List D → List Addr → Hp → Hp → Prop}, Post K mg E ι F H (lcGo g t f ρ ds S) Q → ∃ zs S', lcGo g t f ρ ds S = .ok zs S'
  | [], S, E, Q, h => ⟨[], S, rfl⟩
  | d :: ds, S, E, Q, h => by
    cases q : lcGo g t f ρ (d :: ds) S with
    | ok zs S' => exact ⟨zs, S', rfl⟩
    | bad => rw [q] at h; exact h.elim
    | ex c S' =>
      exfalso
      clear h
      simp only [lcGo] at q
      split at q
      · cases q
      · have nex : ∀ {α β : Type} (r : Res α) (k : α → zae → Res β), (∀ a S1 S2, k a S1 ≠ .ex c S2) → ∀ S2, r.bindN k ≠ .ex c S2 := fun r k hk S2 z => by
          cases r with
          | ok a S1 => exact hk a S1 S2 z
          | ex c S1 => cases z
          | bad => cases z
        have rc : ∀ ds S S2, lcGo g t f ρ ds S ≠ .ex c S2 := by
          intro ds
          induction ds with
          | nil => intro S S2 z; cases z
          | cons d ds ih =>
            intro S S2 z
            simp only [lcGo] at z
            split at z
            · cases z
            · refine nex _ _ (fun b S1 S3 => ?_) _ z
              cases b
              · exact ih S1 S3
              · refine nex _ _ (fun y S2 S4 => ?_) S3
                cases y with
                | dat y => exact nex _ _ (fun zs S5 S6 z => by cases z) S4
                | _ => intro z; cases z
        refine nex _ _ (fun b S1 S3 => ?_) _ q
        cases b
        · exact rc ds S1 S3
        · refine nex _ _ (fun y S2 S4 => ?_) S3
          cases y with
          | dat y => exact nex _ _ (fun zs S5 S6 z => by cases z) S4
          | _ => intro z; cases z
end
end DL
set_option maxHeartbeats 4000000
namespace DL
open PySem PySem.Spec PyProof.Rows L2
section
variable {X : Cx} {W : WX} {e a b c : Expr} {es : List Expr} {pos p : Pos} {K : PySem.W.Frag} {ι : List Addr} {F H : Hp} {S : zae} {mg : Str → Option Value}
def tG (K : PySem.W.Frag) (sl : List Nat) (g : GFn) : TG := fun v σ H Q => ∃ ι F ρ S d ρ', RR K ι F ρ S σ H ∧ Wd K F v d ∧ g d ρ = some ρ' ∧ ∀ σ', RR K ι F ρ' S σ' H → DL.Only sl σ σ' → Q σ' H
theorem DG.canon {tg : Expr} {sl : List Nat} {g : GFn} (h : DG X tg sl g) : PG X tg (tG X.K sl g) := by
  obtain ⟨t, p, k⟩ := h.pg
  exact ⟨fun pins s σ H v u Q I r ⟨ι, F, ρ, S, d, ρ', r0, w, e, q⟩ => p.run pins s σ H v u Q I r (k v σ H Q ι F ρ S d ρ' r0 w e q)⟩
theorem DI.canon {tg iter : Expr} {l : LFn} (h : DI X W tg iter l) : PI X tg iter (tI X W l) := by
  obtain ⟨t, p, k⟩ := h.pi
  exact ⟨fun pins s σ H R I q => p.run pins s σ H R I (k σ H R q)⟩
theorem lc_ent {own : List (Str × Nat)} {l : LFn} {g : GFn} {t : TFn} {f : XFn} {sl : List Nat} (hsl : ∀ i ∈ sl, i ∈ own.map (·.2)) {σ : L2.St} {H : Hp} {Q : VK} (h : tN X W (lLc l (own.map (·.2)) g t f) σ H Q) :
    tLc (tI X W l) (tG X.K sl g) (tT X W0 t) (tD X W0 f) (own.map (·.2)) σ H Q := by
  obtain ⟨ι, F, ρ, S, r, h⟩ := h
  refine ⟨ι, F, ρ, S, r, ?_⟩
  unfold lLc at h
  cases q : l ρ S with
  | bad => rw [q] at h; exact h
  | ex c S1 => rw [q] at h; exact h
  | ok ds S1 =>
    rw [q] at h
    simp only [Res.bind_ok] at h
    by_cases hl : ds.length ≤ sizeLine
    · simp only [hl, if_true] at h
      intro ι1 F1 H1 g1 st1 J ⟨G, Y, w, hG, hY⟩ D hD
      obtain ⟨zs0, S0, e0⟩ := lcGo_ok h
      rw [e0] at h
      have r1 := r.slots g1 st1
      have hF1 : F1 D = none := by
        cases q : F1 D with
        | none => rfl
        | some o => rw [st1.sub D o q] at hD; cases hD
      have hι1 : D ∉ ι1 := fun m => st1.full D m hD
      refine lc_it w (fun i H2 => ∃ ι2 F2 S2 acc avs zs, RR X.K ι2 F2 (zh2 ρ (own.map (·.2))) S2 (L2.wipe σ (own.map (·.2))) H2 ∧ Grow ι1 F1 H1 ι2 F2 H2 ∧ H2 D = some (.lst avs) ∧ F2 D = none ∧ D ∉ ι2 ∧ WdA X.K F2 avs acc ∧ acc.length ≤ i ∧
          lcGo g t f (zh2 ρ (own.map (·.2))) (ds.drop i) S2 = .ok zs S0 ∧ acc ++ zs = zs0)
        ⟨ι1, F1, S1, [], [], zs0, (r1.slots (zfa hD _) (st1.alone hD _)).wipe _, zfa hD _, upd_same, hF1, hι1, .nil, Nat.le_refl _, e0, rfl⟩
        (fun i H2 _ ⟨ι2, F2, S2, acc, avs, zs, r2, g2, _⟩ => hG ι2 F2 S2 H2 r2.st g2.sf) (fun i x H2 H3 hi ⟨ι2, F2, S2, acc, avs, zs, r2, g2, hd, hf, hn, wa, hla, el, ea⟩ y => ?_) (fun H2 ⟨ι2, F2, S2, acc, avs, zs, r2, g2, hd, hf, hn, wa, hla, el, ea⟩ => ?_)
      · obtain ⟨F3, d, g3, st3, hdi, wd⟩ := hY ι2 F2 S2 H2 i x H3 r2.st g2.sf hi y
        have ed : ds.drop i = d :: ds.drop (i + 1) := by
          rw [List.drop_eq_getElem_cons hi]
          obtain ⟨_, h⟩ := List.getElem?_eq_some_iff.mp hdi
          rw [h]
        have keepD : ∀ {ι' F' H'} , Grow ι2 F2 H2 ι' F' H' → H' D = some (.lst avs) ∧ F' D = none ∧ D ∉ ι' := fun gg => ⟨gg.keep D _ hd hn, gg.new D _ hd (fun _ z => nomatch z) hf hn, fun m => by
          rcases gg.nio D m with z | z
          · exact hn z
          · rw [hd] at z; cases z⟩
        rw [ed] at el
        simp only [lcGo] at el
        have r3 := r2.slots g3 st3
        cases e1 : g d (zh2 ρ (own.map (·.2))) with
        | none => simp only [e1] at el; cases el
        | some ρ3 =>
          simp only [e1] at el
          refine ⟨ι2, F3, _, S2, d, ρ3, r3, wd, e1, fun σ3 r3' o3 => ⟨?_, ?_⟩⟩
          · have hw := o3 (own.map (·.2)) hsl
            rw [hw]
            have idem : ∀ vs : List Nat, ∀ σ : L2.St, (∀ i ∈ vs, σ[i]? = none ∨ σ[i]? = some none) → L2.wipe σ vs = σ := by
              intro vs
              induction vs with
              | nil => intro σ _; rfl
              | cons v vs ih =>
                intro σ hv
                show (L2.wipe σ vs).set v none = σ
                rw [ih σ fun i m => hv i (List.mem_cons_of_mem _ m)]
                apply List.ext_getElem?
                intro j
                rw [List.getElem?_set]
                split
                · rename_i e; subst e
                  rcases hv v List.mem_cons_self with z | z
                  · rw [z]; split
                    · rename_i hlt; rw [List.getElem?_eq_none_iff] at z; omega
                    · rfl
                  · rw [z]; split
                    · rfl
                    · rename_i hlt; have := (List.getElem?_eq_some_iff.mp z).1; omega
                · rfl
            refine idem _ _ fun i m => ?_
            cases q : (L2.wipe σ (own.map (·.2)))[i]? with
            | none => exact .inl rfl
            | some o =>
              cases o with
              | none => exact .inr rfl
              | some x => exact absurd m (wipe_some q).2
          · obtain ⟨b, S3, e2, el⟩ := zfc el
            refine ⟨ι2, F3, ρ3, S2, r3', ?_⟩
            show Post X.K X.mg _ ι2 F3 H3 (t ρ3 S2) _
            rw [e2]
            intro ι4 F4 H4 g4 st4
            have g24 := g3.trans g4
            cases b with
            | false =>
              dsimp only
              rw [if_neg (by simp)]
              obtain ⟨k1, k2, k3⟩ := keepD g24
              exact ⟨ι4, F4, S3, acc, avs, zs, r2.slots g24 st4, g2.trans g24, k1, k2, k3, wa.mono g24.sf, by omega, el, ea⟩
            | true =>
              dsimp only
              rw [if_pos rfl]
              simp only [if_true] at el
              obtain ⟨y, S4, e3, el⟩ := zfc el
              refine ⟨ι4, F4, ρ3, S3, r3'.slots g4 st4, ?_⟩
              show Post X.K X.mg _ ι4 F4 H4 (f ρ3 S3) _
              rw [e3]
              intro ι5 F5 H5 g5 st5 v wv
              cases y with
              | obj k => cases el
              | scr ns => cases el
              | exn c p => cases el
              | dat z =>
                simp only at el
                obtain ⟨zs', S5, e4, el⟩ := zfc el
                cases el
                have g25 := g24.trans g5
                obtain ⟨k1, k2, k3⟩ := keepD g25
                refine ⟨avs, k1, ?_, ι5, F5, S4, acc ++ [z], avs ++ [v], zs', ?_, ?_, upd_same, k2, k3, (wa.mono g25.sf).append (.cons wv .nil), by simp; omega, e4, by rw [← ea]; simp⟩
                · rw [wa.length]; omega
                · have st6 : StR X.K ι5 F5 S4 (upd H5 D (.lst (avs ++ [v]))) := ⟨fun b u e => by
                    rw [upd_ne (fun z => by rw [z, k2] at e; cases e)]; exact st5.sub b u e, st5.len, st5.nd, fun b hb => zj8 (st5.full b hb), fun k es e =>
                    let ⟨a', vs', h1, h2, h3, h4⟩ := st5.cell k es e
                    ⟨a', vs', h1, by rw [upd_ne (fun z => k3 (by rw [← z]; exact List.mem_of_getElem? h1))]; exact h2, h3, h4⟩⟩
                  exact ⟨st6, r2.len, fun i dv e => let ⟨v, h1, h2⟩ := r2.slot i dv e; ⟨v, h1, h2.grow g25⟩⟩
                · have g := g2.trans g25
                  exact ⟨g.pre, g.sf, fun b o e n => by
                    rw [upd_ne (fun z => by rw [z, hD] at e; cases e)]; exact g.keep b o e n, g.new, g.nio, fun b e => g.dom b (zcv e)⟩
      · rw [List.drop_length] at el
        cases el
        rw [List.append_nil] at ea
        subst ea
        exact h ι2 F2 H2 (g1.trans g2) r2.st D avs (g1.dom D hD) hd hf hn wa
    · simp only [hl, if_false] at h; exact h.elim
theorem zex {elt tg iter : Expr} {ifs : List Expr} {scope : Scope} {own : List (Str × Nat)} {l : LFn} {g : GFn} {t : TFn} {f : XFn} {sl : List Nat} (hc : X.calm = true) (hN : X.N.Nodup) (hi : DI X W tg iter l) (ok : BlkOk X.N X.env.scope scope own)
    (hg : ∀ (s : Shared) (H : Hp) (C : Addr) (cl : List (Str × Addr)) (fp : List Addr), DG (X.blk s H scope (compEnvC scope cl C X.env) fp) tg sl g)
    (ht : ∀ (s : Shared) (H : Hp) (C : Addr) (cl : List (Str × Addr)) (fp : List Addr), DTs (X.blk s H scope (compEnvC scope cl C X.env) fp) W0 ifs t)
    (he : ∀ (s : Shared) (H : Hp) (C : Addr) (cl : List (Str × Addr)) (fp : List Addr), DE (X.blk s H scope (compEnvC scope cl C X.env) fp) W0 elt f)
    (hsl : ∀ i ∈ sl, i ∈ own.map (·.2) := by decide) (hs : ∀ x, foldedSetIterable iter X.env x = pure x := by intro _; rfl) :
    NE X W (.ListComp elt [⟨tg, iter, ifs, 0⟩] scope pos) (lLc l (own.map (·.2)) g t f) :=
  ⟨PE.weak (pe_lc (g := tG X.K sl g) (tt := tT X W0 t) (te := tD X W0 f) hc hN hi.canon ok (fun s H C cl fp => (hg s H C cl fp).canon) (fun s H C cl fp => (ht s H C cl fp).pt) (fun s H C cl fp => (he s H C cl fp).pe) hs) fun σ H Q h => lc_ent hsl h⟩
theorem zja {i : Nat} {y : Str} {py spos : Pos} {elt tg iter : Expr} {ifs : List Expr} {scope : Scope} {own : List (Str × Nat)} {l : LFn} {g : GFn} {t : TFn} {f : XFn} {sl : List Nat} (hc : X.calm = true) (hN : X.N.Nodup)
    (hi : DI X W tg iter l) (ok : BlkOk X.N X.env.scope scope own)
    (hg : ∀ (s : Shared) (H : Hp) (C : Addr) (cl : List (Str × Addr)) (fp : List Addr), DG (X.blk s H scope (compEnvC scope cl C X.env) fp) tg sl g)
    (ht : ∀ (s : Shared) (H : Hp) (C : Addr) (cl : List (Str × Addr)) (fp : List Addr), DTs (X.blk s H scope (compEnvC scope cl C X.env) fp) W0 ifs t)
    (he : ∀ (s : Shared) (H : Hp) (C : Addr) (cl : List (Str × Addr)) (fp : List Addr), DE (X.blk s H scope (compEnvC scope cl C X.env) fp) W0 elt f)
    (hsl : ∀ i ∈ sl, i ∈ own.map (·.2) := by decide) (hy : X.N[i]? = some y := by rfl) (hyl : X.env.scope.names.lookup y = some .local := by rfl)
    (hsw : swapsWith (.ListComp elt [⟨tg, iter, ifs, 0⟩] scope pos) (some (.Name y py)) spos.line X.env = pure true := by exact sw_true rfl rfl rfl (by decide +kernel)) (hs : ∀ x, foldedSetIterable iter X.env x = pure x := by intro _; rfl) :
    DS X W (.Assign [.Name y py] (.ListComp elt [⟨tg, iter, ifs, 0⟩] scope pos) spos) (sSet i (xN1 (lLc l (own.map (·.2)) g t f))) :=
  ⟨_, ps_setLc (g := tG X.K sl g) (tt := tT X W0 t) (te := tD X W0 f) hc hN hy hyl hsw hi.canon ok (fun s H C cl fp => (hg s H C cl fp).canon) (fun s H C cl fp => (ht s H C cl fp).pt) (fun s H C cl fp => (he s H C cl fp).pe) hs, fun D σ H h => lc_ent hsl h.set.toN⟩
theorem ds_newLc {i : Nat} {y : Str} {py spos : Pos} {elt tg iter : Expr} {ifs : List Expr} {scope : Scope} {own : List (Str × Nat)} {l : LFn} {g : GFn} {t : TFn} {f : XFn} {sl : List Nat} (hc : X.calm = true) (hN : X.N.Nodup)
    (hi : DI X W tg iter l) (ok : BlkOk X.N X.env.scope scope own)
    (hg : ∀ (s : Shared) (H : Hp) (C : Addr) (cl : List (Str × Addr)) (fp : List Addr), DG (X.blk s H scope (compEnvC scope cl C X.env) fp) tg sl g)
    (ht : ∀ (s : Shared) (H : Hp) (C : Addr) (cl : List (Str × Addr)) (fp : List Addr), DTs (X.blk s H scope (compEnvC scope cl C X.env) fp) W0 ifs t)
    (he : ∀ (s : Shared) (H : Hp) (C : Addr) (cl : List (Str × Addr)) (fp : List Addr), DE (X.blk s H scope (compEnvC scope cl C X.env) fp) W0 elt f)
    (hsl : ∀ i ∈ sl, i ∈ own.map (·.2) := by decide) (hy : X.N[i]? = some y := by rfl) (hyl : X.env.scope.names.lookup y = some .local := by rfl)
    (hsw : swapsWith (.ListComp elt [⟨tg, iter, ifs, 0⟩] scope pos) (some (.Name y py)) spos.line X.env = pure true := by exact sw_true rfl rfl rfl (by decide +kernel)) (hs : ∀ x, foldedSetIterable iter X.env x = pure x := by intro _; rfl) :
    DS X W (.Assign [.Name y py] (.ListComp elt [⟨tg, iter, ifs, 0⟩] scope pos) spos) (sNew i (lLc l (own.map (·.2)) g t f)) :=
  ⟨_, ps_setLc (g := tG X.K sl g) (tt := tT X W0 t) (te := tD X W0 f) hc hN hy hyl hsw hi.canon ok (fun s H C cl fp => (hg s H C cl fp).canon) (fun s H C cl fp => (ht s H C cl fp).pt) (fun s H C cl fp => (he s H C cl fp).pe) hs, fun D σ H h => lc_ent hsl h.new⟩
end
end DL
set_option maxHeartbeats 4000000
namespace DL
open PySem PySem.Spec PyProof.Rows L2
/-! ## defs: what they promise where nothing is being printed around them -/
structure FnG (P : Program) (w : World) (K : PySem.W.Frag) (mg : Str → Option Value) (base : Heap) (k : Nat) (f : Addr) (fd : FuncData) (ps : List Str) (sp : Sp) : Prop where
  len : ∀ vs H Q E, sp vs H Q E → vs.length = ps.length
  run : ∀ (A : Around) (outer : List Env) (s : Shared) (H : Hp) (args : Args) (us : List Value) (vs : List V) (Q : VK) (E : XK), Room k A → A.guards = some [] → Env0 P w K mg base A outer s H → BindsTo s fd args (ps.zip us) → Vals vs us → sp vs H Q E →
    codeAny (model P w) A (.call (.ref f) args) (CR (L2.CX P w) outer P w H s Q E) s
section
variable {P : Program} {w : World} {K : PySem.W.Frag} {mg : Str → Option Value} {base : Heap}
theorem FnG.mono {j k : Nat} {f : Addr} {fd : FuncData} {ps : List Str} {sp : Sp} (F : FnG P w K mg base j f fd ps sp) (h : j ≤ k) : FnG P w K mg base k f fd ps sp :=
  ⟨F.len, fun A outer s H args us vs Q E hr => F.run A outer s H args us vs Q E (hr.mono h)⟩
theorem fnG_of {k : Nat} {f : Addr} {fd : FuncData} {x qual : Str} {params : Arguments} {body : List Stmt} {scope : Scope} {N ps : List Str} {sp : Sp} (F : FunD K x qual params body scope [] [] f fd) (Sc : FnScope N ps scope)
    (len : ∀ vs H Q E, sp vs H Q E → vs.length = ps.length)
    (hbody : ∀ (cdv : Value) (A : Around) (outer : List Env) (s : Shared) (H : Hp) (vs : List V) (Q : VK) (E : XK), Room k (A.deeper (envOfC qual scope s.heap.objs.size f cdv)) → A.guards = some [] → sp vs H Q E →
      ∃ t, PSs (cxOf (L2.CX P w) P w K mg base N qual scope f cdv A outer s H E) body t ∧ t { nx := fun _ H' => Q .non H', rt := Q } (start N vs) H) : FnG P w K mg base (k + 1) f fd ps sp := by
  obtain ⟨oc, od, dV, kV, doc, pm, an, cdv, ct, osl, hfd, look, code, _, _⟩ := F.ex
  subst hfd
  constructor
  · exact len
  intro A outer s H args us vs Q E room gd env0 bind rel hsp
  have hlen := len vs H Q E hsp
  have stays : ∀ b o, base.get? b = some o → s.heap.get? b = some o := fun b o e => (env0.bs b o e).1
  have KX : K.In s.heap := env0.mod.kin.keeps stays
  have NL : s.heap.NoLimit := env0.mod.nolimit.keeps stays
  have kinds : ∀ y ∈ ps.zip us, scope.names.lookup y.1 = some .local ∨ (scope.names.lookup y.1 = some .cell ∧ ((cellsFrom (s.heap.objs.size + 1) scope.names []).lookup y.1).isSome = true) := by
    rintro ⟨n, v⟩ hy
    have hn := (List.of_mem_zip hy).1
    cases Sc.par n hn with
    | inl q => exact Or.inl q
    | inr q => exact Or.inr ⟨q, PySem.W.cellsFrom_some _ _ _ (Or.inl q)⟩
  apply codeAny_call_function room.depth (KX _ _ look) rfl Sc.co Sc.gen rfl (PySem.W.codeRec_of KX code)
  apply bind
  refine wpAny_newFunctionEnv_cells Sc.kind kinds ?_
  intro env he s1 ic
  subst he
  refine ⟨NL.keeps ic.toInCall.keep, codeAny_func ?_⟩
  obtain ⟨t, ht, hq⟩ := hbody cdv A outer s H vs Q E (room.deeper _) gd hsp
  have I := inv_start (CX := L2.CX P w) (P := P) (w := w) (mg := mg) (base := base) (E := E) Sc room.hd env0 hlen rel ic
  refine wpAny_mono (ht.run [] s1 (start N vs) H _ I hq) ?_ (fun _ _ z => z)
  intro fl s' h
  cases fl with
  | ret u =>
    obtain ⟨v, σ', H', J, rv, q⟩ := h
    exact ⟨v, H', J.os, J.bare, J.base, J.hok, rv, q⟩
  | next =>
    obtain ⟨σ', H', J, q⟩ := h
    exact ⟨.non, H', J.os, J.bare, J.base, J.hok, rfl, q⟩
  | brk => exact h.elim fun _ z => z.elim fun _ z => z.2.elim
  | cont => exact h.elim fun _ z => z.elim fun _ z => z.2.elim
end
/-! ## defs over data -/
abbrev Fn := List DV → zae → Res DV
def spD (K : PySem.W.Frag) (mg : Str → Option Value) (n : Nat) (g : Fn) : Sp := fun vs H Q E => vs.length = n ∧ ∃ ι F S ds, StR K ι F S H ∧ WVs K ι F vs ds ∧ Post K mg E ι F H (g ds S) fun dv ι' F' H' => ∀ v, WV K ι' F' v dv → Q v H'
def leave (n : Nat) : DV → zae → Res DV
  | .dat d, S => .ok (.dat d) (S.take n)
  | .obj k, S => if k < n then .ok (.obj k) (S.take n) else match S[k]? with
    | some (some ds) => .ok (.obj n) (S.take n ++ [some ds])
    | _ => .bad
  | .scr _, _ => .bad
  | .exn c p, S => .ok (.exn c p) (S.take n)
def ends (n : Nat) : RS → Res DV
  | .nx _ S => .ok (.dat .non) (S.take n)
  | .rt v S => leave n v S
  | .ex c _ S => .ex c (S.take n)
  | _ => .bad
def za7 (N : Nat) (f : SFn) : Fn := fun ds S => ends S.length (f (ds.map some ++ List.replicate (N - ds.length) none) S)
section
variable {X : Cx} {W : WX} {e a b c : Expr} {es : List Expr} {pos p : Pos} {K : PySem.W.Frag} {ι : List Addr} {F H : Hp} {S : zae} {mg : Str → Option Value}
theorem StR.cut {ι0 ι' : List Addr} {F' H' : Hp} {S' : zae} {n : Nat} (st : StR K ι' F' S' H') (hp : ι0 <+: ι') (hn : ι0.length = n) : StR K ι0 F' (S'.take n) H' := by
  have e : List.take n ι' = ι0 := by
    obtain ⟨t, rfl⟩ := hp
    rw [← hn]; simp
  have hl : n ≤ S'.length := by rw [← st.len, ← hn]; exact hp.length_le
  refine ⟨st.sub, by rw [hn]; simp [hl], hp.sublist.nodup st.nd, fun b hb => st.full b (hp.sublist.subset hb), fun k ds e2 => ?_⟩
  rw [List.getElem?_take] at e2
  split at e2
  · rename_i hk
    obtain ⟨a, vs, h1, h2, h3, h4⟩ := st.cell k ds e2
    refine ⟨a, vs, ?_, h2, h3, h4⟩
    rw [← e, List.getElem?_take, if_pos hk]; exact h1
  · cases e2
theorem Grow.cut {ι' : List Addr} {F' H' : Hp} (g : Grow ι F H ι' F' H') : Grow ι F H ι F' H' := ⟨List.prefix_rfl, g.sf, g.keep, g.new, fun b h => .inl h, g.dom⟩
theorem rr_start {vs : List V} {ds : List DV} {n : Nat} {N : List Str} (st : StR K ι F S H) (w : WVs K ι F vs ds) (hN : N.length = n) : RR K ι F (ds.map some ++ List.replicate (n - ds.length) none) S (start N vs) H := by
  refine ⟨st, by unfold L2.start; rw [hN]; simp [w.length], fun i dv e => ?_⟩
  have hi : i < ds.length := by
    by_cases h : i < ds.length
    · exact h
    · rw [List.getElem?_append_right (by simp; omega)] at e
      have := (List.getElem?_eq_some_iff.mp e)
      obtain ⟨_, h2⟩ := this
      simp at h2
  rw [List.getElem?_append_left (by simpa using hi)] at e
  simp at e
  have get : ∀ {vs : List V} {ds : List DV}, WVs K ι F vs ds → ∀ (i : Nat) (dv : DV), ds[i]? = some dv → ∃ v, vs[i]? = some v ∧ WV K ι F v dv := by
    intro vs ds w
    induction w with
    | nil => intro i dv e; simp at e
    | cons a _ ih =>
      intro i dv e
      cases i with
      | zero => simp at e; subst e; exact ⟨_, rfl, a⟩
      | succ i => simpa using ih i dv (by simpa using e)
  obtain ⟨v, h1, h2⟩ := get w i dv e
  refine ⟨v, ?_, h2⟩
  unfold L2.start
  rw [List.getElem?_append_left (by rw [List.length_map, w.length]; exact hi)]
  simp [h1]
theorem fn_D {P : Program} {w : World} {base : Heap} {k n m : Nat} {f : Addr} {fd : FuncData} {x qual : Str} {params : Arguments} {body : List Stmt} {scope : Scope} {N ps : List Str} {g : SFn} (Fd : FunD K x qual params body scope [] [] f fd) (Sc : FnScope N ps scope)
    (hn : ps.length = n) (hm : N.length = m)
    (hbody : ∀ (cdv : Value) (A : Around) (outer : List Env) (s : Shared) (H : Hp) (E : XK), Room k (A.deeper (envOfC qual scope s.heap.objs.size f cdv)) → A.guards = some [] →
      DSs (cxOf (L2.CX P w) P w K mg base N qual scope f cdv A outer s H E) (fun cls d _ H => E cls d H) body g) : FnG P w K mg base (k + 1) f fd ps (spD K mg n (za7 m g)) := by
  refine fnG_of Fd Sc (fun vs H Q E h => by rw [h.1, hn]) fun cdv A outer s H vs Q E hr hG h => ?_
  obtain ⟨t, pt, kt⟩ := (hbody cdv A outer s H E hr hG).ps
  refine ⟨t, pt, kt _ _ _ ?_⟩
  obtain ⟨hl, ι, F, S, ds, st, ws, po⟩ := h
  refine ⟨ι, F, _, S, rr_start st ws hm, ?_⟩
  show PostS K mg _ ι F H _ _
  unfold za7 at po
  cases q : g (ds.map some ++ List.replicate (m - ds.length) none) S with
  | nx ρ' S' =>
    rw [q] at po
    exact fun σ' ι' F' H' gr r => po ι F' H' gr.cut (r.st.cut gr.pre st.len) _ .non
  | rt dv S' =>
    rw [q] at po
    intro v ι' F' H' gr st' wv
    cases dv with
    | dat d => exact po ι F' H' gr.cut (st'.cut gr.pre st.len) v wv
    | scr ns => exact po.elim
    | exn c p => exact po ι F' H' gr.cut (st'.cut gr.pre st.len) v wv
    | obj j =>
      simp only [ends, leave] at po
      obtain ⟨a, h1, h2⟩ := wv
      split at po
      · rename_i hj
        refine po ι F' H' gr.cut (st'.cut gr.pre st.len) v ⟨a, ?_, h2⟩
        obtain ⟨t, rfl⟩ := gr.pre
        rw [List.getElem?_append_left (by rw [st.len]; exact hj)] at h1; exact h1
      · rename_i hj
        split at po
        · rename_i es ej
          obtain ⟨a', vs', h3, h4, h5, h6⟩ := st'.cell j es ej
          rw [h1] at h3; cases h3
          have na : a ∉ ι := fun m => by
            obtain ⟨i, hi, e⟩ := List.mem_iff_getElem.mp m
            obtain ⟨t, rfl⟩ := gr.pre
            have e1 : (ι ++ t)[i]? = some a := by rw [List.getElem?_append_left hi, List.getElem?_eq_getElem hi, e]
            obtain ⟨i1, g1⟩ := List.getElem?_eq_some_iff.mp e1
            obtain ⟨i2, g2⟩ := List.getElem?_eq_some_iff.mp h1
            have : i = j := (List.getElem_inj st'.nd).mp (by rw [g1, g2])
            rw [st.len] at hi; omega
          have ha : H a = none := (gr.nio a (List.mem_of_getElem? h1)).resolve_left na
          exact po (ι ++ [a]) F' H' (zma gr.cut ha) ((st'.cut gr.pre st.len).add h4 h5 na h6) v ⟨a, by rw [← st.len]; simp, h2⟩
        · exact po.elim
  | ex c ρ' S' =>
    rw [q] at po
    exact fun C σ' ι' F' H' gr r mc => po C ι F' H' gr.cut (r.st.cut gr.pre st.len) mc
  | bk ρ' S' => rw [q] at po; exact po.elim
  | ct ρ' S' => rw [q] at po; exact po.elim
  | bad => rw [q] at po; exact po
structure Def (P : Program) (w : World) (K : PySem.W.Frag) (mg : Str → Option Value) (base : Heap) (k : Nat) (x : Str) (n : Nat) (g : Fn) : Prop where
  ex : ∃ f fd ps, FnG P w K mg base k f fd ps (spD K mg n g) ∧ mg x = some (.ref f) ∧ PySem.W.keepIn K (.ref f) = true ∧ Binds K fd ps []
theorem zai {k n : Nat} {x : Str} {g : Fn} {fa : AFn} (F : Def X.prog X.w X.K X.mg X.base k x n g) (hr : Room k X.A) (hG : X.A.guards = some []) (tk : Takes X W) (ha : DA X W (e :: es) fa) (hn : (e :: es).length = n := by rfl) (hg : Gl X x := by rfl)
    (hdb : (x == ("__debug__" : Str)) = false := by decide) (he : starEach (e :: es) X.env = (false, eval e X.env) :: starEach es X.env := by rfl) (hpl : (backTo pos (starEach es X.env)).any (·.1) = false := by rfl)
    (hlen : ∀ ρ S ds S', fa ρ S = .ok ds S' → ds.length = n) : DE X W (.Call (.Name x p) (e :: es) [] pos) (xN g fa) := by
  obtain ⟨f, fd, ps, Fg, hm, hk, hb⟩ := F.ex
  refine ⟨⟨fun pins s σ H Q I h => ?_⟩⟩
  obtain ⟨ι, F, ρ, S, r, h⟩ := h
  apply wpAny_Call_Name_kw (ld_glob I hg hm ?_ hdb)
  refine PySem.W.callWith_K (h₀ := X.base) I.ok.mod.kin hk ?_ he hpl
  have hta : tA X W fa σ H (fun vs H1 => spD X.K X.mg n g vs H1 Q (fun c d H' => W c d σ H')) := by
    refine ⟨ι, F, ρ, S, r, ?_⟩
    unfold xN at h
    cases q : fa ρ S with
    | bad => rw [q] at h; exact h
    | ex c S1 => rw [q] at h; exact h
    | ok ds S1 =>
      rw [q] at h
      intro ι1 F1 H1 g1 st1 vs wv
      exact ⟨by rw [wv.length]; exact hlen _ _ _ _ q, ι1, F1, S1, ds, st1, wv, Post.grow (r := g ds S1) h g1⟩
  refine thn (ha.pa.run pos pins s σ H _ I hta) ?_
  rintro us s1 ⟨vs, H1, I1, rel, hsp⟩
  refine ⟨I1.kIn, ?_⟩
  have hl : us.length = ps.length := by rw [← rel.length]; exact Fg.len _ _ _ _ hsp
  have bd := hb s1 us I1.kIn (by simpa using hl)
  rw [List.append_nil] at bd
  apply wpAny_call
  refine codeAny_mono (Fg.run X.A X.stack s1 H1 ⟨us, []⟩ us vs Q _ hr hG I1.env0 bd rel hsp) ?_
  intro res s2 hq
  cases res with
  | error err => exact L2.passAt tk σ pins H1 s1 err s2 I1 hq
  | ok fl =>
    cases fl with
    | ret u => exact I1.after hq
    | next => exact hq.elim
    | brk => exact hq.elim
    | cont => exact hq.elim
end
end DL
set_option maxHeartbeats 4000000
namespace DL
open PySem PySem.Spec PyProof.Rows L2
section
variable {X : Cx} {W : WX} {e a b c : Expr} {es : List Expr} {pos p : Pos} {K : PySem.W.Frag} {ι : List Addr} {F H : Hp} {S : zae} {mg : Str → Option Value}
/-! ## raise X("..") -/
def zlr (c : Str) : SFn := fun ρ S => .ex c ρ S
structure ExcD (K : PySem.W.Frag) (mg : Str → Option Value) (x : Str) : Prop where
  ex : ∃ C, mg x = some (.ref C) ∧ PySem.W.excIn K C He.veBase "ValueError.__new__" = true ∧ PySem.W.keepIn K (.ref C) = true ∧ PySem.W.subIn K (.ref C) (.type "BaseException") = some true ∧ PySem.W.typeIn K (.ref C) = some (.type "type")
theorem zj_ {x m : Str} {j : Nat} {p2 p3 : Pos} (hc : X.calm = true) (tk : Takes X W) (h : ExcD X.K X.mg x) (hg : Gl X x := by rfl) (hdb : (x == ("__debug__" : Str)) = false := by decide) :
    DS X W (.Raise (some (.Call (.Name x p) [.Constant (.str m) j p2] [] p3)) none pos) (zlr x) := by
  obtain ⟨C, h1, h2, h3, h4, h5⟩ := h.ex
  refine ⟨_, ps_raise hc tk (pmk_own PySem.F.excBase_ValueError h2 h1 h3 (raises_own h4 h5) hg hdb), fun D σ H ⟨ι, F, ρ, S, r, h⟩ => ?_⟩
  exact h C σ ι F H .refl r h1
/-! ## isinstance of data -/
def tyName : D → String
  | .non => "NoneType" | .bl _ => "bool" | .int _ => "int" | .str _ => "str" | .lst _ => "list" | .tup _ => "tuple" | .cas _ => "Case" | .dct _ => "dict"
def isiN (n T : String) : Bool := n == T || (T == "int" && n == "bool")
def isiB (T : String) (d : D) : Bool := isiN (tyName d) T
theorem isi_all : (["NoneType", "bool", "int", "str", "list", "tuple", "dict"].all fun n => ["int", "bool", "tuple", "list", "str"].all fun T => decide (kitB n T = some (isiN n T))) = true := by decide +kernel
def D.isC : D → Bool | .cas _ => true | _ => false
def tyD (K : PySem.W.Frag) (d : D) : Value := bif d.isC then .ref (He.ga K "Case") else .type (tyName d)
theorem tyName_mem (d : D) (h : d.isC = false) : tyName d ∈ ["NoneType", "bool", "int", "str", "list", "tuple", "dict"] := by cases d <;> first | (cases h; done) | simp [tyName]
def oIsi (T : String) (x : DV) (S : zae) : Res DV := match rd S x with
  | some d => .ok (.dat (.bl (isiB T d))) S
  | none => .bad
def xIsi (T : String) (f : XFn) : XFn := fun ρ S => (f ρ S).bind (oIsi T)
theorem Vw.ty {v : V} {d : D} (s : Same F H) (h : Vw K F H v d) : TyX K H v (tyD K d) := by
  cases h with
  | non => exact .base .non
  | bl b => exact .base (.bl b)
  | int i => exact .base (.int i)
  | str x => exact .base (.str x)
  | lst q w => exact .base (.lst q)
  | tup q w =>
    rcases q with (q | ⟨o, q⟩) | ⟨o, its, n, h1, h2, _⟩
    · exact .base (.tup (s _ _ q))
    · exact .fTuple (s _ _ q)
    · exact .kTuple h1 h2
  | cas h =>
    obtain ⟨dx, ca, la, fa, fs, cv, lo, fo, h1, _⟩ := h.of
    exact .base (.ins (s _ _ h1) h.kit.cl h.kit.ha h.kit.hn h.kit.htk h.kit.hm)
  | dct h => exact .fDict (s _ _ h)
theorem isi_kit (T : String) (hT : T ∈ ["int", "bool", "tuple", "list", "str"]) (d : D) (h : d.isC = false) : kitB (tyName d) T = some (isiB T d) := by
  exact of_decide_eq_true (List.all_eq_true.mp (List.all_eq_true.mp isi_all _ (tyName_mem d h)) T hT)
theorem isi_ty (T : String) (hT : T ∈ ["int", "bool", "tuple", "list", "str"]) {v : V} {d : D} (w : Vw K F H v d) : PySem.W.kitOne K (tyD K d) (.type T) = some (isiB T d) := by
  cases d with
  | cas c =>
    cases w with
    | cas h =>
      show PySem.W.kitOne K (.ref (He.ga K "Case")) (.type T) = some (isiB T (.cas c))
      rw [h.kit.kit T hT]
      simp only [List.mem_cons, List.not_mem_nil, or_false] at hT
      rcases hT with rfl | rfl | rfl | rfl | rfl <;> rfl
  | _ => exact kit_ty (isi_kit T hT _ rfl)
theorem zj9 {f : XFn} {T : Str} {n : String} {p2 p3 : Pos} (h : DE X W a f) (hm : X.mg "isinstance" = none) (hmT : X.mg T = none) (hv : bootBuiltins T = some (.type n)) (hT : n ∈ ["int", "bool", "tuple", "list", "str"] := by decide) (hg : Gl X "isinstance" := by rfl) (hgT : Gl X T := by rfl) (hn : T ≠ "__name__" := by decide) (hdb : (T == ("__debug__" : Str)) = false := by decide)
    (he : starEach (a :: [.Name T p3]) X.env = (false, eval a X.env) :: starEach [.Name T p3] X.env := by rfl) (he2 : starEach (.Name T p3 :: []) X.env = (false, eval (.Name T p3) X.env) :: starEach [] X.env := by rfl) (hpl : (backTo pos (starEach [.Name T p3] X.env)).any (·.1) = false := by rfl) :
    DE X W (.Call (.Name "isinstance" p2) [a, .Name T p3] [] pos) (xIsi n f) := by
  refine ⟨PE.weak (pe_callB call_isi hg hm (by decide +kernel) (pa_cons h.pe (pa_cons (pe_bltn (v := .ty n) hgT hmT hv rfl hn hdb) pa_nil he2) he) (by decide) (by decide) he hpl) fun σ H Q ⟨ι, F, ρ, S, r, h⟩ => ?_⟩
  refine tD.bind (g := fun _ => oIsi n) r h fun v dv ι1 F1 S1 H1 r1 w1 g1 h1 => ?_
  unfold oIsi at h1
  cases ed : rd S1 dv with
  | none => simp only [ed] at h1; exact h1.elim
  | some d =>
    simp only [ed] at h1
    exact ⟨_, _, _, _, _, rfl, .ty n, (r1.st.vw w1 ed).ty r1.st.sub, isi_ty n hT (r1.st.vw w1 ed), h1 ι1 F1 H1 .refl r1.st _ (.bl _)⟩
/-! ## *x in a display -/
def aStar (f : XFn) (g : AFn) : AFn := fun ρ S => (f ρ S).bind fun x S1 => match rd S1 x with
  | some (.lst xs) => (g ρ S1).bind fun ds S2 => .ok (xs.map .dat ++ ds) S2
  | some (.tup xs) => (g ρ S1).bind fun ds S2 => .ok (xs.map .dat ++ ds) S2
  | _ => .bad
theorem WVs.of_wda {vs : List V} {ds : List D} (w : WdA K F vs ds) : WVs K ι F vs (ds.map .dat) := by
  induction ds generalizing vs with
  | nil => cases w; exact .nil
  | cons d ds ih =>
    cases w with
    | cons a b => exact .cons a (ih b)
theorem WVs.append {vs us : List V} {ds es : List DV} (h : WVs K ι F vs ds) (g : WVs K ι F us es) : WVs K ι F (vs ++ us) (ds ++ es) := by
  induction h with
  | nil => exact g
  | cons a _ ih => exact .cons a ih
theorem da_star {f : XFn} {g : AFn} {p2 : Pos} (he : DE X W e f) (hs : DA X W es g) (hse : starEach (.Starred e p2 :: es) X.env = (true, eval e X.env) :: starEach es X.env := by rfl) : DA X W (.Starred e p2 :: es) (aStar f g) := by
  refine ⟨PA.weak (StX.pa_star he.pe hs.pa hse) fun σ H Q ⟨ι, F, ρ, S, r, h⟩ => ?_⟩
  refine tD.bind (g := fun ρ x S1 => match rd S1 x with
    | some (.lst xs) => (g ρ S1).bind fun ds S2 => .ok (xs.map .dat ++ ds) S2
    | some (.tup xs) => (g ρ S1).bind fun ds S2 => .ok (xs.map .dat ++ ds) S2
    | _ => .bad) r h fun v dv ι1 F1 S1 H1 r1 w1 g1 h1 => ?_
  cases ed : rd S1 dv with
  | none => simp only [ed] at h1; exact h1.elim
  | some d =>
    simp only [ed] at h1
    have vw := r1.st.vw w1 ed
    cases vw with
    | lst s w =>
      refine ⟨_, _, rfl, .inr (.of s), ?_⟩
      refine tA.bind (g := fun ρ ds S2 => .ok (_ ++ ds) S2) r1 h1 fun vs ds ι2 F2 S2 H2 r2 w2 g2 h2 => ?_
      exact h2 ι2 F2 H2 .refl r2.st _ ((WVs.of_wda (w.mono g2.sf)).append w2)
    | tup s w =>
      refine ⟨_, _, rfl, .inl (zbr r1.st.sub s), ?_⟩
      refine tA.bind (g := fun ρ ds S2 => .ok (_ ++ ds) S2) r1 h1 fun vs ds ι2 F2 S2 H2 r2 w2 g2 h2 => ?_
      exact h2 ι2 F2 H2 .refl r2.st _ ((WVs.of_wda (w.mono g2.sf)).append w2)
    | _ => exact h1.elim
/-! ## repr -/
def zmh (d : D) : Bool := d.py.showable && d.py.canLay0 && decide (d.py.depth ≤ 60) && decide (d.py.shown.length ≤ sizeLine)
def zl1 (d : D) : Option D := if zmh d = true then some (.str d.py.shown) else none
def rReprD (K : PySem.W.Frag) : List V → Hp → VK → Prop := fun xs H Q => ∃ x d, xs = [x] ∧ Dp K H x d ∧ d.showable = true ∧ d.canLay0 = true ∧ d.depth ≤ 60 ∧ d.shown.length ≤ sizeLine ∧ Q (.str d.shown) H
theorem cr_repr (hG : X.A.guards = some []) (hu : X.A.units + 64 < cLine) : CallR X (.builtin "repr") (rReprD X.K) := by
  intro pins s σ H xs us Q I r h
  obtain ⟨x, d, rfl, hd, h1, h2, h3, h4, q⟩ := h
  cases r with
  | cons rx rr =>
    cases rr
    rename_i u
    obtain ⟨as, rs⟩ := Dp.reads I d x u hd rx
    cases hd with
    | non => cases rx; exact P.repr_of_none ⟨.str "None", H, I.tok _, ⟨_, rfl⟩, q⟩
    | bl b => cases rx; exact P.repr_of_bool ⟨.str (if _ then "True" else "False"), H, I.tok _, ⟨_, rfl⟩, q⟩
    | int i =>
      obtain ⟨t, rfl⟩ := rx
      exact P.repr_of_int (by simpa [PyData.showable] using h1) ⟨.str _, H, I.tok _, ⟨_, rfl⟩, q⟩
    | str y =>
      obtain ⟨t, rfl⟩ := rx
      exact P.repr_of_str ⟨.str _, H, I.tok _, ⟨_, rfl⟩, q⟩ h4
    | lst s w =>
      cases rx
      exact repr_of_reads' rs h1 (PyData.noDict_hsm (PyData.hasDict_of_canLay _ h2)) hG (by omega) (fun _ _ z => z) (fun h' u tk k => ⟨.str _, H, I.kept (t' := tk) k, ⟨_, rfl⟩, q⟩) h4
    | tup s w =>
      cases rx
      exact repr_of_reads' rs h1 (PyData.noDict_hsm (PyData.hasDict_of_canLay _ h2)) hG (by omega) (fun _ _ z => z) (fun h' u tk k => ⟨.str _, H, I.kept (t' := tk) k, ⟨_, rfl⟩, q⟩) h4
theorem zpc : zjq K (rReprD K) (o1 zl1) := o1_ok fun ι F H S v a c Q st va e q => by
  unfold zl1 at e
  split at e
  · rename_i h
    cases e
    unfold zmh at h
    simp only [Bool.and_eq_true, decide_eq_true_eq] at h
    exact ⟨_, _, rfl, (va.wd st.sub).dp h.1.1.2, h.1.1.1, h.1.1.2, h.1.2, h.2, q.same st (.str _)⟩
  · cases e
/-! ## pairs walked: zip, enumerate -/
def znk (x y : D) : D := .tup [x, y]
def zipD (xs ys : List D) : List D := List.zipWith znk xs ys
end
end DL
set_option maxHeartbeats 8000000
namespace PySem
namespace DLEnum
open L2 PyProof.Rows
set_option maxHeartbeats 1000000 in
theorem made {v : Value} {o : Obj} {H : Heap → Prop} (B : Begins v o H) :
    Meets (Builtin.«enumerate.__new__» ⟨[.type "enumerate", v], []⟩) (fun _ R s => H s.heap ∧
      R (.ok (.ret (.ref (s.heap.push o).objs.size))) { s with heap := (s.heap.push o).push { cls := .type "enumerate", data := .fields #[.none, .bool false, .ref s.heap.objs.size, rawInt 0, .none, .none] } }) :=
  .of_wp fun prog w A R s h => by
    obtain ⟨hp, g, d, tk, os⟩ := s
    obtain ⟨h1, h⟩ := h
    have hsub := sub_enumerate
    have it1 : ∀ {A' : Around} {E : Value → Shared → Prop} {Q : Value → Shared → Prop}, Q (.ref hp.objs.size) ⟨hp.push o, g, d, tk, os⟩ → wpAny (model prog w) A' (pyIter v) Q E ⟨hp, g, d, tk, os⟩ :=
      fun q => B.iter prog w _ _ ⟨hp, g, d, tk, os⟩ _ h1 q
    wp_walk using it1
    apply wpAny_stack_any
    intro st
    apply wpAny_pure
    split
    · rename_i c _ _ _ _ _
      cases (c == Value.type "enumerate") <;> (wp_walk using it1) <;> exact ⟨_, rfl, h⟩
    · wp_walk using it1
      exact ⟨_, rfl, h⟩
section
variable {prog : Program} {w : World} {A : Around} {E : Value → Shared → Prop} {s : Shared}
theorem begins {v : Value} {o : Obj} {H : Heap → Prop} {Q : Value → Shared → Prop} (B : Begins v o H) (h1 : H s.heap)
    (h : ∀ h', IsEnum h' (s.heap.objs.size + 1) s.heap.objs.size 0 .none → h'.get? s.heap.objs.size = some o → (∀ b o, s.heap.get? b = some o → h'.get? b = some o) → Q (.ref (s.heap.objs.size + 1)) { s with heap := h' }) :
    wpAny (model prog w) A (call (.type "enumerate") [v]) Q E s := by
  apply callType_new F.called_enumerate (by decide) (F.typeCall_enumerate_1 _) (F.newCall_enumerate_1 _) (fun obj => F.args_object_init_2 obj _) F.entry_enumerate_new (made B)
  have sz : (s.heap.push o).objs.size = s.heap.objs.size + 1 := Heap.size_push ..
  refine ⟨h1, ?_⟩
  show _ ∧ _
  rw [sz]
  have he : IsEnum ((s.heap.push o).push { cls := .type "enumerate", data := .fields #[.none, .bool false, .ref s.heap.objs.size, rawInt 0, .none, .none] }) (s.heap.objs.size + 1) s.heap.objs.size 0 .none := by
    have q := Heap.get?_push_size (s.heap.push o) (o := { cls := .type "enumerate", data := .fields #[.none, .bool false, .ref s.heap.objs.size, rawInt 0, .none, .none] }) rfl
    rw [sz] at q
    exact q
  exact ⟨⟨_, he, rfl⟩, h _ he (Heap.get?_push_of_some _ (Heap.get?_push_size _ B.free)) fun b o x => Heap.get?_push_of_some _ (Heap.get?_push_of_some _ x)⟩
end
end DLEnum
end PySem
set_option maxHeartbeats 4000000
namespace DL
open PySem PySem.Spec PyProof.Rows L2
/-! ## enumerate(a tuple) -/
def IteT (K : PySem.W.Frag) (a : Addr) : It :=
  ⟨fun i H => ∃ (xs : List V) (x : V), SqT K H a xs ∧ xs[i]? = some x, fun i H v H' => ∃ T x, v = .ref T ∧ H T = none ∧ H' = upd H T (.tup [.int (i : Nat), x]) ∧ ∀ xs, SqT K H a xs → xs[i]? = some x, fun i H => ∃ xs : List V, SqT K H a xs ∧ xs.length ≤ i⟩
theorem turn_enumT {P : Program} {w : World} {K : PySem.W.Frag} {elts : List Expr} {kk : Nat} {tpos : Pos} (a e it : Addr) :
    Turn P w K (.Tuple elts kk tpos) (IteT K a) [e, it] e (fun i h => (∃ old, IsEnum h e it ((i : Nat) : Int) old) ∧ h.IsTupleIter it a i ∧ e ≠ it ∧ e ≠ a ∧ it ≠ a) where
  mem := by simp
  obj := by
    intro i h st b hb
    obtain ⟨⟨old, he⟩, ⟨o, ho, hc, hd⟩, _⟩ := st
    rcases List.mem_cons.mp hb with z | hb
    · subst z; exact ⟨_, he, fun v q => nomatch q⟩
    · rcases List.mem_singleton.mp hb with z
      subst z
      exact ⟨o, ho, fun v q => by rw [hd] at q; cases q⟩
  keep := by
    intro i h h' st k
    obtain ⟨⟨old, he⟩, hi, ne⟩ := st
    exact ⟨⟨old, k e (by simp) _ he⟩, hi.at fun o q => k it (by simp) o q, ne⟩
  item := by
    intro X hP hw hK hc i pins s σ H E I hf st hg
    subst hP hw hK
    obtain ⟨⟨old, he⟩, hit, ne, nea, nia⟩ := st
    obtain ⟨xs, x, hq, hx⟩ := hg
    obtain ⟨its, rv, p, hz⟩ := I.tuple hq
    obtain ⟨u, hu, ru⟩ := rv.get hx
    have pT : s.heap.IsTuple a its.toArray := p
    have el : e < s.heap.objs.size := Heap.lt_size he
    have il : it < s.heap.objs.size := by
      obtain ⟨_, q, _⟩ := hit
      exact Heap.lt_size q
    have hlt : i < its.toArray.size := by
      have := (List.getElem?_eq_some_iff.mp hu).1
      simpa using this
    have hh : X.A.in1.handled = none := I.ok.hd hc
    refine wpAny_pyNext_enum_itemD (PySem.Draws.tuple hh it a (Ne.symm nia) its.toArray) he ⟨hit, pT⟩ hlt ne (by simp; exact ⟨ne, nea⟩) ?_
    intro y h' tk hy ho st' hT hsz hk
    have yu : y = u := by
      have h1 : its[i]? = some y := by simpa using hy
      rw [hu] at h1
      exact (Option.some.inj h1).symm
    subst yu
    refine ⟨_, rfl, wpAny_letOwnedTupleGo_enum (s := { s with heap := h', toks := tk + 1 }) ho ?_⟩
    intro h2 he2 sb
    have hT2 : h2.get? s.heap.objs.size = some { cls := .type "tuple", data := .seq #[.int i tk, y] } := (sb.2 _ (Nat.ne_of_gt el)).trans hT
    have new : ObjOk X.prog X.w (upd H s.heap.objs.size (.tup [.int (i : Nat), x])) h2 s.heap.objs.size (.tup [.int (i : Nat), x]) :=
      ⟨by show 2 ≤ sizeLine; decide, [.int i tk, y], .cons ⟨_, rfl⟩ (.cons ru .nil), ⟨_, hT2, rfl, _, rfl⟩⟩
    have I1 : Inv X pins σ (upd H s.heap.objs.size (.tup [.int (i : Nat), x])) { s with heap := h2, toks := tk + 1 } := by
      refine I.turnedNew (ch := [e, it]) ?_ hf (Nat.le_refl _) new
      intro b o hb q
      have nb : b ≠ e := fun z => hb (by simp [z])
      have nb2 : b ≠ it := fun z => hb (by simp [z])
      exact (sb.2 b nb).trans (hk b o nb nb2 q)
    refine ⟨.ref s.heap.objs.size, _, I1, rfl, ⟨_, x, rfl, I.hok.fresh (Nat.le_refl _), rfl, ?_⟩, ⟨⟨y, ?_⟩, st'.1.at fun o q => (sb.2 it (Ne.symm ne)).trans q, ne, nea, nia⟩, ?_⟩
    · intro zs hz
      rw [I.tuple_inj hz hq]
      exact hx
    · have e1 : ((i + 1 : Nat) : Int) = (i : Int) + 1 := by omega
      rw [e1]
      exact he2
    · intro b hb
      have lb : b < s.heap.objs.size := by
        rcases List.mem_cons.mp hb with z | hb
        · rw [z]; exact el
        · rw [List.mem_singleton.mp hb]; exact il
      rw [upd_ne (Nat.ne_of_lt lb)]
      exact (hf b hb).1
  done := by
    intro X hP hw hK hc i pins s σ H E I hf st hg
    subst hP hw hK
    obtain ⟨⟨old, he⟩, hit, ne, nea, nia⟩ := st
    obtain ⟨xs, hq, hx⟩ := hg
    obtain ⟨its, rv, p, hz⟩ := I.tuple hq
    have pT : s.heap.IsTuple a its.toArray := p
    obtain ⟨f0, f1, f2, f3, f4, f5⟩ := hf it (by simp)
    have hl := rv.length
    have hh : X.A.in1.handled = none := I.ok.hd hc
    have none_ : its.toArray[i]? = none := by
      simp
      omega
    have D : Draws X.prog X.w X.A.in1 it [it, a] i (fun _ _ => False) (fun j h => j = i ∧ h.IsTupleIter it a i ∧ h.IsTuple a its.toArray) :=
      { live := fun _ _ st => let ⟨o, ho, _⟩ := st.2.1; ⟨o, ho⟩
        frame := fun _ _ _ st k => ⟨st.1, st.2.1.at fun o e => k it (by simp) o e, st.2.2.at fun o e => k a (by simp) o e⟩
        item := fun j s Q E hj st _ => absurd st.1 (Nat.ne_of_lt hj)
        done := fun s Q E st hE => wpAny_nextOf_tuple_end hh st.2.1 st.2.2 none_ hE }
    refine wpAny_pyNext_enum_endD D he ⟨rfl, hit, pT⟩ ?_
    intro h' eb
    exact ⟨rfl, I.turned (t' := s.toks) (fun b o hb q => eb b o hb q) f0 f1 f3 f4 f5⟩
  self := by
    intro A i s Q E st h
    obtain ⟨⟨_, he⟩, _⟩ := st
    exact wpAny_pyIter_enum he h
def iEnumA (K : PySem.W.Frag) (ta : TA) : TI := fun σ H R => ta σ H fun vs H1 => ∃ a xs, vs = [.ref a] ∧ ((SqL K H1 a xs ∧ R (Ite K a) H1) ∨ (SqT K H1 a xs ∧ R (IteT K a) H1))
theorem pi_enumA {X : Cx} {e : Expr} {ta : TA} {p pos tpos : Pos} {elts : List Expr} {kk : Nat} (hg : Gl X "enumerate") (hm : X.mg "enumerate" = none) (ha : PA X [e] ta) (hs : starEach [e] X.env = [(false, eval e X.env)] := by rfl) :
    PI X (.Tuple elts kk tpos) (.Call (.Name "enumerate" p) [e] [] pos) (iEnumA X.K ta) := by
  constructor
  intro pins s σ H R I h
  apply Call_ (ld_blt I hg hm boot_enumerate (PyProof.Rows.callWith_type1 (thn (ha.run pos pins s σ H _ I h) ?_) hs rfl))
  rintro us s1 ⟨vs, H1, I1, r1, a, xs, ex, q⟩
  subst ex
  cases r1 with
  | cons r rr =>
    cases rr
    cases r
    have fresh : ∀ b ∈ [s1.heap.objs.size + 1, s1.heap.objs.size], FpOk X pins H1 b := by
      intro b hb
      have le : s1.heap.objs.size ≤ b := by
        rcases List.mem_cons.mp hb with z | hb
        · rw [z]; exact Nat.le_add_right _ _
        · rw [List.mem_singleton.mp hb]; exact Nat.le_refl _
      exact I1.fpOk le (I1.hok.fresh le)
    rcases q with ⟨hq, q⟩ | ⟨hq, q⟩
    · obtain ⟨its, rv, p', hz⟩ := I1.list hq
      apply call_enumerate_list p'.isList
      intro h' he hit hsz hk
      apply wpAny_pyIter_enum he
      exact ⟨s1.heap.objs.size + 1, [s1.heap.objs.size + 1, s1.heap.objs.size], _, _, H1, rfl, I1.kept (t' := s1.toks) hk, turn_enum a _ _, ⟨⟨.none, he⟩, hit, Nat.succ_ne_self _⟩, fresh, q⟩
    · obtain ⟨its, rv, p', hz⟩ := I1.tuple hq
      have pT : s1.heap.IsTuple a its.toArray := p'
      apply DLEnum.begins (begins_tuple a its.toArray) pT
      intro h' he ho hk
      have la : a < s1.heap.objs.size := by
        obtain ⟨_, q, _⟩ := pT
        exact Heap.lt_size q
      apply wpAny_pyIter_enum he
      exact ⟨s1.heap.objs.size + 1, [s1.heap.objs.size + 1, s1.heap.objs.size], _, _, H1, rfl, I1.kept (t' := s1.toks) hk, turn_enumT a _ _, ⟨⟨.none, he⟩, ⟨_, ho, rfl, rfl⟩, Nat.succ_ne_self _, Nat.ne_of_gt (Nat.lt_succ_of_lt la), Nat.ne_of_gt la⟩, fresh, q⟩
section
variable {X : Cx} {W : WX} {e a b c : Expr} {es : List Expr} {pos p : Pos} {K : PySem.W.Frag} {ι : List Addr} {F H : Hp} {S : zae} {mg : Str → Option Value}
def zlz (xs : List D) : List D := (List.range xs.length).zipWith (fun i x => znk (.int (i : Nat)) x) xs
theorem enumD_get {xs : List D} {i : Nat} {d : D} (h : xs[i]? = some d) : (zlz xs)[i]? = some (znk (.int (i : Nat)) d) := by
  have hi := (List.getElem?_eq_some_iff.mp h).1
  unfold zlz
  rw [List.getElem?_zipWith, h, List.getElem?_range hi]
theorem zkh (xs : List D) : (zlz xs).length = xs.length := by simp [zlz]
theorem zmb {F1 : Hp} {H1 : Hp} {S1 : zae} (st : StR K ι F1 S1 H1) {T : Addr} (hT : H1 T = none) {u v : V} {d1 d2 : D} (w1 : Wd K F1 u d1) (w2 : Wd K F1 v d2) :
    Grow ι F1 H1 ι (upd F1 T (.tup [u, v])) (upd H1 T (.tup [u, v])) ∧ StR K ι (upd F1 T (.tup [u, v])) S1 (upd H1 T (.tup [u, v])) ∧ Wd K (upd F1 T (.tup [u, v])) (.ref T) (znk d1 d2) :=
  have s2 := zia st.sub hT (.tup [u, v])
  ⟨zi_ st.sub hT _, st.push hT _, .tup (.of upd_same) (.cons (w1.mono s2) (.cons (w2.mono s2) .nil))⟩
theorem itOk_enumL {F1 : Hp} {p1 : Addr} {vs : List V} {ds : List D} (s1 : F1 p1 = some (.lst vs)) (w1 : WdA K F1 vs ds) : ItOk K F1 (zlz ds) (Ite K p1) := by
  refine ⟨fun H => SqL K H p1 vs, (Ite K p1).yld, ⟨fun i H hi g => ?_, fun H g => ⟨vs, g, by rw [zkh, w1.length]; exact Nat.le_refl _⟩, fun i H x H' _ _ y => y⟩, fun ι F2 S2 H2 st sm => .of (st.sub _ _ (sm _ _ s1)), fun ι F2 S2 H2 i x H3 st sm hi y => ?_⟩
  · rw [zkh, ← w1.length] at hi
    exact ⟨vs, vs[i], g, List.getElem?_eq_getElem hi⟩
  · obtain ⟨T, u, rfl, hT, rfl, hu⟩ := y
    have hu' := hu vs (.of (st.sub _ _ (sm _ _ s1)))
    obtain ⟨d, h1, h2⟩ := w1.get hu'
    obtain ⟨g, st', w⟩ := zmb st hT (.int ((i : Nat) : Int)) (h2.mono sm)
    exact ⟨_, _, g, st', enumD_get h1, w⟩
theorem itOk_enumT {F1 : Hp} {p1 : Addr} {vs : List V} {ds : List D} (s1 : SqT K F1 p1 vs) (w1 : WdA K F1 vs ds) : ItOk K F1 (zlz ds) (IteT K p1) := by
  refine ⟨fun H => SqT K H p1 vs, (IteT K p1).yld, ⟨fun i H hi g => ?_, fun H g => ⟨vs, g, by rw [zkh, w1.length]; exact Nat.le_refl _⟩, fun i H x H' _ _ y => y⟩, fun ι F2 S2 H2 st sm => zbr st.sub (zbr sm s1), fun ι F2 S2 H2 i x H3 st sm hi y => ?_⟩
  · rw [zkh, ← w1.length] at hi
    exact ⟨vs, vs[i], g, List.getElem?_eq_getElem hi⟩
  · obtain ⟨T, u, rfl, hT, rfl, hu⟩ := y
    have hu' := hu vs (zbr st.sub (zbr sm s1))
    obtain ⟨d, h1, h2⟩ := w1.get hu'
    obtain ⟨g, st', w⟩ := zmb st hT (.int ((i : Nat) : Int)) (h2.mono sm)
    exact ⟨_, _, g, st', enumD_get h1, w⟩
def enum1 (x : DV) (S : zae) : Res (List D) := match x with
  | .dat (.lst xs) => .ok (zlz xs) S
  | .dat (.tup xs) => .ok (zlz xs) S
  | _ => .bad
def lEnum (f : XFn) : LFn := fun ρ S => (f ρ S).bind enum1
theorem di_enum {f : XFn} {elts : List Expr} {kk : Nat} {tpos : Pos} (h : DE X W e f) (hm : X.mg "enumerate" = none) (hg : Gl X "enumerate" := by rfl) (hs : starEach [e] X.env = [(false, eval e X.env)] := by rfl) (hse : starEach (e :: []) X.env = (false, eval e X.env) :: starEach [] X.env := by rfl) :
    DI X W (.Tuple elts kk tpos) (.Call (.Name "enumerate" p) [e] [] pos) (lEnum f) := by
  refine ⟨_, pi_enumA hg hm (pa_cons h.pe pa_nil hse) hs, fun σ H R ⟨ι, F, ρ, S, r, h⟩ => ?_⟩
  refine tD.bind (g := fun _ => enum1) r h fun v dv ι1 F1 S1 H1 r1 w1 g1 h1 => ?_
  unfold enum1 at h1
  split at h1
  · rename_i xs
    have w' : Wd X.K F1 v (.lst xs) := w1
    cases w' with
    | lst s w => exact ⟨_, _, rfl, .inl ⟨.of (r1.st.sub _ _ s), h1 ι1 F1 H1 .refl r1.st _ (itOk_enumL s w)⟩⟩
  · rename_i xs
    have w' : Wd X.K F1 v (.tup xs) := w1
    cases w' with
    | tup s w => exact ⟨_, _, rfl, .inr ⟨zbr r1.st.sub s, h1 ι1 F1 H1 .refl r1.st _ (itOk_enumT s w)⟩⟩
  · exact h1.elim
/-! ## zip -/
theorem zip_goes {vs us : List V} {ds es : List D} {F1 : Hp} (w1 : WdA K F1 vs ds) (w2 : WdA K F1 us es) {i : Nat} (hi : i < (zipD ds es).length) : ∃ x y, vs[i]? = some x ∧ us[i]? = some y := by
  simp only [zipD, List.length_zipWith] at hi
  have h1 := w1.length
  have h2 := w2.length
  exact ⟨vs[i]'(by omega), us[i]'(by omega), List.getElem?_eq_getElem _, List.getElem?_eq_getElem _⟩
theorem zip_stops {vs us : List V} {ds es : List D} {F1 : Hp} (w1 : WdA K F1 vs ds) (w2 : WdA K F1 us es) : vs.length ≤ (zipD ds es).length ∨ us.length ≤ (zipD ds es).length := by
  simp only [zipD, List.length_zipWith, w1.length, w2.length]
  omega
theorem itOk_zipL {F1 : Hp} {p1 p2 : Addr} {vs us : List V} {ds es : List D} (s1 : F1 p1 = some (.lst vs)) (w1 : WdA K F1 vs ds) (s2 : F1 p2 = some (.lst us)) (w2 : WdA K F1 us es) : ItOk K F1 (zipD ds es) (Itz K p1 p2) := by
  refine ⟨fun H => SqL K H p1 vs ∧ SqL K H p2 us, (Itz K p1 p2).yld, ⟨fun i H hi g => ?_, fun H g => ⟨vs, us, g.1, g.2, zip_stops w1 w2⟩, fun i H x H' _ _ y => y⟩, fun ι F2 S2 H2 st sm => ⟨.of (st.sub _ _ (sm _ _ s1)), .of (st.sub _ _ (sm _ _ s2))⟩, fun ι F2 S2 H2 i x H3 st sm hi y => ?_⟩
  · obtain ⟨x, y, h1, h2⟩ := zip_goes w1 w2 hi
    exact ⟨vs, us, x, y, g.1, g.2, h1, h2⟩
  · obtain ⟨T, u, v, rfl, hT, rfl, hu, hv⟩ := y
    obtain ⟨d, h1, h2⟩ := w1.get (hu vs (.of (st.sub _ _ (sm _ _ s1))))
    obtain ⟨e, h3, h4⟩ := w2.get (hv us (.of (st.sub _ _ (sm _ _ s2))))
    obtain ⟨g, st', w⟩ := zmb st hT (h2.mono sm) (h4.mono sm)
    exact ⟨_, _, g, st', by unfold zipD; rw [List.getElem?_zipWith, h1, h3], w⟩
theorem itOk_zipT {F1 : Hp} {p1 p2 : Addr} {vs us : List V} {ds es : List D} (s1 : SqT K F1 p1 vs) (w1 : WdA K F1 vs ds) (s2 : SqT K F1 p2 us) (w2 : WdA K F1 us es) : ItOk K F1 (zipD ds es) (RZ.ItzT K p1 p2) := by
  refine ⟨fun H => SqT K H p1 vs ∧ SqT K H p2 us, (RZ.ItzT K p1 p2).yld, ⟨fun i H hi g => ?_, fun H g => ⟨vs, us, g.1, g.2, zip_stops w1 w2⟩, fun i H x H' _ _ y => y⟩, fun ι F2 S2 H2 st sm => ⟨zbr st.sub (zbr sm s1), zbr st.sub (zbr sm s2)⟩, fun ι F2 S2 H2 i x H3 st sm hi y => ?_⟩
  · obtain ⟨x, y, h1, h2⟩ := zip_goes w1 w2 hi
    exact ⟨vs, us, x, y, g.1, g.2, h1, h2⟩
  · obtain ⟨T, u, v, rfl, hT, rfl, hu, hv⟩ := y
    obtain ⟨d, h1, h2⟩ := w1.get (hu vs (zbr st.sub (zbr sm s1)))
    obtain ⟨e, h3, h4⟩ := w2.get (hv us (zbr st.sub (zbr sm s2)))
    obtain ⟨g, st', w⟩ := zmb st hT (h2.mono sm) (h4.mono sm)
    exact ⟨_, _, g, st', by unfold zipD; rw [List.getElem?_zipWith, h1, h3], w⟩
def zip2 (x y : DV) (S : zae) : Res (List D) := match x, y with
  | .dat (.lst xs), .dat (.lst ys) => .ok (zipD xs ys) S
  | .dat (.tup xs), .dat (.tup ys) => .ok (zipD xs ys) S
  | _, _ => .bad
def lZip (f g : XFn) : LFn := fun ρ S => (f ρ S).bind fun x S1 => (g ρ S1).bind fun y S2 => zip2 x y S2
theorem di_zip {f g : XFn} {elts : List Expr} {kk : Nat} {tpos : Pos} (ha : DE X W a f) (hb : DE X W b g) (hm : X.mg "zip" = none) (hg : Gl X "zip" := by rfl) (hs : starEach [a, b] X.env = (false, eval a X.env) :: starEach [b] X.env := by rfl) (hpl : (backTo pos (starEach [b] X.env)).any (·.1) = false := by rfl) (hse : starEach (b :: []) X.env = (false, eval b X.env) :: starEach [] X.env := by rfl) :
    DI X W (.Tuple elts kk tpos) (.Call (.Name "zip" p) [a, b] [] pos) (lZip f g) := by
  refine ⟨_, RZ.pi_zipA hg hm (pa_cons ha.pe (pa_cons hb.pe pa_nil hse) hs) hs hpl, fun σ H R ⟨ι, F, ρ, S, r, h⟩ => ?_⟩
  refine tD.bind (g := fun ρ x S1 => (g ρ S1).bind fun y S2 => zip2 x y S2) r h fun v dv ι1 F1 S1 H1 r1 w1 g1 h1 => ?_
  refine tD.bind (g := fun ρ y S2 => zip2 dv y S2) r1 h1 fun u du ι2 F2 S2 H2 r2 w2 g2 h2 => ?_
  have w1' := w1.grow g2
  unfold zip2 at h2
  split at h2
  · rename_i xs ys
    have wa : Wd X.K F2 v (.lst xs) := w1'
    have wb : Wd X.K F2 u (.lst ys) := w2
    cases wa with
    | lst s1 v1 =>
      cases wb with
      | lst s2 v2 => exact ⟨_, _, _, _, rfl, .inl ⟨.of (r2.st.sub _ _ s1), .of (r2.st.sub _ _ s2), h2 ι2 F2 H2 .refl r2.st _ (itOk_zipL s1 v1 s2 v2)⟩⟩
  · rename_i xs ys
    have wa : Wd X.K F2 v (.tup xs) := w1'
    have wb : Wd X.K F2 u (.tup ys) := w2
    cases wa with
    | tup s1 v1 =>
      cases wb with
      | tup s2 v2 => exact ⟨_, _, _, _, rfl, .inr ⟨zbr r2.st.sub s1, zbr r2.st.sub s2, h2 ι2 F2 H2 .refl r2.st _ (itOk_zipT s1 v1 s2 v2)⟩⟩
  · exact h2.elim
end
end DL
set_option maxHeartbeats 4000000
namespace DL
open PySem PySem.Spec PyProof.Rows L2
/-! ## sorted(set(ints)) -/
def insS (n : Int) : List Int → List Int
  | [] => [n]
  | m :: r => if n < m then n :: m :: r else if n = m then m :: r else m :: insS n r
def sset : List Int → List Int
  | [] => []
  | n :: ns => insS n (sset ns)
theorem zo9 (n k : Int) : ∀ l : List Int, k ∈ insS n l ↔ k = n ∨ k ∈ l
  | [] => by simp [insS]
  | m :: r => by
    unfold insS
    have h := zo9 n k r
    split
    · simp
    · split
      · rename_i e; subst e; simp
      · simp [h]
        constructor
        · rintro (h | h | h) <;> simp [h]
        · rintro (h | h | h) <;> simp [h]
theorem zmd (n : Int) : ∀ l : List Int, l.Pairwise (· < ·) → (insS n l).Pairwise (· < ·)
  | [], _ => by simp [insS]
  | m :: r, h => by
    unfold insS
    rw [List.pairwise_cons] at h
    split
    · rename_i hn
      refine List.pairwise_cons.mpr ⟨fun k hk => ?_, List.pairwise_cons.mpr h⟩
      rcases List.mem_cons.mp hk with z | z
      · subst z; exact hn
      · have := h.1 k z; omega
    · split
      · exact List.pairwise_cons.mpr h
      · rename_i h1 h2
        refine List.pairwise_cons.mpr ⟨fun k hk => ?_, zmd n r h.2⟩
        rcases (zo9 n k r).mp hk with z | z
        · subst z; omega
        · exact h.1 k z
theorem zck : ∀ l : List Int, (sset l).Pairwise (· < ·)
  | [] => .nil
  | n :: r => zmd n _ (zck r)
theorem zcl (k : Int) : ∀ l : List Int, k ∈ sset l ↔ k ∈ l
  | [] => by simp [sset]
  | n :: r => by
    show k ∈ insS n (sset r) ↔ _
    rw [zo9, zcl k r, List.mem_cons]
theorem zg9 : ∀ {a b : List Int}, a.Pairwise (· < ·) → b.Pairwise (· < ·) → (∀ k, k ∈ a ↔ k ∈ b) → a = b
  | [], [], _, _, _ => rfl
  | [], y :: b, _, _, h => absurd ((h y).mpr List.mem_cons_self) (by simp)
  | x :: a, [], _, _, h => absurd ((h x).mp List.mem_cons_self) (by simp)
  | x :: a, y :: b, ha, hb, h => by
    rw [List.pairwise_cons] at ha hb
    have e : x = y := by
      rcases List.mem_cons.mp ((h x).mp List.mem_cons_self) with z | z
      · exact z
      · rcases List.mem_cons.mp ((h y).mpr List.mem_cons_self) with q | q
        · exact q.symm
        · have := ha.1 y q; have := hb.1 x z; omega
    subst e
    have nx : x ∉ a := fun m => by have := ha.1 x m; omega
    have ny : x ∉ b := fun m => by have := hb.1 x m; omega
    have t : a = b := zg9 ha.2 hb.2 fun k => by
      have q := h k
      simp only [List.mem_cons] at q
      constructor
      · intro m
        rcases q.mp (.inr m) with z | z
        · subst z; exact absurd m nx
        · exact z
      · intro m
        rcases q.mpr (.inr m) with z | z
        · subst z; exact absurd m ny
        · exact z
    rw [t]
section
variable {X : Cx} {W : WX} {e a b c : Expr} {es : List Expr} {pos p : Pos} {K : PySem.W.Frag} {ι : List Addr} {F H : Hp} {S : zae} {mg : Str → Option Value}
def rSetI (K : PySem.W.Frag) (w : World) : List V → Hp → VK → Prop := fun xs H Q => ∃ (a : Addr) (ns : List Int), xs = [V.ref a] ∧ (SqL K H a (ns.map V.int) ∨ SqT K H a (ns.map V.int)) ∧ ns.length < 64 ∧
  ∀ p c, H p = none → c ≤ ns.length → Q (.ref p) (upd H p (SetO w p (fun j => decide (j ∈ ns)) c))
theorem cr_setI (hc : X.calm = true) : CallR X (.type "set") (rSetI X.K X.w) := by
  intro pins s σ H xs us Q I r h
  obtain ⟨a, ns, rfl, hq, hl, q⟩ := h
  rw [Vals.ref1 r]
  have hb : ns.length + 1 < scanBound := by unfold scanBound; omega
  have fin : ∀ (h' : Heap) (tk c : Nat), SetR X.w h' s.heap.objs.size (fun j => decide (j ∈ ns)) c → c ≤ ns.length → (∀ b o, s.heap.get? b = some o → h'.get? b = some o) → EP X pins σ Q (.ref s.heap.objs.size) { s with heap := h', toks := tk } := by
    intro h' tk c R hc k
    exact ⟨.ref s.heap.objs.size, _, I.laid (t' := tk) k (Nat.le_refl _) (setO_new R), rfl, q _ c (I.hok.fresh (Nat.le_refl _)) hc⟩
  rcases hq with hq | hq
  · obtain ⟨its, rv, p, hz⟩ := I.list hq
    exact PySem.DLSet.set_of_list ns (I.ok.hd hc) p.isList (by simpa using RZ.intsAre_vals rv) hb fin
  · obtain ⟨its, rv, p, hz⟩ := I.tuple hq
    exact call_set_tupI ns (I.ok.hd hc) p (by simpa using RZ.intsAre_vals rv) hb fin
def zne (x : DV) (S : zae) : Res (List D) := match rd S x with
  | some (.lst xs) => (match zhj xs with
    | some ns => if ns.length < 64 then .ok ((sset ns).map .int) S else .bad
    | none => .bad)
  | some (.tup xs) => (match zhj xs with
    | some ns => if ns.length < 64 then .ok ((sset ns).map .int) S else .bad
    | none => .bad)
  | _ => .bad
def zg1 (f : XFn) : LFn := fun ρ S => (f ρ S).bind zne
theorem zh5 {f : XFn} {p2 p3 : Pos} (hc : X.calm = true) (h : DE X W a f) (hm : X.mg "sorted" = none) (hm2 : X.mg "set" = none) (hg : Gl X "sorted" := by rfl) (hg2 : Gl X "set" := by rfl)
    (he : starEach (a :: []) X.env = (false, eval a X.env) :: starEach [] X.env := by rfl)
    (he2 : starEach (.Call (.Name "set" p2) [a] [] p3 :: []) X.env = (false, eval (.Call (.Name "set" p2) [a] [] p3) X.env) :: starEach [] X.env := by rfl) :
    NE X W (.Call (.Name "sorted" p) [.Call (.Name "set" p2) [a] [] p3] [] pos) (zg1 f) := by
  refine ⟨PE.weak (pe_callB (cr_sortedSet hc) hg hm (by decide +kernel) (pa_cons (pe_callTy (cr_setI hc) hg2 hm2 (by decide +kernel) (pa_cons h.pe pa_nil he) (by decide) (by decide) he rfl) pa_nil he2) (by decide) (by decide) he2 rfl) fun σ H Q ⟨ι, F, ρ, S, r, h⟩ => ?_⟩
  refine tD.bind (g := fun _ => zne) r h fun v dv ι1 F1 S1 H1 r1 w1 g1 h1 => ?_
  unfold zne at h1
  cases ed : rd S1 dv with
  | none => simp only [ed] at h1; exact h1.elim
  | some d =>
    have vw := r1.st.vw w1 ed
    have core : ∀ (ns : List Int) (p0 : Addr) (vs : List V) (xs : List D), (SqL X.K H1 p0 vs ∨ SqT X.K H1 p0 vs) → WdA X.K F1 vs xs → zhj xs = some ns → ns.length < 64 →
        Post X.K X.mg (fun c d H' => W c d σ H') ι1 F1 H1 (.ok ((sset ns).map D.int) S1) (fun ds ι' F' H' => ∀ p vs, H p = none → H' p = some (.lst vs) → F' p = none → p ∉ ι' → WdA X.K F' vs ds → Q (V.ref p) H') →
        rSetI X.K X.w [.ref p0] H1 (fun x H2 => rSortedSet X.w [x] H2 Q) := by
      intro ns p0 vs xs hs w ei hl hp
      have ev := zmp w ei
      subst ev
      refine ⟨p0, ns, rfl, hs, hl, fun p c hp0 hc => ⟨p, _, c, rfl, upd_same, by omega, fun ns' p' h1 h2 h3 h4 => ?_⟩⟩
      have e : ns' = sset ns := zg9 h1 (zck ns) fun k => by
        rw [h2 k, zcl]
        simp
      subst e
      have st2 := r1.st.alone hp0 (SetO X.w p (fun j => decide (j ∈ ns)) c)
      exact zoc st2 (g1.trans (zfa hp0 _)) (Post.grow (r := Res.ok _ S1) hp (zfa hp0 _)) (zl8 _) h4
    cases vw with
    | lst s w =>
      rename_i p0 vs xs
      simp only [ed] at h1
      cases ei : zhj xs with
      | none => simp only [ei] at h1; exact h1.elim
      | some ns =>
        simp only [ei] at h1
        by_cases hl : ns.length < 64
        · simp only [hl, if_true] at h1
          exact (core ns _ _ _ (.inl (.of s)) w ei hl h1)
        · simp only [hl, if_false] at h1; exact h1.elim
    | tup s w =>
      rename_i p0 vs xs
      simp only [ed] at h1
      cases ei : zhj xs with
      | none => simp only [ei] at h1; exact h1.elim
      | some ns =>
        simp only [ei] at h1
        by_cases hl : ns.length < 64
        · simp only [hl, if_true] at h1
          exact (core ns _ _ _ (.inr (zbr r1.st.sub s)) w ei hl h1)
        · simp only [hl, if_false] at h1; exact h1.elim
    | _ => simp only [ed] at h1; exact h1.elim
end
end DL
set_option maxHeartbeats 4000000
namespace DL
open PySem PySem.Spec PyProof.Rows L2
/-! ## the law: its call over the heap behind the top, with the script alone tracked -/
section
variable {P : Program} {w : World} {K : PySem.W.Frag} {mg mb : Str → Option Value} {k : Nat} {fa a : Addr} {fd : FuncData} {x : Str} {g : Fn} {s1 : Shared} {vs : List Value} {ns : List Int}
theorem law_run (KX : K.In s1.heap) (hns : s1.heap.Ns mainGlobals mg) (hb : s1.heap.Ns builtinsNs mb) (hbb : ∀ x : Str, x ≠ "__name__" → mb x = bootBuiltins x) (hlim : s1.heap.NoLimit) (hg : s1.gens = #[])
    (ha : s1.heap.get? a = some { cls := .type "list", data := .seq vs.toArray }) (hi : IntsAre vs ns) (hl : ns.length ≤ sizeLine) (hr : Room k callerA)
    (Fg : ∀ base : Heap, K.In base → base.Ns mainGlobals mg → FnG P w K mg base k fa fd [x] (spD K mg 1 g)) (bind : ∀ (s : Shared) (u : Value), BindsTo s fd ⟨[u], []⟩ [(x, u)])
    (ans : ∃ S, g [.scr ns] [] = .ok (.dat (.bl true)) S) (H : Hp) (only : L2.Only H) (hS : SqL K H a (ns.map V.int)) (hok : HOk P w H s1.heap) (hA : ∀ b, H b ≠ none → b = a) (hK : H a ≠ none → K.lookup a = none) :
    codeAny (model P w) callerA (.call (.ref fa) ⟨[.ref a], []⟩) (fun r s' => r = .ok (.ret (.bool true)) ∧ OldK s1.heap s'.heap ∧ s'.os = s1.os ∧ AllBare s'.gens) s1 := by
  have isA : ∀ {b : Addr} {u : HO}, H b = some u → b = a := fun {b u} q => hA b (by rw [q]; simp)
  have nsOf : ∀ {b : Addr} {m : Str → Option Value}, s1.heap.Ns b m → (hidT s1.heap H).Ns b m := by
    intro b m h
    obtain ⟨o, es, ep, e, d, r⟩ := h
    refine ⟨o, es, ep, hidT_get e ?_, d, r⟩
    cases q : H b with
    | none => rfl
    | some u =>
      have z := isA q
      subst z
      rw [ha] at e
      cases e
      exact nomatch (show Data.seq vs.toArray _ = Data.dict es ep from d)
  have KB : K.In (hidT s1.heap H) := by
    intro b o e
    refine hidT_get (KX b o e) ?_
    cases q : H b with
    | none => rfl
    | some u =>
      have z := isA q
      subst z
      have := hK (by rw [q]; simp)
      rw [this] at e
      cases e
  have md : Mod K mg (hidT s1.heap H) := by
    refine ⟨KB, nsOf hns, ⟨mb, nsOf hb, hbb⟩, ?_⟩
    obtain ⟨mc, h1, h2⟩ := hlim
    exact ⟨mc, nsOf h1, h2⟩
  have e0 : Env0 P w K mg (hidT s1.heap H) callerA [] s1 H :=
    { frames := rfl
      mod := md
      bs := fun b o e => of_hidT e
      bsz := Nat.le_of_eq (hidT_size _ _)
      funs := trivial
      frf := fun b hb => nomatch hb
      hok := hok
      bare := .of_eq hg }
  obtain ⟨S, ea⟩ := ans
  have st : StR K [] H [] H := ⟨Same.refl _, rfl, List.nodup_nil, fun b hb => (nomatch hb), fun k ds e => by simp at e⟩
  have sp : spD K mg 1 g [.ref a] H (fun v _ => v = .bl true) (fun _ _ _ => False) := by
    refine ⟨rfl, [], H, [], [.scr ns], st, .cons ⟨a, rfl, hS⟩ .nil, ?_⟩
    rw [ea]
    intro ι' F' H' gr st' v wv
    have wv' : Wd K F' v (.bl true) := wv
    cases wv'
    rfl
  refine codeAny_mono ((Fg _ KB (nsOf hns)).run callerA [] s1 H ⟨[.ref a], []⟩ [.ref a] [.ref a] _ _ hr rfl e0 (bind s1 (.ref a)) (.cons rfl .nil) sp) ?_
  intro r s' h
  cases r with
  | error e =>
    obtain ⟨_, _, _, _, _, _, _, _, _, _, _, _, z⟩ := h
    exact z.elim
  | ok fl =>
    cases fl with
    | next => exact h.elim
    | brk => exact h.elim
    | cont => exact h.elim
    | ret u =>
      obtain ⟨v, H', os, bare, un, hok', rv, q⟩ := h
      have q' : v = .bl true := q
      subst q'
      obtain rfl : u = Value.bool true := rv
      refine ⟨rfl, OldK.of_keep ?_, os, bare⟩
      intro b o e
      cases q : H b with
      | none => exact un.keep b o e q (fun z => nomatch (show b ∈ ([] : List Addr) from z)) (by simp)
      | some u =>
        rcases only b with z | ⟨ob, xs, z⟩
        · rw [q] at z; cases z
        · obtain ⟨e1, _⟩ := hok b _ z
          obtain ⟨e2, _⟩ := hok' b _ (un.frzs b ob _ z)
          rw [e] at e1
          cases e1
          exact e2
theorem walkD {l : PySem.W.OpenLaw} {n : Nat} {q : Program} {loose : List Str} {XP : (Str → Option Value) → Heap → Prop} {YP : World → Heap → Prop} {d : DefRec}
    (hn : l.most = some n) (hn2 : n ≤ sizeLine) (hdf : d.params.defaults = []) (hr : Room k callerA)
    (F : ∀ (w : World) (mg : Str → Option Value) (fa : Addr) (h : Heap), YP w h → h.Ns mainGlobals mg → mg d.name = some (.ref fa) →
      ∃ (K : PySem.W.Frag) (fd : FuncData), K.In h ∧ (∀ (s : Shared) (u : Value), BindsTo s fd ⟨[u], []⟩ [(x, u)]) ∧ (∀ base : Heap, K.In base → base.Ns mainGlobals mg → FnG l.prog w K mg base k fa fd [x] (spD K mg 1 g)))
    (ans : ∀ ns : List Int, ns.length ≤ n → ∃ S, g [.scr ns] [] = .ok (.dat (.bl true)) S) :
    PySem.W.WalkO q loose XP YP l.row.toRowW d [] (fun f vs => PySem.call f vs) := by
  apply Att.attach_call hn hdf
  intro w s0 s1 mg mb fa o pm cd doc a vs ns G Y ho hd hcd hmg hobj hints hlen hg
  obtain ⟨K, fd, KX, hb, hF⟩ := F w mg fa _ Y G.T.g hmg
  have hl : ns.length ≤ sizeLine := Nat.le_trans hlen hn2
  have core := law_run KX G.T.g G.T.b G.T.builtins G.T.nolimit hg hobj hints hl hr hF hb (ans ns hlen)
  have rv := vals_ints hints
  have lenV := hints.length
  cases hk : K.lookup a with
  | some ob =>
    have e := KX a ob hk
    rw [hobj] at e
    cases e
    apply core (fun _ => none) (fun _ => .inl rfl)
    · exact .inr ⟨_, vs.toArray, _, hk, rfl, rfl, rfl, by rw [List.size_toArray, lenV]; exact hl, by simpa using rv⟩
    · intro b u z
      exact nomatch (show (none : Option HO) = some u from z)
    · intro b z
      exact absurd rfl z
    · intro z
      exact absurd rfl z
  | none =>
    apply core (fun b => if b = a then some (.frz { cls := .type "list", data := .seq vs.toArray } (.lst (ns.map V.int))) else none)
    · intro b
      by_cases hb : b = a
      · exact .inr ⟨_, _, if_pos hb⟩
      · exact .inl (if_neg hb)
    · exact .inl (.inr ⟨_, if_pos rfl⟩)
    · intro b u z
      by_cases hb : b = a
      · have z2 := (if_pos hb).symm.trans z
        cases z2
        subst hb
        exact ⟨hobj, by rw [List.length_map]; exact hl, vs, _, rv, hobj⟩
      · exact nomatch (if_neg hb).symm.trans z
    · intro b z
      by_cases hb : b = a
      · exact hb
      · exact absurd (if_neg hb) z
    · intro _
      exact hk
end
end DL
set_option maxHeartbeats 4000000
namespace PySem
namespace DLTup
open L2 PyProof.Rows
theorem mul_self (l : Addr) (items : Array Value) (n : Nat) (dd : Option Addr) (sl : Array (Option Value)) (x : Int) (u : Tok) (c0 : (decide (x < -(2 ^ 63)) || decide (x ≥ 2 ^ 63)) = false) (c1 : (items.isEmpty || x == 1) = true) :
    Meets (Builtin.«tuple.__mul__» ⟨[.ref l, .int x u], []⟩) (fun _ R s => s.heap.get? l = some { cls := .type "tuple", dict := dd, data := .seq items n, slots := sl } ∧ R (.ok (.ret (.ref l))) s) :=
  .of_wp fun prog w A R s h => by
    obtain ⟨hp, g, d, tk, os⟩ := s
    obtain ⟨hl, h⟩ := h
    have f1 := AutoSeq1.idx_int
    wp_walk using wpAny_loadPart' hl
    repeat (first
      | (refine wpAny_ite_false (decide_eq_false (by rw [c0]; exact Bool.false_ne_true)) ?_; wp_walk using wpAny_loadPart' hl)
      | (refine wpAny_ite_true (decide_eq_true c1) ?_; wp_walk using wpAny_loadPart' hl))
    all_goals exact ⟨_, rfl, h⟩
end DLTup
end PySem
namespace DL
open PySem PySem.Spec PyProof.Rows L2
section
variable {X : Cx} {W : WX} {e a b c : Expr} {es : List Expr} {pos p : Pos} {K : PySem.W.Frag} {ι : List Addr} {F H : Hp} {S : zae} {mg : Str → Option Value}
/-! ## tuple * 1, () * n: the same tuple -/
def rRepE (K : PySem.W.Frag) : R2 := fun x y H Q => ∃ l k xs, x = V.ref l ∧ y = V.int k ∧ SqT K H l xs ∧ (xs = [] ∨ k = 1) ∧ -1000 ≤ k ∧ k ≤ 1000 ∧ Q (.ref l) H
theorem op_repE : OpR X (binaryOp .Mult) (rRepE X.K) := by
  intro pins s σ H x y v u Q I rx ry ⟨l, k, xs, ex, ey, hT, hk, h1, h2, q⟩
  subst ex
  subst ey
  cases rx
  obtain ⟨t, rfl⟩ := ry
  obtain ⟨its, r, ⟨⟨cls, dd, data, sl⟩, ho, hc, n, hd⟩, hs⟩ := I.tuple hT
  simp only at hc hd
  subst hc hd
  have c0 : (decide (k < -(2 ^ 63)) || decide (k ≥ 2 ^ 63)) = false := by
    rw [decide_eq_false (by omega), decide_eq_false (by omega)]
    rfl
  have c1 : (its.toArray.isEmpty || k == 1) = true := by
    rcases hk with e | e
    · subst e
      cases r
      rfl
    · subst e
      simp
  exact wpAny_binaryOp_repeat_ref (T := "tuple") (U := "int") (by decide) ⟨_, ho, rfl⟩ (fun s' => typeIs_int s' k t) noFill_tuple_mul F.fills_int_mul F.slot_int_rmul repeat_tuple F.slot_int_index.lookup
    (call_meets F.slot_int_rmul (typeIs_int s k t) F.entry_int_rmul (F.args_int_rmul_2 _ _) (int_rmul_tuple k t l its.toArray n dd sl)
      ⟨ho, rfl, ⟨_, ho, rfl⟩, call_meets F.slot_tuple_mul ⟨_, ho, rfl⟩ F.entry_tuple_mul (F.args_tuple_mul_2 _ _) (PySem.DLTup.mul_self l its.toArray n dd sl k t c0 c1) ⟨ho, ⟨.ref l, H, I, rfl, q⟩⟩⟩)
def zgc : D → D → Option D
  | .tup a, .int k => if (a = [] ∨ k = 1) ∧ -1000 ≤ k ∧ k ≤ 1000 then some (.tup a) else dMul (.tup a) (.int k)
  | x, y => dMul x y
abbrev rMulA (K : PySem.W.Frag) : R2 := fun x y H Q => rMulD K x y H Q ∨ rRepE K x y H Q
theorem zhx : OpR X (binaryOp .Mult) (rMulA X.K) := op_mulD.or op_repE
theorem zfd : OpOk K (rMulA K) (o2 zgc) := znl fun ι F H S v u a b c Q st va vb e q => by
  unfold zgc at e
  split at e
  · split at e
    · rename_i hk
      cases e
      cases va with
      | tup s w =>
        cases vb
        refine .inr ⟨_, _, _, rfl, rfl, zbr st.sub s, ?_, hk.2.1, hk.2.2, q.same st (.tup s w)⟩
        rcases hk.1 with z | z
        · subst z
          cases w
          exact .inl rfl
        · exact .inr z
    · exact .inl (dMul_core st va vb e q)
  · exact .inl (dMul_core st va vb e q)
/-! ## -n -/
def neg1 (x : DV) (S : zae) : Res DV := match x with
  | .dat (.int i) => .ok (.dat (.int (-i))) S
  | _ => .bad
def xNeg (f : XFn) : XFn := fun ρ S => (f ρ S).bind neg1
/-! ## a list or a tuple walked -/
def iSeq (K : PySem.W.Frag) (tl : TE) : TI := fun σ H R => tl σ H fun x H1 => ∃ a, x = .ref a ∧ (((∃ xs, SqL K H1 a xs) ∧ R (Itl K a) H1) ∨ ((∃ xs, SqT K H1 a xs) ∧ R (Itt K a) H1))
theorem pi_seq {tg l : Expr} {tl : TE} (hl : PE X l tl) : PI X tg l (iSeq X.K tl) := by
  constructor
  intro pins s σ H R I h
  apply thn (hl.run pins s σ H _ I h)
  rintro v s1 ⟨x, H1, I1, r1, a, ex, q⟩
  subst ex
  cases r1
  have fresh : ∀ b ∈ [s1.heap.objs.size], FpOk X pins H1 b := by
    intro b hb
    rw [List.mem_singleton.mp hb]
    exact I1.fpOk (Nat.le_refl _) (I1.hok.fresh (Nat.le_refl _))
  rcases q with ⟨⟨xs, hq⟩, q⟩ | ⟨⟨xs, hq⟩, q⟩
  · obtain ⟨its, rv, p, hz⟩ := I1.list hq
    apply wpAny_pyIter_list p.isList
    exact ⟨s1.heap.objs.size, [s1.heap.objs.size], _, _, H1, rfl, I1.kept (t' := s1.toks) (fun b o e => Heap.get?_push_of_some _ e), turn_list a _, ⟨_, Heap.get?_push_size _ rfl, rfl, rfl⟩, fresh, q⟩
  · obtain ⟨its, rv, p, hz⟩ := I1.tuple hq
    apply wpAny_pyIter_tuple (show s1.heap.IsTuple a its.toArray from p)
    exact ⟨s1.heap.objs.size, [s1.heap.objs.size], _, _, H1, rfl, I1.kept (t' := s1.toks) (fun b o e => Heap.get?_push_of_some _ e), turn_tuple a _, ⟨_, Heap.get?_push_size _ rfl, rfl, rfl⟩, fresh, q⟩
def zg0 (x : DV) (S : zae) : Res (List D) := match x with
  | .dat (.lst xs) => .ok xs S
  | .dat (.tup xs) => .ok xs S
  | _ => .bad
def lIt (f : XFn) : LFn := fun ρ S => (f ρ S).bind zg0
theorem zbp {tg : Expr} {f : XFn} (h : DE X W e f) : DI X W tg e (lIt f) := by
  refine ⟨_, pi_seq h.pe, fun σ H R ⟨ι, F, ρ, S, r, h⟩ => ?_⟩
  refine tD.bind (g := fun _ => zg0) r h fun v dv ι1 F1 S1 H1 r1 w1 g1 h1 => ?_
  unfold zg0 at h1
  split at h1
  · rename_i xs
    have w' : Wd X.K F1 v (.lst xs) := w1
    cases w' with
    | lst s w => exact ⟨_, rfl, .inl ⟨⟨_, .of (r1.st.sub _ _ s)⟩, h1 ι1 F1 H1 .refl r1.st _ (itOk_list s w)⟩⟩
  · rename_i xs
    have w' : Wd X.K F1 v (.tup xs) := w1
    cases w' with
    | tup s w => exact ⟨_, rfl, .inr ⟨⟨_, zbr r1.st.sub s⟩, h1 ι1 F1 H1 .refl r1.st _ (itOk_tup s w)⟩⟩
  · exact h1.elim
/-! ## more new lists -/
def sRetN (f : LFn) : SFn := fun ρ S => (f ρ S).bindS ρ fun ds S1 => .rt (.obj S1.length) (S1 ++ [some ds])
theorem ds_retN {f : LFn} (h : NE X W e f) : DS X W (.Return (some e) pos) (sRetN f) := by
  refine ⟨_, ps_ret h.pe, fun D σ H ⟨ι, F, ρ, S, r, h⟩ => ⟨ι, F, ρ, S, r, ?_⟩⟩
  unfold sRetN at h
  cases q : f ρ S with
  | bad => rw [q] at h; exact h
  | ex c S1 => rw [q] at h; exact fun C ι' F' H' g st m => h C σ ι' F' H' g (r.slots g st) m
  | ok ds S1 =>
    rw [q] at h
    intro ι' F' H' g st p vs hp hH hF hι w
    exact h (.ref p) (ι' ++ [p]) F' H' (zma g hp) (st.add hH hF hι w) ⟨p, by rw [← st.len]; simp, rfl⟩
/-! ## a, b = e1, e2 -/
def sPar (i j : Nat) (f g : XFn) : SFn := fun ρ S => (f ρ S).bindS ρ fun x S1 => (g ρ S1).bindS ρ fun y S2 => .nx ((ρ.set i (some x)).set j (some y)) S2
/-! ## how many arguments; a def bound -/
def AL (f : AFn) (n : Nat) : Prop := ∀ ρ S ds S', f ρ S = .ok ds S' → ds.length = n
theorem zak : AL aNil 0 := fun ρ S ds S' e => by cases e; rfl
theorem zab {f : XFn} {g : AFn} {n : Nat} (h : AL g n) : AL (zac f g) (n + 1) := fun ρ S ds S' e => by
  unfold zac at e
  cases q : f ρ S with
  | ok d S1 =>
    rw [q] at e
    simp only [Res.bind_ok] at e
    cases q2 : g ρ S1 with
    | ok es S2 =>
      rw [q2] at e
      cases e
      simp [h _ _ _ _ q2]
    | ex c S2 => rw [q2] at e; cases e
    | bad => rw [q2] at e; cases e
  | ex c S1 => rw [q] at e; cases e
  | bad => rw [q] at e; cases e
theorem zcq {P : Program} {w : World} {base : Heap} {k n m : Nat} {x : Str} {params : Arguments} {body : List Stmt} {scope : Scope} {N ps : List Str} {g : SFn} (h : ∃ f fd, FunD K x x params body scope [] [] f fd ∧ mg x = some (.ref f)) (Sc : FnScope N ps scope)
    (hb : ∀ (kV doc pm : Value) (an : Option Addr) (cdv ct : Value) (us : List Value), us.length = ps.length → bindArgs (PySem.W.fnOf x x params body scope .none kV doc pm an cdv ct) ⟨us, []⟩ = pure (ps.zip us))
    (hbody : ∀ (f : Addr) (cdv : Value) (A : Around) (outer : List Env) (s : Shared) (H : Hp) (E : XK), Room k (A.deeper (envOfC x scope s.heap.objs.size f cdv)) → A.guards = some [] →
      DSs (cxOf (L2.CX P w) P w K mg base N x scope f cdv A outer s H E) (fun cls d _ H => E cls d H) body g) (hn : ps.length = n := by rfl) (hm : N.length = m := by rfl) : Def P w K mg base (k + 1) x n (za7 m g) := by
  obtain ⟨f, fd, Fd, hmg⟩ := h
  exact ⟨f, fd, ps, fn_D Fd Sc hn hm (hbody f), hmg, Fd.kp, Fd.bindsN hb⟩
end
end DL
set_option maxHeartbeats 4000000
namespace DL
open PySem PySem.Spec PyProof.Rows L2
section
variable {X : Cx} {W : WX} {e a b c : Expr} {es : List Expr} {pos p : Pos} {K : PySem.W.Frag} {ι : List Addr} {F H : Hp} {S : zae} {mg : Str → Option Value}
/-! ## comparisons as tests -/
def bool1 (x : DV) (S : zae) : Res Bool := match x with
  | .dat (.bl b) => .ok b S
  | _ => .bad
def tBl (f : XFn) : TFn := fun ρ S => (f ρ S).bind bool1
theorem tT_bl {f : XFn} {σ : L2.St} {H : Hp} {Q : Bool → Hp → Prop} (h : tT X W (tBl f) σ H Q) : tD X W f σ H fun x H' => ∃ k, x = .bl k ∧ Q k H' := by
  obtain ⟨ι, F, ρ, S, r, h⟩ := h
  refine tD.bind (g := fun _ => bool1) r h fun v dv ι1 F1 S1 H1 r1 w1 g1 h1 => ?_
  unfold bool1 at h1
  split at h1
  · rename_i k
    have w' : Wd X.K F1 v (.bl k) := w1
    cases w'
    exact ⟨k, rfl, h1 ι1 F1 H1 .refl r1.st⟩
  · exact h1.elim
theorem zbo {op : CmpOp} {r : R2} {o : Op2} {f g : XFn} (ho : OpR X (compareOp op) r) (k : OpOk X.K r o) (ha : DE X W a f) (hb : DE X W b g) (hm : behindInMarks op b = false := by rfl) : DT X W (.Compare a [op] [b] pos) (tBl (x2 o f g)) := by
  refine ⟨PT.weak (pt_cmpR ho ha.pe hb.pe hm) fun σ H Q h => ?_⟩
  obtain ⟨ι, F, ρ, S, r0, h⟩ := tT_bl h
  refine tD.bind (g := fun ρ x S1 => (g ρ S1).bind fun y S2 => o x y S2) r0 h fun v dv ι1 F1 S1 H1 r1 w1 g1 h1 => ?_
  refine tD.bind (g := fun ρ y S2 => o dv y S2) r1 h1 fun u du ι2 F2 S2 H2 r2 w2 g2 h2 => ?_
  exact k _ _ ι2 F2 H2 S2 v u dv du _ r2.st (w1.grow g2) w2 h2
theorem dt_chain {op op' : CmpOp} {r r' : R2} {o o' : Op2} {f g k : XFn} (ho : OpR X (compareOp op) r) (ho' : OpR X (compareOp op') r') (k1 : OpOk X.K r o) (k2 : OpOk X.K r' o') (ha : DE X W a f) (hb : DE X W b g) (hc : DE X W c k)
    (hm : lastMarks [op, op'] [b, c] = false := by rfl) : DT X W (.Compare a [op, op'] [b, c] pos) (tBl (zln o o' f g k)) := by
  refine ⟨PT.weak (pt_chain ho ho' ha.pe hb.pe hc.pe hm) fun σ H Q h => ?_⟩
  obtain ⟨ι, F, ρ, S, r0, h⟩ := tT_bl h
  refine tD.bind (g := fun ρ x S1 => (g ρ S1).bind fun y S2 => (o x y S2).bind fun z S3 => match z with
    | .dat (.bl true) => (k ρ S3).bind fun w S4 => o' y w S4
    | .dat (.bl false) => .ok (.dat (.bl false)) S3
    | _ => .bad) r0 h fun v dv ι1 F1 S1 H1 r1 w1 g1 h1 => ?_
  refine tD.bind (g := fun ρ y S2 => (o dv y S2).bind fun z S3 => match z with
    | .dat (.bl true) => (k ρ S3).bind fun w S4 => o' y w S4
    | .dat (.bl false) => .ok (.dat (.bl false)) S3
    | _ => .bad) r1 h1 fun u du ι2 F2 S2 H2 r2 w2 g2 h2 => ?_
  refine k1 X.mg (fun c d H' => W c d σ H') ι2 F2 H2 S2 v u dv du _ r2.st (w1.grow g2) w2 ?_
  cases q : o dv du S2 with
  | ex c S3 => rw [q] at h2; exact h2
  | bad => rw [q] at h2; exact h2
  | ok z S3 =>
    rw [q] at h2
    intro ι3 F3 H3 g3 st3 zv wz
    have h3 := Post.grow (r := (match z with
      | .dat (.bl true) => (k ρ S3).bind fun w S4 => o' du w S4
      | .dat (.bl false) => .ok (.dat (.bl false)) S3
      | _ => .bad)) h2 g3
    have r3 := r2.slots g3 st3
    split at h3
    · have w' : Wd X.K F3 zv (.bl true) := wz
      cases w'
      refine ⟨true, rfl, ?_⟩
      rw [if_pos rfl]
      refine tD.bind (g := fun ρ w S4 => o' du w S4) r3 h3 fun t dt ι4 F4 S4 H4 r4 w4 g4 h4 => ?_
      exact k2 _ _ ι4 F4 H4 S4 u t du dt _ r4.st ((w2.grow g3).grow g4) w4 h4
    · have w' : Wd X.K F3 zv (.bl false) := wz
      cases w'
      exact ⟨false, rfl, by rw [if_neg (by simp)]; exact h3 ι3 F3 H3 .refl st3 _ (.bl _)⟩
    · exact h3.elim
theorem zla {h : Heap} {x : Str} (X : K.In h) (G : h.Ns mainGlobals mg) (c1 : (He.Fa.glo x).ok K = true) (c2 : (He.Fa.exc x).ok K = true) : ExcD K mg x := ⟨_, He.glo_ok X G c1, (He.exc_ok c2).1, (He.exc_ok c2).2.1, (He.exc_ok c2).2.2.1, (He.exc_ok c2).2.2.2⟩
/-! ## == of two texts, of any signs -/
theorem ru64 {k : Nat} {A : Around} (r : Room k A) : A.units + 64 < cLine := by have := r.un; omega
theorem ru65 {k : Nat} {A : Around} (r : Room k A) : A.units + 65 < cLine := by have := r.un; omega
end
end DL
set_option maxHeartbeats 4000000
namespace DL
open PySem PySem.Spec PyProof.Rows L2
section
variable {X : Cx} {W : WX} {pos : Pos}
theorem DSs.canon {st : List Stmt} {f : SFn} (h : DSs X W st f) : PSs X st (tS X W f) := by
  obtain ⟨t, p, k⟩ := h.ps
  exact ⟨fun pins s σ H D I q => p.run pins s σ H D I (k D σ H q)⟩
/-! ## try .. except X: .., several clauses without names -/
abbrev Hds := List ((Str → Option Bool) × SFn)
structure CatD (K : PySem.W.Frag) (mg : Str → Option Value) (x : Str) (m : Str → Option Bool) : Prop where
  ex : ∃ D, mg x = some (.ref D) ∧ ∀ c b C, m c = some b → mg c = some (.ref C) → PySem.W.exmOne K (.ref C) (.ref D) = some b
inductive HdsD (X : Cx) : List ExceptHandler → Hds → Prop
  | nil : HdsD X [] []
  | cons {x : Str} {m : Str → Option Bool} {f : SFn} {b0 : Stmt} {suite : List Stmt} {np hp : Pos} {hds : List ExceptHandler} {l : Hds} (hm : CatD X.K X.mg x m) (hg : Gl X x) (hdb : (x == ("__debug__" : Str)) = false)
      (hsu : ∀ (a : Addr) (pn : List (Addr × Obj)), DSs (X.suite a pn) W0 (b0 :: suite) f) (r : HdsD X hds l) : HdsD X (.ExceptHandler (some (.Name x np)) none (b0 :: suite) hp :: hds) ((m, f) :: l)
end
end DL
namespace DL
open PySem PySem.Spec PyProof.Rows L2
/-! ## which classes a clause catches, by a table -/
inductive CatF (K : PySem.W.Frag) (y : Str) : List (Str × Bool) → Prop
  | nil : CatF K y []
  | cons {x : Str} {b : Bool} {l : List (Str × Bool)} (h1 : (He.Fa.glo x).ok K = true) (h2 : (He.Fa.exm x y b).ok K = true) (r : CatF K y l) : CatF K y ((x, b) :: l)
end DL
set_option maxHeartbeats 4000000
namespace DL
open PySem PySem.Spec PyProof.Rows L2
section
variable {X : Cx} {W : WX} {e a b c : Expr} {es : List Expr} {pos p : Pos} {K : PySem.W.Frag} {ι : List Addr} {F H : Hp} {S : zae} {mg : Str → Option Value}
/-! ## comprehensions with two sources -/
def lc2Go (g : GFn) (t : TFn) (l1 : LFn) (v1 : List Nat) (g1 : GFn) (t1 : TFn) (f : XFn) (ρ : zan) : List D → zae → Res (List D)
  | [], S => .ok [] S
  | d :: ds, S => match g d ρ with
    | none => .bad
    | some ρ1 => (t ρ1 S).bindN fun b S1 => if b then (l1 ρ1 S1).bindN fun es S2 => (lcGo g1 t1 f (zh2 ρ1 v1) es S2).bindN fun zs S3 => (lc2Go g t l1 v1 g1 t1 f ρ ds S3).bindN fun ws S4 => .ok (zs ++ ws) S4
        else lc2Go g t l1 v1 g1 t1 f ρ ds S1
def lLc2 (l : LFn) (own : List Nat) (g : GFn) (t : TFn) (l1 : LFn) (v1 : List Nat) (g1 : GFn) (t1 : TFn) (f : XFn) : LFn := fun ρ S => (l ρ S).bind fun ds S1 => (lc2Go g t l1 v1 g1 t1 f (zh2 ρ own) ds S1).bindN fun zs S2 => if zs.length ≤ sizeLine then .ok zs S2 else .bad
theorem wipe_idem (vs : List Nat) (σ : L2.St) : L2.wipe (L2.wipe σ vs) vs = L2.wipe σ vs := by
  have idem : ∀ us : List Nat, ∀ τ : L2.St, (∀ i ∈ us, τ[i]? = none ∨ τ[i]? = some none) → L2.wipe τ us = τ := by
    intro us
    induction us with
    | nil => intro τ _; rfl
    | cons v us ih =>
      intro τ hv
      show (L2.wipe τ us).set v none = τ
      rw [ih τ fun i m => hv i (List.mem_cons_of_mem _ m)]
      apply List.ext_getElem?
      intro j
      rw [List.getElem?_set]
      split
      · rename_i e; subst e
        rcases hv v List.mem_cons_self with z | z
        · rw [z]; split
          · rename_i hlt; rw [List.getElem?_eq_none_iff] at z; omega
          · rfl
        · rw [z]; split
          · rfl
          · rename_i hlt; have := (List.getElem?_eq_some_iff.mp z).1; omega
      · rfl
  refine idem vs _ fun i m => ?_
  cases q : (L2.wipe σ vs)[i]? with
  | none => exact .inl rfl
  | some o =>
    cases o with
    | none => exact .inr rfl
    | some x => exact absurd m (wipe_some q).2
theorem acc_put {ι5 : List Addr} {F5 H5 : Hp} {S4 : zae} (st5 : StR K ι5 F5 S4 H5) {D : Addr} {u : List V} (k2 : F5 D = none) (k3 : D ∉ ι5) : StR K ι5 F5 S4 (upd H5 D (.lst u)) :=
  ⟨fun b u e => by rw [upd_ne (fun z => by rw [z, k2] at e; cases e)]; exact st5.sub b u e, st5.len, st5.nd, fun b hb => zj8 (st5.full b hb), fun k es e =>
    let ⟨a', vs', h1, h2, h3, h4⟩ := st5.cell k es e
    ⟨a', vs', h1, by rw [upd_ne (fun z => k3 (by rw [← z]; exact List.mem_of_getElem? h1))]; exact h2, h3, h4⟩⟩
theorem lc2_ent {own : List (Str × Nat)} {l l1 : LFn} {g g1 : GFn} {t t1 : TFn} {f : XFn} {sl sl1 v1 : List Nat} (hsl : ∀ i ∈ sl, i ∈ own.map (·.2)) (hsl1 : ∀ i ∈ sl1, i ∈ v1) {σ : L2.St} {H : Hp} {Q : VK}
    (h : tN X W (lLc2 l (own.map (·.2)) g t l1 v1 g1 t1 f) σ H Q) :
    tLc2 (tI X W l) (tG X.K sl g) (tT X W0 t) (tI X W0 l1) (tG X.K sl1 g1) (tT X W0 t1) (tD X W0 f) (own.map (·.2)) v1 σ H Q := by
  obtain ⟨ι, F, ρ, S, r, h⟩ := h
  refine ⟨ι, F, ρ, S, r, ?_⟩
  unfold lLc2 at h
  cases q : l ρ S with
  | bad => rw [q] at h; exact h
  | ex c S1 => rw [q] at h; exact h
  | ok ds S1 =>
    rw [q] at h
    simp only [Res.bind_ok] at h
    obtain ⟨zs0, S0, e0, h⟩ := bindN_ok h
    by_cases hl : zs0.length ≤ sizeLine
    · simp only [hl, if_true] at h
      intro ι1 F1 H1 g1' st1 J ⟨G, Y, w, hG, hY⟩ D hD
      have r1 := r.slots g1' st1
      have hF1 : F1 D = none := by
        cases q : F1 D with
        | none => rfl
        | some o => rw [st1.sub D o q] at hD; cases hD
      have hι1 : D ∉ ι1 := fun m => st1.full D m hD
      let Pv : Nat → Hp → Prop := fun i H2 => ∃ ι2 F2 S2 acc avs zs, StR X.K ι2 F2 S2 H2 ∧ Grow ι1 F1 H1 ι2 F2 H2 ∧ H2 D = some (.lst avs) ∧ F2 D = none ∧ D ∉ ι2 ∧ WdA X.K F2 avs acc ∧
          lc2Go g t l1 v1 g1 t1 f (zh2 ρ (own.map (·.2))) (ds.drop i) S2 = .ok zs S0 ∧ acc ++ zs = zs0
      refine ⟨fun i m H => m = ds.length - i ∧ i ≤ ds.length ∧ Pv i H, ⟨ds.length, by simp, Nat.zero_le _, ι1, F1, S1, [], [], zs0, st1.alone hD _, zfa hD _, upd_same, hF1, hι1, .nil, e0, rfl⟩, ?_⟩
      rintro i m H2 ⟨rfl, hi, ι2, F2, S2, acc, avs, zs, st2, g2, hd, hf, hn, wa, el, ea⟩
      have qG := hG ι2 F2 S2 H2 st2 g2.sf
      by_cases hlt : i < ds.length
      · refine .inr ⟨w.goes i H2 hlt qG, Pv (i + 1), fun H' p' => ⟨ds.length - (i + 1), by omega, rfl, hlt, p'⟩, fun x H3 y => ?_⟩
        obtain ⟨F3, d, g3, st3, hdi, wd⟩ := hY ι2 F2 S2 H2 i x H3 st2 g2.sf hlt (w.yields i H2 x H3 hlt qG y)
        have ed : ds.drop i = d :: ds.drop (i + 1) := by
          rw [List.drop_eq_getElem_cons hlt]
          obtain ⟨_, h⟩ := List.getElem?_eq_some_iff.mp hdi
          rw [h]
        have keepD : ∀ {ι' F' H'} , Grow ι2 F2 H2 ι' F' H' → H' D = some (.lst avs) ∧ F' D = none ∧ D ∉ ι' := fun gg => ⟨gg.keep D _ hd hn, gg.new D _ hd (fun _ z => nomatch z) hf hn, fun m => by
          rcases gg.nio D m with z | z
          · exact hn z
          · rw [hd] at z; cases z⟩
        rw [ed] at el
        simp only [lc2Go] at el
        have r0 : RR X.K ι1 F1 (zh2 ρ (own.map (·.2))) S1 (L2.wipe σ (own.map (·.2))) H1 := r1.wipe _
        have r3 := r0.slots (g2.trans g3) st3
        cases e1 : g d (zh2 ρ (own.map (·.2))) with
        | none => simp only [e1] at el; cases el
        | some ρ3 =>
          simp only [e1] at el
          refine ⟨ι2, F3, _, S2, d, ρ3, r3, wd, e1, fun σ3 r3' o3 => ⟨?_, ?_⟩⟩
          · rw [o3 (own.map (·.2)) hsl]
            exact wipe_idem _ _
          · obtain ⟨b, S3, e2, el⟩ := zfc el
            refine ⟨ι2, F3, ρ3, S2, r3', ?_⟩
            show Post X.K X.mg _ ι2 F3 H3 (t ρ3 S2) _
            rw [e2]
            intro ι4 F4 H4 g4 st4
            have g24 := g3.trans g4
            cases b with
            | false =>
              dsimp only
              rw [if_neg (by simp)]
              simp only [Bool.false_eq_true, if_false] at el
              obtain ⟨k1, k2, k3⟩ := keepD g24
              exact ⟨ι4, F4, S3, acc, avs, zs, st4, g2.trans g24, k1, k2, k3, wa.mono g24.sf, el, ea⟩
            | true =>
              dsimp only
              rw [if_pos rfl]
              simp only [if_true] at el
              obtain ⟨es, S5, e3, el⟩ := zfc el
              obtain ⟨ys, S6, e4, el⟩ := zfc el
              obtain ⟨ws, S7, e5, el⟩ := zfc el
              cases el
              have r4 := r3'.slots g4 st4
              refine ⟨ι4, F4, ρ3, S3, r4, ?_⟩
              show Post X.K X.mg _ ι4 F4 H4 (l1 ρ3 S3) _
              rw [e3]
              intro ι5 F5 H5 g5 st5 J1 ⟨G1, Y1, w1, hG1, hY1⟩
              have g25 := g24.trans g5
              obtain ⟨d1, d2, d3⟩ := keepD g25
              have r5 := (r4.slots g5 st5).wipe v1
              let Pw : Nat → Hp → Prop := fun j H => ∃ ι F S acc avs zs, RR X.K ι F (zh2 ρ3 v1) S (L2.wipe σ3 v1) H ∧ Same F5 F ∧ Grow ι1 F1 H1 ι F H ∧ H D = some (.lst avs) ∧ F D = none ∧ D ∉ ι ∧ WdA X.K F avs acc ∧
                lcGo g1 t1 f (zh2 ρ3 v1) (es.drop j) S = .ok zs S6 ∧ acc ++ zs ++ ws = zs0
              have growD : ∀ {ι F H} {u : List V}, Grow ι1 F1 H1 ι F H → Grow ι1 F1 H1 ι F (upd H D (.lst u)) := fun g => ⟨g.pre, g.sf, fun b o e n => by
                    rw [upd_ne (fun z => by rw [z, hD] at e; cases e)]; exact g.keep b o e n, g.new, g.nio, fun b e => g.dom b (zcv e)⟩
              refine ⟨fun j m H => m = es.length - j ∧ j ≤ es.length ∧ Pw j H, ⟨es.length, by simp, Nat.zero_le _, ι5, F5, S5, acc, avs, ys, r5, Same.refl _, g2.trans g25, d1, d2, d3, wa.mono g25.sf, e4, by rw [← ea]; simp⟩, ?_⟩
              rintro j m H6 ⟨rfl, hj, ι6, F6, S8, acc6, avs6, zs6, r6, sf6, G6, hd6, hf6, hn6, wa6, el6, ea6⟩
              have qG1 := hG1 ι6 F6 S8 H6 r6.st sf6
              by_cases hlt1 : j < es.length
              · refine .inr ⟨w1.goes j H6 hlt1 qG1, Pw (j + 1), fun H' p' => ⟨es.length - (j + 1), by omega, rfl, hlt1, p'⟩, fun x1 H7 y1 => ?_⟩
                obtain ⟨F7, dd, g7, st7, hdd, wdd⟩ := hY1 ι6 F6 S8 H6 j x1 H7 r6.st sf6 hlt1 (w1.yields j H6 x1 H7 hlt1 qG1 y1)
                have ed1 : es.drop j = dd :: es.drop (j + 1) := by
                  rw [List.drop_eq_getElem_cons hlt1]
                  obtain ⟨_, h⟩ := List.getElem?_eq_some_iff.mp hdd
                  rw [h]
                have keepD6 : ∀ {ι' F' H'} , Grow ι6 F6 H6 ι' F' H' → H' D = some (.lst avs6) ∧ F' D = none ∧ D ∉ ι' := fun gg => ⟨gg.keep D _ hd6 hn6, gg.new D _ hd6 (fun _ z => nomatch z) hf6 hn6, fun m => by
                  rcases gg.nio D m with z | z
                  · exact hn6 z
                  · rw [hd6] at z; cases z⟩
                rw [ed1] at el6
                simp only [lcGo] at el6
                have r7 := r6.slots g7 st7
                cases e6 : g1 dd (zh2 ρ3 v1) with
                | none => simp only [e6] at el6; cases el6
                | some ρ7 =>
                  simp only [e6] at el6
                  refine ⟨ι6, F7, _, S8, dd, ρ7, r7, wdd, e6, fun σ7 r7' o7 => ⟨?_, ?_⟩⟩
                  · rw [o7 v1 hsl1]
                    exact wipe_idem _ _
                  · obtain ⟨b, S9, e7, el6⟩ := zfc el6
                    refine ⟨ι6, F7, ρ7, S8, r7', ?_⟩
                    show Post X.K X.mg _ ι6 F7 H7 (t1 ρ7 S8) _
                    rw [e7]
                    intro ι8 F8 H8 g8 st8
                    have g68 := g7.trans g8
                    cases b with
                    | false =>
                      dsimp only
                      rw [if_neg (by simp)]
                      simp only [Bool.false_eq_true, if_false] at el6
                      obtain ⟨k1, k2, k3⟩ := keepD6 g68
                      exact ⟨ι8, F8, S9, acc6, avs6, zs6, r6.slots g68 st8, sf6.trans g68.sf, G6.trans g68, k1, k2, k3, wa6.mono g68.sf, el6, ea6⟩
                    | true =>
                      dsimp only
                      rw [if_pos rfl]
                      simp only [if_true] at el6
                      obtain ⟨yv, S10, e8, el6⟩ := zfc el6
                      refine ⟨ι8, F8, ρ7, S9, r7'.slots g8 st8, ?_⟩
                      show Post X.K X.mg _ ι8 F8 H8 (f ρ7 S9) _
                      rw [e8]
                      intro ι9 F9 H9 g9 st9 v wv
                      cases yv with
                      | dat z =>
                        simp only at el6
                        obtain ⟨zs', S11, e9, el6⟩ := zfc el6
                        cases el6
                        have g69 := g68.trans g9
                        obtain ⟨k1, k2, k3⟩ := keepD6 g69
                        have r9 := r6.slots g69 st9
                        refine ⟨avs6, k1, ?_, ι9, F9, S10, acc6 ++ [z], avs6 ++ [v], zs', ⟨acc_put st9 k2 k3, r9.len, r9.slot⟩, sf6.trans g69.sf, growD (G6.trans g69), upd_same, k2, k3, (wa6.mono g69.sf).append (.cons wv .nil), e9, by rw [← ea6]; simp⟩
                        have := congrArg List.length ea6
                        simp at this
                        rw [wa6.length]; omega
                      | _ => cases el6
              · have hje : j = es.length := by omega
                subst hje
                rw [List.drop_length] at el6
                cases el6
                rw [List.append_nil] at ea6
                exact .inl ⟨w1.stops H6 qG1, ι6, F6, _, acc6, avs6, ws, r6.st, G6, hd6, hf6, hn6, wa6, e5, ea6⟩
      · have hie : i = ds.length := by omega
        subst hie
        rw [List.drop_length] at el
        cases el
        rw [List.append_nil] at ea
        subst ea
        exact .inl ⟨w.stops H2 qG, h ι2 F2 H2 (g1'.trans g2) st2 D avs (g1'.dom D hD) hd hf hn wa⟩
    · simp only [hl, if_false] at h; exact h.elim
theorem ne_lc2 {elt tg iter tg1 iter1 : Expr} {ifs ifs1 : List Expr} {scope : Scope} {own : List (Str × Nat)} {l l1 : LFn} {g g1 : GFn} {t t1 : TFn} {f : XFn} {sl sl1 v1 : List Nat} (hc : X.calm = true) (hN : X.N.Nodup) (hi : DI X W tg iter l) (ok : BlkOk X.N X.env.scope scope own)
    (hg : ∀ (s : Shared) (H : Hp) (C : Addr) (cl : List (Str × Addr)) (fp : List Addr), DG (X.blk s H scope (compEnvC scope cl C X.env) fp) tg sl g)
    (ht : ∀ (s : Shared) (H : Hp) (C : Addr) (cl : List (Str × Addr)) (fp : List Addr), DTs (X.blk s H scope (compEnvC scope cl C X.env) fp) W0 ifs t)
    (hi1 : ∀ (s : Shared) (H : Hp) (C : Addr) (cl : List (Str × Addr)) (fp : List Addr), DI (X.blk s H scope (compEnvC scope cl C X.env) fp) W0 tg1 iter1 l1)
    (hg1 : ∀ (s : Shared) (H : Hp) (C : Addr) (cl : List (Str × Addr)) (fp : List Addr), DG (X.blk s H scope (compEnvC scope cl C X.env) fp) tg1 sl1 g1)
    (ht1 : ∀ (s : Shared) (H : Hp) (C : Addr) (cl : List (Str × Addr)) (fp : List Addr), DTs (X.blk s H scope (compEnvC scope cl C X.env) fp) W0 ifs1 t1)
    (he : ∀ (s : Shared) (H : Hp) (C : Addr) (cl : List (Str × Addr)) (fp : List Addr), DE (X.blk s H scope (compEnvC scope cl C X.env) fp) W0 elt f)
    (hsl : ∀ i ∈ sl, i ∈ own.map (·.2) := by decide) (hsl1 : ∀ i ∈ sl1, i ∈ v1 := by decide) (hv : ∀ i ∈ v1, i ∈ own.map (·.2) := by decide)
    (hs : ∀ x, foldedSetIterable iter X.env x = pure x := by intro _; rfl) (hs1 : ∀ env x, foldedSetIterable iter1 env x = pure x := by intro _ _; rfl) :
    NE X W (.ListComp elt [⟨tg, iter, ifs, 0⟩, ⟨tg1, iter1, ifs1, 0⟩] scope pos) (lLc2 l (own.map (·.2)) g t l1 v1 g1 t1 f) :=
  ⟨PE.weak (pe_lc2 (vs1 := v1) (g := tG X.K sl g) (tt := tT X W0 t) (te := tD X W0 f) (wi1 := tI X W0 l1) (g1 := tG X.K sl1 g1) (tt1 := tT X W0 t1) hc hN hi.canon ok hv (fun s H C cl fp => (hg s H C cl fp).canon) (fun s H C cl fp => (ht s H C cl fp).pt)
    (fun s H C cl fp => (hi1 s H C cl fp).canon) (fun s H C cl fp => (hg1 s H C cl fp).canon) (fun s H C cl fp => (ht1 s H C cl fp).pt) (fun s H C cl fp => (he s H C cl fp).pe) hs hs1) fun σ H Q h => lc2_ent hsl hsl1 h⟩
end
end DL
set_option maxHeartbeats 8000000
namespace PySem
namespace DLSort
open L2 PyProof.Rows
section
variable {prog : Program} {w : World} {A : Around} {E : Value → Shared → Prop} {s : Shared}
theorem gather {t : Addr} {us : List Value} {R : List Value → Shared → Prop} (ht : s.heap.IsTuple t us.toArray) (fits : us.length ≤ sizeLine)
    (h : R us { s with heap := (s.heap.push (seqObj "list" #[] 0)).update s.heap.objs.size (Obj.mapSeq (· ++ us.toArray)) }) : wpAny (model prog w) A (collect (.ref t)) R E s := by
  obtain ⟨ob, gt, cl, m, dt⟩ := id ht
  unfold collect
  apply wpAny_bind
  apply wpAny_runValue
  apply codeAny_builtin entry_proto_collect'
  show wpAny _ _ (do again (.builtin "list.__iadd__" ⟨[← newList [], .ref t], []⟩)) _ _ s
  apply wpAny_bind
  refine wpAny_newList ?_
  refine wpAny_pure ⟨Code.quiet_builtin _ (by decide +kernel), ?_⟩
  apply codeAny_builtin entry_list_iadd'
  have gt2 : (s.heap.push (seqObj "list" #[] 0)).get? t = some ob := Heap.get?_push_of_some _ gt
  show wpAny _ _ (Builtin.List.listExtendWith (.ref s.heap.objs.size) (.ref t) (.ref s.heap.objs.size)) _ _ { s with heap := s.heap.push (seqObj "list" #[] 0) }
  unfold Builtin.List.listExtendWith
  apply wpAny_bind
  refine wpAny_typeOf (s := { s with heap := s.heap.push (seqObj "list" #[] 0) }) (T := "tuple") (show Shared.TypeIs _ (.ref t) "tuple" from ⟨ob, gt2, cl⟩) ?_
  have tt : (Value.type "tuple" == Value.type "tuple") = true := by rfl
  rw [if_pos (by rw [tt]; simp)]
  apply wpAny_bind
  apply listItems_at gt2 dt
  apply wpAny_bind
  apply listItems_at (xs := #[]) (n := 0) (Heap.get?_push_size _ rfl) rfl
  rw [if_neg (by simp)]
  apply wpAny_bind
  refine listUpdate_at (xs := #[]) (n := 0) (Heap.get?_push_size _ rfl) rfl ?_ (Nat.zero_le _) (by
    show (#[] ++ us.toArray).size ≤ sizeLine + 1
    simp only [Array.size_append, List.size_toArray, List.length_nil]
    omega)
  apply wpAny_pure
  show wpAny (model prog w) A (do
      let o ← load s.heap.objs.size
      match o.data with
      | .seq ys _ => pure ys.toList
      | _ => unsupported "internal:collect") R E { s with heap := (s.heap.push (seqObj "list" #[] 0)).update s.heap.objs.size (Obj.mapSeq (· ++ us.toArray)) }
  apply wpAny_bind
  refine wpAny_load (get?_update_seq (Heap.get?_push_size _ rfl) _) ?_
  show wpAny _ _ (pure ((#[] : Array Value) ++ us.toArray).toList) R E _
  have e : ((#[] : Array Value) ++ us.toArray).toList = us := by simp
  rw [e]
  exact wpAny_pure h
theorem sorted_tuple {t : Addr} {us : List Value} {ns : List Int} {R : Value → Shared → Prop} (hI : IntsAre us ns) (ht : s.heap.IsTuple t us.toArray) (fits : us.length ≤ sizeLine)
    (h : ∀ out : List Value, SrtO.Srtd SrtO.ltIv out → SrtO.Stb SrtO.ltIv out us → R (.ref (s.heap.objs.size + 1)) { s with heap := sortedAll s.heap us out.toArray }) :
    wpAny (model prog w) A (call (.builtin "sorted") [.ref t]) R E s := by
  apply Calls.call_function_entry kind_sorted plain_sorted entry_sorted (args_sorted1 _)
  unfold Builtin.«sorted»
  refine wpAny_bind (m := checkCount "sorted" 1 1 _) (wpAny_pure ?_)
  apply wpAny_bind
  refine gather ht fits ?_
  apply wpAny_bind
  refine wpAny_newList ?_ fits
  have sz : ((s.heap.push (seqObj "list" #[] 0)).update s.heap.objs.size (Obj.mapSeq (· ++ us.toArray))).objs.size = s.heap.objs.size + 1 := by rw [Heap.size_update, size_push']
  have here : (((s.heap.push (seqObj "list" #[] 0)).update s.heap.objs.size (Obj.mapSeq (· ++ us.toArray))).push (seqObj "list" us.toArray 0)).get? (s.heap.objs.size + 1) = some (seqObj "list" us.toArray 0) := by
    rw [← sz]; exact Heap.get?_push_size _ rfl
  show wpAny _ _ _ _ _ { s with heap := ((s.heap.push (seqObj "list" #[] 0)).update s.heap.objs.size (Obj.mapSeq (· ++ us.toArray))).push (seqObj "list" us.toArray 0) }
  rw [sz]
  apply wpAny_bind
  apply wpAny_holding
  refine wpAny_call_entry slot_list_sort ⟨_, here, rfl⟩ entry_list_sort (SrtO.list_sort_ord SrtO.swo_int here fits (fun two => SrtO.ints_sortable hI two) fun out a b => ⟨_, rfl, ?_⟩) (args_list_sort _)
  exact wpAny_pure ⟨_, rfl, h out a b⟩
end
end DLSort
end PySem
namespace DL
open PySem PySem.Spec PyProof.Rows L2
section
variable {X : Cx} {W : WX} {e a b c : Expr} {es : List Expr} {pos p : Pos} {K : PySem.W.Frag} {ι : List Addr} {F H : Hp} {S : zae} {mg : Str → Option Value}
/-! ## sorted(x), any data that can be compared -/
def dOrd (x y : D) : Bool := PySem.W.dataLe false D.py x y
def zm3 (xs : List D) : Bool := (xs.all fun x => xs.all fun y => PySem.W.alike x.py y.py) &&
  ((xs.all fun x => match x.py with | .tuple (_ :: _) => true | _ => false) || (xs.all fun x => match x.py with | .none => false | .tuple _ => false | _ => true)) && (xs.all fun x => decide (x.py.depth ≤ 40))
def EachD (K : PySem.W.Frag) (G : Hp) (s : Shared) (v : Value) (d : D) : Prop := ∃ u : V, RelV u v ∧ Wd K G u d
theorem eachD_of {G : Hp} {s : Shared} : ∀ {vs : List V} {us : List Value} {ds : List D}, WdA K G vs ds → Vals vs us → PySem.W.EachIs (EachD K G s) us ds
  | _, _, _, .nil, .nil => .nil
  | _, _, _, .cons w ws, .cons r rs => .cons ⟨_, r, w⟩ (eachD_of ws rs)
theorem ofEachD {G : Hp} {s : Shared} {us : List Value} {ds : List D} (h : PySem.W.EachIs (EachD K G s) us ds) : ∃ vs : List V, Vals vs us ∧ WdA K G vs ds := by
  induction h with
  | nil => exact ⟨[], .nil, .nil⟩
  | cons h _ ih =>
    obtain ⟨u, r, w⟩ := h
    obtain ⟨vs, a, b⟩ := ih
    exact ⟨u :: vs, .cons r a, .cons w b⟩
mutual
theorem Wd.dpA {K : PySem.W.Frag} {F : Hp} : ∀ {d : D} {v : V}, Wd K F v d → PySem.W.alike d.py d.py = true → Dp K F v d.py
  | .non, _, h, _ => by cases h; exact .non
  | .bl _, _, h, _ => by cases h; exact .bl _
  | .int _, _, h, _ => by cases h; exact .int _
  | .str _, _, h, _ => by cases h; exact .str _
  | .lst ds, _, h, c => by
    cases h with
    | lst s a => exact .lst (.of s) (WdA.dpA a (by simpa [D.py, PySem.W.alike] using c))
  | .tup ds, _, h, c => by
    cases h with
    | tup s a => exact .tup s (WdA.dpA a (by simpa [D.py, PySem.W.alike] using c))
  | .cas _, _, _, c => by simp [D.py, PySem.W.alike] at c
  | .dct _, _, _, c => by simp [D.py, PySem.W.alike] at c
theorem WdA.dpA {K : PySem.W.Frag} {F : Hp} : ∀ {ds : List D} {vs : List V}, WdA K F vs ds → PySem.W.alikeAll (D.pys ds) (D.pys ds) = true → DpAll K F vs (D.pys ds)
  | [], _, h, _ => by cases h; exact .nil
  | d :: ds, _, h, c => by
    simp only [D.pys, PySem.W.alikeAll, Bool.and_eq_true] at c
    cases h with
    | cons a b => exact .cons (Wd.dpA a c.1) (WdA.dpA b c.2)
end
theorem readsD_of {pins : List (Addr × Obj)} {σ : L2.St} {G H : Hp} {s : Shared} (I : Inv X pins σ H s) (sm : Same G H) : ∀ {vs : List V} {us : List Value} {ds : List D}, WdA X.K G vs ds → Vals vs us → (∀ d ∈ ds, PySem.W.alike d.py d.py = true) → PySem.W.EachIs (fun v b => ∃ as, Reads s.heap v (D.py b) as) us ds
  | _, _, _, .nil, .nil, _ => .nil
  | _, _, _, .cons w ws, .cons r rs, h => .cons (Dp.reads I _ _ _ (Wd.dpA (w.mono sm) (h _ (List.mem_cons_self ..))) r) (readsD_of I sm ws rs fun d hd => h d (List.mem_cons_of_mem _ hd))
def rSortD (K : PySem.W.Frag) : List V → Hp → VK → Prop := fun xs H Q => ∃ (a : Addr) (vs : List V) (ds : List D) (G : Hp), xs = [V.ref a] ∧ SqL K H a vs ∧ Same G H ∧ WdA K G vs ds ∧ zm3 ds = true ∧
  ∀ p ws, H p = none → WdA K G ws (ds.mergeSort dOrd) → Q (.ref p) (upd H p (.lst ws))
theorem cr_sortD (hu : X.A.units + 64 < cLine) : CallR X (.builtin "sorted") (rSortD X.K) := by
  intro pins s σ H xs us Q I r h
  obtain ⟨a, vs, ds, G, rfl, hq, sm, wd, can, q⟩ := h
  rw [Vals.ref1 r]
  obtain ⟨its, rv, pl, hz⟩ := I.list hq
  unfold zm3 at can
  simp only [Bool.and_eq_true, Bool.or_eq_true, List.all_eq_true, decide_eq_true_eq] at can
  obtain ⟨⟨c1, c2⟩, c3⟩ := can
  have e0 : PySem.W.EachIs (EachD X.K G s) its ds := eachD_of wd rv
  have er : PySem.W.EachIs (fun v b => ∃ as, Reads s.heap v (D.py b) as) its ds := readsD_of I sm wd rv fun d hd => c1 d hd d hd
  refine PySem.W.sorted_data (enc := D.py) (R := EachD X.K G s) pl.isList e0 er ?_ ?_ (by rw [← wd.length]; exact hz) (fun b hb => by have := c3 b hb; omega) fun out hl eo => ?_
  · intro d hd d' hd'
    obtain ⟨x, hx, rfl⟩ := List.mem_map.mp hd
    obtain ⟨y, hy, rfl⟩ := List.mem_map.mp hd'
    exact c1 x hx y hy
  · rcases c2 with c2 | c2
    · left
      intro d hd
      obtain ⟨x, hx, rfl⟩ := List.mem_map.mp hd
      have := c2 x hx
      split at this
      · rename_i y r e; exact ⟨y, r, e⟩
      · cases this
    · right
      intro d hd
      obtain ⟨x, hx, rfl⟩ := List.mem_map.mp hd
      have := c2 x hx
      refine ⟨fun z => ?_, fun xs z => ?_⟩
      · rw [z] at this; exact absurd this (by simp)
      · rw [z] at this; exact absurd this (by simp)
  · obtain ⟨ws, rw_, ww⟩ := ofEachD eo
    obtain ⟨ep, he⟩ := PyProof.Rows.sortedAll_at s.heap its out.toArray
    have hlen : ws.length ≤ sizeLine := by
      rw [ww.length, List.length_mergeSort, ← wd.length]; exact hz
    exact ⟨.ref _, upd H (s.heap.objs.size + 1) (.lst ws), I.laid (t' := s.toks) (fun _ _ => PyProof.Rows.sortedAll_old) (Nat.le_succ _) ⟨hlen, out, ep, rw_, he⟩, rfl, q _ ws (I.hok.fresh (Nat.le_succ _)) ww⟩
def isortI (ns : List Int) : List Int := ns.mergeSort fun a b => decide (a ≤ b)
def rSortTI (K : PySem.W.Frag) : List V → Hp → VK → Prop := fun vs H Q => ∃ (a : Addr) (ns : List Int), vs = [V.ref a] ∧ SqT K H a (ns.map V.int) ∧ ∀ (ns' : List Int) (p : Addr), ns'.Perm ns → ns'.Pairwise (· ≤ ·) → H p = none → Q (.ref p) (upd H p (.lst (ns'.map V.int)))
theorem cr_sortTI : CallR X (.builtin "sorted") (rSortTI X.K) := by
  intro pins s σ H vs us Q I r h
  obtain ⟨a, ns, rfl, hs, q⟩ := h
  obtain ⟨its, rv, hl, hz⟩ := I.tuple hs
  rw [Vals.ref1 r]
  have hi := rv.ints
  refine PySem.DLSort.sorted_tuple hi hl (by rw [← rv.length]; exact hz) fun out h1 h2 => ?_
  obtain ⟨k1, k2, k3⟩ := SrtO.ints_out hi h1 h2
  obtain ⟨ep, he⟩ := PyProof.Rows.sortedAll_at s.heap its out.toArray
  have hlen : ((out.map SrtO.iv).map V.int).length ≤ sizeLine := by rw [List.length_map, k2.length_eq]; simpa using hz
  refine ⟨.ref _, upd H (s.heap.objs.size + 1) (.lst ((out.map SrtO.iv).map V.int)), ?_, rfl, q _ _ k2 k3 (I.hok.fresh (Nat.le_succ _))⟩
  exact I.laid (t' := s.toks) (fun _ _ => PyProof.Rows.sortedAll_old) (Nat.le_succ _) ⟨hlen, out, ep, vals_of_ints k1, he⟩
theorem isortI_eq {a b : List Int} (hp : a.Perm b) (hs : a.Pairwise (· ≤ ·)) : a = isortI b := by
  have h1 : (isortI b).Pairwise (· ≤ ·) := by
    have := List.pairwise_mergeSort (le := fun a b : Int => decide (a ≤ b)) (by intro a b c h1 h2; simp at *; omega) (by intro a b; simp; omega) b
    exact this.imp fun h => by simpa using h
  exact List.Perm.eq_of_pairwise (le := (· ≤ ·)) (fun x y _ _ h1 h2 => by omega) hs h1 (hp.trans (List.mergeSort_perm b _).symm)
def zlb (x : DV) (S : zae) : Res (List D) := match rd S x with
  | some (.lst xs) => if zm3 xs = true then .ok (xs.mergeSort dOrd) S else .bad
  | some (.tup xs) => (match zhj xs with
    | some ns => .ok ((isortI ns).map .int) S
    | none => .bad)
  | _ => .bad
def zk6 (f : XFn) : LFn := fun ρ S => (f ρ S).bind zlb
theorem ne_sorted {f : XFn} (h : DE X W a f) (hu : X.A.units + 64 < cLine) (hm : X.mg "sorted" = none) (hg : Gl X "sorted" := by rfl) (he : starEach (a :: []) X.env = (false, eval a X.env) :: starEach [] X.env := by rfl) :
    NE X W (.Call (.Name "sorted" p) [a] [] pos) (zk6 f) := by
  refine ⟨PE.weak (pe_callB (r := fun vs H Q => rSortD X.K vs H Q ∨ rSortTI X.K vs H Q) (fun pins s σ H xs us Q I r h => h.elim (cr_sortD hu pins s σ H xs us Q I r) (cr_sortTI pins s σ H xs us Q I r)) hg hm (by decide +kernel) (pa_cons h.pe pa_nil he) (by decide) (by decide) he rfl) fun σ H Q ⟨ι, F, ρ, S, r, h⟩ => ?_⟩
  refine tD.bind (g := fun _ => zlb) r h fun v dv ι1 F1 S1 H1 r1 w1 g1 h1 => ?_
  unfold zlb at h1
  cases ed : rd S1 dv with
  | none => simp only [ed] at h1; exact h1.elim
  | some d =>
    have vw := r1.st.vw w1 ed
    cases vw with
    | lst s w =>
      simp only [ed] at h1
      split at h1
      · rename_i hc
        exact .inl ⟨_, _, _, F1, rfl, .of s, r1.st.sub, w, hc, fun p ws hp ww => zoc r1.st g1 h1 ww hp⟩
      · exact h1.elim
    | tup s w =>
      rename_i p0 vs xs
      simp only [ed] at h1
      cases ei : zhj xs with
      | none => simp only [ei] at h1; exact h1.elim
      | some ns =>
        simp only [ei] at h1
        have ev := zmp w ei
        subst ev
        refine .inr ⟨_, ns, rfl, zbr r1.st.sub s, fun ns' p hp hs hn => ?_⟩
        have := isortI_eq hp hs
        subst this
        exact zoc r1.st g1 h1 (zl8 _) hn
    | _ => simp only [ed] at h1; exact h1.elim
end
end DL
set_option maxHeartbeats 8000000
namespace PySem
namespace DLSetT
open L2 PyProof.Rows
theorem few_of {α : Type} [DecidableEq α] : ∀ (l m : List α), l.Nodup → (∀ x ∈ l, x ∈ m) → l.length ≤ m.length
  | [], _, _, _ => Nat.zero_le _
  | x :: l, m, hn, hs => by
    rw [List.nodup_cons] at hn
    have hx : x ∈ m := hs x (List.mem_cons_self ..)
    have ih := few_of l (m.erase x) hn.2 fun y hy => (List.mem_erase_of_ne (fun z => hn.1 (by rw [← z]; exact hy))).mpr (hs y (List.mem_cons_of_mem _ hy))
    have := List.length_erase_of_mem hx
    have := List.length_pos_of_mem hx
    simp only [List.length_cons]
    omega
section
variable {P : Program} {w : World} {A : Around} {E : Value → Shared → Prop} {s : Shared}
end
end DLSetT
end PySem
set_option maxHeartbeats 4000000
namespace DL
open PySem PySem.Spec PyProof.Rows L2
/-! ## the order of tuples of ints -/
section
variable {X : Cx} {W : WX} {e a b c : Expr} {es : List Expr} {pos p : Pos} {K : PySem.W.Frag} {ι : List Addr} {F H : Hp} {S : zae} {mg : Str → Option Value}
end
end DL
set_option maxHeartbeats 4000000
namespace DL
open PySem PySem.Spec PyProof.Rows L2
section
variable {X : Cx} {W : WX} {e a b c : Expr} {es : List Expr} {pos p : Pos} {K : PySem.W.Frag} {ι : List Addr} {F H : Hp} {S : zae} {mg : Str → Option Value}
/-! ## while -/
/-! ## a live list walked by a for -/
/-! ## a comprehension over a live list -/
/-! ## a comprehension within a comprehension -/
theorem zoa {α : Type} [BEq α] {f : α → NameKind → NameKind} (x : α) : ∀ l : List (α × NameKind), ((l.map fun p => (p.1, f p.1 p.2)).lookup x = none ∧ l.lookup x = none) ∨ ∃ y k, (l.map fun p => (p.1, f p.1 p.2)).lookup x = some (f y k) ∧ l.lookup x = some k
  | [] => .inl ⟨rfl, rfl⟩
  | (a, k0) :: l => by
    simp only [List.map_cons, List.lookup]
    cases h : x == a with
    | true => exact .inr ⟨a, k0, rfl, rfl⟩
    | false => exact zoa (f := f) x l
theorem blkOk_in {N : List Str} {sc scope : Scope} {own : List (Str × Nat)} {cl : List (Str × Addr)} {C : Addr} {env : Env} (h : blkC N sc scope own = true) : BlkOk N (compEnvC sc cl C env).scope scope own := by
  have b := blkOk_by h
  refine ⟨b.kind, b.uniq, b.ix, fun y hy e => ?_, b.own⟩
  have f := b.free y hy e
  have key := zoa (f := fun n k => if (k == NameKind.free && env.scope.kind == .function && env.kindOf n == some .cell) then NameKind.cell else k) y.1 sc.names
  have e2 : (compEnvC sc cl C env).scope.names = sc.names.map fun p => (p.1, if (p.2 == NameKind.free && env.scope.kind == .function && env.kindOf p.1 == some .cell) then NameKind.cell else p.2) := by
    show (relabel sc env).names = _
    unfold relabel
    apply List.map_congr_left
    rintro ⟨n, k⟩ _
    dsimp only
    split <;> rfl
  rw [e2]
  rcases key with ⟨k1, k2⟩ | ⟨z, k, k1, k2⟩
  · rw [k2] at f
    rcases f with f | f <;> cases f
  · rw [k1]
    rw [k2] at f
    rcases f with f | f
    · cases f
      left
      rfl
    · cases f
      by_cases q : (NameKind.free == NameKind.free && env.scope.kind == .function && env.kindOf z == some .cell) = true
      · left; rw [if_pos q]
      · right; rw [if_neg q]
/-! ## x in a list of texts -/
def zlt : List D → Option (List Str)
  | [] => some []
  | .str x :: r => (zlt r).map (x :: ·)
  | _ => none
theorem strsOf_ok : ∀ {xs : List D} {vs : List V} {ss : List Str}, WdA K F vs xs → zlt xs = some ss → vs = ss.map V.str
  | [], _, _, .nil, e => by cases e; rfl
  | d :: xs, _, ss, .cons w ws, e => by
    cases w with
    | str x =>
      simp only [zlt] at e
      cases q : zlt xs with
      | none => rw [q] at e; cases e
      | some r => rw [q] at e; cases e; rw [strsOf_ok ws q]; rfl
    | _ => cases e
end
end DL
set_option maxHeartbeats 4000000
namespace L2
open PySem PySem.Spec PyProof.Rows
/-! ## an exception kept behind its clause -/
section
variable {X : Cx} {pins : List (Addr × Obj)} {σ : St} {H : Hp} {s : Shared}
end
section
variable {X : Cx} {x n : Str} {c : Value} {i j : Nat} {body suite : List Stmt} {b₀ : Stmt} {np hpos tpos : Pos} {tb : WX → TS} {Wout : WX}
end
end L2
namespace DL
open PySem PySem.Spec PyProof.Rows L2
section
variable {X : Cx} {W : WX} {e a b c : Expr} {es : List Expr} {pos p : Pos} {K : PySem.W.Frag} {ι : List Addr} {F H : Hp} {S : zae} {mg : Str → Option Value}
/-! ## try .. except X as n: y = n -/
/-! ## isinstance of a kept exception -/
def IsiT (K : PySem.W.Frag) (tv : Value) (t : List (Str × Bool)) : Prop := ∀ c b, t.lookup c = some b → ExcC K (He.ga K c) ∧ PySem.W.kitOne K (.ref (He.ga K c)) tv = some b
structure IsiD (K : PySem.W.Frag) (mg : Str → Option Value) (y : Str) (t : List (Str × Bool)) : Prop where
  ex : ∃ V, mg y = some (.ref V) ∧ IsiT K (.ref V) t
/-! ## is None, of anything -/
/-! ## what is never reached -/
end
end DL
set_option maxHeartbeats 4000000
namespace DL
open PySem PySem.Spec PyProof.Rows L2
section
variable {X : Cx} {W : WX} {e a b c : Expr} {es : List Expr} {pos p : Pos} {K : PySem.W.Frag} {ι : List Addr} {F H : Hp} {S : zae} {mg : Str → Option Value}
/-! ## l.count(x), l.index(x) -/
end
/-! ## a head with facts of one's own -/
/-! ## facts of classes of exceptions -/
def excB (K : PySem.W.Frag) (x : Str) : Bool := He.eqO (PySem.W.findIn K (.ref (He.ga K x)) "__getattribute__") (some (some (.builtin "BaseException.__getattribute__"))) && (He.eqO (PySem.W.findIn K (.ref (He.ga K x)) "__getattr__") (some none) &&
  (decide (PySem.W.subIn K (.ref (He.ga K x)) (.type "BaseException") = some true) && (PySem.W.hasDictIn K (He.ga K x) && (He.eqO (PySem.W.findIn K (.ref (He.ga K x)) "__class__") (some (some (.builtin "object.__class__"))) &&
  (He.eqO (PySem.W.specialIn K (.builtin "object.__class__") "__get__") (some (some (.builtin "getset_descriptor.__get__"))) && (decide (PySem.W.takesIn K (.builtin "object.__class__") = some true) && decide (PySem.W.mroIn K (He.ga K x) (.type "object") = some true)))))))
def kitB (K : PySem.W.Frag) (tv : Value) (t : List (Str × Bool)) : Bool := t.all fun q => excB K q.1 && decide (PySem.W.kitOne K (.ref (He.ga K q.1)) tv = some q.2)
end DL
set_option maxHeartbeats 4000000
namespace PySem.RevS
open PySem PySem.Spec PyProof.Rows HT
section
variable {prog : Program} {w : World} {A : Around} {E : Value → Shared → Prop} {s : Shared}
end
end PySem.RevS
namespace L2
open PySem PySem.Spec PyProof.Rows
section
variable {X : Cx} {e c : Expr} {te tc : TE} {pos p2 : Pos}
end
end L2
namespace DL
open PySem PySem.Spec PyProof.Rows L2
section
variable {X : Cx} {W : WX} {e a b c : Expr} {es : List Expr} {pos p p2 : Pos} {K : PySem.W.Frag} {ι : List Addr} {F H : Hp} {S : zae} {mg : Str → Option Value}
/-! ## x[::-1] -/
/-! ## a new list where it stands, to be changed later -/
/-! ## a, b, .. = x, y, .. -/
def setAll : List Nat → List DV → zan → Option zan
  | [], [], ρ => some ρ
  | i :: is, v :: vs, ρ => setAll is vs (ρ.set i (some v))
  | _, _, _ => none
structure DN (X : Cx) (tgs : List Expr) (is : List Nat) : Prop where
  pg : ∃ t, PGs X tgs t ∧ ∀ vs σ H Q ι F ρ S ds ρ', RR X.K ι F ρ S σ H → WVs X.K ι F vs ds → setAll is ds ρ = some ρ' → (∀ σ', RR X.K ι F ρ' S σ' H → Q σ' H) → t vs σ H Q
end
/-! ## defs that call themselves -/
section
variable {P : Program} {w : World} {K : PySem.W.Frag} {mg : Str → Option Value} {base : Heap}
end
end DL
set_option maxHeartbeats 4000000
namespace PySem.DLTup0
open PySem PySem.Spec PyProof.Rows
end PySem.DLTup0
namespace L2
open PySem PySem.Spec PyProof.Rows
end L2
namespace DL
open PySem PySem.Spec PyProof.Rows L2
section
variable {X : Cx} {W : WX} {pos : Pos}
/-! ## tuple * n, any n -/
/-! ## except X as e: return isinstance(e, C) -/
end
end DL
set_option maxHeartbeats 4000000
namespace DL
open PySem PySem.Spec PyProof.Rows L2
section
variable {X : Cx} {W : WX} {e a b c : Expr} {es : List Expr} {pos p : Pos} {K : PySem.W.Frag} {ι : List Addr} {F H : Hp} {S : zae} {mg : Str → Option Value}
/-! ## len(set(x)), x of ints -/
theorem zn0 (ns : List Int) : (sset ns).Nodup := (zck ns).imp fun h => by intro e; subst e; omega
end
end DL
set_option maxHeartbeats 4000000
namespace DL
open PySem PySem.Spec PyProof.Rows L2
section
variable {X : Cx} {W : WX} {e a b c : Expr} {es : List Expr} {pos p : Pos} {K : PySem.W.Frag} {ι : List Addr} {F H : Hp} {S : zae} {mg : Str → Option Value}
/-! ## min and max of two ints -/
/-! ## list(range(n)) -/
end
end DL
set_option maxHeartbeats 4000000
namespace DL
open PySem PySem.Spec PyProof.Rows L2
section
variable {X : Cx} {W : WX} {e a b c : Expr} {es : List Expr} {pos p : Pos} {K : PySem.W.Frag} {ι : List Addr} {F H : Hp} {S : zae} {mg : Str → Option Value}
/-! ## max and min of a list or a tuple of ints -/
end
end DL
set_option maxHeartbeats 4000000
namespace DL
open PySem PySem.Spec PyProof.Rows L2
section
variable {X : Cx} {W : WX} {e a b c : Expr} {es : List Expr} {pos p : Pos} {K : PySem.W.Frag} {ι : List Addr} {F H : Hp} {S : zae} {mg : Str → Option Value}
/-! ## what a frozen case tells: columns, count -/
def casFs (c : Cas) (ca la fa : Addr) : List (Str × V) := [("columns", .ref ca), ("count", .int (c.n : Nat)), ("labels", .ref la), ("facts", .ref fa)]
/-! ## labels and facts -/
theorem zhn (n m : Nat) : (zch n m).length = n * m := by
  unfold zch
  induction n with
  | zero => simp
  | succ n ih => rw [List.range_succ, List.flatMap_append, List.length_append, ih]; simp [Nat.succ_mul]
theorem cellKeys_get {n m r k : Nat} (hr : r < n) (hk : k < m) : (zch n m)[r * m + k]? = some [Sum.inl ((r : Nat) : Int), Sum.inl ((k : Nat) : Int)] := by
  induction n with
  | zero => omega
  | succ n ih =>
    have e : zch (n + 1) m = zch n m ++ (List.range m).map fun c => [Sum.inl ((n : Nat) : Int), Sum.inl ((c : Nat) : Int)] := by
      unfold zch
      rw [List.range_succ, List.flatMap_append]
      simp
    rw [e]
    by_cases h : r < n
    · rw [List.getElem?_append_left]
      · exact ih h
      · rw [zhn]
        have h1 : (r + 1) * m ≤ n * m := Nat.mul_le_mul_right m h
        rw [Nat.succ_mul] at h1
        omega
    · have : r = n := by omega
      subst this
      rw [List.getElem?_append_right (by rw [zhn]; omega), zhn]
      simp [show r * m + k - r * m = k by omega, hk]
theorem zjk (n m : Nat) : (zch n m).Nodup := by
  unfold zch
  rw [List.nodup_iff_pairwise_ne, List.pairwise_flatMap]
  refine ⟨fun r _ => ?_, List.pairwise_lt_range.imp fun {r r'} h x hx y hy e => ?_⟩
  · rw [List.pairwise_map]
    refine List.pairwise_lt_range.imp fun {a b} h e => ?_
    simp at e
    omega
  · obtain ⟨a, _, rfl⟩ := List.mem_map.mp hx
    obtain ⟨b, _, rfl⟩ := List.mem_map.mp hy
    simp at e
    omega
end
end DL
set_option maxHeartbeats 4000000
namespace DL
open PySem PySem.Spec PyProof.Rows L2
section
variable {X : Cx} {W : WX} {e a b c : Expr} {es : List Expr} {pos p apos : Pos} {K : PySem.W.Frag} {ι : List Addr} {F H : Hp} {S : zae} {mg : Str → Option Value}
/-! ## methods of a frozen case -/
structure MDef (P : Program) (w : World) (K : PySem.W.Frag) (mg : Str → Option Value) (base : Heap) (k : Nat) (C : Addr) (m : Str) (n : Nat) (g : Fn) : Prop where
  ex : ∃ f fd ps, FnG P w K mg base k f fd ps (spD K mg n g) ∧ Meth K C m f ∧ Binds K fd ps []
end
end DL
set_option maxHeartbeats 4000000
namespace DL
open PySem PySem.Spec PyProof.Rows L2
section
variable {X : Cx} {W : WX} {e a b c : Expr} {es : List Expr} {pos p apos : Pos} {K : PySem.W.Frag} {ι : List Addr} {F H : Hp} {S : zae} {mg : Str → Option Value}
/-! ## a case as it stands in the heap, live or frozen -/
abbrev labO (c : Cas) : HO := .dT ((zch c.n c.cols.length).zip (c.lab.map fun l => V.int (l : Nat)))
abbrev facO (c : Cas) (fs : Nat → Addr) : HO := .dK ((List.range c.facts.length).map fun i => (Sum.inl ((i : Nat) : Int), V.ref (fs i)))
structure CasR (K : PySem.W.Frag) (H : Hp) (a : Addr) (c : Cas) (dx ca la fa : Addr) (fs : Nat → Addr) : Prop where
  ins : H a = some (.ins (He.ga K "Case") dx (casFs c ca la fa))
  lb : Rd H la (labO c)
  ft : Rd H fa (facO c fs)
  fl : ∀ i, i < c.facts.length → H (fs i) = some (.lst ((c.facts.getD i []).map V.int))
  l1 : c.lab.length = c.n * c.cols.length
  l2 : c.facts.length = c.n * c.cols.length
  l3 : ∀ l ∈ c.lab, l < c.facts.length
structure CasL (K : PySem.W.Frag) (H : Hp) (a : Addr) (c : Cas) (dx ca la fa : Addr) (fs : Nat → Addr) : Prop where
  ins : H a = some (.ins (He.ga K "Case") dx (casFs c ca la fa))
  own : H dx = some (.own a)
  lb : H la = some (labO c)
  ft : H fa = some (facO c fs)
  fl : ∀ i, i < c.facts.length → H (fs i) = some (.lst ((c.facts.getD i []).map V.int))
  inj : ∀ i j, i < c.facts.length → j < c.facts.length → fs i = fs j → i = j
  l1 : c.lab.length = c.n * c.cols.length
  l2 : c.facts.length = c.n * c.cols.length
  l3 : ∀ l ∈ c.lab, l < c.facts.length
  l4 : c.lab.length < 1000
theorem CasL.r {H : Hp} {a : Addr} {c : Cas} {dx ca la fa : Addr} {fs : Nat → Addr} (h : CasL K H a c dx ca la fa fs) : CasR K H a c dx ca la fa fs := ⟨h.ins, .of h.lb, .of h.ft, h.fl, h.l1, h.l2, h.l3⟩
def Cas.at_ (c : Cas) (r k : Nat) : Nat := c.lab.getD (r * c.cols.length + k) 0
theorem cell_lt {c : Cas} {r k : Nat} (hr : r < c.n) (hk : k < c.cols.length) : r * c.cols.length + k < c.n * c.cols.length := by
  have h1 : (r + 1) * c.cols.length ≤ c.n * c.cols.length := Nat.mul_le_mul_right _ hr
  rw [Nat.succ_mul] at h1
  omega
theorem at_lt {c : Cas} {r k : Nat} (l1 : c.lab.length = c.n * c.cols.length) (l3 : ∀ l ∈ c.lab, l < c.facts.length) (hr : r < c.n) (hk : k < c.cols.length) : c.at_ r k < c.facts.length := by
  have h := cell_lt hr hk
  refine l3 _ ?_
  unfold Cas.at_
  rw [List.getD_eq_getElem?_getD, List.getElem?_eq_getElem (by omega)]
  exact List.getElem_mem _
/-! ## a method by its raw promise -/
structure MRaw (P : Program) (w : World) (K : PySem.W.Frag) (mg : Str → Option Value) (base : Heap) (k : Nat) (C : Addr) (m : Str) (sp : Sp) : Prop where
  ex : ∃ f fd ps, FnG P w K mg base k f fd ps sp ∧ Meth K C m f ∧ Binds K fd ps []
/-! ## known, learn -/
def Cas.learn (c : Cas) (r k : Nat) (v : Int) : Cas := if v ∈ c.facts.getD (c.at_ r k) [] then c else { c with facts := c.facts.set (c.at_ r k) (c.facts.getD (c.at_ r k) [] ++ [v]) }
structure Mutd (H H' : Hp) (la : Addr) (fs : Nat → Addr) (n : Nat) : Prop where
  keep : ∀ b o, H b = some o → b ≠ la → (∀ i, i < n → b ≠ fs i) → H' b = some o
  dom : ∀ b, H' b = none → H b = none
theorem Mutd.refl {la : Addr} {fs : Nat → Addr} {n : Nat} : Mutd H H la fs n := ⟨fun _ _ h _ _ => h, fun _ h => h⟩
theorem Mutd.trans {H1 H2 : Hp} {la : Addr} {fs : Nat → Addr} {n : Nat} (a : Mutd H H1 la fs n) (b : Mutd H1 H2 la fs n) : Mutd H H2 la fs n := ⟨fun c o h n1 n2 => b.keep c o (a.keep c o h n1 n2) n1 n2, fun c h => a.dom c (b.dom c h)⟩
theorem Mutd.push {la : Addr} {fs : Nat → Addr} {n : Nat} {p : Addr} (hp : H p = none) (o : HO) : Mutd H (upd H p o) la fs n := ⟨fun b u e _ _ => by rw [upd_ne (fun z => by rw [z, hp] at e; cases e)]; exact e, fun b h => zcv h⟩
theorem CasL.ne {H : Hp} {a : Addr} {c : Cas} {dx ca la fa : Addr} {fs : Nat → Addr} (L : CasL K H a c dx ca la fa fs) {i : Nat} (hi : i < c.facts.length) : a ≠ fs i ∧ dx ≠ fs i ∧ la ≠ fs i ∧ fa ≠ fs i := by
  have e := L.fl i hi
  refine ⟨fun h => ?_, fun h => ?_, fun h => ?_, fun h => ?_⟩
  · have := L.ins; rw [h, e] at this; cases this
  · have := L.own; rw [h, e] at this; cases this
  · have := L.lb; rw [h, e] at this; cases this
  · have := L.ft; rw [h, e] at this; cases this
theorem getD_set {α : Type} {xs : List α} {i j : Nat} {x d : α} (hi : i < xs.length) : (xs.set i x).getD j d = if i = j then x else xs.getD j d := by
  rw [List.getD_eq_getElem?_getD, List.getD_eq_getElem?_getD, List.getElem?_set]
  by_cases h : i = j
  · subst h; simp [hi]
  · simp [h]
theorem CasL.add {H : Hp} {a : Addr} {c : Cas} {dx ca la fa : Addr} {fs : Nat → Addr} (L : CasL K H a c dx ca la fa fs) {i : Nat} (hi : i < c.facts.length) (xs : List Int) : CasL K (upd H (fs i) (.lst (xs.map V.int))) a { c with facts := c.facts.set i xs } dx ca la fa fs := by
  obtain ⟨n1, n2, n3, n4⟩ := L.ne hi
  refine ⟨by rw [upd_ne n1]; exact L.ins, by rw [upd_ne n2]; exact L.own, by rw [upd_ne n3]; exact L.lb, by rw [upd_ne n4, L.ft]; show some (HO.dK _) = some (HO.dK _); rw [List.length_set], fun j hj => ?_, fun i j h1 h2 => L.inj i j (by simpa using h1) (by simpa using h2), L.l1, by simpa using L.l2, fun l hl => by simpa using L.l3 l hl, L.l4⟩
  have hj : j < c.facts.length := by simpa using hj
  show upd H (fs i) _ (fs j) = some (.lst (((c.facts.set i xs).getD j []).map V.int))
  rw [getD_set hi]
  by_cases h : i = j
  · subst h
    rw [if_pos rfl, upd_same]
  · rw [if_neg h, upd_ne (fun e => h (L.inj j i hj hi e).symm)]
    exact L.fl j hj
theorem Mutd.add {la : Addr} {fs : Nat → Addr} {n i : Nat} (hi : i < n) (hf : H (fs i) ≠ none) (o : HO) : Mutd H (upd H (fs i) o) la fs n := ⟨fun b u e _ h => by rw [upd_ne (h i hi)]; exact e, fun b h => zcv h⟩
end
end DL
set_option maxHeartbeats 4000000
namespace DL
open PySem PySem.Spec PyProof.Rows L2
section
variable {X : Cx} {W : WX} {K : PySem.W.Frag} {F H : Hp}
/-! ## join -/
def Cas.relab (c : Cas) (kept lost : Nat) : Cas := { c with lab := c.lab.map fun l => if l = lost then kept else l }
def Cas.join (c : Cas) (r1 k1 r2 k2 : Nat) : Cas := if c.at_ r1 k1 = c.at_ r2 k2 then c else (c.facts.getD (c.at_ r2 k2) []).foldl (fun d v => d.learn r1 k1 v) (c.relab (c.at_ r1 k1) (c.at_ r2 k2))
theorem zed (c : Cas) (r k : Nat) (v : Int) : (c.learn r k v).lab = c.lab ∧ (c.learn r k v).cols = c.cols ∧ (c.learn r k v).n = c.n ∧ (c.learn r k v).facts.length = c.facts.length := by
  unfold Cas.learn
  split
  · exact ⟨rfl, rfl, rfl, rfl⟩
  · exact ⟨rfl, rfl, rfl, by simp⟩
theorem zin (c : Cas) (r k r' k' : Nat) (v : Int) : (c.learn r k v).at_ r' k' = c.at_ r' k' := by
  obtain ⟨h1, h2, _⟩ := zed c r k v
  unfold Cas.at_
  rw [h1, h2]
theorem zci (c : Cas) (r k : Nat) (v : Int) (h : c.at_ r k < c.facts.length) (l : Nat) : (c.learn r k v).facts.getD l [] = if l = c.at_ r k ∧ v ∉ c.facts.getD l [] then c.facts.getD l [] ++ [v] else c.facts.getD l [] := by
  unfold Cas.learn
  by_cases hv : v ∈ c.facts.getD (c.at_ r k) []
  · rw [if_pos hv, if_neg]
    rintro ⟨e, h2⟩
    subst e
    exact h2 hv
  · rw [if_neg hv]
    show (c.facts.set _ _).getD l [] = _
    rw [getD_set h]
    by_cases e : c.at_ r k = l
    · subst e
      rw [if_pos rfl, if_pos ⟨rfl, hv⟩]
    · rw [if_neg e, if_neg]
      rintro ⟨e2, _⟩
      exact e e2.symm
theorem mapK_no {κ : Type} [DecidableEq κ] {k : κ} {v : V} : ∀ {l : List (κ × V)}, (∀ p ∈ l, p.1 ≠ k) → l.map (fun kv => if kv.1 = k then (kv.1, v) else kv) = l
  | [], _ => rfl
  | p :: l, h => by
    rw [List.map_cons, if_neg (h p (by simp)), mapK_no fun q hq => h q (by simp [hq])]
theorem mapK_zip {κ : Type} [DecidableEq κ] {v : Nat} : ∀ {ks : List κ} {vs : List Nat} {i : Nat} {k : κ}, ks.Nodup → ks[i]? = some k → i < vs.length →
    ((ks.zip (vs.map fun l => V.int ((l : Nat) : Int))).any fun kv => decide (kv.1 = k)) = true ∧ (ks.zip (vs.map fun l => V.int ((l : Nat) : Int))).map (fun kv => if kv.1 = k then (kv.1, V.int ((v : Nat) : Int)) else kv) = ks.zip ((vs.set i v).map fun l => V.int ((l : Nat) : Int))
  | [], _, _, _, _, h, _ => by simp at h
  | _ :: _, [], _, _, _, _, h => by simp at h
  | k0 :: ks, v0 :: vs, 0, k, nd, h1, _ => by
    simp at h1
    subst h1
    rw [List.nodup_cons] at nd
    refine ⟨by simp, ?_⟩
    rw [List.map_cons, List.zip_cons_cons, List.map_cons, if_pos rfl, mapK_no, List.set_cons_zero, List.map_cons, List.zip_cons_cons]
    intro p hp e
    exact nd.1 (e ▸ (List.of_mem_zip hp).1)
  | k0 :: ks, v0 :: vs, i + 1, k, nd, h1, h2 => by
    rw [List.nodup_cons] at nd
    simp only [List.getElem?_cons_succ] at h1
    have ne : ¬ k0 = k := fun e => nd.1 (e ▸ List.mem_of_getElem? h1)
    have ih := mapK_zip (v := v) (ks := ks) (vs := vs) (i := i) (k := k) nd.2 h1 (by simpa using h2)
    refine ⟨?_, ?_⟩
    · rw [List.map_cons, List.zip_cons_cons, List.any_cons, ih.1, Bool.or_true]
    · rw [List.map_cons, List.zip_cons_cons, List.map_cons, if_neg ne, ih.2, List.set_cons_succ, List.map_cons, List.zip_cons_cons]
theorem putK_zip {κ : Type} [DecidableEq κ] {v : Nat} {ks : List κ} {vs : List Nat} {i : Nat} {k : κ} (nd : ks.Nodup) (h1 : ks[i]? = some k) (h2 : i < vs.length) : putK (ks.zip (vs.map fun l => V.int ((l : Nat) : Int))) k (.int ((v : Nat) : Int)) = ks.zip ((vs.set i v).map fun l => V.int ((l : Nat) : Int)) := by
  have h := mapK_zip (v := v) nd h1 h2
  unfold putK
  rw [if_pos h.1, h.2]
theorem CasL.put {a : Addr} {c : Cas} {dx ca la fa : Addr} {fs : Nat → Addr} (L : CasL K H a c dx ca la fa fs) {i v : Nat} {k : List Key} (hk : (zch c.n c.cols.length)[i]? = some k) (hi : i < c.lab.length) (hv : v < c.facts.length) :
    CasL K (upd H la (.dT (putK ((zch c.n c.cols.length).zip (c.lab.map fun l => V.int (l : Nat))) k (.int ((v : Nat) : Int))))) a { c with lab := c.lab.set i v } dx ca la fa fs := by
  have na : a ≠ la := fun h => by have := L.ins; rw [h, L.lb] at this; cases this
  have nd : dx ≠ la := fun h => by have := L.own; rw [h, L.lb] at this; cases this
  have nf : fa ≠ la := fun h => by have := L.ft; rw [h, L.lb] at this; cases this
  refine ⟨by rw [upd_ne na]; exact L.ins, by rw [upd_ne nd]; exact L.own, ?_, by rw [upd_ne nf]; exact L.ft, fun j hj => ?_, L.inj, by simpa using L.l1, L.l2, fun l hl => ?_, by simpa using L.l4⟩
  · rw [upd_same, putK_zip (zjk _ _) hk hi]
  · rw [upd_ne (L.ne hj).2.2.1.symm]
    exact L.fl j hj
  · rcases List.mem_or_eq_of_mem_set hl with h | h
    · exact L.l3 l h
    · exact h ▸ hv
theorem CasL.push {a : Addr} {c : Cas} {dx ca la fa : Addr} {fs : Nat → Addr} (L : CasL K H a c dx ca la fa fs) {p : Addr} (hp : H p = none) (o : HO) : CasL K (upd H p o) a c dx ca la fa fs := by
  have n : ∀ b u, H b = some u → upd H p o b = some u := fun b u e => by rw [upd_ne (fun z => by rw [z, hp] at e; cases e)]; exact e
  exact ⟨n _ _ L.ins, n _ _ L.own, n _ _ L.lb, n _ _ L.ft, fun i hi => n _ _ (L.fl i hi), L.inj, L.l1, L.l2, L.l3, L.l4⟩
theorem zoo {r k : Nat} : ∀ (ys : List Int) (d : Cas), d.at_ r k < d.facts.length → 
    let e := ys.foldl (fun d v => d.learn r k v) d
    e.lab = d.lab ∧ e.cols = d.cols ∧ e.n = d.n ∧ e.facts.length = d.facts.length ∧ e.at_ r k = d.at_ r k ∧ (∀ l, l ≠ d.at_ r k → e.facts.getD l [] = d.facts.getD l []) ∧ (e.facts.getD (d.at_ r k) []).length ≤ (d.facts.getD (d.at_ r k) []).length + ys.length
  | [], d, _ => ⟨rfl, rfl, rfl, rfl, rfl, fun _ _ => rfl, Nat.le_refl _⟩
  | v :: ys, d, h => by
    obtain ⟨a1, a2, a3, a4⟩ := zed d r k v
    have a5 := zin d r k r k v
    have lf := zci d r k v h
    obtain ⟨b1, b2, b3, b4, b5, b6, b7⟩ := zoo ys (d.learn r k v) (by rw [a5, a4]; exact h)
    refine ⟨b1.trans a1, b2.trans a2, b3.trans a3, b4.trans a4, b5.trans a5, fun l hl => ?_, ?_⟩
    · rw [List.foldl_cons, b6 l (by rw [a5]; exact hl), lf l, if_neg (fun h => hl h.1)]
    · rw [a5] at b7
      have := lf (d.at_ r k)
      have h2 : ((d.learn r k v).facts.getD (d.at_ r k) []).length ≤ (d.facts.getD (d.at_ r k) []).length + 1 := by
        rw [this]
        split <;> simp
      rw [List.foldl_cons, List.length_cons]
      omega
theorem zpd {c : Cas} {kept lost r k : Nat} (l1 : c.lab.length = c.n * c.cols.length) (hr : r < c.n) (hk : k < c.cols.length) : (c.relab kept lost).at_ r k = if c.at_ r k = lost then kept else c.at_ r k := by
  have h := cell_lt hr hk
  unfold Cas.at_ Cas.relab
  simp only [List.getD_eq_getElem?_getD, List.getElem?_map, List.getElem?_eq_getElem (show r * c.cols.length + k < c.lab.length by omega), Option.map_some, Option.getD_some]
end
end DL
set_option maxHeartbeats 4000000
namespace DL
open PySem PySem.Spec PyProof.Rows L2
section
variable {X : Cx} {W : WX} {K : PySem.W.Frag} {F H : Hp}
/-! ## a new case -/
def Cas.new (cols : List (Option (List Int))) (n : Nat) : Cas := { cols := cols, n := n, lab := List.range (n * cols.length), facts := List.replicate (n * cols.length) [] }
structure Part (K : PySem.W.Frag) (H0 H : Hp) (x : Addr) (n m t : Nat) (dx ca la fa : Addr) (fs : Nat → Addr) : Prop where
  ins : H x = some (.ins (He.ga K "Case") dx [("columns", .ref ca), ("count", .int (n : Nat)), ("labels", .ref la), ("facts", .ref fa)])
  own : H dx = some (.own x)
  lb : H la = some (.dT (((zch n m).take t).zip ((List.range t).map fun l => V.int (l : Nat))))
  ft : H fa = some (.dK ((List.range t).map fun i => (Sum.inl ((i : Nat) : Int), V.ref (fs i))))
  fl : ∀ i, i < t → H (fs i) = some (.lst [])
  inj : ∀ i j, i < t → j < t → fs i = fs j → i = j
  f1 : H0 la = none
  f2 : H0 fa = none
  f3 : ∀ i, i < t → H0 (fs i) = none
  keep : ∀ b o, H0 b = some o → b ≠ x → H b = some o
  dom : ∀ b, H b = none → H0 b = none
theorem Part.done {H0 : Hp} {x : Addr} {n : Nat} {cols : List (Option (List Int))} {dx ca la fa : Addr} {fs : Nat → Addr} (hz : n * cols.length < 1000) (P : Part K H0 H x n cols.length (n * cols.length) dx ca la fa fs) : CasL K H x (Cas.new cols n) dx ca la fa fs := by
  have e : (Cas.new cols n).facts.length = n * cols.length := by simp [Cas.new]
  refine ⟨P.ins, P.own, ?_, ?_, fun i hi => ?_, fun i j hi hj h => P.inj i j (by omega) (by omega) h, by simp [Cas.new], by simp [Cas.new], fun l hl => ?_, by simp [Cas.new]; exact hz⟩
  · have := P.lb
    rw [List.take_of_length_le (by rw [zhn]; exact Nat.le_refl _)] at this
    exact this
  · show H fa = some (.dK ((List.range (Cas.new cols n).facts.length).map _))
    rw [e]
    exact P.ft
  · have := P.fl i (by omega)
    have g : (Cas.new cols n).facts.getD i [] = [] := by
      simp [Cas.new, List.getD_eq_getElem?_getD, List.getElem?_replicate]
      split <;> rfl
    rw [g]
    exact this
  · rw [e]
    simpa [Cas.new] using hl
theorem valV_none {κ : Type} [DecidableEq κ] {kvs : List (κ × V)} {k : κ} (h : ∀ p ∈ kvs, p.1 ≠ k) : valV kvs k = none := by
  induction kvs with
  | nil => rfl
  | cons p r ih => rw [valV_neg (h p (by simp)), ih fun q hq => h q (by simp [hq])]
theorem Part.cell {H0 : Hp} {x : Addr} {n m t r k : Nat} {dx ca la fa : Addr} {fs : Nat → Addr} (P : Part K H0 H x n m t dx ca la fa fs) (ht : t = r * m + k) (hr : r < n) (hk : k < m) {p q : Addr} (hp : H p = none)
    (hq : upd (upd H p (.tup [.int (r : Nat), .int (k : Nat)])) la (.dT (putK (((zch n m).take t).zip ((List.range t).map fun l => V.int (l : Nat))) [Sum.inl ((r : Nat) : Int), Sum.inl ((k : Nat) : Int)] (.int (t : Nat)))) q = none) :
    Part K H0 (upd (upd (upd (upd H p (.tup [.int (r : Nat), .int (k : Nat)])) la (.dT (putK (((zch n m).take t).zip ((List.range t).map fun l => V.int (l : Nat))) [Sum.inl ((r : Nat) : Int), Sum.inl ((k : Nat) : Int)] (.int (t : Nat))))) q (.lst [])) fa (.dK (putK ((List.range t).map fun i => (Sum.inl ((i : Nat) : Int), V.ref (fs i))) (Sum.inl ((t : Nat) : Int)) (.ref q)))) x n m (t + 1) dx ca la fa (fun i => if i = t then q else fs i) := by
  have hq1 : q ≠ la := fun e => by rw [e, upd_same] at hq; cases hq
  have hqH : H q = none := zcv (zcv hq)
  have hc : (zch n m)[t]? = some [Sum.inl ((r : Nat) : Int), Sum.inl ((k : Nat) : Int)] := by rw [ht]; exact cellKeys_get hr hk
  have htl : t < (zch n m).length := (List.getElem?_eq_some_iff.mp hc).1
  have ne : ∀ {b : Addr} {o : HO}, H b = some o → b ≠ la → b ≠ fa → (upd (upd (upd (upd H p (.tup [.int (r : Nat), .int (k : Nat)])) la (.dT (putK (((zch n m).take t).zip ((List.range t).map fun l => V.int (l : Nat))) [Sum.inl ((r : Nat) : Int), Sum.inl ((k : Nat) : Int)] (.int (t : Nat))))) q (.lst [])) fa (.dK (putK ((List.range t).map fun i => (Sum.inl ((i : Nat) : Int), V.ref (fs i))) (Sum.inl ((t : Nat) : Int)) (.ref q)))) b = some o := fun {b o} e h1 h2 => by
    rw [upd_ne h2, upd_ne (fun z => by rw [z, hqH] at e; cases e), upd_ne h1, upd_ne (fun z => by rw [z, hp] at e; cases e)]
    exact e
  have lf : la ≠ fa := fun e => by have := P.lb; rw [e, P.ft] at this; cases this
  have xl : x ≠ la := fun e => by have := P.ins; rw [e, P.lb] at this; cases this
  have xf : x ≠ fa := fun e => by have := P.ins; rw [e, P.ft] at this; cases this
  refine ⟨ne P.ins xl xf, ne P.own (fun e => by have := P.own; rw [e, P.lb] at this; cases this) (fun e => by have := P.own; rw [e, P.ft] at this; cases this), ?_, ?_, fun i hi => ?_, fun i j hi hj h => ?_, P.f1, P.f2, fun i hi => ?_, fun b o e h => ?_, fun b h => P.dom b (zcv (zcv (zcv (zcv h))))⟩
  · rw [upd_ne lf, upd_ne (Ne.symm hq1), upd_same]
    congr 2
    rw [putK_new _ (valV_none fun pp hpp e => by
      have h1 := (List.of_mem_zip hpp).1
      rw [e] at h1
      obtain ⟨j, hj, hj2⟩ := List.mem_take_iff_getElem.mp h1
      have nd := zjk n m
      have : j = t := (List.getElem_inj nd).mp (hj2.trans (by rw [List.getElem?_eq_getElem htl] at hc; exact (Option.some.inj hc).symm))
      omega)]
    have e1 : (zch n m).take (t + 1) = (zch n m).take t ++ [[Sum.inl ((r : Nat) : Int), Sum.inl ((k : Nat) : Int)]] := by rw [List.take_succ, hc]; rfl
    rw [e1, List.range_succ, List.map_append, List.zip_append (by simp; omega)]
    rfl
  · rw [upd_same]
    congr 2
    rw [putK_new _ (valV_none fun pp hpp e => by
      obtain ⟨j, hj, rfl⟩ := List.mem_map.mp hpp
      have := List.mem_range.mp hj
      simp at e
      omega)]
    rw [List.range_succ, List.map_append]
    congr 1
    · refine List.map_congr_left fun i hi => ?_
      have := List.mem_range.mp hi
      rw [if_neg (by omega)]
    · simp
  · by_cases e : i = t
    · subst e
      show upd _ fa _ (if i = i then q else fs i) = _
      rw [if_pos rfl, upd_ne (fun z => by rw [z, P.ft] at hqH; cases hqH), upd_same]
    · simp only [if_neg e]
      have := P.fl i (by omega)
      exact ne this (fun z => by rw [z, P.lb] at this; cases this) (fun z => by rw [z, P.ft] at this; cases this)
  · by_cases e1 : i = t
    · by_cases e2 : j = t
      · omega
      · simp only [if_pos e1, if_neg e2] at h
        have := P.fl j (by omega)
        rw [← h, hqH] at this
        cases this
    · by_cases e2 : j = t
      · simp only [if_neg e1, if_pos e2] at h
        have := P.fl i (by omega)
        rw [h, hqH] at this
        cases this
      · simp only [if_neg e1, if_neg e2] at h
        exact P.inj i j (by omega) (by omega) h
  · by_cases e : i = t
    · simp only [if_pos e]; exact P.dom q hqH
    · simp only [if_neg e]; exact P.f3 i (by omega)
  · exact ne (P.keep b o e h) (fun z => by rw [z, P.f1] at e; cases e) (fun z => by rw [z, P.f2] at e; cases e)
end
end DL
set_option maxHeartbeats 4000000
namespace DL
open PySem PySem.Spec PyProof.Rows L2
section
variable {X : Cx} {W : WX} {K : PySem.W.Frag} {F H : Hp}
/-! ## dict(d), d a dict whose keys are tuples -/
end
end DL
set_option maxHeartbeats 4000000
namespace DL
open PySem PySem.Spec PyProof.Rows L2
section
variable {X : Cx} {W : WX} {K : PySem.W.Frag} {F H : Hp} {e : Expr} {es : List Expr} {pos p : Pos}
/-! ## C(..), by a raw promise -/
structure KRaw (P : Program) (w : World) (K : PySem.W.Frag) (mg : Str → Option Value) (base : Heap) (k : Nat) (x : Str) (C : Addr) (sp : Sp) : Prop where
  ex : ∃ f fd ps, FnG P w K mg base k f fd ps sp ∧ Mk K C f ∧ Binds K fd ps [] ∧ mg x = some (.ref C)
/-! ## copied -/
structure CasZ (K : PySem.W.Frag) (H : Hp) (a : Addr) (c : Cas) (dx ca la fa : Addr) (fs : Nat → Addr) : Prop where
  ins : H a = some (.ins (He.ga K "Case") dx (casFs c ca la fa))
  lb : ∃ lo, H la = some (.frz lo (labO c))
  ft : ∃ fo, H fa = some (.frz fo (facO c fs))
  fl : ∀ i, i < c.facts.length → H (fs i) = some (.lst ((c.facts.getD i []).map V.int))
  l1 : c.lab.length = c.n * c.cols.length
  l2 : c.facts.length = c.n * c.cols.length
  l3 : ∀ l ∈ c.lab, l < c.facts.length
structure Fts (H1 H : Hp) (D : Addr) (c : Cas) (t : Nat) (fs : Nat → Addr) : Prop where
  d : H D = some (.dK ((List.range t).map fun i => (Sum.inl ((i : Nat) : Int), V.ref (fs i))))
  fl : ∀ i, i < t → H (fs i) = some (.lst ((c.facts.getD i []).map V.int))
  inj : ∀ i j, i < t → j < t → fs i = fs j → i = j
  fr : ∀ i, i < t → H1 (fs i) = none
  keep : ∀ b o, H1 b = some o → H b = some o
  dom : ∀ b, H b = none → H1 b = none
end
end DL
set_option maxHeartbeats 4000000
namespace DL
open PySem PySem.Spec PyProof.Rows L2
section
variable {X : Cx} {W : WX} {K : PySem.W.Frag} {mg : Str → Option Value} {ι : List Addr} {F H : Hp} {S : zae} {e a b c : Expr} {es : List Expr} {pos p : Pos}
/-! ## a live case in a slot -/
def Own (a dx la fa : Addr) (fs : Nat → Addr) (n : Nat) (b : Addr) : Prop := b = a ∨ b = dx ∨ b = la ∨ b = fa ∨ ∃ i, i < n ∧ b = fs i
structure LiveC (K : PySem.W.Frag) (ι : List Addr) (F H : Hp) (a : Addr) (c : Cas) (O : Addr → Prop) : Prop where
  kit : CasK K
  of : ∃ dx ca la fa fs cv, CasL K H a c dx ca la fa fs ∧ SqT K F ca cv ∧ ColVs K F cv c.cols ∧ ∀ b, O b ↔ Own a dx la fa fs c.facts.length b
  out : ∀ b, O b → b ∉ ι
  free : ∀ b, O b → F b = none
theorem CasL.own_some {H : Hp} {a : Addr} {c : Cas} {dx ca la fa : Addr} {fs : Nat → Addr} (L : CasL K H a c dx ca la fa fs) {b : Addr} (h : Own a dx la fa fs c.facts.length b) : ∃ o, H b = some o ∧ NoT o := by
  rcases h with rfl | rfl | rfl | rfl | ⟨i, hi, rfl⟩
  · exact ⟨_, L.ins, fun _ z => nomatch z⟩
  · exact ⟨_, L.own, fun _ z => nomatch z⟩
  · exact ⟨_, L.lb, fun _ z => nomatch z⟩
  · exact ⟨_, L.ft, fun _ z => nomatch z⟩
  · exact ⟨_, L.fl i hi, fun _ z => nomatch z⟩
theorem CasL.keep {H H' : Hp} {a : Addr} {c : Cas} {dx ca la fa : Addr} {fs : Nat → Addr} (L : CasL K H a c dx ca la fa fs) (k : ∀ b o, Own a dx la fa fs c.facts.length b → H b = some o → H' b = some o) : CasL K H' a c dx ca la fa fs :=
  ⟨k _ _ (.inl rfl) L.ins, k _ _ (.inr (.inl rfl)) L.own, k _ _ (.inr (.inr (.inl rfl))) L.lb, k _ _ (.inr (.inr (.inr (.inl rfl)))) L.ft, fun i hi => k _ _ (.inr (.inr (.inr (.inr ⟨i, hi, rfl⟩)))) (L.fl i hi), L.inj, L.l1, L.l2, L.l3, L.l4⟩
structure GrowL (O : Addr → Prop) (ι : List Addr) (F H : Hp) (ι' : List Addr) (F' H' : Hp) : Prop where
  pre : ι <+: ι'
  sf : Same F F'
  keep : ∀ b o, H b = some o → b ∉ ι → ¬ O b → H' b = some o
  new : ∀ b o, H b = some o → NoT o → F b = none → b ∉ ι → ¬ O b → F' b = none
  nio : ∀ b ∈ ι', b ∈ ι ∨ H b = none
  dom : ∀ b, H' b = none → H b = none
theorem GrowL.of {O : Addr → Prop} {ι' : List Addr} {F' H' : Hp} (g : Grow ι F H ι' F' H') : GrowL O ι F H ι' F' H' := ⟨g.pre, g.sf, fun b o h n _ => g.keep b o h n, fun b o h t f n _ => g.new b o h t f n, g.nio, g.dom⟩
theorem GrowL.refl {O : Addr → Prop} : GrowL O ι F H ι F H := .of .refl
theorem GrowL.trans {O : Addr → Prop} {ι1 ι2 : List Addr} {F1 F2 H1 H2 : Hp} (a : GrowL O ι F H ι1 F1 H1) (b : GrowL O ι1 F1 H1 ι2 F2 H2) : GrowL O ι F H ι2 F2 H2 := by
  have full : ∀ c o, H c = some o → H1 c ≠ none := fun c o h z => by rw [a.dom c z] at h; cases h
  have out : ∀ c o, H c = some o → c ∉ ι → c ∉ ι1 := fun c o h n m => by
    rcases a.nio c m with q | q
    · exact n q
    · rw [h] at q; cases q
  refine ⟨a.pre.trans b.pre, a.sf.trans b.sf, fun c o h n no => b.keep c o (a.keep c o h n no) (out c o h n) no, fun c o h t f n no => b.new c o (a.keep c o h n no) t (a.new c o h t f n no) (out c o h n) no, fun c m => ?_, fun c h => a.dom c (b.dom c h)⟩
  rcases b.nio c m with q | q
  · exact a.nio c q
  · exact .inr (a.dom c q)
theorem Grow.live {O : Addr → Prop} {ι1 ι2 : List Addr} {F1 F2 H1 H2 : Hp} (a : Grow ι F H ι1 F1 H1) (fr : ∀ b, O b → H b = none) (b : GrowL O ι1 F1 H1 ι2 F2 H2) : Grow ι F H ι2 F2 H2 := by
  have out : ∀ c o, H c = some o → c ∉ ι → c ∉ ι1 := fun c o h n m => by
    rcases a.nio c m with q | q
    · exact n q
    · rw [h] at q; cases q
  have no : ∀ c o, H c = some o → ¬ O c := fun c o h z => by rw [fr c z] at h; cases h
  refine ⟨a.pre.trans b.pre, a.sf.trans b.sf, fun c o h n => b.keep c o (a.keep c o h n) (out c o h n) (no c o h), fun c o h t f n => b.new c o (a.keep c o h n) t (a.new c o h t f n) (out c o h n) (no c o h), fun c m => ?_, fun c h => a.dom c (b.dom c h)⟩
  rcases b.nio c m with q | q
  · exact a.nio c q
  · exact .inr (a.dom c q)
theorem LiveC.grow {a : Addr} {c : Cas} {O : Addr → Prop} {ι' : List Addr} {F' H' : Hp} (L : LiveC K ι F H a c O) (g : Grow ι F H ι' F' H') : LiveC K ι' F' H' a c O := by
  obtain ⟨dx, ca, la, fa, fs, cv, L1, sq, cw, ho⟩ := L.of
  have sm : ∀ b, O b → ∃ o, H b = some o ∧ NoT o := fun b h => L1.own_some ((ho b).mp h)
  refine ⟨L.kit, ⟨dx, ca, la, fa, fs, cv, L1.keep fun b o h e => g.keep b o e (L.out b ((ho b).mpr h)), zbr g.sf sq, cw.mono g.sf, ho⟩, fun b h hm => ?_, fun b h => ?_⟩
  · obtain ⟨o, e, _⟩ := sm b h
    rcases g.nio b hm with q | q
    · exact L.out b h q
    · rw [e] at q; cases q
  · obtain ⟨o, e, t⟩ := sm b h
    exact g.new b o e t (L.free b h) (L.out b h)
inductive RL where
  | nx (ρ : zan) (S : zae) (c : Cas) | fin (r : RS)
abbrev CFn := zan → zae → Cas → RL
def PostF (K : PySem.W.Frag) (mg : Str → Option Value) (W : WX) (O : Addr → Prop) (ι : List Addr) (F H : Hp) (r : RS) (D : Ends) : Prop := match r with
  | .rt dv S' => ∀ v ι' F' H', GrowL O ι F H ι' F' H' → StR K ι' F' S' H' → WV K ι' F' v dv → D.rt v H'
  | .ex c ρ' S' => ∀ C σ' ι' F' H', GrowL O ι F H ι' F' H' → RR K ι' F' ρ' S' σ' H' → mg c = some (.ref C) → W (.ref C) none σ' H'
  | _ => False
def PostL (K : PySem.W.Frag) (mg : Str → Option Value) (W : WX) (k : Nat) (a : Addr) (O : Addr → Prop) (ι : List Addr) (F H : Hp) (r : RL) (D : Ends) : Prop := match r with
  | .nx ρ' S' c' => ∀ σ' ι' F' H', GrowL O ι F H ι' F' H' → RR K ι' F' ρ' S' σ' H' → σ'[k]? = some (some (.ref a)) → LiveC K ι' F' H' a c' O → D.nx σ' H'
  | .fin r => PostF K mg W O ι F H r D
theorem PostF.grow {O : Addr → Prop} {r : RS} {D : Ends} {ι1 : List Addr} {F1 H1 : Hp} (h : PostF K mg W O ι F H r D) (g : GrowL O ι F H ι1 F1 H1) : PostF K mg W O ι1 F1 H1 r D := by
  cases r with
  | rt dv S' => exact fun v ι' F' H' g' st w => h v ι' F' H' (g.trans g') st w
  | ex c ρ' S' => exact fun C σ' ι' F' H' g' r m => h C σ' ι' F' H' (g.trans g') r m
  | _ => exact h
theorem PostL.grow {k : Nat} {a : Addr} {O : Addr → Prop} {r : RL} {D : Ends} {ι1 : List Addr} {F1 H1 : Hp} (h : PostL K mg W k a O ι F H r D) (g : GrowL O ι F H ι1 F1 H1) : PostL K mg W k a O ι1 F1 H1 r D := by
  cases r with
  | nx ρ' S' c' => exact fun σ' ι' F' H' g' r s l => h σ' ι' F' H' (g.trans g') r s l
  | fin r => exact PostF.grow (r := r) h g
def tL (X : Cx) (W : WX) (k : Nat) (f : CFn) : TS := fun D σ H => ∃ ι F ρ S a c O, RR X.K ι F ρ S σ H ∧ σ[k]? = some (some (.ref a)) ∧ LiveC X.K ι F H a c O ∧ PostL X.K X.mg W k a O ι F H (f ρ S c) D
structure DC (X : Cx) (W : WX) (k : Nat) (st : Stmt) (f : CFn) : Prop where
  ps : ∃ t, PS X st t ∧ ∀ D σ H, tL X W k f D σ H → t D σ H
structure DCs (X : Cx) (W : WX) (k : Nat) (st : List Stmt) (f : CFn) : Prop where
  ps : ∃ t, PSs X st t ∧ ∀ D σ H, tL X W k f D σ H → t D σ H
def lSeq (f g : CFn) : CFn := fun ρ S c => match f ρ S c with
  | .nx ρ' S' c' => g ρ' S' c'
  | r => r
variable {k : Nat}
theorem tL.seq {f g : CFn} {D : Ends} {σ : L2.St} {H : Hp} (h : tL X W k (lSeq f g) D σ H) : tL X W k f { D with nx := tL X W k g D } σ H := by
  obtain ⟨ι, F, ρ, S, a, c, O, r, s, l, h⟩ := h
  refine ⟨ι, F, ρ, S, a, c, O, r, s, l, ?_⟩
  unfold lSeq at h
  cases q : f ρ S c with
  | nx ρ' S' c' => rw [q] at h; exact fun σ' ι' F' H' g' r' s' l' => ⟨ι', F', ρ', S', a, c', O, r', s', l', PostL.grow (r := g ρ' S' c') h g'⟩
  | fin rr =>
    rw [q] at h
    have h : PostF X.K X.mg W O ι F H rr D := h
    show PostF X.K X.mg W O ι F H rr _
    cases rr with
    | rt dv S' => exact h
    | ex c ρ' S' => exact h
    | _ => exact h
/-! ## an expression, then more -/
/-! ## for -/
theorem zpb {σ : L2.St} {k : Nat} : ∀ {vs : List Nat}, k ∉ vs → (wipe σ vs)[k]? = σ[k]?
  | [], _ => rfl
  | v :: vs, h => by
    show ((wipe σ vs).set v none)[k]? = _
    rw [List.getElem?_set_ne (fun e => h (by simp [e])), zpb fun m => h (by simp [m])]
theorem Only.get {sl : List Nat} {σ σ' : L2.St} (o : Only sl σ σ') {k : Nat} (h : k ∉ sl) : σ'[k]? = σ[k]? := by
  have := o sl fun i hi => hi
  rw [← zpb (σ := σ') h, ← zpb (σ := σ) h, this]
abbrev ICn := zan → zae → Cas → Res (List D)
def tIL (X : Cx) (W : WX) (k : Nat) (f : ICn) : TI := fun σ H R => ∃ ι F ρ S a c O, RR X.K ι F ρ S σ H ∧ σ[k]? = some (some (.ref a)) ∧ LiveC X.K ι F H a c O ∧ Post X.K X.mg (fun c d H' => W c d σ H') ι F H (f ρ S c) fun ds ι' F' H' => ∀ J, ItOk X.K F' ds J → R J H'
structure DIL (X : Cx) (W : WX) (k : Nat) (tg e : Expr) (f : ICn) : Prop where
  pi : ∃ t, PI X tg e t ∧ ∀ σ H R, tIL X W k f σ H R → t σ H R
end
end DL
set_option maxHeartbeats 4000000
namespace DL
open PySem PySem.Spec PyProof.Rows L2
section
variable {X : Cx} {W : WX} {K : PySem.W.Frag} {mg : Str → Option Value} {ι : List Addr} {F H : Hp} {S : zae} {e a b c : Expr} {es : List Expr} {pos p apos : Pos} {k : Nat}
/-! ## learn and join of the live case -/
/-! ## the live case frozen -/
theorem WV.same {F F' : Hp} (sm : Same F F') {v : V} {dv : DV} (h : WV K ι F v dv) : WV K ι F' v dv := by
  cases dv with
  | dat d => exact Wd.mono sm h
  | obj k => exact h
  | scr ns =>
    obtain ⟨a, h1, h2⟩ := h
    exact ⟨a, h1, sm.seq h2⟩
  | exn c p =>
    obtain ⟨a, h1, h2⟩ := h
    exact ⟨a, h1, h2.mono sm⟩
end
end DL
set_option maxHeartbeats 4000000
namespace DL
open PySem PySem.Spec PyProof.Rows L2
section
variable {X : Cx} {W : WX} {K : PySem.W.Frag} {mg : Str → Option Value} {ι : List Addr} {F H : Hp} {S : zae} {e a b c : Expr} {es : List Expr} {pos p apos : Pos} {k : Nat}
/-! ## a new live case -/
abbrev NFn := zan → zae → Res Cas
structure Ext (H H' : Hp) : Prop where
  same : Same H H'
  dom : ∀ b, H' b = none → H b = none
def tNewC (X : Cx) (W : WX) (f : NFn) : TE := fun σ H Q => ∃ ι F ρ S, RR X.K ι F ρ S σ H ∧ Post X.K X.mg (fun c d H' => W c d σ H') ι F H (f ρ S) fun c ι' F' H1 => ∀ a O H2, Ext H1 H2 → (∀ b, O b → H1 b = none) → LiveC X.K ι' F' H2 a c O → Q (.ref a) H2
structure DNew (X : Cx) (W : WX) (e : Expr) (f : NFn) : Prop where
  pe : PE X e (tNewC X W f)
theorem StR.ext {H' : Hp} (st : StR K ι F S H) (x : Ext H H') : StR K ι F S H' := ⟨fun b o e => x.same b o (st.sub b o e), st.len, st.nd, fun b hb z => st.full b hb (x.dom b z), fun j ds e =>
  let ⟨a, vs, h1, h2, h3, h4⟩ := st.cell j ds e
  ⟨a, vs, h1, x.same _ _ h2, h3, h4⟩⟩
theorem Ext.grow {H' : Hp} (x : Ext H H') : Grow ι F H ι F H' := ⟨List.prefix_rfl, Same.refl _, fun b o e _ => x.same b o e, fun _ _ _ _ f _ => f, fun _ h => .inl h, x.dom⟩
/-! ## Case(columns, n) -/
/-! ## x.copied() -/
theorem ColVs.length : ∀ {vs : List V} {cs : List (Option (List Int))}, ColVs K F vs cs → vs.length = cs.length
  | [], [], _ => rfl
  | _ :: _, _ :: _, ⟨_, h⟩ => by simp [ColVs.length h]
  | [], _ :: _, h => h.elim
  | _ :: _, [], h => h.elim
end
end DL
set_option maxHeartbeats 4000000
namespace DL
open PySem PySem.Spec PyProof.Rows L2
section
variable {X : Cx} {W : WX} {K : PySem.W.Frag} {mg : Str → Option Value} {ι : List Addr} {F H : Hp} {S : zae} {e a b c : Expr} {es : List Expr} {pos p apos : Pos} {k : Nat}
/-! ## the cells of a frozen case, walked -/
/-! ## the class statement, what the head must show of it -/
end
end DL
set_option maxHeartbeats 4000000
namespace DL
open PySem PySem.Spec PyProof.Rows L2
section
variable {X : Cx} {W : WX} {e a b c : Expr} {es : List Expr} {pos p apos : Pos} {K : PySem.W.Frag} {ι : List Addr} {F H : Hp} {S : zae} {mg : Str → Option Value} {k : Nat}
/-! ## x.m() on a frozen case -/
/-! ## two slots at once, beside the live case -/
end
end DL
set_option maxHeartbeats 4000000
namespace PySem
namespace DLSort
open L2 PyProof.Rows PySem.W
section
variable {prog : Program} {w : World} {A : Around} {E : Value → Shared → Prop} {s : Shared}
end
end DLSort
end PySem
namespace DL
open PySem PySem.Spec PyProof.Rows L2
section
variable {X : Cx} {W : WX} {K : PySem.W.Frag} {mg : Str → Option Value} {ι : List Addr} {F H : Hp} {S : zae} {e a b c : Expr} {es : List Expr} {pos p apos : Pos} {k : Nat}
/-! ## sorted(x.labels) -/
end
end DL
set_option maxHeartbeats 4000000
namespace DL
open PySem PySem.Spec PyProof.Rows L2
section
variable {X : Cx} {W : WX} {K : PySem.W.Frag} {mg : Str → Option Value} {ι : List Addr} {F H : Hp} {S : zae} {e a b c : Expr} {es : List Expr} {pos p : Pos}
/-! ## a dict that is made and filled in place, in a slot -/
abbrev Map := List (Key × Int)
abbrev mapO (m : Map) : HO := .dK (m.map fun p => (p.1, V.int p.2))
structure LiveM (K : PySem.W.Frag) (ι : List Addr) (F H : Hp) (a : Addr) (m : Map) (O : Addr → Prop) : Prop where
  of : H a = some (mapO m)
  own : ∀ b, O b ↔ b = a
  out : a ∉ ι
  free : F a = none
theorem LiveM.grow {a : Addr} {m : Map} {O : Addr → Prop} {ι' : List Addr} {F' H' : Hp} (L : LiveM K ι F H a m O) (g : Grow ι F H ι' F' H') : LiveM K ι' F' H' a m O := by
  refine ⟨g.keep a _ L.of L.out, L.own, fun hm => ?_, g.new a _ L.of (fun _ z => nomatch z) L.free L.out⟩
  rcases g.nio a hm with q | q
  · exact L.out q
  · rw [L.of] at q; cases q
inductive RM where
  | nx (ρ : zan) (S : zae) (c : Map) | fin (r : RS)
abbrev MFn := zan → zae → Map → RM
def PostM (K : PySem.W.Frag) (mg : Str → Option Value) (W : WX) (k : Nat) (a : Addr) (O : Addr → Prop) (ι : List Addr) (F H : Hp) (r : RM) (D : Ends) : Prop := match r with
  | .nx ρ' S' c' => ∀ σ' ι' F' H', GrowL O ι F H ι' F' H' → RR K ι' F' ρ' S' σ' H' → σ'[k]? = some (some (.ref a)) → LiveM K ι' F' H' a c' O → D.nx σ' H'
  | .fin r => PostF K mg W O ι F H r D
theorem PostM.grow {k : Nat} {a : Addr} {O : Addr → Prop} {r : RM} {D : Ends} {ι1 : List Addr} {F1 H1 : Hp} (h : PostM K mg W k a O ι F H r D) (g : GrowL O ι F H ι1 F1 H1) : PostM K mg W k a O ι1 F1 H1 r D := by
  cases r with
  | nx ρ' S' c' => exact fun σ' ι' F' H' g' r s l => h σ' ι' F' H' (g.trans g') r s l
  | fin r => exact PostF.grow (r := r) h g
def tLM (X : Cx) (W : WX) (k : Nat) (f : MFn) : TS := fun D σ H => ∃ ι F ρ S a c O, RR X.K ι F ρ S σ H ∧ σ[k]? = some (some (.ref a)) ∧ LiveM X.K ι F H a c O ∧ PostM X.K X.mg W k a O ι F H (f ρ S c) D
structure DM (X : Cx) (W : WX) (k : Nat) (st : Stmt) (f : MFn) : Prop where
  ps : ∃ t, PS X st t ∧ ∀ D σ H, tLM X W k f D σ H → t D σ H
structure DMs (X : Cx) (W : WX) (k : Nat) (st : List Stmt) (f : MFn) : Prop where
  ps : ∃ t, PSs X st t ∧ ∀ D σ H, tLM X W k f D σ H → t D σ H
def mSeq (f g : MFn) : MFn := fun ρ S c => match f ρ S c with
  | .nx ρ' S' c' => g ρ' S' c'
  | r => r
variable {k : Nat}
theorem tLM.seq {f g : MFn} {D : Ends} {σ : L2.St} {H : Hp} (h : tLM X W k (mSeq f g) D σ H) : tLM X W k f { D with nx := tLM X W k g D } σ H := by
  obtain ⟨ι, F, ρ, S, a, c, O, r, s, l, h⟩ := h
  refine ⟨ι, F, ρ, S, a, c, O, r, s, l, ?_⟩
  unfold mSeq at h
  cases q : f ρ S c with
  | nx ρ' S' c' => rw [q] at h; exact fun σ' ι' F' H' g' r' s' l' => ⟨ι', F', ρ', S', a, c', O, r', s', l', PostM.grow (r := g ρ' S' c') h g'⟩
  | fin rr =>
    rw [q] at h
    have h : PostF X.K X.mg W O ι F H rr D := h
    show PostF X.K X.mg W O ι F H rr _
    cases rr with
    | rt dv S' => exact h
    | ex c ρ' S' => exact h
    | _ => exact h
/-! ## an expression, then more -/
/-! ## for -/
abbrev IMn := zan → zae → Map → Res (List D)
def tIM (X : Cx) (W : WX) (k : Nat) (f : IMn) : TI := fun σ H R => ∃ ι F ρ S a c O, RR X.K ι F ρ S σ H ∧ σ[k]? = some (some (.ref a)) ∧ LiveM X.K ι F H a c O ∧ Post X.K X.mg (fun c d H' => W c d σ H') ι F H (f ρ S c) fun ds ι' F' H' => ∀ J, ItOk X.K F' ds J → R J H'
structure DIM (X : Cx) (W : WX) (k : Nat) (tg e : Expr) (f : IMn) : Prop where
  pi : ∃ t, PI X tg e t ∧ ∀ σ H R, tIM X W k f σ H R → t σ H R
end
end DL
set_option maxHeartbeats 4000000
namespace DL
open PySem PySem.Spec PyProof.Rows L2
section
variable {X : Cx} {W : WX} {K : PySem.W.Frag} {mg : Str → Option Value} {ι : List Addr} {F H : Hp} {S : zae} {e a b c : Expr} {es : List Expr} {pos p apos : Pos} {k : Nat}
/-! ## reading and filling a dict in place -/
def mGet (m : Map) (k : Key) : Option Int := (m.find? fun p => decide (p.1 = k)).map (·.2)
theorem RR.put {ρ : zan} {σ : L2.St} {a : Addr} {m : Map} {O : Addr → Prop} {m' : Map} (r : RR K ι F ρ S σ H) (l : LiveM K ι F H a m O) : RR K ι F ρ S σ (upd H a (mapO m')) ∧ GrowL O ι F H ι F (upd H a (mapO m')) ∧ LiveM K ι F (upd H a (mapO m')) a m' O := by
  have nF : ∀ b o, F b = some o → b ≠ a := fun b o e h => by rw [h, l.free] at e; cases e
  refine ⟨⟨⟨fun b o e => by rw [upd_ne (nF b o e)]; exact r.st.sub b o e, r.st.len, r.st.nd, fun b hb z => r.st.full b hb (zcv z), fun j ds e => ?_⟩, r.len, r.slot⟩, ⟨List.prefix_rfl, Same.refl _, fun b o e _ h => by rw [upd_ne (fun z => h ((l.own b).mpr z))]; exact e, fun b o _ _ f _ _ => f, fun b h => .inl h, fun b h => zcv h⟩, ⟨upd_same, l.own, l.out, l.free⟩⟩
  obtain ⟨a0, vs, h1, h2, h3, h4⟩ := r.st.cell j ds e
  have n0 : a0 ≠ a := by rintro rfl; exact l.out (List.mem_of_getElem? h1)
  exact ⟨a0, vs, h1, by rw [upd_ne n0]; exact h2, h3, h4⟩
/-! ### an expression that reads it -/
abbrev XMn := zan → zae → Map → Res DV
def tDM (X : Cx) (W : WX) (k : Nat) (f : XMn) : TE := fun σ H Q => ∃ ι F ρ S a m O, RR X.K ι F ρ S σ H ∧ σ[k]? = some (some (.ref a)) ∧ LiveM X.K ι F H a m O ∧ Post X.K X.mg (fun c d H' => W c d σ H') ι F H (f ρ S m) fun dv ι' F' H' => ∀ v, WV X.K ι' F' v dv → Q v H'
structure DEM (X : Cx) (W : WX) (k : Nat) (e : Expr) (f : XMn) : Prop where
  pe : PE X e (tDM X W k f)
/-! ### statements -/
/-! ### it is made, and it is left as it is -/
/-! ### reading it when it is left as it is -/
end
end DL
set_option maxHeartbeats 4000000
namespace DL
open PySem PySem.Spec PyProof.Rows L2
section
variable {X : Cx} {W : WX} {K : PySem.W.Frag} {mg : Str → Option Value} {ι : List Addr} {F H : Hp} {S : zae} {e a b c : Expr} {es : List Expr} {pos p apos : Pos} {k : Nat}
/-! ## x == [], of a list of anything -/
/-! ## a, b, c = x, y, z -/
end
end DL
set_option maxHeartbeats 4000000
namespace PySem.AutoSeq1
open PySem PyProof
end PySem.AutoSeq1
namespace DL
open PySem PySem.Spec PyProof.Rows L2
section
variable {X : Cx} {W : WX} {K : PySem.W.Frag} {mg : Str → Option Value} {ι : List Addr} {F H : Hp} {S : zae} {e a b c : Expr} {es : List Expr} {pos p apos : Pos} {k : Nat}
/-! ## x.extend(a tuple) -/
/-! ## x or y, as values -/
end
end DL
set_option maxHeartbeats 400000
namespace DL
open PySem PySem.Spec PyProof.Rows L2
/-! ## cases, by what they say -/
abbrev Gv := List (Nat × Option Int)
abbrev Ru := Gv × Nat × Option Int
def Cas.fact (c : Cas) (r k : Nat) : List Int := c.facts.getD (c.at_ r k) []
structure Cas.Ok (c : Cas) : Prop where
  n9 : c.n ≤ 9
  m5 : c.cols.length ≤ 5
  l1 : c.lab.length = c.n * c.cols.length
  l2 : c.facts.length = c.n * c.cols.length
  l3 : ∀ l ∈ c.lab, l < c.facts.length
  sm : ∀ l, (c.facts.getD l []).length ≤ 64
theorem Cas.Ok.lt {c : Cas} (h : c.Ok) {r k : Nat} (hr : r < c.n) (hk : k < c.cols.length) : c.at_ r k < c.facts.length := at_lt h.l1 h.l3 hr hk
theorem Cas.Ok.mem {c : Cas} (h : c.Ok) {r k : Nat} (hr : r < c.n) (hk : k < c.cols.length) : c.at_ r k ∈ c.lab := by
  have hh := cell_lt hr hk
  have h1 := h.l1
  unfold Cas.at_
  rw [List.getD_eq_getElem?_getD, List.getElem?_eq_getElem (by omega)]
  exact List.getElem_mem _
theorem Cas.Ok.cell {c : Cas} (h : c.Ok) {l : Nat} (hl : l ∈ c.lab) : ∃ r k, r < c.n ∧ k < c.cols.length ∧ c.at_ r k = l := by
  obtain ⟨i, hi, e⟩ := List.getElem_of_mem hl
  have h1 := h.l1
  have hm : 0 < c.cols.length := by
    rcases Nat.eq_zero_or_pos c.cols.length with z | z
    · rw [z, Nat.mul_zero] at h1; omega
    · exact z
  refine ⟨i / c.cols.length, i % c.cols.length, (Nat.div_lt_iff_lt_mul hm).mpr (by omega), Nat.mod_lt _ hm, ?_⟩
  unfold Cas.at_
  have : i / c.cols.length * c.cols.length + i % c.cols.length = i := by rw [Nat.mul_comm]; exact Nat.div_add_mod _ _
  rw [this, List.getD_eq_getElem?_getD, List.getElem?_eq_getElem hi]
  exact e
structure Cas.Sat (c : Cas) (M : Nat → Nat → Int) : Prop where
  kn : ∀ r k, r < c.n → k < c.cols.length → ∀ v ∈ c.fact r k, M r k = v
  eq : ∀ r k r' k', r < c.n → k < c.cols.length → r' < c.n → k' < c.cols.length → c.at_ r k = c.at_ r' k' → M r k = M r' k'
/-! ### learn -/
theorem zg8 (c : Cas) (r k : Nat) (v : Int) : (c.learn r k v).cols = c.cols := (zed c r k v).2.1
theorem znc (c : Cas) (r k : Nat) (v : Int) : (c.learn r k v).n = c.n := (zed c r k v).2.2.1
theorem Cas.Ok.learn {c : Cas} (h : c.Ok) {r k : Nat} {v : Int} (hr : r < c.n) (hk : k < c.cols.length) (hs : (c.fact r k).length < 64) : (c.learn r k v).Ok := by
  obtain ⟨a1, a2, a3, a4⟩ := zed c r k v
  refine ⟨by rw [a3]; exact h.n9, by rw [a2]; exact h.m5, by rw [a1, a2, a3]; exact h.l1, by rw [a4, a2, a3]; exact h.l2, by rw [a1, a4]; exact h.l3, fun l => ?_⟩
  rw [zci c r k v (h.lt hr hk)]
  split
  · rename_i hh
    obtain ⟨rfl, _⟩ := hh
    have : (c.facts.getD (c.at_ r k) []).length < 64 := hs
    simp
    simp at this
    omega
  · exact h.sm l
theorem zoi {c : Cas} (h : c.Ok) {r k : Nat} (v : Int) (hr : r < c.n) (hk : k < c.cols.length) (r' k' : Nat) : (c.learn r k v).fact r' k' = if c.at_ r' k' = c.at_ r k ∧ v ∉ c.fact r' k' then c.fact r' k' ++ [v] else c.fact r' k' := by
  unfold Cas.fact
  rw [zin, zci c r k v (h.lt hr hk)]
theorem zjg {c : Cas} (h : c.Ok) {r k : Nat} {v u : Int} (hr : r < c.n) (hk : k < c.cols.length) {r' k' : Nat} : u ∈ (c.learn r k v).fact r' k' ↔ u ∈ c.fact r' k' ∨ (c.at_ r' k' = c.at_ r k ∧ u = v) := by
  rw [zoi h v hr hk]
  split
  · rename_i hh
    simp [hh.1]
  · rename_i hh
    constructor
    · exact .inl
    · rintro (h1 | ⟨h1, rfl⟩)
      · exact h1
      · refine Classical.byContradiction fun n => hh ⟨h1, n⟩
/-! ### join -/
theorem fold_mem {r k : Nat} : ∀ (ys : List Int) (d : Cas), d.at_ r k < d.facts.length → ∀ l u, u ∈ (ys.foldl (fun d v => d.learn r k v) d).facts.getD l [] ↔ u ∈ d.facts.getD l [] ∨ (l = d.at_ r k ∧ u ∈ ys)
  | [], d, _, l, u => by simp
  | v :: ys, d, h, l, u => by
    rw [List.foldl_cons, fold_mem ys (d.learn r k v) (by rw [zin]; rw [(zed d r k v).2.2.2]; exact h), zin, zci d r k v h]
    split
    · rename_i hh
      simp only [List.mem_append, hh.1, true_and, List.mem_cons, List.not_mem_nil, or_false]
      constructor
      · rintro ((a | a) | a)
        · exact .inl a
        · exact .inr (.inl a)
        · exact .inr (.inr a)
      · rintro (a | a | a)
        · exact .inl (.inl a)
        · exact .inl (.inr a)
        · exact .inr a
    · rename_i hh
      simp only [List.mem_cons]
      constructor
      · rintro (a | ⟨a, b⟩)
        · exact .inl a
        · exact .inr ⟨a, .inr b⟩
      · rintro (a | ⟨a, rfl | b⟩)
        · exact .inl a
        · exact .inl (Classical.byContradiction fun n => hh ⟨a, n⟩)
        · exact .inr ⟨a, b⟩
structure Joined (c d : Cas) (p q : Nat) : Prop where
  cols : d.cols = c.cols
  n : d.n = c.n
  at_ : ∀ r k, r < c.n → k < c.cols.length → d.at_ r k = if c.at_ r k = q then p else c.at_ r k
  mem : ∀ l u, u ∈ d.facts.getD l [] ↔ u ∈ c.facts.getD l [] ∨ (l = p ∧ u ∈ c.facts.getD q [])
  lab : d.lab = c.lab.map fun l => if l = q then p else l
  fl : d.facts.length = c.facts.length
  len : ∀ l, (d.facts.getD l []).length ≤ (c.facts.getD l []).length + (if l = p then (c.facts.getD q []).length else 0)
theorem zo0 {c : Cas} (h : c.Ok) {r1 k1 r2 k2 : Nat} (hr1 : r1 < c.n) (hk1 : k1 < c.cols.length) (hr2 : r2 < c.n) (hk2 : k2 < c.cols.length) (ne : c.at_ r1 k1 ≠ c.at_ r2 k2) : Joined c (c.join r1 k1 r2 k2) (c.at_ r1 k1) (c.at_ r2 k2) := by
  have e : c.join r1 k1 r2 k2 = (c.facts.getD (c.at_ r2 k2) []).foldl (fun d v => d.learn r1 k1 v) (c.relab (c.at_ r1 k1) (c.at_ r2 k2)) := by unfold Cas.join; rw [if_neg ne]
  have ra : (c.relab (c.at_ r1 k1) (c.at_ r2 k2)).at_ r1 k1 = c.at_ r1 k1 := by rw [zpd h.l1 hr1 hk1, if_neg ne]
  have hlt : (c.relab (c.at_ r1 k1) (c.at_ r2 k2)).at_ r1 k1 < (c.relab (c.at_ r1 k1) (c.at_ r2 k2)).facts.length := by rw [ra]; exact h.lt hr1 hk1
  obtain ⟨f1, f2, f3, f4, f5, f6, f7⟩ := zoo (r := r1) (k := k1) (c.facts.getD (c.at_ r2 k2) []) (c.relab (c.at_ r1 k1) (c.at_ r2 k2)) hlt
  rw [e]
  refine ⟨f2, f3, fun r k hr hk => ?_, fun l u => ?_, f1, f4, fun l => ?_⟩
  · have : ((c.facts.getD (c.at_ r2 k2) []).foldl (fun d v => d.learn r1 k1 v) (c.relab (c.at_ r1 k1) (c.at_ r2 k2))).at_ r k = (c.relab (c.at_ r1 k1) (c.at_ r2 k2)).at_ r k := by
      show List.getD (Cas.lab _) (r * (Cas.cols _).length + k) 0 = _
      rw [f1, f2]
      rfl
    rw [this]
    exact zpd h.l1 hr hk
  · rw [fold_mem _ _ hlt, ra]
    rfl
  · by_cases hl : l = c.at_ r1 k1
    · subst hl
      rw [if_pos rfl]
      rw [ra] at f7
      exact f7
    · rw [if_neg hl, f6 l (by rw [ra]; exact hl)]
      exact Nat.le_refl _
theorem Joined.ok {c d : Cas} {p q : Nat} (h : c.Ok) (j : Joined c d p q) (hp : p < c.facts.length) (hs : (c.facts.getD p []).length + (c.facts.getD q []).length ≤ 64) : d.Ok := by
  refine ⟨by rw [j.n]; exact h.n9, by rw [j.cols]; exact h.m5, by rw [j.lab, List.length_map, j.n, j.cols]; exact h.l1, by rw [j.fl, j.n, j.cols]; exact h.l2, fun l hl => ?_, fun l => ?_⟩
  · rw [j.lab] at hl
    rw [j.fl]
    obtain ⟨l', h1, rfl⟩ := List.mem_map.mp hl
    split
    · exact hp
    · exact h.l3 _ h1
  · have := j.len l
    have h2 := h.sm l
    split at this
    · rename_i e; subst e; omega
    · omega
theorem Joined.sat {c d : Cas} {r1 k1 r2 k2 : Nat} (h : c.Ok) (hr1 : r1 < c.n) (hk1 : k1 < c.cols.length) (hr2 : r2 < c.n) (hk2 : k2 < c.cols.length) (j : Joined c d (c.at_ r1 k1) (c.at_ r2 k2)) {M : Nat → Nat → Int} : d.Sat M ↔ c.Sat M ∧ M r1 k1 = M r2 k2 := by
  have fc : ∀ r k, r < c.n → k < c.cols.length → ∀ u, u ∈ d.fact r k ↔ u ∈ c.facts.getD (d.at_ r k) [] ∨ (d.at_ r k = c.at_ r1 k1 ∧ u ∈ c.facts.getD (c.at_ r2 k2) []) := fun r k hr hk u => j.mem _ u
  constructor
  · intro s
    have e12 : M r1 k1 = M r2 k2 := s.eq r1 k1 r2 k2 (by rw [j.n]; exact hr1) (by rw [j.cols]; exact hk1) (by rw [j.n]; exact hr2) (by rw [j.cols]; exact hk2) (by
      rw [j.at_ r1 k1 hr1 hk1, j.at_ r2 k2 hr2 hk2, if_pos rfl]
      split <;> rfl)
    refine ⟨⟨fun r k hr hk u hu => ?_, fun r k r' k' hr hk hr' hk' e => s.eq r k r' k' (by rw [j.n]; exact hr) (by rw [j.cols]; exact hk) (by rw [j.n]; exact hr') (by rw [j.cols]; exact hk') (by rw [j.at_ r k hr hk, j.at_ r' k' hr' hk', e])⟩, e12⟩
    refine s.kn r k (by rw [j.n]; exact hr) (by rw [j.cols]; exact hk) u ((fc r k hr hk u).mpr ?_)
    rw [j.at_ r k hr hk]
    by_cases e : c.at_ r k = c.at_ r2 k2
    · rw [if_pos e]
      refine .inr ⟨rfl, ?_⟩
      rw [← e]
      exact hu
    · rw [if_neg e]
      exact .inl hu
  · rintro ⟨s, e12⟩
    have rep : ∀ r k, r < c.n → k < c.cols.length → (d.at_ r k = c.at_ r k ∨ (c.at_ r k = c.at_ r2 k2 ∧ d.at_ r k = c.at_ r1 k1)) := fun r k hr hk => by
      rw [j.at_ r k hr hk]
      by_cases e : c.at_ r k = c.at_ r2 k2
      · rw [if_pos e]; exact .inr ⟨e, rfl⟩
      · rw [if_neg e]; exact .inl rfl
    refine ⟨fun r k hr hk u hu => ?_, fun r k r' k' hr hk hr' hk' e => ?_⟩
    · rw [j.n] at hr
      rw [j.cols] at hk
      rcases rep r k hr hk with a | ⟨a, b⟩
      · rcases (fc r k hr hk u).mp hu with q | ⟨q1, q2⟩
        · rw [a] at q; exact s.kn r k hr hk u q
        · rw [s.eq r k r1 k1 hr hk hr1 hk1 (a ▸ q1), e12]
          exact s.kn r2 k2 hr2 hk2 u q2
      · have e1 : M r k = M r2 k2 := s.eq r k r2 k2 hr hk hr2 hk2 a
        rcases (fc r k hr hk u).mp hu with q | ⟨q1, q2⟩
        · rw [b] at q; rw [e1, ← e12]; exact s.kn r1 k1 hr1 hk1 u q
        · rw [e1]; exact s.kn r2 k2 hr2 hk2 u q2
    · rw [j.n] at hr hr'
      rw [j.cols] at hk hk'
      rcases rep r k hr hk with a | ⟨a, b⟩
      · rcases rep r' k' hr' hk' with a' | ⟨a', b'⟩
        · exact s.eq r k r' k' hr hk hr' hk' (by rw [← a, ← a', e])
        · rw [s.eq r k r1 k1 hr hk hr1 hk1 (by rw [← a, e, b']), e12]
          exact (s.eq r' k' r2 k2 hr' hk' hr2 hk2 a').symm
      · rw [s.eq r k r2 k2 hr hk hr2 hk2 a]
        rcases rep r' k' hr' hk' with a' | ⟨a', b'⟩
        · rw [s.eq r' k' r1 k1 hr' hk' hr1 hk1 (by rw [← a', ← e, b]), e12]
        · exact (s.eq r' k' r2 k2 hr' hk' hr2 hk2 a').symm
/-! ### the measure -/
def cnt (N : Nat) (p : Nat → Bool) : Nat := ((List.range N).filter p).length
theorem zl7 (N : Nat) (p : Nat → Bool) : cnt (N + 1) p = cnt N p + (if p N = true then 1 else 0) := by
  unfold cnt
  rw [List.range_succ, List.filter_append, List.length_append, List.filter_cons, List.filter_nil]
  split <;> simp
theorem cnt_le {N : Nat} {p q : Nat → Bool} (h : ∀ i, i < N → p i = true → q i = true) : cnt N p ≤ cnt N q := by
  induction N with
  | zero => simp [cnt]
  | succ N ih =>
    rw [zl7, zl7]
    have := ih fun i hi => h i (by omega)
    have h1 := h N (by omega)
    split
    · rename_i e; rw [if_pos (h1 e)]; omega
    · split <;> omega
theorem cnt_lt {N : Nat} {p q : Nat → Bool} (h : ∀ i, i < N → p i = true → q i = true) {j : Nat} (hj : j < N) (hq : q j = true) (hp : p j = false) : cnt N p < cnt N q := by
  induction N with
  | zero => omega
  | succ N ih =>
    rw [zl7, zl7]
    by_cases e : j = N
    · subst e
      rw [if_neg (by simp [hp]), if_pos hq]
      have := cnt_le (N := j) fun i hi => h i (by omega)
      omega
    · have := ih (fun i hi => h i (by omega)) (by omega)
      have h1 := h N (by omega)
      split
      · rename_i e; rw [if_pos (h1 e)]; omega
      · split <;> omega
def Cas.mu (c : Cas) : Nat := cnt c.facts.length (fun l => decide (l ∈ c.lab)) + cnt c.facts.length (fun l => decide (l ∈ c.lab) && (c.facts.getD l []).isEmpty)
theorem mu_learn {c : Cas} (h : c.Ok) {r k : Nat} {v : Int} (hr : r < c.n) (hk : k < c.cols.length) (he : c.fact r k = []) : (c.learn r k v).mu < c.mu := by
  obtain ⟨a1, a2, a3, a4⟩ := zed c r k v
  unfold Cas.mu
  rw [a1, a4]
  have : cnt c.facts.length (fun l => decide (l ∈ c.lab) && ((c.learn r k v).facts.getD l []).isEmpty) < cnt c.facts.length (fun l => decide (l ∈ c.lab) && (c.facts.getD l []).isEmpty) := by
    refine cnt_lt (j := c.at_ r k) (fun i hi e => ?_) (h.lt hr hk) ?_ ?_
    · simp only [Bool.and_eq_true, decide_eq_true_eq] at e ⊢
      refine ⟨e.1, ?_⟩
      have e2 := e.2
      rw [zci c r k v (h.lt hr hk)] at e2
      split at e2
      · simp at e2
      · exact e2
    · have e2 : c.facts.getD (c.at_ r k) [] = [] := he
      rw [e2]
      simp only [List.isEmpty_nil, Bool.and_true, decide_eq_true_eq]
      exact h.mem hr hk
    · rw [zci c r k v (h.lt hr hk)]
      have e2 : c.facts.getD (c.at_ r k) [] = [] := he
      rw [e2, if_pos ⟨rfl, by simp⟩]
      simp
  omega
end DL
set_option maxHeartbeats 400000
namespace DL
open PySem PySem.Spec PyProof.Rows L2
/-! ## the search in a case -/
def cellNs (n m : Nat) : List (Nat × Nat) := (List.range n).flatMap fun r => (List.range m).map fun k => (r, k)
theorem mem_cellNs {n m r k : Nat} : (r, k) ∈ cellNs n m ↔ r < n ∧ k < m := by
  simp [cellNs]
def Cas.badAt (c : Cas) (r k : Nat) : Bool := decide (1 < (c.fact r k).length) || (match c.cols.getD k none with
  | none => false
  | some ns => (c.fact r k).any fun v => !decide (v ∈ ns))
def Cas.clash (c : Cas) : Bool := (cellNs c.n c.cols.length).any fun p => c.badAt p.1 p.2
inductive Goal where
  | no | val (r k : Nat) (v : Int) | eq (r k r' k' : Nat)
def Cas.alike (c : Cas) (r k r' k' : Nat) : Bool := decide (c.at_ r k = c.at_ r' k') || (c.fact r k).any fun v => decide (v ∈ c.fact r' k')
def Cas.goal (c : Cas) : Goal → Bool
  | .no => false
  | .val r k v => decide (v ∈ c.fact r k)
  | .eq r k r' k' => c.alike r k r' k'
def Cas.entS (c : Cas) (row : Nat) (p : Nat × Option Int) : Bool := match p.2 with
  | none => false
  | some v => decide (v ∈ c.fact row p.1)
def Cas.entJ (c : Cas) (p : Nat × Option Int) : Bool := match p.2 with
  | none => c.alike 0 p.1 1 p.1
  | some v => decide (v ∈ c.fact 0 p.1) && decide (v ∈ c.fact 1 p.1)
def Cas.canStep (c : Cas) (t : Ru) (row : Nat) : Bool := t.2.2.isSome && t.1.all (c.entS row)
def Cas.canJoin (c : Cas) (t : Ru) : Bool := t.2.2.isNone && (decide (c.n = 2) && t.1.all c.entJ)
inductive Head where
  | step (k row : Nat) | join (k : Nat)
def Cas.stepOk (c : Cas) (t : Ru) (row : Nat) : Bool := c.canStep t row && (match t.2.2 with | none => false | some v => !decide (v ∈ c.fact row t.2.1))
def Cas.stepTo (c : Cas) (t : Ru) (row : Nat) : Cas := match t.2.2 with
  | none => c
  | some v => c.learn row t.2.1 v
def Cas.nextRow (c : Cas) (k : Nat) (t : Ru) : List Nat → Option (Head × Cas)
  | [] => none
  | row :: rows => if c.stepOk t row = true then some (.step k row, c.stepTo t row) else c.nextRow k t rows
def Cas.joinOk (c : Cas) (t : Ru) : Bool := c.canJoin t && !c.alike 0 t.2.1 1 t.2.1
def Cas.nextGo (c : Cas) : Nat → List Ru → Option (Head × Cas)
  | _, [] => none
  | k, t :: ts => match c.nextRow k t (List.range c.n) with
    | some x => some x
    | none => if c.joinOk t = true then some (.join k, c.join 0 t.2.1 1 t.2.1) else c.nextGo (k + 1) ts
def Cas.next (c : Cas) (ts : List Ru) : Option (Head × Cas) := c.nextGo 0 ts
def Cas.unknown (c : Cas) (cells : List (Nat × Nat)) : Option (Nat × Nat) := cells.find? fun p => (c.fact p.1 p.2).isEmpty
structure okRu (m : Nat) (t : Ru) : Prop where
  c : t.2.1 < m
  g : ∀ p ∈ t.1, p.1 < m
def Keep (n : Nat) (M : Nat → Nat → Int) (t : Ru) : Prop := match t.2.2 with
  | some w => ∀ r, r < n → (∀ p ∈ t.1, p.2 = some (M r p.1)) → M r t.2.1 = w
  | none => n = 2 → (∀ p ∈ t.1, match p.2 with | none => M 0 p.1 = M 1 p.1 | some v => M 0 p.1 = v ∧ M 1 p.1 = v) → M 0 t.2.1 = M 1 t.2.1
def GoalH (M : Nat → Nat → Int) : Goal → Prop
  | .no => False
  | .val r k v => M r k = v
  | .eq r k r' k' => M r k = M r' k'
def okGoal (n m : Nat) : Goal → Prop
  | .no => True
  | .val r k _ => r < n ∧ k < m
  | .eq r k r' k' => (r < n ∧ k < m) ∧ r' < n ∧ k' < m
/-! ### what is known holds -/
theorem Cas.Sat.alike {c : Cas} {M : Nat → Nat → Int} (s : c.Sat M) {r k r' k' : Nat} (hr : r < c.n) (hk : k < c.cols.length) (hr' : r' < c.n) (hk' : k' < c.cols.length) (h : c.alike r k r' k' = true) : M r k = M r' k' := by
  unfold Cas.alike at h
  simp only [Bool.or_eq_true, decide_eq_true_eq, List.any_eq_true] at h
  rcases h with h | ⟨v, h1, h2⟩
  · exact s.eq _ _ _ _ hr hk hr' hk' h
  · rw [s.kn r k hr hk v h1, s.kn r' k' hr' hk' v h2]
theorem Cas.Sat.goal {c : Cas} {M : Nat → Nat → Int} (s : c.Sat M) {g : Goal} (hg : okGoal c.n c.cols.length g) (h : c.goal g = true) : GoalH M g := by
  cases g with
  | no => cases h
  | val r k v => exact s.kn r k hg.1 hg.2 v (by simpa [Cas.goal] using h)
  | eq r k r' k' => exact s.alike hg.1.1 hg.1.2 hg.2.1 hg.2.2 h
theorem zii {c : Cas} (h : c.clash = false) {r k : Nat} (hr : r < c.n) (hk : k < c.cols.length) : (c.fact r k).length ≤ 1 ∧ ∀ ns, c.cols.getD k none = some ns → ∀ v ∈ c.fact r k, v ∈ ns := by
  unfold Cas.clash at h
  rw [List.any_eq_false] at h
  have := h (r, k) (mem_cellNs.mpr ⟨hr, hk⟩)
  unfold Cas.badAt at this
  simp only [Bool.or_eq_true, decide_eq_true_eq, not_or, Bool.not_eq_true] at this
  refine ⟨by omega, fun ns e v hv => ?_⟩
  rw [e] at this
  have h2 := this.2
  simp only [List.any_eq_false] at h2
  have := h2 v hv
  simpa using this
/-! ### a step, a join -/
structure Moved (ts : List Ru) (c d : Cas) : Prop where
  ok : d.Ok
  cols : d.cols = c.cols
  n : d.n = c.n
  less : d.clash = true ∨ d.mu < c.mu
  sat : ∀ M, (∀ t ∈ ts, Keep c.n M t) → (d.Sat M ↔ c.Sat M)
  up : ∀ M, d.Sat M → c.Sat M
  kn : ∀ r k, r < c.n → k < c.cols.length → ∀ v ∈ c.fact r k, v ∈ d.fact r k
theorem zll {c : Cas} {t : Ru} {k : Nat} : ∀ (rows : List Nat), c.nextRow k t rows = none → ∀ r ∈ rows, c.stepOk t r = false
  | [], _, r, hr => by cases hr
  | row :: rows, e, r, hr => by
    unfold Cas.nextRow at e
    split at e
    · cases e
    · rename_i hs
      rcases List.mem_cons.mp hr with rfl | hr
      · simpa using hs
      · exact zll rows e r hr
theorem zmu {c : Cas} : ∀ (us : List Ru) (k : Nat), c.nextGo k us = none → ∀ t ∈ us, (∀ r, r < c.n → c.stepOk t r = false) ∧ c.joinOk t = false
  | [], _, _, t, ht => by cases ht
  | u :: us, k, e, t, ht => by
    unfold Cas.nextGo at e
    cases q : c.nextRow k u (List.range c.n) with
    | some y => rw [q] at e; cases e
    | none =>
      rw [q] at e
      simp only at e
      split at e
      · cases e
      · rename_i hs
        rcases List.mem_cons.mp ht with rfl | ht
        · exact ⟨fun r hr => zll _ q r (List.mem_range.mpr hr), by simpa using hs⟩
        · exact zmu us (k + 1) e t ht
end DL
set_option maxHeartbeats 400000
namespace DL
open PySem PySem.Spec PyProof.Rows L2
/-! ## no value twice, and all values below a bound -/
structure Cas.Fine (c : Cas) (B : Int) : Prop where
  nd : ∀ l, (c.facts.getD l []).Nodup
  lt : ∀ l, ∀ v ∈ c.facts.getD l [], v < B
theorem Cas.Fine.learn {c : Cas} {B : Int} (h : c.Ok) (f : c.Fine B) {r k : Nat} {v : Int} (hr : r < c.n) (hk : k < c.cols.length) (hv : v < B) : (c.learn r k v).Fine B := by
  refine ⟨fun l => ?_, fun l u hu => ?_⟩
  · rw [zci c r k v (h.lt hr hk)]
    split
    · rename_i hh
      rw [List.nodup_append]
      refine ⟨f.nd l, by simp, fun a ha b hb => ?_⟩
      simp at hb
      subst hb
      exact fun e => hh.2 (e ▸ ha)
    · exact f.nd l
  · rw [zci c r k v (h.lt hr hk)] at hu
    split at hu
    · rcases List.mem_append.mp hu with q | q
      · exact f.lt l u q
      · simp at q; omega
    · exact f.lt l u hu
theorem fold_fine {r k : Nat} {B : Int} : ∀ (ys : List Int) (d : Cas), d.at_ r k < d.facts.length → d.Fine B → (∀ y ∈ ys, y < B) → (ys.foldl (fun d v => d.learn r k v) d).Fine B
  | [], d, _, f, _ => f
  | v :: ys, d, h, f, hy => by
    rw [List.foldl_cons]
    refine fold_fine ys (d.learn r k v) (by rw [zin, (zed d r k v).2.2.2]; exact h) ⟨fun l => ?_, fun l u hu => ?_⟩ fun y hh => hy y (by simp [hh])
    · rw [zci d r k v h]
      split
      · rename_i hh
        rw [List.nodup_append]
        refine ⟨f.nd l, by simp, fun a ha b hb => ?_⟩
        simp at hb
        subst hb
        exact fun e => hh.2 (e ▸ ha)
      · exact f.nd l
    · rw [zci d r k v h] at hu
      split at hu
      · rcases List.mem_append.mp hu with q | q
        · exact f.lt l u q
        · simp at q; have := hy v (by simp); omega
      · exact f.lt l u hu
theorem Cas.Fine.join {c : Cas} {B : Int} (h : c.Ok) (f : c.Fine B) {r1 k1 r2 k2 : Nat} (hr1 : r1 < c.n) (hk1 : k1 < c.cols.length) (hr2 : r2 < c.n) (hk2 : k2 < c.cols.length) : (c.join r1 k1 r2 k2).Fine B := by
  by_cases e : c.at_ r1 k1 = c.at_ r2 k2
  · have : c.join r1 k1 r2 k2 = c := by unfold Cas.join; rw [if_pos e]
    rw [this]; exact f
  · have : c.join r1 k1 r2 k2 = (c.facts.getD (c.at_ r2 k2) []).foldl (fun d v => d.learn r1 k1 v) (c.relab (c.at_ r1 k1) (c.at_ r2 k2)) := by unfold Cas.join; rw [if_neg e]
    rw [this]
    refine fold_fine _ _ ?_ ⟨f.nd, f.lt⟩ fun y hy => f.lt _ y hy
    rw [zpd h.l1 hr1 hk1, if_neg e]
    exact h.lt hr1 hk1
def RuLt (B : Int) (t : Ru) : Prop := (∀ p ∈ t.1, ∀ v, p.2 = some v → v < B) ∧ ∀ v, t.2.2 = some v → v < B
/-! ## the leaves -/
def Enough (F : Nat) (c : Cas) : Prop := 1 ≤ F ∧ (c.clash = true ∨ c.mu + 2 ≤ F)
theorem Enough.next {F : Nat} {ts : List Ru} {c d : Cas} (e : Enough (F + 1) c) (nc : c.clash = false) (m : Moved ts c d) : Enough F d := by
  rcases e.2 with h | h
  · rw [nc] at h; cases h
  · rcases m.less with q | q
    · exact ⟨by omega, .inl q⟩
    · exact ⟨by omega, .inr (by omega)⟩
theorem Enough.split {F : Nat} {c : Cas} (e : Enough (F + 1) c) (nc : c.clash = false) (h : c.Ok) {r k : Nat} {v : Int} (hr : r < c.n) (hk : k < c.cols.length) (he : c.fact r k = []) : Enough F (c.learn r k v) := by
  rcases e.2 with q | q
  · rw [nc] at q; cases q
  · have := mu_learn (v := v) h hr hk he
    exact ⟨by omega, .inr (by omega)⟩
def Closed (n : Nat) (cols : List (Option (List Int))) (cells : List (Nat × Nat)) : Prop := ∀ p ∈ cells, p.1 < n ∧ p.2 < cols.length ∧ ∃ ns, cols.getD p.2 none = some ns
theorem unknown_none {c : Cas} {cells : List (Nat × Nat)} (h : c.unknown cells = none) : ∀ p ∈ cells, c.fact p.1 p.2 ≠ [] := by
  unfold Cas.unknown at h
  rw [List.find?_eq_none] at h
  intro p hp e
  exact h p hp (by simp [e])
structure Leaf (ts : List Ru) (g : Goal) (cells : List (Nat × Nat)) (B : Int) (c L : Cas) : Prop where
  ok : L.Ok
  fine : L.Fine B
  cols : L.cols = c.cols
  n : L.n = c.n
  nc : L.clash = false
  ng : L.goal g = false
  nx : L.next ts = none
  un : L.unknown cells = none
  up : ∀ M, L.Sat M → c.Sat M
  kn : ∀ r k, r < c.n → k < c.cols.length → ∀ v ∈ c.fact r k, v ∈ L.fact r k
def ColsLt (B : Int) (cols : List (Option (List Int))) : Prop := ∀ k ns, cols.getD k none = some ns → ∀ v ∈ ns, v < B
def InCols (n : Nat) (cols : List (Option (List Int))) (M : Nat → Nat → Int) : Prop := ∀ r k ns, r < n → k < cols.length → cols.getD k none = some ns → M r k ∈ ns
/-! ## the table of a leaf -/
structure Generic (L : Cas) (B : Int) (M : Nat → Nat → Int) : Prop where
  kn : ∀ r k, r < L.n → k < L.cols.length → L.fact r k ≠ [] → M r k ∈ L.fact r k
  un : ∀ r k, r < L.n → k < L.cols.length → L.fact r k = [] → B ≤ M r k
  eq : ∀ r k r' k', r < L.n → k < L.cols.length → r' < L.n → k' < L.cols.length → L.at_ r k = L.at_ r' k' → M r k = M r' k'
  ne : ∀ r k r' k', r < L.n → k < L.cols.length → r' < L.n → k' < L.cols.length → L.fact r k = [] → L.fact r' k' = [] → M r k = M r' k' → L.at_ r k = L.at_ r' k'
section
variable {L : Cas} {B : Int} {M : Nat → Nat → Int} {ts : List Ru} {g : Goal}
theorem Generic.one (G : Generic L B M) (nc : L.clash = false) {r k : Nat} (hr : r < L.n) (hk : k < L.cols.length) : ∀ v ∈ L.fact r k, M r k = v := fun v hv => by
  obtain ⟨b1, _⟩ := zii nc hr hk
  have ne : L.fact r k ≠ [] := fun e => by rw [e] at hv; cases hv
  have := G.kn r k hr hk ne
  match e : L.fact r k with
  | [] => exact absurd e ne
  | [a] =>
    rw [e] at hv this
    simp at hv this
    omega
  | a :: b :: l => rw [e] at b1; simp at b1
theorem Generic.sat (G : Generic L B M) (nc : L.clash = false) : L.Sat M := ⟨fun r k hr hk v hv => G.one nc hr hk v hv, G.eq⟩
theorem Generic.val (G : Generic L B M) {r k : Nat} (hr : r < L.n) (hk : k < L.cols.length) {v : Int} (hv : v < B) (e : M r k = v) : v ∈ L.fact r k := by
  by_cases q : L.fact r k = []
  · have := G.un r k hr hk q
    omega
  · exact e ▸ G.kn r k hr hk q
theorem Generic.alike (G : Generic L B M) (f : L.Fine B) {r k r' k' : Nat} (hr : r < L.n) (hk : k < L.cols.length) (hr' : r' < L.n) (hk' : k' < L.cols.length) (e : M r k = M r' k') : L.alike r k r' k' = true := by
  unfold Cas.alike
  simp only [Bool.or_eq_true, decide_eq_true_eq, List.any_eq_true]
  by_cases q : L.fact r k = []
  · by_cases q' : L.fact r' k' = []
    · exact .inl (G.ne r k r' k' hr hk hr' hk' q q' e)
    · have h1 := G.un r k hr hk q
      have h2 := f.lt _ _ (G.kn r' k' hr' hk' q')
      omega
  · have h2 := G.kn r k hr hk q
    have h3 := f.lt _ _ h2
    exact .inr ⟨M r k, h2, G.val hr' hk' h3 e.symm⟩
theorem Generic.keep (G : Generic L B M) (nc : L.clash = false) (f : L.Fine B) (nx : L.next ts = none) (ht : ∀ t ∈ ts, okRu L.cols.length t ∧ RuLt B t) : ∀ t ∈ ts, Keep L.n M t := by
  intro t hm
  obtain ⟨h1, h2⟩ := zmu ts 0 nx t hm
  obtain ⟨ok, lt⟩ := ht t hm
  unfold Keep
  cases e : t.2.2 with
  | some w =>
    intro r hr hg
    have hs := h1 r hr
    unfold Cas.stepOk Cas.canStep at hs
    rw [e] at hs
    have hall : t.1.all (L.entS r) = true := by
      rw [List.all_eq_true]
      intro p hp
      unfold Cas.entS
      have q := hg p hp
      rw [q]
      have := lt.1 p hp _ q
      simpa using G.val hr (ok.g p hp) this rfl
    rw [hall] at hs
    simp only [Option.isSome_some, Bool.true_and, Bool.not_eq_false', decide_eq_true_eq] at hs
    exact G.one nc hr ok.c w hs
  | none =>
    intro n2 hg
    unfold Cas.joinOk Cas.canJoin at h2
    rw [e] at h2
    have r0 : 0 < L.n := by omega
    have r1 : 1 < L.n := by omega
    have hall : t.1.all L.entJ = true := by
      rw [List.all_eq_true]
      intro p hp
      unfold Cas.entJ
      have q := hg p hp
      cases e2 : p.2 with
      | none =>
        rw [e2] at q
        exact G.alike f r0 (ok.g p hp) r1 (ok.g p hp) q
      | some v =>
        rw [e2] at q
        have lv := lt.1 p hp v e2
        simp only [Bool.and_eq_true, decide_eq_true_eq]
        exact ⟨G.val r0 (ok.g p hp) lv q.1, G.val r1 (ok.g p hp) lv q.2⟩
    rw [hall] at h2
    simp only [n2, Option.isNone_none, decide_true, Bool.true_and, Bool.not_eq_false'] at h2
    exact (G.sat nc).alike r0 ok.c r1 ok.c h2
theorem Generic.goal (G : Generic L B M) (nc : L.clash = false) (f : L.Fine B) (hg : okGoal L.n L.cols.length g) (hb : ∀ r k v, g = .val r k v → v < B) (ng : L.goal g = false) : ¬ GoalH M g := by
  intro h
  cases g with
  | no => exact h
  | val r k v =>
    have := G.val hg.1 hg.2 (hb r k v rfl) h
    simp [Cas.goal, this] at ng
  | eq r k r' k' =>
    have := G.alike f hg.1.1 hg.1.2 hg.2.1 hg.2.2 h
    simp [Cas.goal, this] at ng
theorem Generic.cols (G : Generic L B M) (nc : L.clash = false) {cells : List (Nat × Nat)} (un : L.unknown cells = none) (all : ∀ r k ns, r < L.n → k < L.cols.length → L.cols.getD k none = some ns → (r, k) ∈ cells) : InCols L.n L.cols M := by
  intro r k ns hr hk e
  have ne := unknown_none un (r, k) (all r k ns hr hk e)
  exact (zii nc hr hk).2 ns e _ (G.kn r k hr hk ne)
end
end DL
set_option maxHeartbeats 400000
namespace DL
open PySem PySem.Spec PyProof.Rows L2
/-! ## how many leaves -/
end DL
set_option maxHeartbeats 400000
namespace DL
open PySem PySem.Spec PyProof.Rows L2
/-! ## the case of a rule -/
def Cas.Sz (c : Cas) (K : Nat) : Prop := ∀ l, (c.facts.getD l []).length ≤ K
structure LearnR (c d : Cas) (k : Nat) (v : Int) (rows : List Nat) (B : Int) (K : Nat) : Prop where
  ok : d.Ok
  fine : d.Fine B
  sz : d.Sz (K + rows.length)
  cols : d.cols = c.cols
  n : d.n = c.n
  sat : ∀ M, d.Sat M ↔ c.Sat M ∧ ∀ r ∈ rows, M r k = v
def EntH (n : Nat) (M : Nat → Nat → Int) (p : Nat × Option Int) : Prop := match p.2 with
  | none => M 0 p.1 = M 1 p.1
  | some v => ∀ r, r < n → M r p.1 = v
structure okEnt (n m : Nat) (B : Int) (p : Nat × Option Int) : Prop where
  c : p.1 < m
  lt : ∀ v, p.2 = some v → v < B
  two : p.2 = none → n = 2
structure Given (c d : Cas) (g : Gv) (B : Int) (K : Nat) : Prop where
  ok : d.Ok
  fine : d.Fine B
  sz : d.Sz K
  cols : d.cols = c.cols
  n : d.n = c.n
  sat : ∀ M, d.Sat M ↔ c.Sat M ∧ ∀ p ∈ g, EntH c.n M p
end DL
set_option maxHeartbeats 400000
namespace DL
open PySem PySem.Spec PyProof.Rows L2
/-! ## what follows from rules -/
def closedK (cols : List (Option (List Int))) : List Nat := (List.range cols.length).filter fun k => (cols.getD k none).isSome
def closedNs (n : Nat) (cols : List (Option (List Int))) : List (Nat × Nat) := (List.range n).flatMap fun r => (closedK cols).map fun k => (r, k)
structure OkCols (cols : List (Option (List Int))) (B : Int) : Prop where
  m5 : cols.length ≤ 5
  lt : ColsLt B cols
  few : ∀ k ns, cols.getD k none = some ns → ns.length ≤ 3
  two : (closedK cols).length ≤ 2
structure OkRule (m : Nat) (B : Int) (t : Ru) : Prop where
  ok : okRu m t
  lt : RuLt B t
  len : t.1.length ≤ 5
  val : t.2.2.isSome = true → ∀ p ∈ t.1, p.2 ≠ none
def Cas.tab (L : Cas) (B : Int) (r k : Nat) : Int := match L.fact r k with
  | [] => B + ((L.at_ r k : Nat) : Int)
  | v :: _ => v
end DL
set_option maxHeartbeats 400000
namespace DL
open PySem PySem.Spec PyProof.Rows L2
/-! ## the rows of a leaf -/
def Cas.pick (L : Cas) (spare : Int) (m : Map) (p : Nat × Nat) : Map := if (mGet m (.inl ((L.at_ p.1 p.2 : Nat) : Int))).isSome = true then m else m ++ [(.inl ((L.at_ p.1 p.2 : Nat) : Int), match L.fact p.1 p.2 with
  | [] => spare + ((m.length : Nat) : Int)
  | v :: _ => v)]
def Cas.chosen (L : Cas) (spare : Int) : Map := (cellNs L.n L.cols.length).foldl (L.pick spare) []
def Cas.val (L : Cas) (spare : Int) (r k : Nat) : Int := (mGet (L.chosen spare) (.inl ((L.at_ r k : Nat) : Int))).getD 0
theorem mGet_snoc (m : Map) (k : Key) (v : Int) (j : Key) : mGet (m ++ [(k, v)]) j = match mGet m j with
  | some x => some x
  | none => if k = j then some v else none := by
  unfold mGet
  rw [List.find?_append]
  cases q : m.find? fun p => decide (p.1 = j) with
  | some p => simp
  | none =>
    by_cases e : k = j
    · simp [e]
    · simp [e]
structure Picked (L : Cas) (spare : Int) (ps : List (Nat × Nat)) (m : Map) : Prop where
  all : ∀ p ∈ ps, (mGet m (.inl ((L.at_ p.1 p.2 : Nat) : Int))).isSome = true
  kn : ∀ (l : Nat) v, mGet m (.inl ((l : Nat) : Int)) = some v → (∃ u us, L.facts.getD l [] = u :: us ∧ v = u) ∨ (L.facts.getD l [] = [] ∧ spare ≤ v ∧ v < spare + ((m.length : Nat) : Int))
  ne : ∀ (l l' : Nat) v, mGet m (.inl ((l : Nat) : Int)) = some v → mGet m (.inl ((l' : Nat) : Int)) = some v → L.facts.getD l [] = [] → L.facts.getD l' [] = [] → l = l'
  lt : m.length ≤ ps.length
theorem Picked.more {L : Cas} {spare : Int} {ps : List (Nat × Nat)} {m : Map} (h : Picked L spare ps m) (p : Nat × Nat) : Picked L spare (ps ++ [p]) (L.pick spare m p) := by
  unfold Cas.pick
  split
  · rename_i e
    refine ⟨fun q hq => ?_, h.kn, h.ne, by have := h.lt; simp; omega⟩
    rcases List.mem_append.mp hq with hq | hq
    · exact h.all q hq
    · simp at hq; subst hq; exact e
  · rename_i e
    have en : mGet m (.inl ((L.at_ p.1 p.2 : Nat) : Int)) = none := by
      cases q : mGet m (.inl ((L.at_ p.1 p.2 : Nat) : Int)) with
      | none => rfl
      | some v => rw [q] at e; exact absurd rfl e
    have keq : ∀ l : Nat, (Sum.inl ((L.at_ p.1 p.2 : Nat) : Int) : Key) = .inl ((l : Nat) : Int) ↔ L.at_ p.1 p.2 = l := fun l => by
      constructor
      · intro q; injection q with q; omega
      · rintro rfl; rfl
    generalize hv : (match L.fact p.1 p.2 with | [] => spare + ((m.length : Nat) : Int) | v :: _ => v) = w
    have hw : (∃ u us, L.fact p.1 p.2 = u :: us ∧ w = u) ∨ (L.fact p.1 p.2 = [] ∧ w = spare + ((m.length : Nat) : Int)) := by
      cases q : L.fact p.1 p.2 with
      | nil => rw [q] at hv; exact .inr ⟨rfl, hv.symm⟩
      | cons u us => rw [q] at hv; exact .inl ⟨u, us, rfl, hv.symm⟩
    have sp : ∀ (l : Nat) v, mGet (m ++ [(.inl ((L.at_ p.1 p.2 : Nat) : Int), w)]) (.inl ((l : Nat) : Int)) = some v → mGet m (.inl ((l : Nat) : Int)) = some v ∨ (mGet m (.inl ((l : Nat) : Int)) = none ∧ L.at_ p.1 p.2 = l ∧ v = w) := fun l v q => by
      rw [mGet_snoc] at q
      cases q2 : mGet m (.inl ((l : Nat) : Int)) with
      | some x => rw [q2] at q; simp only at q; exact .inl q
      | none =>
        rw [q2] at q
        simp only at q
        split at q
        · rename_i q3; cases q; exact .inr ⟨rfl, (keq l).mp q3, rfl⟩
        · cases q
    refine ⟨fun q hq => ?_, fun l v q => ?_, fun l l' v q q' e1 e2 => ?_, by have := h.lt; simp; omega⟩
    · rw [mGet_snoc]
      rcases List.mem_append.mp hq with hq | hq
      · have := h.all q hq
        cases q2 : mGet m (.inl ((L.at_ q.1 q.2 : Nat) : Int)) with
        | none => rw [q2] at this; cases this
        | some x => rfl
      · simp at hq
        subst hq
        rw [en]
        simp
    · rcases sp l v q with q | ⟨_, rfl, rfl⟩
      · rcases h.kn l v q with a | ⟨a, b, c⟩
        · exact .inl a
        · exact .inr ⟨a, b, by rw [List.length_append]; simp; omega⟩
      · rcases hw with a | ⟨a, b⟩
        · exact .inl a
        · exact .inr ⟨a, by omega, by rw [List.length_append]; simp; omega⟩
    · rcases sp l v q with q1 | ⟨n1, k1, w1⟩
      · rcases sp l' v q' with q2 | ⟨n2, k2, w2⟩
        · exact h.ne l l' v q1 q2 e1 e2
        · exfalso
          rcases h.kn l v q1 with ⟨u, us, a, _⟩ | ⟨_, b, c⟩
          · rw [e1] at a; cases a
          · rcases hw with ⟨u, us, a, _⟩ | ⟨a, d⟩
            · have : L.fact p.1 p.2 = [] := by rw [← k2] at e2; exact e2
              rw [this] at a; cases a
            · omega
      · rcases sp l' v q' with q2 | ⟨n2, k2, w2⟩
        · exfalso
          rcases h.kn l' v q2 with ⟨u, us, a, _⟩ | ⟨_, b, c⟩
          · rw [e2] at a; cases a
          · rcases hw with ⟨u, us, a, _⟩ | ⟨a, d⟩
            · have : L.fact p.1 p.2 = [] := by rw [← k1] at e1; exact e1
              rw [this] at a; cases a
            · omega
        · rw [← k1, ← k2]
/-! ## the cells in their order -/
end DL
set_option maxHeartbeats 4000000
namespace DL
open PySem PySem.Spec PyProof.Rows L2
section
variable {X : Cx} {W : WX} {K : PySem.W.Frag} {mg : Str → Option Value} {ι : List Addr} {F H : Hp} {S : zae} {e a b c : Expr} {es : List Expr} {pos p apos : Pos} {k : Nat}
/-! ## x != [], of a list of anything -/
end
end DL
set_option maxHeartbeats 400000
namespace DL
open PySem PySem.Spec PyProof.Rows L2
/-! ## cases made by some learns and joins -/
theorem nodup_sub : ∀ {l V : List Int}, l.Nodup → (∀ v ∈ l, v ∈ V) → l.length ≤ V.length
  | [], V, _, _ => by simp
  | a :: l, V, h, s => by
    obtain ⟨h1, h2⟩ := List.nodup_cons.mp h
    have ha := s a (by simp)
    have := nodup_sub (l := l) (V := V.erase a) h2 fun v hv => by
      have ne : v ≠ a := fun e => h1 (e ▸ hv)
      exact (List.mem_erase_of_ne ne).mpr (s v (by simp [hv]))
    rw [List.length_erase_of_mem ha] at this
    have : 0 < V.length := List.length_pos_of_mem ha
    simp only [List.length_cons]
    omega
def Cas.In (c : Cas) (V : List Int) : Prop := ∀ l, ∀ v ∈ c.facts.getD l [], v ∈ V
theorem Cas.In.len {c : Cas} {V : List Int} {B : Int} (i : c.In V) (f : c.Fine B) (l : Nat) : (c.facts.getD l []).length ≤ V.length := nodup_sub (f.nd l) (i l)
inductive Op where
  | l (r k : Nat) (v : Int)
  | j (r k r' k' : Nat)
def Cas.op (c : Cas) : Op → Cas
  | .l r k v => c.learn r k v
  | .j r k r' k' => c.join r k r' k'
def Op.ok (n m : Nat) (B : Int) : Op → Prop
  | .l r k v => r < n ∧ k < m ∧ v < B
  | .j r k r' k' => r < n ∧ k < m ∧ r' < n ∧ k' < m
def Op.H (M : Nat → Nat → Int) : Op → Prop
  | .l r k v => M r k = v
  | .j r k r' k' => M r k = M r' k'
structure Ops (c d : Cas) (B : Int) (V : List Int) (os : List Op) : Prop where
  ok : d.Ok
  fine : d.Fine B
  vs : d.In V
  cols : d.cols = c.cols
  n : d.n = c.n
  sat : ∀ M, d.Sat M ↔ c.Sat M ∧ ∀ o ∈ os, o.H M
end DL
set_option maxHeartbeats 8000000
namespace PySem
namespace DLSetT
open L2 PyProof.Rows
section
variable {P : Program} {w : World} {A : Around} {E : Value → Shared → Prop} {s : Shared}
end
end DLSetT
end PySem
set_option maxHeartbeats 8000000
namespace DL
open PySem PySem.Spec PyProof.Rows L2
section
variable {X : Cx} {W : WX} {e a b c : Expr} {es : List Expr} {pos p : Pos} {K : PySem.W.Frag} {ι : List Addr} {F H : Hp} {S : zae} {mg : Str → Option Value}
/-! ## sets of tuples of ints, from a list or a tuple -/
/-! ## sorted(set(x)) of tuples of ints, x a list or a tuple -/
end
end DL
set_option maxHeartbeats 8000000
namespace PySem.W
open PySem PySem.Calls PyProof.Rows
section
variable {prog : Program} {w : World} {A : Around} {E : Value → Shared → Prop} {s : Shared}
theorem sortsAt_one {v : Value} {d : PyData} {as : List Addr} (r : Reads s.heap v d as) (hal : alike d d = true) (hn : d ≠ .none) (hu : A.units + d.depth < cLine) : SortsAt prog w A s (dataKind s.heap [d]) [v] := by
  have al : AllAlike [d] := fun x hx y hy => by
    simp only [List.mem_singleton] at hx hy
    subst hx
    subst hy
    exact hal
  refine ⟨fun u hu => ?_, general', ?_, fun h2 => absurd h2 (by simp)⟩
  · simp only [List.mem_singleton] at hu
    subst hu
    exact ⟨_, dataKind_some al (List.mem_singleton.mpr rfl) r⟩
  · intro E x y a b Q ha hb hq
    obtain ⟨d1, as1, hd1, ra, rfl⟩ := dataKind_inv ha
    obtain ⟨d2, as2, hd2, rb, rfl⟩ := dataKind_inv hb
    simp only [List.mem_singleton] at hd1 hd2
    subst hd1
    subst hd2
    show wpAny _ _ (oneLt' false x y) _ _ _
    exact oneLt_alike (fun h => nomatch h) ra rb hal hn (by rw [Nat.min_self]; exact hu) hq
theorem zg9 {β : Type} {R : Value → β → Prop} {enc : β → PyData} {b : β} {v : Value} {l : Addr} {Q : Value → Shared → Prop} (hl : s.heap.IsList l [v].toArray) (e : EachIs R [v] [b]) (er : ∃ as, Reads s.heap v (enc b) as) (hal : alike (enc b) (enc b) = true) (hn : enc b ≠ .none)
    (hu : A.units + 2 + (enc b).depth < cLine) (h : ∀ out, out.length = 1 → EachIs R out ([b].mergeSort (dataLe false enc)) → Q (.ref (s.heap.objs.size + 1)) { s with heap := sortedAll s.heap [v] (List.toArray out) }) :
    wpAny (model prog w) A (call (.builtin "sorted") [.ref l]) Q E s := by
  obtain ⟨as, r⟩ := er
  have r' : Reads (sortingHeap (copyHeap s.heap [v]) (s.heap.objs.size + 1) [v]) v (enc b) as := PyProof.Rows.Reads.keeps (fun _ _ => sorting_copy_old) r
  have al : AllAlike ([b].map enc) := fun x hx y hy => by
    simp only [List.map_cons, List.map_nil, List.mem_singleton] at hx hy
    subst hx
    subst hy
    exact hal
  have er' : EachIs (fun u b => ∃ as, Reads (sortingHeap (copyHeap s.heap [v]) (s.heap.objs.size + 1) [v]) u (enc b) as) [v] [b] := .cons ⟨as, r'⟩ .nil
  exact sorted_vals hl (sortsAt_one (s := { s with heap := sortingHeap (copyHeap s.heap [v]) (s.heap.objs.size + 1) [v] }) r' hal hn (by show A.in1.in1.units + _ < cLine; exact hu)) (by show 1 ≤ sizeLine; unfold sizeLine; omega)
    (h _ (sortVals_length false rfl) (by exact sortVals_data (h' := sortingHeap (copyHeap s.heap [v]) (s.heap.objs.size + 1) [v]) false e er' al))
end
end PySem.W
namespace DL
open PySem PySem.Spec PyProof.Rows L2
section
variable {X : Cx} {W : WX} {e a b c : Expr} {es : List Expr} {pos p : Pos} {K : PySem.W.Frag} {ι : List Addr} {F H : Hp} {S : zae} {mg : Str → Option Value}
/-! ## sorted(x) of a list of one item, too -/
end
end DL
namespace DL
end DL
set_option maxHeartbeats 400000
namespace DL
open PySem PySem.Spec PyProof.Rows L2
/-! ## groups of equal cells: a case as the laws keep it -/
abbrev Cel := Nat × Nat
abbrev Grp := List Cel × List Int
abbrev Grps := List Grp
def Grps.has (G : Grps) (p : Cel) : Grp := (G.filter fun g => decide (p ∈ g.1)).headD ([], [])
def Grps.learn (G : Grps) (p : Cel) (v : Int) : Grps := G.map fun g => (g.1, if p ∈ g.1 then sset (g.2 ++ [v]) else g.2)
def Grps.join (G : Grps) (p q : Cel) : Grps := if G.has p = G.has q then G else (G.filter fun g => decide (g ≠ G.has p) && decide (g ≠ G.has q)) ++ [((G.has p).1 ++ (G.has q).1, sset ((G.has p).2 ++ (G.has q).2))]
def Grps.alike (G : Grps) (p q : Cel) : Bool := decide (G.has p = G.has q) || (G.has p).2.any fun v => decide (v ∈ (G.has q).2)
structure Rep (G : Grps) (c : Cas) : Prop where
  one : ∀ r k, r < c.n → k < c.cols.length → ∃ g ∈ G, (r, k) ∈ g.1
  inn : ∀ g ∈ G, ∀ p ∈ g.1, p.1 < c.n ∧ p.2 < c.cols.length
  ne : ∀ g ∈ G, g.1 ≠ []
  same : ∀ g ∈ G, ∀ p ∈ g.1, ∀ g' ∈ G, ∀ q ∈ g'.1, (g = g' ↔ c.at_ p.1 p.2 = c.at_ q.1 q.2)
  val : ∀ g ∈ G, ∀ p ∈ g.1, ∀ v, v ∈ g.2 ↔ v ∈ c.fact p.1 p.2
  srt : ∀ g ∈ G, g.2.Pairwise (· < ·)
section
variable {G : Grps} {c : Cas}
theorem Rep.has (h : Rep G c) {r k : Nat} (hr : r < c.n) (hk : k < c.cols.length) : G.has (r, k) ∈ G ∧ (r, k) ∈ (G.has (r, k)).1 := by
  obtain ⟨g, hg, hp⟩ := h.one r k hr hk
  unfold Grps.has
  cases e : G.filter fun g => decide ((r, k) ∈ g.1) with
  | nil =>
    have : g ∈ G.filter fun g => decide ((r, k) ∈ g.1) := List.mem_filter.mpr ⟨hg, decide_eq_true hp⟩
    rw [e] at this
    cases this
  | cons x xs =>
    have : x ∈ G.filter fun g => decide ((r, k) ∈ g.1) := by rw [e]; simp
    obtain ⟨h1, h2⟩ := List.mem_filter.mp this
    exact ⟨h1, of_decide_eq_true h2⟩
theorem Rep.eq (h : Rep G c) {r k r' k' : Nat} (hr : r < c.n) (hk : k < c.cols.length) (hr' : r' < c.n) (hk' : k' < c.cols.length) : G.has (r, k) = G.has (r', k') ↔ c.at_ r k = c.at_ r' k' := by
  obtain ⟨a, b⟩ := h.has hr hk
  obtain ⟨a', b'⟩ := h.has hr' hk'
  exact h.same _ a _ b _ a' _ b'
theorem Rep.mem (h : Rep G c) {r k : Nat} (hr : r < c.n) (hk : k < c.cols.length) (v : Int) : v ∈ (G.has (r, k)).2 ↔ v ∈ c.fact r k := by
  obtain ⟨a, b⟩ := h.has hr hk
  exact h.val _ a _ b v
theorem Rep.alike (h : Rep G c) {r k r' k' : Nat} (hr : r < c.n) (hk : k < c.cols.length) (hr' : r' < c.n) (hk' : k' < c.cols.length) : G.alike (r, k) (r', k') = c.alike r k r' k' := by
  unfold Grps.alike Cas.alike
  have e1 : decide (G.has (r, k) = G.has (r', k')) = decide (c.at_ r k = c.at_ r' k') := by rw [decide_eq_decide]; exact h.eq hr hk hr' hk'
  have e2 : ((G.has (r, k)).2.any fun v => decide (v ∈ (G.has (r', k')).2)) = (c.fact r k).any fun v => decide (v ∈ c.fact r' k') := by
    rw [Bool.eq_iff_iff]
    simp only [List.any_eq_true, decide_eq_true_eq]
    constructor
    · rintro ⟨v, a, b⟩; exact ⟨v, (h.mem hr hk v).mp a, (h.mem hr' hk' v).mp b⟩
    · rintro ⟨v, a, b⟩; exact ⟨v, (h.mem hr hk v).mpr a, (h.mem hr' hk' v).mpr b⟩
  rw [e1, e2]
theorem Rep.emp (h : Rep G c) {r k : Nat} (hr : r < c.n) (hk : k < c.cols.length) : (G.has (r, k)).2 = [] ↔ c.fact r k = [] := by
  constructor
  · intro e
    apply List.eq_nil_iff_forall_not_mem.mpr
    intro v hv
    have := (h.mem hr hk v).mpr hv
    rw [e] at this
    cases this
  · intro e
    apply List.eq_nil_iff_forall_not_mem.mpr
    intro v hv
    have := (h.mem hr hk v).mp hv
    rw [e] at this
    cases this
theorem Rep.learn (h : Rep G c) (ok : c.Ok) {r k : Nat} {v : Int} (hr : r < c.n) (hk : k < c.cols.length) : Rep (G.learn (r, k) v) (c.learn r k v) := by
  obtain ⟨a0, b0⟩ := h.has hr hk
  have iff_ : ∀ g ∈ G, ∀ p ∈ g.1, ((r, k) ∈ g.1 ↔ c.at_ p.1 p.2 = c.at_ r k) := fun g hg p hp => by
    constructor
    · intro hm
      exact (h.same g hg p hp g hg (r, k) hm).mp rfl
    · intro e
      have := (h.same g hg p hp _ a0 (r, k) b0).mpr e
      rw [this]; exact b0
  constructor
  · intro r' k' hr' hk'
    rw [znc] at hr'
    rw [zg8] at hk'
    obtain ⟨g, hg, hp⟩ := h.one r' k' hr' hk'
    exact ⟨_, List.mem_map.mpr ⟨g, hg, rfl⟩, hp⟩
  · intro x hx p hp
    obtain ⟨g, hg, rfl⟩ := List.mem_map.mp hx
    rw [znc, zg8]
    exact h.inn g hg p hp
  · intro x hx
    obtain ⟨g, hg, rfl⟩ := List.mem_map.mp hx
    exact h.ne g hg
  · intro x hx p hp x' hx' q hq
    obtain ⟨g, hg, rfl⟩ := List.mem_map.mp hx
    obtain ⟨g', hg', rfl⟩ := List.mem_map.mp hx'
    rw [zin, zin, ← h.same g hg p hp g' hg' q hq]
    constructor
    · intro e
      have e1 : g.1 = g'.1 := (Prod.mk.inj e).1
      have hp' : p ∈ g'.1 := by rw [← e1]; exact hp
      exact (h.same g hg p hp g' hg' p hp').mpr rfl
    · intro e; rw [e]
  · intro x hx p hp u
    obtain ⟨g, hg, rfl⟩ := List.mem_map.mp hx
    obtain ⟨i1, i2⟩ := h.inn g hg p hp
    rw [zjg ok hr hk, ← h.val g hg p hp u]
    have q := iff_ g hg p hp
    show u ∈ (if (r, k) ∈ g.1 then sset (g.2 ++ [v]) else g.2) ↔ _
    by_cases hm : (r, k) ∈ g.1
    · rw [if_pos hm, zcl]
      simp only [List.mem_append, List.mem_singleton, q.mp hm, true_and]
    · rw [if_neg hm]
      have : ¬ c.at_ p.1 p.2 = c.at_ r k := fun e => hm (q.mpr e)
      simp only [this, false_and, or_false]
  · intro x hx
    obtain ⟨g, hg, rfl⟩ := List.mem_map.mp hx
    show (if (r, k) ∈ g.1 then sset (g.2 ++ [v]) else g.2).Pairwise (· < ·)
    split
    · exact zck _
    · exact h.srt g hg
theorem Rep.join (h : Rep G c) (ok : c.Ok) {r k r' k' : Nat} (hr : r < c.n) (hk : k < c.cols.length) (hr' : r' < c.n) (hk' : k' < c.cols.length) : Rep (G.join (r, k) (r', k')) (c.join r k r' k') := by
  by_cases e : c.at_ r k = c.at_ r' k'
  · have q : c.join r k r' k' = c := by unfold Cas.join; rw [if_pos e]
    unfold Grps.join
    rw [if_pos ((h.eq hr hk hr' hk').mpr e), q]
    exact h
  · have j := zo0 ok hr hk hr' hk' e
    have hne : ¬ G.has (r, k) = G.has (r', k') := fun q => e ((h.eq hr hk hr' hk').mp q)
    obtain ⟨a, b⟩ := h.has hr hk
    obtain ⟨a', b'⟩ := h.has hr' hk'
    unfold Grps.join
    rw [if_neg hne]
    -- what a cell's label is now
    have at1 : ∀ g ∈ G, ∀ p ∈ g.1, (c.join r k r' k').at_ p.1 p.2 = if g = G.has (r', k') then c.at_ r k else c.at_ p.1 p.2 := fun g hg p hp => by
      obtain ⟨i1, i2⟩ := h.inn g hg p hp
      rw [j.at_ p.1 p.2 i1 i2]
      have := h.same g hg p hp _ a' _ b'
      by_cases q : g = G.has (r', k')
      · rw [if_pos q, if_pos (this.mp q)]
      · rw [if_neg q, if_neg (fun z => q (this.mpr z))]
    have atA : ∀ p ∈ (G.has (r, k)).1, c.at_ p.1 p.2 = c.at_ r k := fun p hp => (h.same _ a p hp _ a _ b).mp rfl
    have atB : ∀ p ∈ (G.has (r', k')).1, c.at_ p.1 p.2 = c.at_ r' k' := fun p hp => (h.same _ a' p hp _ a' _ b').mp rfl
    have new1 : ∀ p ∈ (G.has (r, k)).1 ++ (G.has (r', k')).1, (c.join r k r' k').at_ p.1 p.2 = c.at_ r k := fun p hp => by
      rcases List.mem_append.mp hp with hp | hp
      · rw [at1 _ a p hp, if_neg hne]; exact atA p hp
      · rw [at1 _ a' p hp, if_pos rfl]
    have old : ∀ g, g ∈ (G.filter fun g => decide (g ≠ G.has (r, k)) && decide (g ≠ G.has (r', k'))) ↔ g ∈ G ∧ g ≠ G.has (r, k) ∧ g ≠ G.has (r', k') := fun g => by
      rw [List.mem_filter, Bool.and_eq_true, decide_eq_true_eq, decide_eq_true_eq]
    have oldat : ∀ g, g ∈ G → g ≠ G.has (r, k) → g ≠ G.has (r', k') → ∀ p ∈ g.1, (c.join r k r' k').at_ p.1 p.2 = c.at_ p.1 p.2 ∧ c.at_ p.1 p.2 ≠ c.at_ r k := fun g hg n1 n2 p hp => by
      refine ⟨by rw [at1 g hg p hp, if_neg n2], fun z => n1 ((h.same g hg p hp _ a _ b).mpr z)⟩
    have fc : ∀ p : Cel, ∀ u, u ∈ (c.join r k r' k').fact p.1 p.2 ↔ u ∈ c.facts.getD ((c.join r k r' k').at_ p.1 p.2) [] ∨ ((c.join r k r' k').at_ p.1 p.2 = c.at_ r k ∧ u ∈ c.facts.getD (c.at_ r' k') []) := fun p u => j.mem _ u
    constructor
    · intro s l hs hl
      rw [j.n] at hs
      rw [j.cols] at hl
      obtain ⟨g, hg, hp⟩ := h.one s l hs hl
      by_cases n1 : g = G.has (r, k)
      · exact ⟨_, List.mem_append_right _ (List.mem_singleton.mpr rfl), List.mem_append_left _ (by rw [← n1]; exact hp)⟩
      · by_cases n2 : g = G.has (r', k')
        · exact ⟨_, List.mem_append_right _ (List.mem_singleton.mpr rfl), List.mem_append_right _ (by rw [← n2]; exact hp)⟩
        · exact ⟨g, List.mem_append_left _ ((old g).mpr ⟨hg, n1, n2⟩), hp⟩
    · intro g hg p hp
      rw [j.n, j.cols]
      rcases List.mem_append.mp hg with hg | hg
      · exact h.inn g ((old g).mp hg).1 p hp
      · rw [List.mem_singleton] at hg
        subst hg
        rcases List.mem_append.mp hp with hp | hp
        · exact h.inn _ a p hp
        · exact h.inn _ a' p hp
    · intro g hg
      rcases List.mem_append.mp hg with hg | hg
      · exact h.ne g ((old g).mp hg).1
      · rw [List.mem_singleton] at hg
        subst hg
        intro z
        have := h.ne _ a
        exact this (List.append_eq_nil_iff.mp z).1
    · intro g hg p hp g' hg' q hq
      rcases List.mem_append.mp hg with hg | hg
      · obtain ⟨g1, g2, g3⟩ := (old g).mp hg
        obtain ⟨o1, o2⟩ := oldat g g1 g2 g3 p hp
        rcases List.mem_append.mp hg' with hg' | hg'
        · obtain ⟨k1, k2, k3⟩ := (old g').mp hg'
          obtain ⟨o3, o4⟩ := oldat g' k1 k2 k3 q hq
          rw [o1, o3]
          exact h.same g g1 p hp g' k1 q hq
        · rw [List.mem_singleton] at hg'
          subst hg'
          rw [new1 q hq, o1]
          refine ⟨fun z => ?_, fun z => absurd z o2⟩
          exfalso
          have b2 : (r, k) ∈ g.1 := by rw [z]; exact List.mem_append_left _ b
          exact g2 ((h.same g g1 _ b2 _ a _ b).mpr rfl)
      · rw [List.mem_singleton] at hg
        subst hg
        rcases List.mem_append.mp hg' with hg' | hg'
        · obtain ⟨k1, k2, k3⟩ := (old g').mp hg'
          obtain ⟨o3, o4⟩ := oldat g' k1 k2 k3 q hq
          rw [new1 p hp, o3]
          refine ⟨fun z => ?_, fun z => absurd z.symm o4⟩
          exfalso
          have b2 : (r, k) ∈ g'.1 := by rw [← z]; exact List.mem_append_left _ b
          exact k2 ((h.same g' k1 _ b2 _ a _ b).mpr rfl)
        · rw [List.mem_singleton] at hg'
          subst hg'
          rw [new1 p hp, new1 q hq]
          exact ⟨fun _ => rfl, fun _ => rfl⟩
    · intro g hg p hp u
      rcases List.mem_append.mp hg with hg | hg
      · obtain ⟨g1, g2, g3⟩ := (old g).mp hg
        obtain ⟨o1, o2⟩ := oldat g g1 g2 g3 p hp
        rw [fc p u, o1, h.val g g1 p hp u]
        constructor
        · intro z; exact .inl z
        · rintro (z | ⟨z, _⟩)
          · exact z
          · exact absurd z o2
      · rw [List.mem_singleton] at hg
        subst hg
        show u ∈ sset ((G.has (r, k)).2 ++ (G.has (r', k')).2) ↔ _
        rw [fc p u, new1 p hp, zcl, List.mem_append, h.mem hr hk u, h.mem hr' hk' u]
        simp only [true_and]
        rfl
    · intro g hg
      rcases List.mem_append.mp hg with hg | hg
      · exact h.srt g ((old g).mp hg).1
      · rw [List.mem_singleton] at hg
        subst hg
        exact zck _
def Grps.clash (G : Grps) (cols : List (Option (List Int))) : Bool := G.any fun g => decide (1 < g.2.length) || g.1.any fun p => g.2.any fun v => !decide (v ∈ (cols.getD p.2 none).getD g.2)
theorem Rep.len (h : Rep G c) {B : Int} (f : c.Fine B) {g : Grp} (hg : g ∈ G) {p : Cel} (hp : p ∈ g.1) : g.2.length = (c.fact p.1 p.2).length := by
  have n1 : g.2.Nodup := (h.srt g hg).imp fun x => by omega
  exact ((List.perm_ext_iff_of_nodup n1 (f.nd _)).mpr (h.val g hg p hp)).length_eq
theorem Rep.clash (h : Rep G c) {B : Int} (f : c.Fine B) : G.clash c.cols = c.clash := by
  rw [Bool.eq_iff_iff]
  unfold Grps.clash Cas.clash
  simp only [List.any_eq_true, Bool.or_eq_true, decide_eq_true_eq, Bool.not_eq_true', decide_eq_false_iff_not]
  constructor
  · rintro ⟨g, hg, q⟩
    have two : ∃ p ∈ g.1, c.badAt p.1 p.2 = true := by
      rcases q with q | ⟨p, hp, v, hv, q⟩
      · obtain ⟨p, ps, e⟩ : ∃ p ps, g.1 = p :: ps := by
          cases e : g.1 with
          | nil => exact absurd e (h.ne g hg)
          | cons p ps => exact ⟨p, ps, rfl⟩
        have hp : p ∈ g.1 := by rw [e]; simp
        refine ⟨p, hp, ?_⟩
        unfold Cas.badAt
        have := h.len f hg hp
        have : 1 < (c.fact p.1 p.2).length := by omega
        simp [this]
      · refine ⟨p, hp, ?_⟩
        unfold Cas.badAt
        have hv2 := (h.val g hg p hp v).mp hv
        cases e : c.cols.getD p.2 none with
        | none => rw [e] at q; exact absurd hv q
        | some ns =>
          rw [e] at q
          simp only [Bool.or_eq_true]
          right
          exact List.any_eq_true.mpr ⟨v, hv2, by simpa using q⟩
    obtain ⟨p, hp, q⟩ := two
    obtain ⟨i1, i2⟩ := h.inn g hg p hp
    exact ⟨p, mem_cellNs.mpr ⟨i1, i2⟩, q⟩
  · rintro ⟨⟨r, k⟩, hp, q⟩
    obtain ⟨hr, hk⟩ := mem_cellNs.mp hp
    obtain ⟨a, b⟩ := h.has hr hk
    refine ⟨_, a, ?_⟩
    unfold Cas.badAt at q
    rw [Bool.or_eq_true] at q
    rcases q with q | q
    · left
      have l : (G.has (r, k)).2.length = (c.fact r k).length := h.len f a b
      rw [l]
      simpa using q
    · right
      refine ⟨(r, k), b, ?_⟩
      cases e : c.cols.getD k none with
      | none => rw [e] at q; simp at q
      | some ns =>
        rw [e] at q
        obtain ⟨v, hv, q⟩ := List.any_eq_true.mp q
        exact ⟨v, (h.mem hr hk v).mpr hv, by simpa using q⟩
def Grps.goal (G : Grps) : Goal → Bool
  | .no => false
  | .val r k v => decide (v ∈ (G.has (r, k)).2)
  | .eq r k r' k' => G.alike (r, k) (r', k')
theorem Rep.goal (h : Rep G c) {g : Goal} (hg : okGoal c.n c.cols.length g) : G.goal g = c.goal g := by
  cases g with
  | no => rfl
  | val r k v => show decide _ = decide _; rw [decide_eq_decide]; exact h.mem hg.1 hg.2 v
  | eq r k r' k' => exact h.alike hg.1.1 hg.1.2 hg.2.1 hg.2.2
def Grps.can (G : Grps) (g : Gv) (lines : List Nat) : Bool := g.all fun p => match p.2 with
  | none => G.alike (0, p.1) (1, p.1)
  | some v => lines.all fun r => decide (v ∈ (G.has (r, p.1)).2)
theorem Rep.canStep (h : Rep G c) {t : Ru} (ht : okRu c.cols.length t) {r : Nat} (hr : r < c.n) {w : Int} (hw : t.2.2 = some w) (full : ∀ p ∈ t.1, p.2 ≠ none) : G.can t.1 [r] = c.canStep t r := by
  unfold Grps.can Cas.canStep
  rw [hw]
  simp only [Option.isSome_some, Bool.true_and]
  rw [Bool.eq_iff_iff, List.all_eq_true, List.all_eq_true]
  refine forall_congr' fun p => forall_congr' fun hp => ?_
  unfold Cas.entS
  cases e : p.2 with
  | none => exact absurd e (full p hp)
  | some v =>
    simp only [List.all_cons, List.all_nil, Bool.and_true, decide_eq_true_eq]
    exact h.mem hr (ht.g p hp) v
theorem Rep.canJoin (h : Rep G c) {t : Ru} (ht : okRu c.cols.length t) (n2 : c.n = 2) (hw : t.2.2 = none) : G.can t.1 [0, 1] = c.canJoin t := by
  unfold Grps.can Cas.canJoin
  rw [hw]
  simp only [Option.isNone_none, Bool.true_and, n2, decide_true]
  rw [Bool.eq_iff_iff, List.all_eq_true, List.all_eq_true]
  refine forall_congr' fun p => forall_congr' fun hp => ?_
  unfold Cas.entJ
  have hp1 := ht.g p hp
  cases e : p.2 with
  | none => rw [h.alike (by omega) hp1 (by omega) hp1]
  | some v =>
    simp only [List.all_cons, List.all_nil, Bool.and_true, Bool.and_eq_true, decide_eq_true_eq]
    rw [h.mem (by omega) hp1 v, h.mem (by omega) hp1 v]
end
end DL
set_option maxHeartbeats 400000
namespace DL
open PySem PySem.Spec PyProof.Rows L2
/-! ## what is left when only some cells are split -/
def InColsS (n : Nat) (cols : List (Option (List Int))) (cells : List Cel) (B : Int) (M : Nat → Nat → Int) : Prop := ∀ r k ns, r < n → k < cols.length → cols.getD k none = some ns → M r k ∈ ns ∨ ((r, k) ∉ cells ∧ B ≤ M r k)
def Open (ts : List Ru) (g : Goal) (cells : List Cel) (B : Int) (c : Cas) : Prop := ∃ M, c.Sat M ∧ (∀ t ∈ ts, Keep c.n M t) ∧ InColsS c.n c.cols cells B M ∧ ¬ GoalH M g
end DL
set_option maxHeartbeats 400000
namespace DL
open PySem PySem.Spec PyProof.Rows L2
/-! ## all steps and joins, as the laws make them -/
structure Inv (cols : List (Option (List Int))) (n : Nat) (V : List Int) (B : Int) (c : Cas) : Prop where
  ok : c.Ok
  fine : c.Fine B
  vs : c.In V
  co : c.cols = cols
  nn : c.n = n
section
variable {cols : List (Option (List Int))} {n : Nat} {V : List Int} {B : Int} {c d e : Cas}
theorem Inv.learn (I : Inv cols n V B c) (hV : V.length ≤ 32) {r k : Nat} {v : Int} (hr : r < n) (hk : k < cols.length) (hv : v ∈ V) (hb : v < B) : Inv cols n V B (c.learn r k v) := by
  have hr' : r < c.n := by rw [I.nn]; exact hr
  have hk' : k < c.cols.length := by rw [I.co]; exact hk
  refine ⟨I.ok.learn hr' hk' ?_, I.fine.learn I.ok hr' hk' hb, fun l u hu => ?_, (zg8 ..).trans I.co, (znc ..).trans I.nn⟩
  · have := I.vs.len I.fine (c.at_ r k)
    unfold Cas.fact
    omega
  · rw [zci c r k v (I.ok.lt hr' hk')] at hu
    split at hu
    · rcases List.mem_append.mp hu with q | q
      · exact I.vs l u q
      · rw [List.mem_singleton] at q; rw [q]; exact hv
    · exact I.vs l u hu
theorem Inv.join (I : Inv cols n V B c) (hV : V.length ≤ 32) {r k r' k' : Nat} (hr : r < n) (hk : k < cols.length) (hr' : r' < n) (hk' : k' < cols.length) : Inv cols n V B (c.join r k r' k') := by
  have a1 : r < c.n := by rw [I.nn]; exact hr
  have a2 : k < c.cols.length := by rw [I.co]; exact hk
  have a3 : r' < c.n := by rw [I.nn]; exact hr'
  have a4 : k' < c.cols.length := by rw [I.co]; exact hk'
  by_cases e : c.at_ r k = c.at_ r' k'
  · have q : c.join r k r' k' = c := by unfold Cas.join; rw [if_pos e]
    rw [q]; exact I
  · have j := zo0 I.ok a1 a2 a3 a4 e
    have s1 := I.vs.len I.fine (c.at_ r k)
    have s2 := I.vs.len I.fine (c.at_ r' k')
    refine ⟨j.ok I.ok (I.ok.lt a1 a2) (by omega), I.fine.join I.ok a1 a2 a3 a4, fun l u hu => ?_, j.cols.trans I.co, j.n.trans I.nn⟩
    rcases (j.mem l u).mp hu with q | ⟨_, q⟩
    · exact I.vs _ _ q
    · exact I.vs _ _ q
structure Mono (n m : Nat) (c d : Cas) : Prop where
  kn : ∀ r k, r < n → k < m → ∀ v ∈ c.fact r k, v ∈ d.fact r k
  eq : ∀ r k r' k', r < n → k < m → r' < n → k' < m → c.at_ r k = c.at_ r' k' → d.at_ r k = d.at_ r' k'
theorem Mono.refl (n m : Nat) (c : Cas) : Mono n m c c := ⟨fun _ _ _ _ _ h => h, fun _ _ _ _ _ _ _ _ h => h⟩
theorem Mono.trans {m : Nat} (a : Mono n m c d) (b : Mono n m d e) : Mono n m c e := ⟨fun r k hr hk v hv => b.kn r k hr hk v (a.kn r k hr hk v hv), fun r k r' k' h1 h2 h3 h4 h => b.eq r k r' k' h1 h2 h3 h4 (a.eq r k r' k' h1 h2 h3 h4 h)⟩
def EqS (ts : List Ru) (n : Nat) (c d : Cas) : Prop := ∀ M, (∀ t ∈ ts, Keep n M t) → (d.Sat M ↔ c.Sat M)
theorem EqS.refl (ts : List Ru) (n : Nat) (c : Cas) : EqS ts n c c := fun _ _ => Iff.rfl
theorem EqS.trans {ts : List Ru} (a : EqS ts n c d) (b : EqS ts n d e) : EqS ts n c e := fun M k => (b M k).trans (a M k)
structure Went (ts : List Ru) (cols : List (Option (List Int))) (n : Nat) (V : List Int) (B : Int) (c : Cas) (G' : Grps) (d : Cas) : Prop where
  rep : Rep G' d
  inv : Inv cols n V B d
  eqs : EqS ts n c d
  mono : Mono n cols.length c d
theorem Went.trans {ts : List Ru} {G1 G2 : Grps} (a : Went ts cols n V B c G1 d) (b : Went ts cols n V B d G2 e) : Went ts cols n V B c G2 e := ⟨b.rep, b.inv, a.eqs.trans b.eqs, a.mono.trans b.mono⟩
def Grps.stepR (t : Ru) (w : Int) (G : Grps) (r : Nat) : Grps := if G.can t.1 [r] = true then G.learn (r, t.2.1) w else G
def Grps.roundR (n : Nat) (G : Grps) (t : Ru) : Grps := match t.2.2 with
  | none => if n = 2 ∧ G.can t.1 [0, 1] = true then G.join (0, t.2.1) (1, t.2.1) else G
  | some w => (List.range n).foldl (Grps.stepR t w) G
def Grps.round (ts : List Ru) (n : Nat) (G : Grps) : Grps := ts.foldl (Grps.roundR n) G
structure RulesV (ts : List Ru) (m : Nat) (V : List Int) (B : Int) : Prop where
  ok : ∀ t ∈ ts, okRu m t
  v : ∀ t ∈ ts, ∀ w, t.2.2 = some w → w ∈ V ∧ w < B
  full : ∀ t ∈ ts, t.2.2.isSome = true → ∀ p ∈ t.1, p.2 ≠ none
def Grps.chase (ts : List Ru) (n : Nat) : Nat → Grps → Grps
  | 0, G => G
  | k + 1, G => if G.round ts n = G then G else Grps.chase ts n k (G.round ts n)
end
end DL
set_option maxHeartbeats 400000
namespace DL
open PySem PySem.Spec PyProof.Rows L2
/-! ## the chase comes to rest -/
def opsOf (n : Nat) (t : Ru) : List (Ru × Nat) := match t.2.2 with
  | some _ => (List.range n).map fun r => (t, r)
  | none => if n = 2 then [(t, 0)] else []
def Grps.op (G : Grps) (o : Ru × Nat) : Grps := match o.1.2.2 with
  | some w => G.stepR o.1 w o.2
  | none => if G.can o.1.1 [0, 1] = true then G.join (0, o.1.2.1) (1, o.1.2.1) else G
def Cas.canO (c : Cas) (o : Ru × Nat) : Bool := match o.1.2.2 with
  | some _ => c.canStep o.1 o.2
  | none => c.canJoin o.1
def Cas.doneO (c : Cas) (o : Ru × Nat) : Bool := match o.1.2.2 with
  | some w => decide (w ∈ c.fact o.2 o.1.2.1)
  | none => decide (c.at_ 0 o.1.2.1 = c.at_ 1 o.1.2.1)
section
variable {cols : List (Option (List Int))} {n : Nat} {V : List Int} {B : Int} {c d e : Cas} {ts : List Ru}
theorem mem_ops {o : Ru × Nat} : o ∈ ts.flatMap (opsOf n) ↔ o.1 ∈ ts ∧ ((∃ w, o.1.2.2 = some w ∧ o.2 < n) ∨ (o.1.2.2 = none ∧ n = 2 ∧ o.2 = 0)) := by
  rw [List.mem_flatMap]
  obtain ⟨t, r⟩ := o
  constructor
  · rintro ⟨u, hu, h⟩
    unfold opsOf at h
    cases e : u.2.2 with
    | some w =>
      rw [e] at h
      simp only [List.mem_map, List.mem_range, Prod.mk.injEq] at h
      obtain ⟨a, ha, rfl, rfl⟩ := h
      exact ⟨hu, .inl ⟨w, e, ha⟩⟩
    | none =>
      rw [e] at h
      simp only at h
      split at h
      · rename_i n2
        simp only [List.mem_singleton, Prod.mk.injEq] at h
        obtain ⟨rfl, rfl⟩ := h
        exact ⟨hu, .inr ⟨e, n2, rfl⟩⟩
      · cases h
  · rintro ⟨hu, h⟩
    refine ⟨t, hu, ?_⟩
    unfold opsOf
    rcases h with ⟨w, e, h⟩ | ⟨e, n2, h⟩
    · simp only at e h
      rw [e]
      simp only [List.mem_map, List.mem_range, Prod.mk.injEq, true_and]
      exact ⟨r, h, rfl⟩
    · simp only at e h
      rw [e]
      subst h
      simp [n2]
theorem Mono.canO (m : Mono n cols.length c d) (Ic : Inv cols n V B c) (Id : Inv cols n V B d) {o : Ru × Nat} (ho : o ∈ ts.flatMap (opsOf n)) (hts : RulesV ts cols.length V B) (h : c.canO o = true) : d.canO o = true := by
  obtain ⟨hm, q⟩ := mem_ops.mp ho
  have ht := hts.ok _ hm
  unfold Cas.canO at h ⊢
  rcases q with ⟨w, e, hr⟩ | ⟨e, n2, _⟩
  · rw [e] at h ⊢
    simp only at h ⊢
    unfold Cas.canStep at h ⊢
    rw [Bool.and_eq_true, List.all_eq_true] at h ⊢
    refine ⟨h.1, fun p hp => ?_⟩
    have := h.2 p hp
    unfold Cas.entS at this ⊢
    cases q : p.2 with
    | none => exact absurd q (hts.full _ hm (by rw [e]; rfl) p hp)
    | some v =>
      rw [q] at this
      simp only [decide_eq_true_eq] at this ⊢
      exact m.kn _ _ hr (ht.g p hp) v this
  · rw [e] at h ⊢
    simp only at h ⊢
    unfold Cas.canJoin at h ⊢
    rw [Bool.and_eq_true, Bool.and_eq_true, List.all_eq_true] at h ⊢
    refine ⟨h.1, by rw [Id.nn]; exact decide_eq_true n2, fun p hp => ?_⟩
    have hp1 := ht.g p hp
    have := h.2.2 p hp
    unfold Cas.entJ at this ⊢
    cases q : p.2 with
    | none =>
      rw [q] at this
      simp only at this ⊢
      unfold Cas.alike at this ⊢
      rw [Bool.or_eq_true, decide_eq_true_eq, List.any_eq_true] at this ⊢
      rcases this with z | ⟨v, hv, z⟩
      · exact .inl (m.eq 0 p.1 1 p.1 (by omega) hp1 (by omega) hp1 z)
      · refine .inr ⟨v, m.kn 0 p.1 (by omega) hp1 v hv, ?_⟩
        rw [decide_eq_true_eq] at z ⊢
        exact m.kn 1 p.1 (by omega) hp1 v z
    | some v =>
      rw [q] at this
      simp only [Bool.and_eq_true, decide_eq_true_eq] at this ⊢
      exact ⟨m.kn 0 p.1 (by omega) hp1 v this.1, m.kn 1 p.1 (by omega) hp1 v this.2⟩
theorem Mono.doneO (m : Mono n cols.length c d) {o : Ru × Nat} (ho : o ∈ ts.flatMap (opsOf n)) (hts : RulesV ts cols.length V B) (h : c.doneO o = true) : d.doneO o = true := by
  obtain ⟨hm, q⟩ := mem_ops.mp ho
  have ht := hts.ok _ hm
  unfold Cas.doneO at h ⊢
  rcases q with ⟨w, e, hr⟩ | ⟨e, n2, _⟩
  · rw [e] at h ⊢
    simp only [decide_eq_true_eq] at h ⊢
    exact m.kn _ _ hr ht.c w h
  · rw [e] at h ⊢
    simp only [decide_eq_true_eq] at h ⊢
    exact m.eq 0 _ 1 _ (by omega) ht.c (by omega) ht.c h
theorem sset_same : ∀ {l : List Int} {v : Int}, l.Pairwise (· < ·) → v ∈ l → sset (l ++ [v]) = l := by
  intro l v hs hv
  have p : (sset (l ++ [v])).Perm l := by
    apply (List.perm_ext_iff_of_nodup ((zck _).imp fun x => by omega) (hs.imp fun x => by omega)).mpr
    intro a
    rw [zcl, List.mem_append, List.mem_singleton]
    exact ⟨fun z => z.elim id fun q => by rw [q]; exact hv, .inl⟩
  exact p.eq_of_pairwise (fun a b _ _ h1 h2 => by omega) (zck _) hs
structure OpW (ts : List Ru) (cols : List (Option (List Int))) (n : Nat) (V : List Int) (B : Int) (c : Cas) (G : Grps) (os : List (Ru × Nat)) (G' : Grps) (d : Cas) : Prop where
  went : Went ts cols n V B c G' d
  aft : ∀ o ∈ os, c.canO o = true → d.doneO o = true
  new : G' = G ∨ ∃ o ∈ ts.flatMap (opsOf n), c.doneO o = false ∧ d.doneO o = true
end
end DL
set_option maxHeartbeats 400000
namespace DL
open PySem PySem.Spec PyProof.Rows L2
/-! ## whether a case stays open, as the laws ask it -/
section
variable {cols : List (Option (List Int))} {n : Nat} {V : List Int} {B : Int} {c d e : Cas} {ts : List Ru} {g : Goal} {cells : List Cel}
theorem Open.went {G : Grps} (I : Inv cols n V B c) (a : Went ts cols n V B c G d) : Open ts g cells B d ↔ Open ts g cells B c := by
  have n1 : d.n = c.n := by rw [I.nn, a.inv.nn]
  have c1 : d.cols = c.cols := by rw [I.co, a.inv.co]
  unfold Open
  rw [n1, c1]
  constructor
  · rintro ⟨M, s, k, i, h⟩
    exact ⟨M, (a.eqs M (by rw [← I.nn]; exact k)).mp s, k, i, h⟩
  · rintro ⟨M, s, k, i, h⟩
    exact ⟨M, (a.eqs M (by rw [← I.nn]; exact k)).mpr s, k, i, h⟩
theorem Rep.unknown {G : Grps} (h : Rep G c) (hc : Closed c.n c.cols cells) : (cells.find? fun p => (G.has p).2.isEmpty) = c.unknown cells := by
  unfold Cas.unknown
  have : ∀ p ∈ cells, (G.has p).2.isEmpty = (c.fact p.1 p.2).isEmpty := fun p hp => by
    obtain ⟨h1, h2, _⟩ := hc p hp
    rw [Bool.eq_iff_iff, List.isEmpty_iff, List.isEmpty_iff]
    exact h.emp h1 h2
  clear hc
  induction cells with
  | nil => rfl
  | cons p ps ih =>
    rw [List.find?_cons, List.find?_cons, this p (by simp), ih fun x hx => this x (by simp [hx])]
end
end DL
set_option maxHeartbeats 400000
namespace DL
open PySem PySem.Spec PyProof.Rows L2
/-! ## groups stay small -/
def gW (g : Grp) : Nat := g.1.length + 1
def Tidy (N : Nat) (G : Grps) : Prop := (G.map gW).sum ≤ N
theorem sum_two {α : Type} (f : α → Nat) (q p : α → Bool) : ∀ {l : List α}, (∀ x ∈ l, q x = true → p x = true) → ((l.filter q).map f).sum ≤ ((l.filter p).map f).sum
  | [], _ => by simp
  | y :: l, h => by
    have ih := sum_two f q p (l := l) fun x hx => h x (by simp [hx])
    cases e : p y with
    | true =>
      rw [List.filter_cons_of_pos (p := p) (by rw [e]), List.map_cons, List.sum_cons]
      cases e2 : q y with
      | true => rw [List.filter_cons_of_pos (p := q) (by rw [e2]), List.map_cons, List.sum_cons]; omega
      | false => rw [List.filter_cons_of_neg (p := q) (by rw [e2]; decide)]; omega
    | false =>
      have e2 : q y = false := by
        cases e2 : q y with
        | false => rfl
        | true => rw [h y (by simp) e2] at e; cases e
      rw [List.filter_cons_of_neg (p := p) (by rw [e]; decide), List.filter_cons_of_neg (p := q) (by rw [e2]; decide)]
      exact ih
theorem zpg {α : Type} (f : α → Nat) (q p : α → Bool) (a : α) (hp : p a = true) (hq : q a = false) : ∀ {l : List α}, (∀ x ∈ l, q x = true → p x = true) → a ∈ l → ((l.filter q).map f).sum + f a ≤ ((l.filter p).map f).sum
  | [], _, h => by cases h
  | y :: l, hh, h => by
    have hl : ∀ x ∈ l, q x = true → p x = true := fun x hx => hh x (by simp [hx])
    rcases List.mem_cons.mp h with z | z
    · subst z
      have := sum_two f q p hl
      rw [List.filter_cons_of_pos (p := p) (by rw [hp]), List.map_cons, List.sum_cons, List.filter_cons_of_neg (p := q) (by rw [hq]; decide)]
      omega
    · have ih := zpg f q p a hp hq hl z
      cases e : p y with
      | true =>
        rw [List.filter_cons_of_pos (p := p) (by rw [e]), List.map_cons, List.sum_cons]
        cases e2 : q y with
        | true => rw [List.filter_cons_of_pos (p := q) (by rw [e2]), List.map_cons, List.sum_cons]; omega
        | false => rw [List.filter_cons_of_neg (p := q) (by rw [e2]; decide)]; omega
      | false =>
        have e2 : q y = false := by
          cases e2 : q y with
          | false => rfl
          | true => rw [hh y (by simp) e2] at e; cases e
        rw [List.filter_cons_of_neg (p := p) (by rw [e]; decide), List.filter_cons_of_neg (p := q) (by rw [e2]; decide)]
        exact ih
theorem zkr {α : Type} (f : α → Nat) (p : α → Bool) : ∀ l : List α, ((l.filter p).map f).sum ≤ (l.map f).sum
  | [] => by simp
  | y :: l => by
    have := zkr f p l
    rw [List.filter_cons, List.map_cons, List.sum_cons]
    split
    · rw [List.map_cons, List.sum_cons]; omega
    · omega
theorem Tidy.learn {N : Nat} {G : Grps} (h : Tidy N G) (p : Cel) (v : Int) : Tidy N (G.learn p v) := by
  unfold Tidy Grps.learn at *
  rw [List.map_map]
  exact h
theorem Tidy.join {N : Nat} {G : Grps} (h : Tidy N G) {p q : Cel} (hp : G.has p ∈ G) (hq : G.has q ∈ G) : Tidy N (G.join p q) := by
  unfold Grps.join
  by_cases e : G.has p = G.has q
  · rw [if_pos e]; exact h
  · rw [if_neg e]
    unfold Tidy at *
    rw [List.map_append, List.sum_append, List.map_singleton, List.sum_singleton]
    have a := zpg gW (fun x => decide (x ≠ G.has p) && decide (x ≠ G.has q)) (fun x => decide (x ≠ G.has q)) (G.has p) (by simpa using e) (by simp) (l := G) (fun x _ z => (Bool.and_eq_true _ _ ▸ z : _ ∧ _).2) hp
    have b := zpg gW (fun x => decide (x ≠ G.has q)) (fun _ => true) (G.has q) rfl (by simp) (l := G) (fun _ _ _ => rfl) hq
    have c := zkr gW (fun _ => true) G
    have w1 : gW ((G.has p).1 ++ (G.has q).1, sset ((G.has p).2 ++ (G.has q).2)) = (G.has p).1.length + (G.has q).1.length + 1 := by unfold gW; rw [List.length_append]
    rw [w1]
    unfold gW at a b c h ⊢
    omega
theorem Tidy.len {N : Nat} {G : Grps} (h : Tidy N G) : G.length ≤ N := by
  have : ∀ l : Grps, l.length ≤ (l.map gW).sum := fun l => by
    induction l with
    | nil => simp
    | cons y l ih => rw [List.map_cons, List.sum_cons, List.length_cons]; unfold gW at *; omega
  exact Nat.le_trans (this G) h
end DL
set_option maxHeartbeats 400000
namespace DL
open PySem PySem.Spec PyProof.Rows L2
/-! ## the case of a rule, as groups -/
structure RepI (cols : List (Option (List Int))) (n : Nat) (V : List Int) (B : Int) (N : Nat) (G : Grps) (c : Cas) : Prop where
  rep : Rep G c
  inv : Inv cols n V B c
  tid : Tidy N G
section
variable {cols : List (Option (List Int))} {n N : Nat} {V : List Int} {B : Int}
end
end DL
set_option maxHeartbeats 4000000
namespace DL
open PySem PySem.Spec PyProof.Rows L2
section
variable {X : Cx} {W : WX} {e a b c : Expr} {es : List Expr} {pos p pos2 : Pos} {K : PySem.W.Frag} {ι : List Addr} {F H : Hp} {S : zae} {mg : Str → Option Value}
/-! ## tuple(range(n)) -/
end
end DL
set_option maxHeartbeats 4000000
namespace PySem
namespace DLZip
open Sem (wp)
section
variable {prog : Program} {w : World} {A : Around} {E : Value → Shared → Prop} {s : Shared} {z TI TO T i1 i2 : Addr} {fp1 fp2 : List Addr} {n1 n2 i : Nat} {P1 P2 : Nat → Value → Prop} {St1 St2 : Nat → Heap → Prop}
theorem next_held {f : Bool} {oT : Obj} {Q : Value → Shared → Prop} (S : ZipSep2 z TI TO i1 i2 fp1 fp2) (D1 : Draws prog w A i1 fp1 n1 P1 St1) (D2 : Draws prog w A i2 fp2 n2 P2 St2)
    (hz : IsZipHeld s.heap z TI TO T f) (hT : s.heap.get? T = some oT) (hTI : IsTupOf2 s.heap TI (.ref i1) (.ref i2)) (st1 : St1 i s.heap) (st2 : St2 i s.heap) (l1 : i < n1) (l2 : i < n2)
    (hQ : ∀ x1 x2 h' tk, P1 i x1 → P2 i x2 → IsZipHeld h' z TI TO T true → St1 (i + 1) h' → St2 (i + 1) h' → IsTupOf2 h' s.heap.objs.size x1 x2 → h'.objs.size = s.heap.objs.size + 1 →
      (∀ c o, c ≠ z → c ≠ i1 → c ≠ i2 → s.heap.get? c = some o → h'.get? c = some o) → Q (.ref s.heap.objs.size) { s with heap := h', toks := tk }) :
    wpAny (model prog w) A (Builtin.«zip.__next__» ⟨[.ref z], []⟩) (fun fin s' => ∃ v, fin = .done (.ret v) ∧ Q v s') E s := by
  obtain ⟨hp, g, d, tk0, os⟩ := s
  show wpAny _ _ (field (.ref z) 2 >>= _) _ _ _
  refine wpAny_bind (wpAny_field hz rfl (x := .bool false) rfl ?_)
  show wpAny _ _ (field (.ref z) 3 >>= _) _ _ _
  refine wpAny_bind (wpAny_field hz rfl (x := .ref TI) rfl ?_)
  refine wpAny_bind (wpAny_seqItems hTI rfl ?_)
  show wpAny _ _ (Builtin.SmallTypes.ownedTupleIsFree (.ref z) >>= _) _ _ _
  refine wpAny_bind (wpAny_tupleHeld_zip hz hT fun g0 hz0 hs0 => ?_)
  replace hs0 : Heap.SameBut z hp g0 := hs0
  simp only [Bool.false_eq_true, if_false]
  refine wpAny_bind ?_
  rw [← Array.forIn_toList]
  simp only [List.forIn_cons, List.forIn_nil]
  refine wpAny_bind (wpAny_bind (wpAny_holding ?_))
  show wpAny _ _ (Builtin.SmallTypes.nextOf (.ref i1) >>= _) _ _ ⟨g0, g, d, tk0, os⟩
  refine wpAny_bind (D1.item i _ _ _ l1 (D1.over st1 hs0 S.zf1) fun x1 p1 tk1 hx1 sn1 hp1 => wpAny_pure ?_)
  replace hp1 : Heap.SameBut i1 g0 p1 := hp1
  refine wpAny_pure ?_
  refine wpAny_bind (wpAny_bind (wpAny_holding ?_))
  show wpAny _ _ (Builtin.SmallTypes.nextOf (.ref i2) >>= _) _ _ ⟨p1, g, d, tk1, os⟩
  refine wpAny_bind (D2.item i _ _ _ l2 (D2.over (D2.over st2 hs0 S.zf2) hp1 S.sep1_2) fun x2 p2 tk2 hx2 sn2 hp2 => wpAny_pure ?_)
  replace hp2 : Heap.SameBut i2 p1 p2 := hp2
  refine wpAny_pure (wpAny_pure ?_)
  show wpAny _ _ (newTuple [x1, x2] >>= _) _ _ ⟨p2, g, d, tk2, os⟩
  refine wpAny_bind (wpAny_newTuple ?_)
  have hsz : p2.objs.size = hp.objs.size := by rw [hp2.1, hp1.1, hs0.1]
  have hz3 : IsZipHeld p2 z TI TO T true := hp2.extBut _ _ S.zi2 (hp1.extBut _ _ S.zi1 hz0)
  have hk : ∀ c o, c ≠ z → c ≠ i1 → c ≠ i2 → hp.get? c = some o → p2.get? c = some o := fun c o c1 c2 c3 e => hp2.extBut _ _ c3 (hp1.extBut _ _ c2 (hs0.extBut _ _ c1 e))
  have j1 : St1 (i + 1) p2 := D1.over sn1 hp2 S.sep2_1
  have hp' : IsTupOf2 (p2.push { cls := .type "tuple", data := .seq #[x1, x2] }) p2.objs.size x1 x2 := Heap.get?_push_size _ rfl
  have hz4 : (p2.push { cls := .type "tuple", data := .seq #[x1, x2] }).objs.size = p2.objs.size + 1 := Heap.size_push ..
  refine wpAny_pure ⟨_, rfl, ?_⟩
  show Q (.ref p2.objs.size) ⟨p2.push { cls := .type "tuple", data := .seq #[x1, x2] }, g, d, tk2, os⟩
  rw [hsz] at hp' hz4 ⊢
  exact hQ x1 x2 _ tk2 hx1 hx2 (Heap.get?_push_of_some _ hz3) (D1.frame _ _ _ j1 fun b _ o e => Heap.get?_push_of_some _ e) (D2.frame _ _ _ sn2 fun b _ o e => Heap.get?_push_of_some _ e) hp' hz4
    fun c o c1 c2 c3 e => Heap.get?_push_of_some _ (hk c o c1 c2 c3 e)
theorem end_held {f : Bool} {oT : Obj} {Q : Fin → Shared → Prop} (S : ZipSep2 z TI TO i1 i2 fp1 fp2) (D1 : Draws prog w A i1 fp1 n1 P1 St1) (D2 : Draws prog w A i2 fp2 n2 P2 St2)
    (hz : IsZipHeld s.heap z TI TO T f) (hT : s.heap.get? T = some oT) (hTI : IsTupOf2 s.heap TI (.ref i1) (.ref i2)) (st1 : St1 i s.heap) (st2 : St2 i s.heap) (l1 : i ≤ n1) (l2 : i ≤ n2) (hend : i = n1 ∨ i = n2)
    (hE : ∀ h' tk e, (∀ c o, c ≠ z → c ≠ i1 → c ≠ i2 → s.heap.get? c = some o → h'.get? c = some o) → (∃ o, h'.get? e = some o ∧ o.cls = .type "StopIteration") → E (.ref e) { s with heap := h', toks := tk }) :
    wpAny (model prog w) A (Builtin.«zip.__next__» ⟨[.ref z], []⟩) Q E s := by
  obtain ⟨hp, g, d, tk0, os⟩ := s
  show wpAny _ _ (field (.ref z) 2 >>= _) _ _ _
  refine wpAny_bind (wpAny_field hz rfl (x := .bool false) rfl ?_)
  show wpAny _ _ (field (.ref z) 3 >>= _) _ _ _
  refine wpAny_bind (wpAny_field hz rfl (x := .ref TI) rfl ?_)
  refine wpAny_bind (wpAny_seqItems hTI rfl ?_)
  show wpAny _ _ (Builtin.SmallTypes.ownedTupleIsFree (.ref z) >>= _) _ _ _
  refine wpAny_bind (wpAny_tupleHeld_zip hz hT fun g0 hz0 hs0 => ?_)
  replace hs0 : Heap.SameBut z hp g0 := hs0
  simp only [Bool.false_eq_true, if_false]
  refine wpAny_bind ?_
  rw [← Array.forIn_toList]
  simp only [List.forIn_cons, List.forIn_nil]
  refine wpAny_bind (wpAny_bind (wpAny_holding ?_))
  show wpAny _ _ (Builtin.SmallTypes.nextOf (.ref i1) >>= _) _ _ ⟨g0, g, d, tk0, os⟩
  by_cases h1 : i = n1
  · subst h1
    refine wpAny_bind (D1.done _ _ _ (D1.over st1 hs0 S.zf1) fun h' e hq he => ?_)
    replace hq : Heap.ExtBut i1 g0 h' := hq
    exact hE h' tk0 e (fun c o c1 c2 _ x => hq _ _ c2 (hs0.extBut _ _ c1 x)) he
  · have h2 : i = n2 := hend.resolve_left h1
    subst h2
    refine wpAny_bind (D1.item i _ _ _ (by omega) (D1.over st1 hs0 S.zf1) fun x1 p1 tk1 hx1 sn1 hp1 => wpAny_pure ?_)
    replace hp1 : Heap.SameBut i1 g0 p1 := hp1
    refine wpAny_pure ?_
    refine wpAny_bind (wpAny_bind (wpAny_holding ?_))
    show wpAny _ _ (Builtin.SmallTypes.nextOf (.ref i2) >>= _) _ _ ⟨p1, g, d, tk1, os⟩
    refine wpAny_bind (D2.done _ _ _ (D2.over (D2.over st2 hs0 S.zf2) hp1 S.sep1_2) fun h' e hq he => ?_)
    replace hq : Heap.ExtBut i2 p1 h' := hq
    exact hE h' tk1 e (fun c o c1 c2 c3 x => hq _ _ c3 (hp1.extBut _ _ c2 (hs0.extBut _ _ c1 x))) he
theorem pyNext_held {f : Bool} {oT : Obj} {Q : Option Value → Shared → Prop} (S : ZipSep2 z TI TO i1 i2 fp1 fp2) (D1 : Draws prog w A.in1 i1 fp1 n1 P1 St1) (D2 : Draws prog w A.in1 i2 fp2 n2 P2 St2)
    (hz : IsZipHeld s.heap z TI TO T f) (hT : s.heap.get? T = some oT) (hTI : IsTupOf2 s.heap TI (.ref i1) (.ref i2)) (st1 : St1 i s.heap) (st2 : St2 i s.heap) (l1 : i < n1) (l2 : i < n2)
    (hQ : ∀ x1 x2 h' tk, P1 i x1 → P2 i x2 → IsZipHeld h' z TI TO T true → St1 (i + 1) h' → St2 (i + 1) h' → IsTupOf2 h' s.heap.objs.size x1 x2 → h'.objs.size = s.heap.objs.size + 1 →
      (∀ c o, c ≠ z → c ≠ i1 → c ≠ i2 → s.heap.get? c = some o → h'.get? c = some o) → Q (some (.ref s.heap.objs.size)) { s with heap := h', toks := tk }) :
    wpAny (model prog w) A (pyNext (.ref z)) Q E s := by
  have hTy : s.TypeIs (.ref z) "zip" := ⟨_, hz, rfl⟩
  unfold pyNext
  exact wpAny_bind (wpAny_attempt (wpAny_callSpecial?_slot (name := Str.ofString "__next__") hTy F.slot_zip_next
    (wpAny_call_entry F.slot_zip_next hTy F.entry_zip_next
      (next_held S D1 D2 hz hT hTI st1 st2 l1 l2 fun x1 x2 h' tk a1 a2 a3 a4 a5 a6 a7 a8 => wpAny_pure (hQ x1 x2 h' tk a1 a2 a3 a4 a5 a6 a7 a8)) (F.args_zip_next_1 _))))
theorem zmv {f : Bool} {oT : Obj} {Q : Option Value → Shared → Prop} (S : ZipSep2 z TI TO i1 i2 fp1 fp2) (D1 : Draws prog w A.in1 i1 fp1 n1 P1 St1) (D2 : Draws prog w A.in1 i2 fp2 n2 P2 St2)
    (hz : IsZipHeld s.heap z TI TO T f) (hT : s.heap.get? T = some oT) (hTI : IsTupOf2 s.heap TI (.ref i1) (.ref i2)) (st1 : St1 i s.heap) (st2 : St2 i s.heap) (l1 : i ≤ n1) (l2 : i ≤ n2) (hend : i = n1 ∨ i = n2)
    (hQ : ∀ h' tk, (∀ c o, c ≠ z → c ≠ i1 → c ≠ i2 → s.heap.get? c = some o → h'.get? c = some o) → Q none { s with heap := h', toks := tk }) :
    wpAny (model prog w) A (pyNext (.ref z)) Q E s := by
  have hTy : s.TypeIs (.ref z) "zip" := ⟨_, hz, rfl⟩
  unfold pyNext
  refine wpAny_bind (wpAny_attempt (wpAny_callSpecial?_slot (name := Str.ofString "__next__") hTy F.slot_zip_next
    (wpAny_call_entry F.slot_zip_next hTy F.entry_zip_next (end_held S D1 D2 hz hT hTI st1 st2 l1 l2 hend fun h' tk e hk he => ?_) (F.args_zip_next_1 _))))
  obtain ⟨o, ho, hc⟩ := he
  refine wpAny_bind (wpAny_isInstance (T := "StopIteration") (b := true) ⟨o, ho, hc⟩ isSubtype_stop ?_)
  exact wpAny_pure (hQ _ _ hk)
theorem up {a b lim : Nat} (h : a < lim) (k : lim ≤ b) : b ≠ a := by omega
def At (z TI TO i1 i2 : Addr) (St1 St2 : Nat → Heap → Prop) (lim : Nat) (i : Nat) (h : Heap) : Prop :=
  IsTupOf2 h TI (.ref i1) (.ref i2) ∧ St1 i h ∧ St2 i h ∧ ((IsZip h z TI TO .none ∧ ∃ a b, IsTupOf2 h TO a b) ∨ ∃ T f oT, IsZipHeld h z TI TO T f ∧ h.get? T = some oT ∧ lim ≤ T)
def Made (P1 P2 : Nat → Value → Prop) (lim : Nat) (h : Heap) (ps : List (Addr × Value × Value)) (i : Nat) : Prop :=
  ps.length = i ∧ (ps.map (·.1)).Nodup ∧ ∀ j p, ps[j]? = some p → lim ≤ p.1 ∧ IsTupOf2 h p.1 p.2.1 p.2.2 ∧ P1 j p.2.1 ∧ P2 j p.2.2
abbrev listAt (h : Heap) (S : Addr) (ps : List (Addr × Value × Value)) (c : Nat) : Prop := h.get? S = some { cls := .type "list", dict := none, data := .seq (ps.map fun p => Value.ref p.1).toArray c, slots := #[] }
theorem Made.keep {lim : Nat} {h h' : Heap} {ps : List (Addr × Value × Value)} (m : Made P1 P2 lim h ps i) (k : ∀ b o, lim ≤ b → h.get? b = some o → h'.get? b = some o) : Made P1 P2 lim h' ps i :=
  ⟨m.1, m.2.1, fun j p e => let ⟨a, b, c⟩ := m.2.2 j p e; ⟨a, k _ _ a b, c⟩⟩
theorem Made.snoc {lim : Nat} {h : Heap} {ps : List (Addr × Value × Value)} (m : Made P1 P2 lim h ps i) {a : Addr} {x y : Value} (hl : lim ≤ a) (ht : IsTupOf2 h a x y) (p1 : P1 i x) (p2 : P2 i y) (hn : ∀ p ∈ ps, p.1 ≠ a) : Made P1 P2 lim h (ps ++ [(a, x, y)]) (i + 1) := by
  refine ⟨by simp [m.1], ?_, fun j p e => ?_⟩
  · rw [List.map_append, List.nodup_append]
    refine ⟨m.2.1, by simp, fun u hu v hv => ?_⟩
    obtain ⟨p, hp, rfl⟩ := List.mem_map.mp hu
    simp only [List.map_cons, List.map_nil, List.mem_cons, List.not_mem_nil, or_false] at hv
    subst hv
    exact hn p hp
  · rw [List.getElem?_append] at e
    split at e
    · exact m.2.2 j p e
    · rename_i hj
      have hj' : ¬ j < i := by rw [← m.1]; exact hj
      cases hd : j - ps.length with
      | zero =>
        rw [hd] at e
        simp only [List.getElem?_cons_zero, Option.some.injEq] at e
        subst e
        have : j = i := by rw [m.1] at hd; omega
        subst this
        exact ⟨hl, ht, p1, p2⟩
      | succ k => rw [hd] at e; simp at e
end
section
variable {prog : Program} {w : World} {A : Around} {R : Result → Shared → Prop} {z TI TO i1 i2 S : Addr} {fp1 fp2 : List Addr} {n1 n2 : Nat} {P1 P2 : Nat → Value → Prop} {St1 St2 : Nat → Heap → Prop} {lim : Nat}
theorem At.over (D1 : Draws prog w A i1 fp1 n1 P1 St1) (D2 : Draws prog w A i2 fp2 n2 P2 St2) {i : Nat} {h h' : Heap} (st : At z TI TO i1 i2 St1 St2 lim i h) (hS : S < lim) (s1 : S ∉ fp1) (s2 : S ∉ fp2) (s3 : S ≠ z) (s4 : S ≠ TI) (s5 : S ≠ TO)
    (hk : ∀ b o, b ≠ S → h.get? b = some o → h'.get? b = some o) : At z TI TO i1 i2 St1 St2 lim i h' := by
  obtain ⟨hTI, st1, st2, hz⟩ := st
  refine ⟨hk _ _ (Ne.symm s4) hTI, D1.frame _ _ _ st1 fun b hb o e => hk b o (fun q => s1 (q ▸ hb)) e, D2.frame _ _ _ st2 fun b hb o e => hk b o (fun q => s2 (q ▸ hb)) e, ?_⟩
  rcases hz with ⟨hz, a, b, hTO⟩ | ⟨T, f, oT, hz, hT, hl⟩
  · exact .inl ⟨hk _ _ (Ne.symm s3) hz, a, b, hk _ _ (Ne.symm s5) hTO⟩
  · exact .inr ⟨T, f, oT, hk _ _ (Ne.symm s3) hz, hk _ _ (up hS hl) hT, hl⟩
theorem loop (Z : ZipSep2 z TI TO i1 i2 fp1 fp2) (D1 : Draws prog w A.in1.in1 i1 fp1 n1 P1 St1) (D2 : Draws prog w A.in1.in1 i2 fp2 n2 P2 St2) (hn : min n1 n2 ≤ sizeLine) (hS : S < lim) (hz : z < lim) (hTO : TO < lim) (hi1 : i1 < lim) (hi2 : i2 < lim)
    (s1 : S ∉ fp1) (s2 : S ∉ fp2) (s3 : S ≠ z) (s4 : S ≠ TI) (s5 : S ≠ TO) (res : Value) :
    ∀ (k i : Nat) (s : Shared) (ps : List (Addr × Value × Value)) (c : Nat), min n1 n2 - i = k → i ≤ min n1 n2 → lim ≤ s.heap.objs.size → At z TI TO i1 i2 St1 St2 lim i s.heap → listAt s.heap S ps c → Made P1 P2 lim s.heap ps i →
    (∀ h' tk ps' c', (∀ b o, b ∉ [S, z, TO, i1, i2] → s.heap.get? b = some o → h'.get? b = some o) → listAt h' S ps' c' → Made P1 P2 lim h' ps' (min n1 n2) → R (.ok (.ret res)) { s with heap := h', toks := tk }) →
    codeAny (model prog w) A (.builtin "list.extend.loop" ⟨[.ref S, .ref z, res], []⟩) R s := by
  have hSi1 : S ≠ i1 := fun e => s1 (e ▸ Z.mem1)
  have hSi2 : S ≠ i2 := fun e => s2 (e ▸ Z.mem2)
  intro k
  induction k with
  | zero =>
    intro i s ps c hk hi hl st hL m hR
    have hin : i = min n1 n2 := by omega
    refine codeAny_builtin F.entry_extend_loop ?_
    rw [Around.under_plainId F.plain_extend_loop _]
    show wpAny _ A.in1 (pyNext (.ref z) >>= _) _ _ s
    obtain ⟨hTI, st1, st2, zz⟩ := st
    rcases zz with ⟨zz, a, b, tt⟩ | ⟨T, f, oT, zz, hT, hlT⟩
    · refine wpAny_bind (wpAny_pyNext_zipD2_end Z D1 D2 zz hTI tt st1 st2 (by omega) (by omega) (by omega) fun h' tk hq => wpAny_pure ?_)
      refine hR h' tk ps c (fun b o hb e => ?_) (hq _ _ s3 s5 hSi1 hSi2 hL) ((hin ▸ m).keep fun b o hb e => hq _ _ (up hz hb) (up hTO hb) (up hi1 hb) (up hi2 hb) e)
      simp only [List.mem_cons, List.not_mem_nil, or_false, not_or] at hb
      exact hq b o hb.2.1 hb.2.2.1 hb.2.2.2.1 hb.2.2.2.2 e
    · refine wpAny_bind (zmv Z D1 D2 zz hT hTI st1 st2 (by omega) (by omega) (by omega) fun h' tk hq => wpAny_pure ?_)
      refine hR h' tk ps c (fun b o hb e => ?_) (hq _ _ s3 hSi1 hSi2 hL) ((hin ▸ m).keep fun b o hb e => hq _ _ (up hz hb) (up hi1 hb) (up hi2 hb) e)
      simp only [List.mem_cons, List.not_mem_nil, or_false, not_or] at hb
      exact hq b o hb.2.1 hb.2.2.2.1 hb.2.2.2.2 e
  | succ k ih =>
    intro i s ps c hk hi hl st hL m hR
    obtain ⟨hp, g, d, tk0, os⟩ := s
    have hlt : i < min n1 n2 := by omega
    refine codeAny_builtin F.entry_extend_loop ?_
    rw [Around.under_plainId F.plain_extend_loop _]
    show wpAny _ A.in1 (pyNext (.ref z) >>= _) _ _ _
    have key : ∀ x1 x2 h' tk, P1 i x1 → P2 i x2 → IsTupOf2 h' hp.objs.size x1 x2 → h'.objs.size = hp.objs.size + 1 → At z TI TO i1 i2 St1 St2 lim (i + 1) h' → (∀ c o, c ≠ z → c ≠ TO → c ≠ i1 → c ≠ i2 → hp.get? c = some o → h'.get? c = some o) →
        wpAny (model prog w) A.in1 (updateSeq S (·.push (.ref hp.objs.size)) >>= fun _ => again (.builtin "list.extend.loop" ⟨[.ref S, .ref z, res], []⟩))
          (fun fin s' => match fin with | .done f => R (.ok f) s' | .again c' => c'.quiet = true ∧ codeAny (model prog w) A c' R s') (fun e s' => R (.error e) s') ⟨h', g, d, tk, os⟩ := by
      intro x1 x2 h' tk hx1 hx2 ht hsz st' hq
      have hS' : listAt h' S ps c := hq _ _ s3 s5 hSi1 hSi2 hL
      refine wpAny_bind ?_
      refine wpAny_updateSeq (s := ⟨h', g, d, tk, os⟩) hS' rfl (wpAny_pure ⟨plainId_quiet F.plain_extend_loop _, ?_⟩)
        (by rw [List.size_toArray, List.length_map, m.1]; omega) (by show (Array.push _ _).size ≤ sizeLine + 1; rw [Array.size_push, List.size_toArray, List.length_map, m.1]; omega)
      have hup : ∀ b o, b ≠ S → h'.get? b = some o → (h'.update S (Obj.mapSeq fun x => x.push (.ref hp.objs.size))).get? b = some o := fun b o hb e => (Heap.get?_update_other _ _ (Ne.symm hb)).trans e
      have hsz2 : (h'.update S (Obj.mapSeq fun x => x.push (.ref hp.objs.size))).objs.size = h'.objs.size := (Heap.SameBut.update ..).1
      have hS2 := Heap.get?_update_self (Obj.mapSeq fun x => x.push (.ref hp.objs.size)) hS' rfl
      have m1 : Made P1 P2 lim h' ps i := m.keep fun b o hb e => hq b o (up hz hb) (up hTO hb) (up hi1 hb) (up hi2 hb) e
      have m2 : Made P1 P2 lim h' (ps ++ [(hp.objs.size, x1, x2)]) (i + 1) := m1.snoc hl ht hx1 hx2 fun p hp' => by
        obtain ⟨j, hj⟩ := List.mem_iff_getElem?.mp hp'
        exact Nat.ne_of_lt (Heap.lt_size (m.2.2 j p hj).2.1)
      obtain ⟨c2, hc2⟩ : ∃ c2, listAt (h'.update S (Obj.mapSeq fun x => x.push (.ref hp.objs.size))) S (ps ++ [(hp.objs.size, x1, x2)]) c2 := ⟨_, by
        show Heap.get? _ _ = _
        rw [hS2]
        simp only [Obj.mapSeq, List.map_append, List.map_cons, List.map_nil, List.push_toArray]
        rfl⟩
      refine ih (i + 1) ⟨h'.update S (Obj.mapSeq fun x => x.push (.ref hp.objs.size)), g, d, tk, os⟩ (ps ++ [(hp.objs.size, x1, x2)]) c2 (by omega) hlt ?_ ?_ ?_ ?_ ?_
      · show lim ≤ (h'.update S (Obj.mapSeq fun x => x.push (.ref hp.objs.size))).objs.size
        rw [hsz2, hsz]
        have : lim ≤ hp.objs.size := hl
        omega
      · exact st'.over D1 D2 hS s1 s2 s3 s4 s5 hup
      · exact hc2
      · exact m2.keep fun b o hb e => hup b o (up hS hb) e
      · intro h2 tk2 ps' c' hk2 hL2 m3
        refine hR h2 tk2 ps' c' (fun b o hb e => hk2 b o hb (hup b o (fun q => hb (by simp [q])) ?_)) hL2 m3
        simp only [List.mem_cons, List.not_mem_nil, or_false, not_or] at hb
        exact hq b o hb.2.1 hb.2.2.1 hb.2.2.2.1 hb.2.2.2.2 e
    obtain ⟨hTI, st1, st2, zz⟩ := st
    rcases zz with ⟨zz, a, b, tt⟩ | ⟨T, f, oT, zz, hT, hlT⟩
    · refine wpAny_bind (wpAny_pyNext_zipD2_item Z D1 D2 zz hTI tt st1 st2 (by omega) (by omega) fun x1 x2 h' tk a1 a2 a3 a4 a5 a6 a7 a8 hq => ?_)
      exact key x1 x2 h' tk a1 a2 a7 a8 ⟨hq _ _ Z.TIz Z.TITO Z.TIi1 Z.TIi2 hTI, a5, a6, .inr ⟨_, false, _, a3, a7, hl⟩⟩ hq
    · refine wpAny_bind (pyNext_held Z D1 D2 zz hT hTI st1 st2 (by omega) (by omega) fun x1 x2 h' tk a1 a2 a3 a5 a6 a7 a8 hq => ?_)
      exact key x1 x2 h' tk a1 a2 a7 a8 ⟨hq _ _ Z.TIz Z.TIi1 Z.TIi2 hTI, a5, a6, .inr ⟨T, true, oT, a3, hq _ _ (up hz hlT) (up hi1 hlT) (up hi2 hlT) hT, hlT⟩⟩ fun c o c1 _ c3 c4 e => hq c o c1 c3 c4 e
end
end DLZip
end PySem
set_option maxHeartbeats 4000000
namespace PySem
namespace DLZip
open Sem (wp)
/-! ## a list or a tuple that a zip walks -/
def sAt (t : Bool) (a : Addr) (xs : Array Value) (h : Heap) : Prop := match t with | false => h.IsList a xs | true => h.IsTuple a xs
def sSt (t : Bool) (it a : Addr) (xs : Array Value) (i : Nat) (h : Heap) : Prop := match t with
  | false => h.IsListIter it a i ∧ h.IsList a xs
  | true => h.IsTupleIter it a i ∧ h.IsTuple a xs
theorem sAt.keeps {t : Bool} {a : Addr} {xs : Array Value} {h h' : Heap} (x : sAt t a xs h) (k : ∀ b o, h.get? b = some o → h'.get? b = some o) : sAt t a xs h' := by
  cases t
  · exact (begins_list a xs).keeps _ _ x k
  · exact (begins_tuple a xs).keeps _ _ x k
theorem sAt.lt {t : Bool} {a : Addr} {xs : Array Value} {h : Heap} (x : sAt t a xs h) : a < h.objs.size := by
  cases t
  · obtain ⟨o, e, _⟩ := x; exact Heap.lt_size e
  · obtain ⟨o, e, _⟩ := x; exact Heap.lt_size e
section
variable {prog : Program} {w : World} {A : Around} {E : Value → Shared → Prop} {s : Shared}
structure ZipNew (n l1 l2 : Addr) (t1 t2 : Bool) (xs ys : Array Value) (h : Heap) : Prop where
  z : IsZip h (n + 4) (n + 2) (n + 3) .none
  ti : IsTupOf2 h (n + 2) (.ref n) (.ref (n + 1))
  to : IsTupOf2 h (n + 3) .none .none
  a : sSt t1 n l1 xs 0 h
  b : sSt t2 (n + 1) l2 ys 0 h
  size : h.objs.size = n + 5
theorem sSt.keeps {t : Bool} {it a : Addr} {xs : Array Value} {i : Nat} {h h' : Heap} (x : sSt t it a xs i h) (k : ∀ b o, h.get? b = some o → h'.get? b = some o) : sSt t it a xs i h' := by
  cases t
  · exact ⟨x.1.at fun o e => k _ o e, x.2.at fun o e => k _ o e⟩
  · exact ⟨x.1.at fun o e => k _ o e, x.2.at fun o e => k _ o e⟩
theorem ZipNew.push {n l1 l2 : Addr} {t1 t2 : Bool} {xs ys : Array Value} {h h' : Heap} (z : ZipNew n l1 l2 t1 t2 xs ys h) (k : ∀ b o, h.get? b = some o → h'.get? b = some o) (lim : Nat) :
    At (n + 4) (n + 2) (n + 3) n (n + 1) (sSt t1 n l1 xs) (sSt t2 (n + 1) l2 ys) lim 0 h' :=
  ⟨k _ _ z.ti, z.a.keeps k, z.b.keeps k, .inl ⟨k _ _ z.z, _, _, k _ _ z.to⟩⟩
end
end DLZip
end PySem
set_option maxHeartbeats 4000000
namespace DL
open PySem PySem.Spec PyProof.Rows L2
/-! ## list(zip(a, b)) -/
section
variable {X : Cx} {pins : List (Addr × Obj)} {σ : L2.St} {H F : Hp} {s : Shared} {K : PySem.W.Frag} {ι : List Addr} {S : zae}
end
section
variable {X : Cx} {W : WX} {e a b c : Expr} {ta tb : TE} {p p2 pos pos2 : Pos}
end
end DL
set_option maxHeartbeats 4000000
namespace DL
open PySem PySem.Spec PyProof.Rows L2
/-! ## {"step": 4, "join": 3}[x] -/
section
variable {X : Cx} {W : WX} {b : Expr} {pos dpos : Pos} {f : XFn}
end
end DL
set_option maxHeartbeats 400000
namespace DL
/-! ## drafts: cases of up to eight rows -/
def KeepN (n : Nat) (M : Nat → Nat → Int) (t : Ru) : Prop := match t.2.2 with
  | some w => ∀ r, r < n → (∀ p ∈ t.1, p.2 = some (M r p.1)) → M r t.2.1 = w
  | none => ∀ i j, i < j → j < n → (∀ p ∈ t.1, match p.2 with | none => M i p.1 = M j p.1 | some v => M i p.1 = v ∧ M j p.1 = v) → M i t.2.1 = M j t.2.1
def Cas.entT (c : Cas) (i j : Nat) (p : Nat × Option Int) : Bool := match p.2 with
  | none => c.alike i p.1 j p.1
  | some v => decide (v ∈ c.fact i p.1) && decide (v ∈ c.fact j p.1)
def Cas.canTie (c : Cas) (t : Ru) (i j : Nat) : Bool := t.2.2.isNone && t.1.all (c.entT i j)
def Cas.tieOk (c : Cas) (t : Ru) (i j : Nat) : Bool := c.canTie t i j && !c.alike i t.2.1 j t.2.1
inductive HeadM where
  | step (k row : Nat) | join (k i j : Nat)
def pairsN (n : Nat) : List (Nat × Nat) := (List.range n).flatMap fun i => (List.range (n - (i + 1))).map fun k => (i, i + 1 + k)
theorem mem_pairsN {n i j : Nat} : (i, j) ∈ pairsN n ↔ i < j ∧ j < n := by
  unfold pairsN
  simp only [List.mem_flatMap, List.mem_range, List.mem_map, Prod.mk.injEq]
  constructor
  · rintro ⟨a, ha, b, hb, rfl, rfl⟩; omega
  · intro h; exact ⟨i, by omega, j - (i + 1), by omega, rfl, by omega⟩
def Cas.moveRow (c : Cas) (k : Nat) (t : Ru) : List Nat → Option (HeadM × Cas)
  | [] => none
  | row :: rows => if c.stepOk t row = true then some (.step k row, c.stepTo t row) else c.moveRow k t rows
def Cas.movePair (c : Cas) (k : Nat) (t : Ru) : List (Nat × Nat) → Option (HeadM × Cas)
  | [] => none
  | p :: ps => if c.tieOk t p.1 p.2 = true then some (.join k p.1 p.2, c.join p.1 t.2.1 p.2 t.2.1) else c.movePair k t ps
def Cas.moveGo (c : Cas) : Nat → List Ru → Option (HeadM × Cas)
  | _, [] => none
  | k, t :: ts => match c.moveRow k t (List.range c.n) with
    | some x => some x
    | none => match c.movePair k t (pairsN c.n) with
      | some x => some x
      | none => c.moveGo (k + 1) ts
def Cas.move (c : Cas) (ts : List Ru) : Option (HeadM × Cas) := c.moveGo 0 ts
/-! ### the measure: how many labels have no value -/
def Cas.emp (c : Cas) : Nat := cnt c.facts.length (fun l => decide (l ∈ c.lab) && (c.facts.getD l []).isEmpty)
theorem emp_learn {c : Cas} (h : c.Ok) {r k : Nat} {v : Int} (hr : r < c.n) (hk : k < c.cols.length) (he : c.fact r k = []) : (c.learn r k v).emp < c.emp := by
  obtain ⟨a1, a2, a3, a4⟩ := zed c r k v
  unfold Cas.emp
  rw [a1, a4]
  refine cnt_lt (j := c.at_ r k) (fun i hi e => ?_) (h.lt hr hk) ?_ ?_
  · simp only [Bool.and_eq_true, decide_eq_true_eq] at e ⊢
    refine ⟨e.1, ?_⟩
    have e2 := e.2
    rw [zci c r k v (h.lt hr hk)] at e2
    split at e2
    · simp at e2
    · exact e2
  · have e2 : c.facts.getD (c.at_ r k) [] = [] := he
    rw [e2]
    simp only [List.isEmpty_nil, Bool.and_true, decide_eq_true_eq]
    exact h.mem hr hk
  · rw [zci c r k v (h.lt hr hk)]
    have e2 : c.facts.getD (c.at_ r k) [] = [] := he
    rw [e2, if_pos ⟨rfl, by simp⟩]
    simp
def EnoughE (F : Nat) (c : Cas) : Prop := 1 ≤ F ∧ (c.clash = true ∨ c.emp + 2 ≤ F)
theorem EnoughE.split {F : Nat} {c : Cas} (e : EnoughE (F + 1) c) (nc : c.clash = false) (h : c.Ok) {r k : Nat} {v : Int} (hr : r < c.n) (hk : k < c.cols.length) (he : c.fact r k = []) : EnoughE F (c.learn r k v) := by
  rcases e.2 with q | q
  · rw [nc] at q; cases q
  · have := emp_learn (v := v) h hr hk he
    exact ⟨by omega, .inr (by omega)⟩
structure MovedN (ts : List Ru) (c d : Cas) : Prop where
  ok : d.Ok
  cols : d.cols = c.cols
  n : d.n = c.n
  less : d.clash = true ∨ d.emp < c.emp
  sat : ∀ M, (∀ t ∈ ts, KeepN c.n M t) → (d.Sat M ↔ c.Sat M)
  up : ∀ M, d.Sat M → c.Sat M
  kn : ∀ r k, r < c.n → k < c.cols.length → ∀ v ∈ c.fact r k, v ∈ d.fact r k
inductive MoveIs (ts : List Ru) (c : Cas) : Nat → HeadM → Cas → Prop
  | step {k i row : Nat} {t : Ru} (ht : ts[i]? = some t) (hr : row < c.n) (hs : c.stepOk t row = true) : MoveIs ts c k (.step (k + i) row) (c.stepTo t row)
  | join {k i a b : Nat} {t : Ru} (ht : ts[i]? = some t) (hab : a < b) (hb : b < c.n) (hs : c.tieOk t a b = true) : MoveIs ts c k (.join (k + i) a b) (c.join a t.2.1 b t.2.1)
theorem MoveIs.fine {ts : List Ru} {c d : Cas} {k : Nat} {hd : HeadM} {B : Int} (h : c.Ok) (f : c.Fine B) (ht : ∀ t ∈ ts, okRu c.cols.length t ∧ RuLt B t) (m : MoveIs ts c k hd d) : d.Fine B := by
  cases m with
  | step e hr hs =>
    have hm := List.mem_of_getElem? e
    obtain ⟨o, l⟩ := ht _ hm
    unfold Cas.stepTo
    split
    · exact f
    · rename_i v q; exact f.learn h hr o.c (l.2 v q)
  | join e hab hb hs =>
    have hm := List.mem_of_getElem? e
    obtain ⟨o, l⟩ := ht _ hm
    exact f.join h (by omega) o.c hb o.c
/-! ### the leaves -/
theorem EnoughE.move {F : Nat} {ts : List Ru} {c d : Cas} (e : EnoughE (F + 1) c) (nc : c.clash = false) (m : MovedN ts c d) : EnoughE F d := by
  rcases e.2 with h | h
  · rw [nc] at h; cases h
  · rcases m.less with q | q
    · exact ⟨by omega, .inl q⟩
    · exact ⟨by omega, .inr (by omega)⟩
structure LeafN (ts : List Ru) (B : Int) (c L : Cas) : Prop where
  ok : L.Ok
  fine : L.Fine B
  cols : L.cols = c.cols
  n : L.n = c.n
  nc : L.clash = false
  nx : L.move ts = none
  un : L.unknown (closedNs L.n L.cols) = none
  up : ∀ M, L.Sat M → c.Sat M
  kn : ∀ r k, r < c.n → k < c.cols.length → ∀ v ∈ c.fact r k, v ∈ L.fact r k
section
variable {L : Cas} {B : Int} {M : Nat → Nat → Int} {ts : List Ru}
end
/-! ### the case of a draft -/
abbrev Dr := List (List (Option Int))
def Dr.at_ (dr : Dr) (r k : Nat) : Option Int := (dr.getD r []).getD k none
structure OkDr (m : Nat) (B : Int) (dr : Dr) : Prop where
  n8 : dr.length ≤ 8
  len : ∀ row ∈ dr, row.length = m
  lt : ∀ r k v, dr.at_ r k = some v → v < B
theorem OkDr.row {m : Nat} {B : Int} {dr : Dr} (h : OkDr m B dr) {r : Nat} (hr : r < dr.length) : (dr.getD r []).length = m := by
  rw [List.getD_eq_getElem?_getD, List.getElem?_eq_getElem hr]
  exact h.len _ (List.getElem_mem hr)
structure CaseD (cs : List (Option (List Int))) (B : Int) (dr : Dr) (c : Cas) : Prop where
  ok : c.Ok
  fine : c.Fine B
  cols : c.cols = cs
  n : c.n = dr.length
  sat : ∀ M, c.Sat M ↔ ∀ r k v, r < dr.length → k < cs.length → dr.at_ r k = some v → M r k = v
end DL
set_option maxHeartbeats 400000
namespace DL
/-! ## drafts: the laws' groups -/
def Grps.canN (G : Grps) (g : Gv) (i j : Nat) (lines : List Nat) : Bool := g.all fun p => match p.2 with
  | none => G.alike (i, p.1) (j, p.1)
  | some v => lines.all fun r => decide (v ∈ (G.has (r, p.1)).2)
structure LD (cs : List (Option (List Int))) (n : Nat) (B : Int) (G : Grps) (c : Cas) : Prop where
  rep : Rep G c
  ok : c.Ok
  fine : c.Fine B
  co : c.cols = cs
  nn : c.n = n
  two : ∀ r k, r < n → k < cs.length → (c.fact r k).length ≤ 2
  tid : Tidy 100 G
section
variable {cs : List (Option (List Int))} {n : Nat} {B : Int} {G : Grps} {c : Cas}
theorem LD.inG (h : LD cs n B G c) {r k : Nat} (hr : r < n) (hk : k < cs.length) : G.has (r, k) ∈ G ∧ (r, k) ∈ (G.has (r, k)).1 := h.rep.has (by rw [h.nn]; exact hr) (by rw [h.co]; exact hk)
theorem LD.val (h : LD cs n B G c) : ∀ g ∈ G, g.2.length ≤ 2 := by
  intro g hg
  cases e : g.1 with
  | nil => exact absurd e (h.rep.ne g hg)
  | cons p ps =>
    have hp : p ∈ g.1 := by rw [e]; simp
    obtain ⟨a, b⟩ := h.rep.inn g hg p hp
    rw [h.rep.len h.fine hg hp]
    exact h.two p.1 p.2 (by rw [← h.nn]; exact a) (by rw [← h.co]; exact b)
theorem LD.clash (h : LD cs n B G c) : G.clash cs = c.clash := by
  have := h.rep.clash h.fine
  rwa [h.co] at this
theorem LD.learn (h : LD cs n B G c) (nc : c.clash = false) {r k : Nat} {v : Int} (hr : r < n) (hk : k < cs.length) (hb : v < B) : LD cs n B (G.learn (r, k) v) (c.learn r k v) := by
  have hr' : r < c.n := by rw [h.nn]; exact hr
  have hk' : k < c.cols.length := by rw [h.co]; exact hk
  have one : ∀ a b, a < n → b < cs.length → (c.fact a b).length ≤ 1 := fun a b ha hb => (zii nc (by rw [h.nn]; exact ha) (by rw [h.co]; exact hb)).1
  refine ⟨h.rep.learn h.ok hr' hk', h.ok.learn hr' hk' (by have := one r k hr hk; omega), h.fine.learn h.ok hr' hk' hb, (zg8 ..).trans h.co, (znc ..).trans h.nn, fun a b ha hb => ?_, h.tid.learn _ _⟩
  have := one a b ha hb
  rw [zoi h.ok v hr' hk']
  split
  · rw [List.length_append, List.length_singleton]; omega
  · omega
theorem LD.join (h : LD cs n B G c) (nc : c.clash = false) {i j k : Nat} (hi : i < n) (hj : j < n) (hk : k < cs.length) : LD cs n B (G.join (i, k) (j, k)) (c.join i k j k) := by
  have hi' : i < c.n := by rw [h.nn]; exact hi
  have hj' : j < c.n := by rw [h.nn]; exact hj
  have hk' : k < c.cols.length := by rw [h.co]; exact hk
  have one : ∀ a b, a < n → b < cs.length → (c.fact a b).length ≤ 1 := fun a b ha hb => (zii nc (by rw [h.nn]; exact ha) (by rw [h.co]; exact hb)).1
  have rp := h.rep.join h.ok hi' hk' hj' hk'
  have td := h.tid.join (h.inG hi hk).1 (h.inG hj hk).1
  by_cases e : c.at_ i k = c.at_ j k
  · have q : c.join i k j k = c := by unfold Cas.join; rw [if_pos e]
    rw [q] at rp ⊢
    exact ⟨rp, h.ok, h.fine, h.co, h.nn, h.two, td⟩
  · have jn := zo0 h.ok hi' hk' hj' hk' e
    have b1 := one i k hi hk
    have b2 := one j k hj hk
    refine ⟨rp, jn.ok h.ok (h.ok.lt hi' hk') (by unfold Cas.fact at b1 b2; omega), h.fine.join h.ok hi' hk' hj' hk', jn.cols.trans h.co, jn.n.trans h.nn, fun a b ha hb => ?_, td⟩
    have ha' : a < c.n := by rw [h.nn]; exact ha
    have hb' : b < c.cols.length := by rw [h.co]; exact hb
    have l1 := one a b ha hb
    unfold Cas.fact at l1 b1 b2 ⊢
    rw [jn.at_ a b ha' hb']
    split
    · have := jn.len (c.at_ i k)
      rw [if_pos rfl] at this
      omega
    · have := jn.len (c.at_ a b)
      split at this <;> omega
theorem LD.alike (h : LD cs n B G c) {r k r' k' : Nat} (hr : r < n) (hk : k < cs.length) (hr' : r' < n) (hk' : k' < cs.length) : G.alike (r, k) (r', k') = c.alike r k r' k' := h.rep.alike (by rw [h.nn]; exact hr) (by rw [h.co]; exact hk) (by rw [h.nn]; exact hr') (by rw [h.co]; exact hk')
theorem LD.mem (h : LD cs n B G c) {r k : Nat} (hr : r < n) (hk : k < cs.length) (v : Int) : v ∈ (G.has (r, k)).2 ↔ v ∈ c.fact r k := h.rep.mem (by rw [h.nn]; exact hr) (by rw [h.co]; exact hk) v
theorem LD.canStep (h : LD cs n B G c) {t : Ru} (ht : okRu cs.length t) {r : Nat} (hr : r < n) (hw : t.2.2.isSome = true) (full : ∀ p ∈ t.1, p.2 ≠ none) : G.canN t.1 r r [r] = c.canStep t r := by
  unfold Grps.canN Cas.canStep
  rw [hw, Bool.true_and, Bool.eq_iff_iff, List.all_eq_true, List.all_eq_true]
  constructor
  · intro q p hp
    have := q p hp
    unfold Cas.entS
    cases e : p.2 with
    | none => exact absurd e (full p hp)
    | some v =>
      rw [e] at this
      simp only [List.all_cons, List.all_nil, Bool.and_true, decide_eq_true_eq] at this ⊢
      exact (h.mem hr (ht.g p hp) v).mp this
  · intro q p hp
    have := q p hp
    unfold Cas.entS at this
    cases e : p.2 with
    | none => exact absurd e (full p hp)
    | some v =>
      rw [e] at this
      simp only [List.all_cons, List.all_nil, Bool.and_true, decide_eq_true_eq] at this ⊢
      exact (h.mem hr (ht.g p hp) v).mpr this
theorem LD.canTie (h : LD cs n B G c) {t : Ru} (ht : okRu cs.length t) {i j : Nat} (hi : i < n) (hj : j < n) (hw : t.2.2 = none) : G.canN t.1 i j [i, j] = c.canTie t i j := by
  unfold Grps.canN Cas.canTie
  rw [hw]
  show _ = (true && _)
  rw [Bool.true_and, Bool.eq_iff_iff, List.all_eq_true, List.all_eq_true]
  have each : ∀ p ∈ t.1, ((match p.2 with
    | none => G.alike (i, p.1) (j, p.1)
    | some v => [i, j].all fun r => decide (v ∈ (G.has (r, p.1)).2)) = c.entT i j p) := fun p hp => by
    have hk := ht.g p hp
    unfold Cas.entT
    cases e : p.2 with
    | none => exact h.alike hi hk hj hk
    | some v =>
      simp only [List.all_cons, List.all_nil, Bool.and_true]
      rw [decide_eq_decide.mpr (h.mem hi hk v), decide_eq_decide.mpr (h.mem hj hk v)]
  exact ⟨fun q p hp => by rw [← each p hp]; exact q p hp, fun q p hp => by rw [each p hp]; exact q p hp⟩
end
/-! ### the groups of a draft -/
structure CaseP (cs : List (Option (List Int))) (B : Int) (dr : Dr) (G : Grps) (c : Cas) : Prop where
  rep : Rep G c
  ok : c.Ok
  fine : c.Fine B
  co : c.cols = cs
  nn : c.n = dr.length
  tid : Tidy 100 G
  inj : ∀ r k r' k', r < dr.length → k < cs.length → r' < dr.length → k' < cs.length → c.at_ r k = c.at_ r' k' → r = r' ∧ k = k'
  sub : ∀ r k v, r < dr.length → k < cs.length → v ∈ c.fact r k → dr.at_ r k = some v
section
variable {cs : List (Option (List Int))} {B : Int} {dr : Dr} {G : Grps} {c : Cas}
theorem nodup_one {l : List Int} {o : Option Int} (nd : l.Nodup) (h : ∀ v ∈ l, o = some v) : l.length ≤ 1 := by
  match l with
  | [] => simp
  | [_] => simp
  | a :: b :: l =>
    have h1 := h a (by simp)
    have h2 := h b (by simp)
    rw [h1] at h2
    cases h2
    simp at nd
theorem CaseP.one (h : CaseP cs B dr G c) {r k : Nat} (hr : r < dr.length) (hk : k < cs.length) : (c.fact r k).length ≤ 1 := nodup_one (h.fine.nd _) fun v hv => h.sub r k v hr hk hv
theorem CaseP.learn (h : CaseP cs B dr G c) {r k : Nat} {v : Int} (hr : r < dr.length) (hk : k < cs.length) (e : dr.at_ r k = some v) (hb : v < B) : CaseP cs B dr (G.learn (r, k) v) (c.learn r k v) := by
  have hr' : r < c.n := by rw [h.nn]; exact hr
  have hk' : k < c.cols.length := by rw [h.co]; exact hk
  have at_ : ∀ a b, (c.learn r k v).at_ a b = c.at_ a b := fun a b => by
    unfold Cas.at_
    rw [(zed c r k v).1, zg8]
  refine ⟨h.rep.learn h.ok hr' hk', h.ok.learn hr' hk' (by have := h.one hr hk; omega), h.fine.learn h.ok hr' hk' hb, (zg8 ..).trans h.co, (znc ..).trans h.nn, h.tid.learn _ _, fun a b a' b' h1 h2 h3 h4 q => ?_, fun a b u h1 h2 hu => ?_⟩
  · rw [at_, at_] at q
    exact h.inj a b a' b' h1 h2 h3 h4 q
  · rcases (zjg h.ok hr' hk').mp hu with hu | ⟨q, rfl⟩
    · exact h.sub a b u h1 h2 hu
    · obtain ⟨rfl, rfl⟩ := h.inj a b r k h1 h2 hr hk q
      exact e
end
end DL
set_option maxHeartbeats 400000
namespace DL
/-! ## drafts: how many closed cells lack a value -/
/-! ## a property of all values that are known -/
def Cas.AllF (P : Int → Prop) (c : Cas) : Prop := ∀ l, ∀ v ∈ c.facts.getD l [], P v
section
variable {P : Int → Prop} {c d : Cas} {ts : List Ru}
theorem AllF.learn (a : c.AllF P) (h : c.Ok) {r k : Nat} {v : Int} (hr : r < c.n) (hk : k < c.cols.length) (hv : P v) : (c.learn r k v).AllF P := fun l u hu => by
  rw [zci c r k v (h.lt hr hk)] at hu
  split at hu
  · rcases List.mem_append.mp hu with hu | hu
    · exact a _ u hu
    · rw [List.mem_singleton.mp hu]; exact hv
  · exact a l u hu
theorem AllF.join (a : c.AllF P) (h : c.Ok) {r k r' k' : Nat} (hr : r < c.n) (hk : k < c.cols.length) (hr' : r' < c.n) (hk' : k' < c.cols.length) : (c.join r k r' k').AllF P := by
  by_cases e : c.at_ r k = c.at_ r' k'
  · have q : c.join r k r' k' = c := by unfold Cas.join; rw [if_pos e]
    rw [q]; exact a
  · have jn := zo0 h hr hk hr' hk' e
    intro l u hu
    rcases (jn.mem l u).mp hu with hu | ⟨_, hu⟩
    · exact a l u hu
    · exact a _ u hu
theorem MoveIs.all {k : Nat} {hd : HeadM} (a : c.AllF P) (h : c.Ok) (ht : ∀ t ∈ ts, okRu c.cols.length t ∧ ∀ v, t.2.2 = some v → P v) (m : MoveIs ts c k hd d) : d.AllF P := by
  cases m with
  | step e hr hs =>
    have hm := List.mem_of_getElem? e
    obtain ⟨o, l⟩ := ht _ hm
    unfold Cas.stepTo
    split
    · exact a
    · rename_i v q; exact AllF.learn a h hr o.c (l v q)
  | join e hab hb hs =>
    have hm := List.mem_of_getElem? e
    obtain ⟨o, l⟩ := ht _ hm
    exact AllF.join a h (by omega) o.c hb o.c
end
/-! ## a filling by the values of a leaf -/
theorem KeepN.congr {n m : Nat} {M M' : Nat → Nat → Int} {t : Ru} (ht : okRu m t) (e : ∀ r k, r < n → k < m → M r k = M' r k) (h : KeepN n M t) : KeepN n M' t := by
  unfold KeepN at h ⊢
  cases q : t.2.2 with
  | some w =>
    rw [q] at h
    intro r hr hp
    rw [← e r _ hr ht.c]
    exact h r hr fun p hpp => by rw [e r _ hr (ht.g p hpp)]; exact hp p hpp
  | none =>
    rw [q] at h
    intro i j hij hj hp
    rw [← e i _ (by omega) ht.c, ← e j _ hj ht.c]
    refine h i j hij hj fun p hpp => ?_
    have := hp p hpp
    rw [e i _ (by omega) (ht.g p hpp), e j _ hj (ht.g p hpp)]
    exact this
end DL
set_option maxHeartbeats 400000
namespace DL
open PySem PySem.Spec PyProof.Rows L2
/-! ## drafts: the laws' chase over the rows, and whether a case has a filling -/
def EqN (ts : List Ru) (n : Nat) (c d : Cas) : Prop := ∀ M, (∀ t ∈ ts, KeepN n M t) → (d.Sat M ↔ c.Sat M)
theorem EqN.refl (ts : List Ru) (n : Nat) (c : Cas) : EqN ts n c c := fun _ _ => Iff.rfl
theorem EqN.trans {ts : List Ru} {n : Nat} {c d e : Cas} (a : EqN ts n c d) (b : EqN ts n d e) : EqN ts n c e := fun M k => (b M k).trans (a M k)
structure LN (cols : List (Option (List Int))) (n : Nat) (V : List Int) (B : Int) (G : Grps) (c : Cas) : Prop where
  rep : Rep G c
  inv : Inv cols n V B c
  tid : Tidy 100 G
section
variable {cols : List (Option (List Int))} {n : Nat} {V : List Int} {B : Int} {G : Grps} {c d e : Cas} {ts : List Ru}
theorem LN.rn (h : LN cols n V B G c) {r : Nat} (hr : r < n) : r < c.n := by rw [h.inv.nn]; exact hr
theorem LN.kn (h : LN cols n V B G c) {k : Nat} (hk : k < cols.length) : k < c.cols.length := by rw [h.inv.co]; exact hk
theorem LN.inG (h : LN cols n V B G c) {r k : Nat} (hr : r < n) (hk : k < cols.length) : G.has (r, k) ∈ G ∧ (r, k) ∈ (G.has (r, k)).1 := h.rep.has (h.rn hr) (h.kn hk)
theorem LN.val (h : LN cols n V B G c) (hV : V.length ≤ 31) : ∀ g ∈ G, g.2.length ≤ 31 := by
  intro g hg
  cases e : g.1 with
  | nil => exact absurd e (h.rep.ne g hg)
  | cons p ps =>
    have hp : p ∈ g.1 := by rw [e]; simp
    have := h.rep.len h.inv.fine hg hp
    have := h.inv.vs.len h.inv.fine (c.at_ p.1 p.2)
    unfold Cas.fact at *
    omega
theorem LN.learn (h : LN cols n V B G c) (hV : V.length ≤ 32) {r k : Nat} {v : Int} (hr : r < n) (hk : k < cols.length) (hv : v ∈ V) (hb : v < B) : LN cols n V B (G.learn (r, k) v) (c.learn r k v) :=
  ⟨h.rep.learn h.inv.ok (h.rn hr) (h.kn hk), h.inv.learn hV hr hk hv hb, h.tid.learn _ _⟩
theorem LN.join (h : LN cols n V B G c) (hV : V.length ≤ 32) {i j k : Nat} (hi : i < n) (hj : j < n) (hk : k < cols.length) : LN cols n V B (G.join (i, k) (j, k)) (c.join i k j k) :=
  ⟨h.rep.join h.inv.ok (h.rn hi) (h.kn hk) (h.rn hj) (h.kn hk), h.inv.join hV hi hk hj hk, h.tid.join (h.inG hi hk).1 (h.inG hj hk).1⟩
theorem LN.canStep (h : LN cols n V B G c) {t : Ru} (ht : okRu cols.length t) {r : Nat} (hr : r < n) (hw : t.2.2.isSome = true) (full : ∀ p ∈ t.1, p.2 ≠ none) : G.canN t.1 r r [r] = c.canStep t r := by
  unfold Grps.canN Cas.canStep
  rw [hw, Bool.true_and, Bool.eq_iff_iff, List.all_eq_true, List.all_eq_true]
  constructor
  · intro q p hp
    have := q p hp
    unfold Cas.entS
    cases e : p.2 with
    | none => exact absurd e (full p hp)
    | some v =>
      rw [e] at this
      simp only [List.all_cons, List.all_nil, Bool.and_true, decide_eq_true_eq] at this ⊢
      exact (h.rep.mem (h.rn hr) (h.kn (ht.g p hp)) v).mp this
  · intro q p hp
    have := q p hp
    unfold Cas.entS at this
    cases e : p.2 with
    | none => exact absurd e (full p hp)
    | some v =>
      rw [e] at this
      simp only [List.all_cons, List.all_nil, Bool.and_true, decide_eq_true_eq] at this ⊢
      exact (h.rep.mem (h.rn hr) (h.kn (ht.g p hp)) v).mpr this
theorem LN.canTie (h : LN cols n V B G c) {t : Ru} (ht : okRu cols.length t) {i j : Nat} (hi : i < n) (hj : j < n) (hw : t.2.2 = none) : G.canN t.1 i j [i, j] = c.canTie t i j := by
  unfold Grps.canN Cas.canTie
  rw [hw]
  show _ = (true && _)
  rw [Bool.true_and, Bool.eq_iff_iff, List.all_eq_true, List.all_eq_true]
  have each : ∀ p ∈ t.1, ((match p.2 with
    | none => G.alike (i, p.1) (j, p.1)
    | some v => [i, j].all fun r => decide (v ∈ (G.has (r, p.1)).2)) = c.entT i j p) := fun p hp => by
    have hk := ht.g p hp
    unfold Cas.entT
    cases e : p.2 with
    | none => exact h.rep.alike (h.rn hi) (h.kn hk) (h.rn hj) (h.kn hk)
    | some v =>
      simp only [List.all_cons, List.all_nil, Bool.and_true]
      rw [decide_eq_decide.mpr (h.rep.mem (h.rn hi) (h.kn hk) v), decide_eq_decide.mpr (h.rep.mem (h.rn hj) (h.kn hk) v)]
  exact ⟨fun q p hp => (each p hp).symm.trans (q p hp), fun q p hp => (each p hp).trans (q p hp)⟩
structure WentN (ts : List Ru) (cols : List (Option (List Int))) (n : Nat) (V : List Int) (B : Int) (c : Cas) (G' : Grps) (d : Cas) : Prop where
  ln : LN cols n V B G' d
  eqs : EqN ts n c d
  mono : Mono n cols.length c d
theorem WentN.trans {G1 G2 : Grps} (a : WentN ts cols n V B c G1 d) (b : WentN ts cols n V B d G2 e) : WentN ts cols n V B c G2 e := ⟨b.ln, a.eqs.trans b.eqs, a.mono.trans b.mono⟩
theorem WentN.refl (h : LN cols n V B G c) : WentN ts cols n V B c G c := ⟨h, EqN.refl ts n c, Mono.refl n cols.length c⟩
end
abbrev OpJ := Ru × Nat × Nat
def opsN (n : Nat) (t : Ru) : List OpJ := match t.2.2 with
  | some _ => (List.range n).map fun r => (t, r, r)
  | none => (pairsN n).map fun p => (t, p.1, p.2)
def Cas.canP (c : Cas) (o : OpJ) : Bool := match o.1.2.2 with
  | some _ => c.canStep o.1 o.2.1
  | none => c.canTie o.1 o.2.1 o.2.2
def Cas.doneP (c : Cas) (o : OpJ) : Bool := match o.1.2.2 with
  | some w => decide (w ∈ c.fact o.2.1 o.1.2.1)
  | none => decide (c.at_ o.2.1 o.1.2.1 = c.at_ o.2.2 o.1.2.1)
section
variable {cols : List (Option (List Int))} {n : Nat} {V : List Int} {B : Int} {G : Grps} {c d e : Cas} {ts : List Ru}
theorem mem_opsN {o : OpJ} : o ∈ ts.flatMap (opsN n) ↔ o.1 ∈ ts ∧ ((∃ w, o.1.2.2 = some w ∧ o.2.1 < n ∧ o.2.2 = o.2.1) ∨ (o.1.2.2 = none ∧ o.2.1 < o.2.2 ∧ o.2.2 < n)) := by
  rw [List.mem_flatMap]
  obtain ⟨t, i, j⟩ := o
  constructor
  · rintro ⟨u, hu, h⟩
    unfold opsN at h
    cases e : u.2.2 with
    | some w =>
      rw [e] at h
      simp only [List.mem_map, List.mem_range, Prod.mk.injEq] at h
      obtain ⟨a, ha, rfl, rfl, rfl⟩ := h
      exact ⟨hu, .inl ⟨w, e, ha, rfl⟩⟩
    | none =>
      rw [e] at h
      simp only [List.mem_map, Prod.mk.injEq, Prod.exists] at h
      obtain ⟨a, b, hab, rfl, rfl, rfl⟩ := h
      obtain ⟨h1, h2⟩ := mem_pairsN.mp hab
      exact ⟨hu, .inr ⟨e, h1, h2⟩⟩
  · rintro ⟨hu, h⟩
    refine ⟨t, hu, ?_⟩
    unfold opsN
    rcases h with ⟨w, e, h, q⟩ | ⟨e, h1, h2⟩
    · simp only at e h q
      subst q
      rw [e]
      simp only [List.mem_map, List.mem_range, Prod.mk.injEq, true_and]
      exact ⟨j, h, rfl, rfl⟩
    · simp only at e h1 h2
      rw [e]
      simp only [List.mem_map, Prod.mk.injEq, Prod.exists, true_and]
      exact ⟨i, j, mem_pairsN.mpr ⟨h1, h2⟩, rfl, rfl⟩
theorem Mono.canP (m : Mono n cols.length c d) {o : OpJ} (ho : o ∈ ts.flatMap (opsN n)) (hts : RulesV ts cols.length V B) (h : c.canP o = true) : d.canP o = true := by
  obtain ⟨hm, q⟩ := mem_opsN.mp ho
  have ht := hts.ok _ hm
  unfold Cas.canP at h ⊢
  rcases q with ⟨w, e, hr, _⟩ | ⟨e, hij, hj⟩
  · rw [e] at h ⊢
    simp only at h ⊢
    unfold Cas.canStep at h ⊢
    rw [Bool.and_eq_true, List.all_eq_true] at h ⊢
    refine ⟨h.1, fun p hp => ?_⟩
    have := h.2 p hp
    unfold Cas.entS at this ⊢
    cases q : p.2 with
    | none => exact absurd q (hts.full _ hm (by rw [e]; rfl) p hp)
    | some v =>
      rw [q] at this
      simp only [decide_eq_true_eq] at this ⊢
      exact m.kn _ _ hr (ht.g p hp) v this
  · rw [e] at h ⊢
    simp only at h ⊢
    have hi : o.2.1 < n := by omega
    unfold Cas.canTie at h ⊢
    rw [Bool.and_eq_true, List.all_eq_true] at h ⊢
    refine ⟨h.1, fun p hp => ?_⟩
    have hp1 := ht.g p hp
    have := h.2 p hp
    unfold Cas.entT at this ⊢
    cases q : p.2 with
    | none =>
      rw [q] at this
      simp only at this ⊢
      unfold Cas.alike at this ⊢
      rw [Bool.or_eq_true, decide_eq_true_eq, List.any_eq_true] at this ⊢
      rcases this with z | ⟨v, hv, z⟩
      · exact .inl (m.eq _ p.1 _ p.1 hi hp1 hj hp1 z)
      · refine .inr ⟨v, m.kn _ p.1 hi hp1 v hv, ?_⟩
        rw [decide_eq_true_eq] at z ⊢
        exact m.kn _ p.1 hj hp1 v z
    | some v =>
      rw [q] at this
      simp only [Bool.and_eq_true, decide_eq_true_eq] at this ⊢
      exact ⟨m.kn _ p.1 hi hp1 v this.1, m.kn _ p.1 hj hp1 v this.2⟩
theorem Mono.doneP (m : Mono n cols.length c d) {o : OpJ} (ho : o ∈ ts.flatMap (opsN n)) (hts : RulesV ts cols.length V B) (h : c.doneP o = true) : d.doneP o = true := by
  obtain ⟨hm, q⟩ := mem_opsN.mp ho
  have ht := hts.ok _ hm
  unfold Cas.doneP at h ⊢
  rcases q with ⟨w, e, hr, _⟩ | ⟨e, hij, hj⟩
  · rw [e] at h ⊢
    simp only [decide_eq_true_eq] at h ⊢
    exact m.kn _ _ hr ht.c w h
  · rw [e] at h ⊢
    simp only [decide_eq_true_eq] at h ⊢
    exact m.eq _ _ _ _ (by omega) ht.c hj ht.c h
structure OpV (ts : List Ru) (cols : List (Option (List Int))) (n : Nat) (V : List Int) (B : Int) (c : Cas) (G : Grps) (os : List OpJ) (G' : Grps) (d : Cas) : Prop where
  went : WentN ts cols n V B c G' d
  aft : ∀ o ∈ os, c.canP o = true → d.doneP o = true
  new : G' = G ∨ ∃ o ∈ ts.flatMap (opsN n), c.doneP o = false ∧ d.doneP o = true
/-! ## whether a case has a filling -/
def OpenN (cols : List (Option (List Int))) (ts : List Ru) (n : Nat) (c : Cas) : Prop := ∃ M, c.Sat M ∧ (∀ t ∈ ts, KeepN n M t) ∧ InCols n cols M
theorem OpenN.went {G' : Grps} (a : WentN ts cols n V B c G' d) : OpenN cols ts n d ↔ OpenN cols ts n c := by
  unfold OpenN
  constructor
  · rintro ⟨M, s, k, i⟩
    exact ⟨M, (a.eqs M k).mp s, k, i⟩
  · rintro ⟨M, s, k, i⟩
    exact ⟨M, (a.eqs M k).mpr s, k, i⟩
end
end DL
set_option maxHeartbeats 4000000
namespace DL
open PySem PySem.Spec PyProof.Rows L2
section
variable {X : Cx} {K : PySem.W.Frag}
/-! ## min of three ints -/
end
end DL
set_option maxHeartbeats 8000000
namespace PySem
namespace DLSetS
open L2 PyProof.Rows DLSet
/-! set(xs), xs a list of texts -/
def TxS (P : Program) (w : World) (h : Heap) (a : Addr) (l : List Str) : Prop := ∃ L : List Str, L.Nodup ∧ (∀ k, k ∈ L ↔ k ∈ l) ∧ h.SetOf (strKind P w) a (fun k => decide (k ∈ L)) L.length
theorem TxS.at {P : Program} {w : World} {h h' : Heap} {a : Addr} {l : List Str} (t : TxS P w h a l) (k : ∀ o, h.get? a = some o → h'.get? a = some o) : TxS P w h' a l := by
  obtain ⟨L, a1, a2, o, es, ep, tt, ho, r⟩ := t
  exact ⟨L, a1, a2, o, es, ep, tt, k _ ho, r⟩
section
variable {P : Program} {w : World} {A : Around} {E : Value → Shared → Prop} {s : Shared}
theorem zmk {I : Addr} {fp wr : List Addr} {G : Array GenState → Array GenState → Prop} {n : Nat} {Pv : Nat → Value → Prop} {St : Nat → Shared → Prop} {R : Result → Shared → Prop}
    (W : WalksS P w A.in1 I fp wr G n Pv St) (S : Addr) (hSf : S ∉ fp) (ns : List Str) (hn : n = ns.length) (hb : ns.length + 1 < scanBound) (hval : ∀ i v, Pv i v → ∃ k t, ns[i]? = some k ∧ v = .str k t) :
    ∀ (k i : Nat) (s : Shared), n - i = k → i ≤ n → St i s → TxS P w s.heap S (ns.take i) →
      (∀ s', Moved (S :: wr) G s s' → TxS P w s'.heap S ns → R (.ok (.ret .none)) s') →
      codeAny (model P w) A (.builtin "set.update.loop" ⟨[.ref S, .ref I], []⟩) R s := by
  have hSw : S ∉ wr := fun h => hSf (W.sub _ h)
  have hsub : ∀ b ∈ wr, b ∈ S :: wr := fun b hb => List.mem_cons_of_mem _ hb
  intro k
  induction k with
  | zero =>
    intro i s hk' hi hst hS hR
    have hin : i = n := by omega
    subst hin
    refine codeAny_builtin F.entry_set_update_loop ?_
    rw [Around.under_plainId F.plain_set_update_loop _]
    show wpAny _ A.in1 (pyNext (.ref I) >>= _) _ _ s
    refine wpAny_bind (W.done s _ _ hst fun s' hm => ?_)
    show wpAny _ A.in1 (ret Value.none) _ _ s'
    have e : ns.take i = ns := List.take_of_length_le (by omega)
    rw [e] at hS
    exact wpAny_pure (hR s' (hm.mono hsub) (hS.at fun o e => hm.heap S o hSw e))
  | succ k ih =>
    intro i s hk' hi hst hS hR
    have hlt : i < n := by omega
    refine codeAny_builtin F.entry_set_update_loop ?_
    rw [Around.under_plainId F.plain_set_update_loop _]
    show wpAny _ A.in1 (pyNext (.ref I) >>= _) _ _ s
    refine wpAny_bind (W.item i s _ _ hlt hst fun v s' hP hst' hm => ?_)
    obtain ⟨z, t, hz, rfl⟩ := hval i v hP
    obtain ⟨L, nd, mem, hS'⟩ : TxS P w s'.heap S (ns.take i) := hS.at fun o e => hm.heap S o hSw e
    have hlen : L.length ≤ i := by
      have h1 := DLSetT.few_of L (ns.take i) nd fun k hk => (mem k).mp hk
      rw [List.length_take] at h1
      omega
    show wpAny _ A.in1 (holding [Value.str z t] (setAdd S (.str z t)) >>= _) _ _ s'
    refine wpAny_bind (wpAny_holding ?_)
    unfold setAdd
    refine wpAny_holding ?_
    refine wpAny_bind ((strKind P w).pyHash (k := z) (strKind_is _ _ _ _) ?_)
    refine wpAny_setAddHashed_of (knd := strKind P w) (s := { s' with toks := s'.toks + 1 }) (strKind_is _ _ _ _) rfl hS' (by omega) fun h' hsb hS2 => ?_
    have hS3 : TxS P w h' S (ns.take (i + 1)) := by
      rw [List.take_add_one, hz]
      by_cases hm : z ∈ L
      · refine ⟨L, nd, fun k => ?_, ?_⟩
        · simp only [Option.toList, List.mem_append, List.mem_singleton]
          rw [← mem k]
          constructor
          · exact .inl
          · rintro (q | rfl)
            · exact q
            · exact hm
        · refine (congrArg (fun f => h'.SetOf (strKind P w) S f L.length) (funext fun k => ?_)).mp (by simpa only [hm, decide_true, if_true] using hS2)
          by_cases e : k = z
          · subst e; simp [hm]
          · simp [e]
      · refine ⟨z :: L, List.nodup_cons.mpr ⟨hm, nd⟩, fun k => ?_, ?_⟩
        · simp only [Option.toList, List.mem_append, List.mem_cons, List.not_mem_nil, or_false]
          rw [← mem k]
          exact or_comm
        · refine (congrArg (fun f => h'.SetOf (strKind P w) S f (L.length + 1)) (funext fun k => ?_)).mp (by simpa only [hm, decide_false, Bool.false_eq_true, if_false] using hS2)
          simp only [List.mem_cons, Bool.decide_or]
          exact Bool.or_comm _ _
    refine wpAny_pure ⟨plainId_quiet F.plain_set_update_loop _, ih (i + 1) _ (by omega) hlt (W.frame _ s' _ _ hst' (Nat.le_succ _) fun b hb o e => ?_) hS3 fun s'' hm'' hS'' => ?_⟩
    · rw [hsb.2 b (fun h : b = S => hSf (by rw [← h]; exact hb))]; exact e
    · refine hR s'' (Moved.trans W.gtrans ((hm.mono hsub).then_heap (Nat.le_succ _) fun b o hb e => ?_) hm'') hS''
      rw [hsb.2 b (fun h : b = S => hb (by rw [h]; exact List.mem_cons_self))]; exact e
theorem txS_new {h : Heap} {a : Addr} (ho : h.get? a = some (emp w)) : TxS P w h a [] := by
  refine ⟨[], List.nodup_nil, fun k => Iff.rfl, ?_⟩
  have := (setObjOf_fresh (knd := strKind P w) (!w.params.followText "set-order")).setOf ho (by unfold scanBound; omega)
  simpa using this
theorem strs_at : ∀ {us : List Value} {ns : List Str}, StrsAre us ns → ∀ (i : Nat) (v : Value), us[i]? = some v → ∃ k t, ns[i]? = some k ∧ v = .str k t
  | _, _, .nil, i, v, h => by cases i <;> cases h
  | _, _, .cons y t r, 0, v, h => by cases h; exact ⟨y, t, rfl, rfl⟩
  | _, _, .cons y t r, i + 1, v, h => strs_at r i v h
theorem set_of_listS {l : Addr} {items : Array Value} (ns : List Str) {Q : Value → Shared → Prop} (hh : A.handled = none) (hl : s.heap.IsList l items) (hit : StrsAre items.toList ns) (size_eq : items.size = ns.length) (hb : ns.length + 1 < scanBound)
    (h : ∀ (h' : Heap) (tk : Nat), TxS P w h' s.heap.objs.size ns → (∀ b o, s.heap.get? b = some o → h'.get? b = some o) → Q (.ref s.heap.objs.size) { s with heap := h', toks := tk }) :
    wpAny (model P w) A (call (.type "set") [.ref l]) Q E s := by
  obtain ⟨c, tl, hmro⟩ := F.called_set.mro
  have hmade := F.called_set.made
  have hsub := F.called_set.sub
  apply wpAny_call
  apply codeAny_of_tree
  show wpAny _ _ (callAny (.type "set") _) _ _ _
  apply wpAny_pure
  refine ⟨Code.quiet_builtin _ (by decide +kernel), ?_⟩
  apply codeAny_builtin F.entry_type_call
  rw [Around.under_plain (weight_type_call_type "set" [.ref l] []) rfl]
  have h1 := F.called_set.notType
  have h2 := F.called_set.canCreate
  have hct := F.typeCall_set_1 (.ref l)
  repeat (any_goals (first | assumption | wp_step))
  refine codeAny_mono (code_set_led1 (.ref l) (E := E) (Q₁ := fun ob s1 => ob = .ref s.heap.objs.size ∧ s1 = { s with heap := s.heap.push (emp w) }) ⟨rfl, rfl⟩) ?_
  intro r s1 hr
  cases r with
  | error e => exact hr
  | ok fl =>
    cases fl with
    | ret ob =>
      obtain ⟨rfl, rfl⟩ := hr
      have hS : (s.heap.push (emp w)).get? s.heap.objs.size = some (emp w) := Heap.get?_push_size _ rfl
      have hT : Shared.TypeIs { s with heap := s.heap.push (emp w) } (.ref s.heap.objs.size) "set" := ⟨_, hS, rfl⟩
      have hli := F.called_set.init.lookup
      have hbi := F.called_set.init.bind (.ref s.heap.objs.size)
      repeat (any_goals (first | assumption | wp_step))
      refine codeAny_mono (codeAny_call_builtin (R := wants (fun r s2 => r = .none ∧ ∃ h' tk, s2 = { s with heap := h', toks := tk } ∧ TxS P w h' s.heap.objs.size ns ∧
          (∀ b o, s.heap.get? b = some o → h'.get? b = some o)) E) F.called_set.init.plain F.entry_set_init (check_set_init_1 hT ?_)) ?_
      · obtain ⟨ol, hol, hcl, nl, hdl⟩ := hl
        obtain ⟨ocls, odict, odata, oslots⟩ := ol
        simp only at hcl hdl
        subst hcl
        subst hdl
        have hol1 : (s.heap.push (emp w)).get? l = some { cls := .type "list", dict := odict, data := .seq items nl, slots := oslots } := Heap.get?_push_of_some _ hol
        have hsls := F.sub_list_set
        have hslf := F.sub_list_frozenset
        have hne : (Value.type "list" == Value.type "dict") = false := by decide
        have hl1 : (s.heap.push (emp w)).IsList l items := ⟨_, hol1, rfl, nl, rfl⟩
        unfold Builtin.«set.__init__» noKeywords Builtin.Frozenset.updateFrom
        generalize hPI : pyIter = PI
        wp_walk
        subst hPI
        refine wpAny_pyIter_list hl1 ?_
        refine wpAny_bind (wpAny_runValue ?_)
        have lt : l < s.heap.objs.size := Heap.lt_size hol
        have calm3 : A.in1.in1.in1.handled = none := by simp [hh]
        have sz : (s.heap.push (emp w)).objs.size = s.heap.objs.size + 1 := Heap.size_push ..
        have apart : l ≠ (s.heap.push (emp w)).objs.size := by rw [sz]; exact Nat.ne_of_lt (Nat.lt_succ_of_lt lt)
        have free : s.heap.objs.size ∉ [(s.heap.push (emp w)).objs.size, l] := by
          rw [sz]
          simp only [List.mem_cons, List.not_mem_nil, or_false, not_or]
          exact ⟨Nat.ne_of_lt (Nat.lt_succ_self _), Nat.ne_of_gt lt⟩
        have val : ∀ (i : Nat) (v : Value), items[i]? = some v → ∃ k t, ns[i]? = some k ∧ v = .str k t := fun i v hv => strs_at hit i v (by rw [Array.getElem?_toList]; exact hv)
        refine zmk ((Walks.list calm3 _ l apart items).toS) s.heap.objs.size free ns size_eq hb val (items.size - 0) 0 _ (by omega) (Nat.zero_le _)
          ⟨⟨_, Heap.get?_push_size _ rfl, rfl, rfl⟩, (hl1.push _)⟩ ?hA ?hB
        case hA => exact txS_new (Heap.get?_push_of_some _ hS)
        case hB =>
          intro s' mv hS'
          obtain ⟨h', g2, d', tk', os'⟩ := s'
          obtain rfl : g2 = s.gens := mv.gens
          obtain rfl : d' = s.drawn := mv.drawn
          obtain rfl : os' = s.os := mv.os
          show wpAny _ _ _ _ _ _
          apply wpAny_pure
          show wpAny _ _ (ret Value.none) _ _ _
          refine wpAny_pure ⟨rfl, h', tk', rfl, hS', fun b o e => ?_⟩
          have hb0 : b < s.heap.objs.size := Heap.lt_size e
          refine mv.heap b o ?_ (Heap.get?_push_of_some _ (Heap.get?_push_of_some _ e))
          rw [sz]
          simp only [List.mem_cons, List.not_mem_nil, or_false, not_or]
          exact ⟨Nat.ne_of_lt hb0, Nat.ne_of_lt (Nat.lt_succ_of_lt hb0)⟩
      · intro r2 s2 hr2
        cases r2 with
        | error e => exact hr2
        | ok fl2 =>
          cases fl2 with
          | ret v2 =>
            obtain ⟨rfl, h', tk, rfl, hS', hk⟩ := hr2
            repeat (any_goals (first | assumption | wp_step))
            exact h h' tk hS' hk
          | _ => exact hr2.elim
    | _ => exact hr.elim
end
end DLSetS
end PySem
namespace DL
open PySem PySem.Spec PyProof.Rows L2
section
variable {X : Cx} {W : WX} {e a b c : Expr} {es : List Expr} {pos p : Pos} {K : PySem.W.Frag} {ι : List Addr} {F H : Hp} {S : zae} {mg : Str → Option Value}
/-! ## len(set(x)), x a list of texts -/
def zk5 : List Str → List Str
  | [] => []
  | x :: r => if x ∈ zk5 r then zk5 r else x :: zk5 r
theorem zks (k : Str) : ∀ l, k ∈ zk5 l ↔ k ∈ l
  | [] => Iff.rfl
  | x :: r => by
    rw [zk5]
    split
    · rename_i h
      rw [List.mem_cons, zks k r]
      constructor
      · exact .inr
      · rintro (rfl | q)
        · exact (zks k r).mp h
        · exact q
    · rw [List.mem_cons, List.mem_cons, zks k r]
theorem zjt : ∀ l, (zk5 l).Nodup
  | [] => List.nodup_nil
  | x :: r => by
    rw [zk5]
    split
    · exact zjt r
    · rename_i h
      exact List.nodup_cons.mpr ⟨h, zjt r⟩
theorem zod : ∀ {l : List Str}, l.Nodup → zk5 l = l
  | [], _ => rfl
  | x :: r, h => by
    rw [zk5, zod (List.nodup_cons.mp h).2, if_neg (List.nodup_cons.mp h).1]
def TextO (P : Program) (w : World) (a : Addr) (l : List Str) : HO := .ext fun h => PySem.DLSetS.TxS P w h a l
theorem textO_new {P' P : Program} {w' w : World} {H : Hp} {h : Heap} {a : Addr} {l : List Str} (R : PySem.DLSetS.TxS P w h a l) : ObjOk P' w' H h a (TextO P w a l) := by
  have ⟨_, _, _, o, _, _, _, ho, _⟩ := R
  exact ⟨R, ⟨o, ho⟩, fun h1 h2 p k => p.at k⟩
def rSetS (K : PySem.W.Frag) (P : Program) (w : World) : List V → Hp → VK → Prop := fun xs H Q => ∃ (a : Addr) (ns : List Str), xs = [V.ref a] ∧ SqL K H a (ns.map V.str) ∧ ns.length < 4000 ∧
  ∀ p, H p = none → Q (.ref p) (upd H p (TextO P w p ns))
theorem cr_setS (hc : X.calm = true) : CallR X (.type "set") (rSetS X.K X.prog X.w) := by
  intro pins s σ H xs us Q I r h
  obtain ⟨a, ns, rfl, hq, hl, q⟩ := h
  rw [Vals.ref1 r]
  have hb : ns.length + 1 < scanBound := by unfold scanBound; omega
  obtain ⟨its, rv, p, hz⟩ := I.list hq
  refine PySem.DLSetS.set_of_listS ns (I.ok.hd hc) p.isList (by simpa using strsAre_of rv) (by rw [List.size_toArray, ← rv.length, List.length_map]) hb fun h' tk R k => ?_
  exact ⟨.ref s.heap.objs.size, _, I.laid (t' := tk) k (Nat.le_refl _) (textO_new R), rfl, q _ (I.hok.fresh (Nat.le_refl _))⟩
def rLenS (P : Program) (w : World) : List V → Hp → VK → Prop := fun xs H Q => ∃ (p : Addr) (ns : List Str), xs = [V.ref p] ∧ H p = some (TextO P w p ns) ∧ Q (.int ((zk5 ns).length : Nat)) H
theorem cr_lenS : CallR X (.builtin "len") (rLenS X.prog X.w) := by
  intro pins s σ H xs us Q I r h
  obtain ⟨p, ns, rfl, ha, q⟩ := h
  rw [Vals.ref1 r]
  have R : PySem.DLSetS.TxS X.prog X.w s.heap p ns := (I.hok p _ ha).1
  obtain ⟨L, nd, mem, o, es, ep, t, ho, hex, hd, _, _, hb, hf, hn⟩ := R
  unfold scanBound at hb
  have e : L.length = (zk5 ns).length := ((List.perm_ext_iff_of_nodup nd (zjt ns)).mpr fun k => by rw [mem, zks]).length_eq
  refine PySem.call_len_set ho hex hd hf (by omega) ?_
  refine ⟨.int ((es.size : Nat) : Int), H, I.tok _, ⟨_, rfl⟩, ?_⟩
  rw [hn, e]
  exact q
def lenSS (x : DV) (S : zae) : Res DV := match rd S x with
  | some (.lst xs) => (match zlt xs with
    | some ns => if ns.length < 4000 then .ok (.dat (.int ((zk5 ns).length : Nat))) S else .bad
    | none => .bad)
  | _ => .bad
def zo2 (f : XFn) : XFn := fun ρ S => (f ρ S).bind lenSS
theorem de_lenSetS {f : XFn} {p2 p3 : Pos} (hc : X.calm = true) (h : DE X W a f) (hm : X.mg "len" = none) (hm2 : X.mg "set" = none) (hg : Gl X "len" := by rfl) (hg2 : Gl X "set" := by rfl)
    (he : starEach (a :: []) X.env = (false, eval a X.env) :: starEach [] X.env := by rfl)
    (he2 : starEach (.Call (.Name "set" p2) [a] [] p3 :: []) X.env = (false, eval (.Call (.Name "set" p2) [a] [] p3) X.env) :: starEach [] X.env := by rfl) :
    DE X W (.Call (.Name "len" p) [.Call (.Name "set" p2) [a] [] p3] [] pos) (zo2 f) := by
  refine ⟨PE.weak (pe_callB cr_lenS hg hm (by decide +kernel) (pa_cons (pe_callTy (cr_setS hc) hg2 hm2 (by decide +kernel) (pa_cons h.pe pa_nil he) (by decide) (by decide) he rfl) pa_nil he2) (by decide) (by decide) he2 rfl) fun σ H Q ⟨ι, F, ρ, S, r, h⟩ => ?_⟩
  refine tD.bind (g := fun _ => lenSS) r h fun v dv ι1 F1 S1 H1 r1 w1 g1 h1 => ?_
  unfold lenSS at h1
  cases ed : rd S1 dv with
  | none => simp only [ed] at h1; exact h1.elim
  | some d =>
    have vw := r1.st.vw w1 ed
    cases vw with
    | lst s w =>
      simp only [ed] at h1
      rename_i p0 vs xs
      cases ei : zlt xs with
      | none => simp only [ei] at h1; exact h1.elim
      | some ns =>
        simp only [ei] at h1
        by_cases hl : ns.length < 4000
        · simp only [hl, if_true] at h1
          have ev := strsOf_ok w ei
          subst ev
          refine ⟨p0, ns, rfl, .of s, hl, fun p hp0 => ⟨p, ns, rfl, upd_same, ?_⟩⟩
          exact h1 ι1 F1 _ (zfa hp0 _) (r1.st.alone hp0 _) _ (.int _)
        · simp only [hl, if_false] at h1; exact h1.elim
    | _ => simp only [ed] at h1; exact h1.elim
end
end DL
set_option maxHeartbeats 0
namespace T41
open PySem PySem.Spec PyProof.Rows L2 DL
def zle : SFn := (sRet (xAnd (xIsi "int" (xVar 0)) (xNot (xIsi "bool" (xVar 0)))))
def zgs : Fn := za7 1 zle
def zlk : SFn := (sRet (xAnd (xN zgs (zac (xVar 0) aNil)) (zln (o2 dLe) (o2 dLe) (xVar 1) (xVar 0) (xVar 2))))
def zd6 : Fn := za7 3 zlk
def zok : SFn := (sRet (xAnd (xN zgs (zac (xVar 0) aNil)) (x2 (o2 dGe) (xVar 0) (xC (.int 0)))))
def zib : Fn := za7 1 zok
def zmx : SFn := (sSeq (sIf (tBl (x2 (o2 dIsN) (xVar 0) (xC .non))) (sRet (xC (.bl true))) sNil)
    (sSeq (sIf (tOr_ (tNo (tTr (xIsi "tuple" (xVar 0)))) (tNo (tBl (zln (o2 dLe) (o2 dLe) (xC (.int 1)) (xN (o1 dLen) (zac (xVar 0) aNil)) (xC (.int 3)))))) (sRet (xC (.bl false))) sNil)
    (sSeq (sIf (tNo (tTr (xN (o1 dAll) (zac (xN1 (lLc (lIt (xVar 0)) [1] (gNm 1) zdw (xN zib (zac (xVar 1) aNil)))) aNil)))) (sRet (xC (.bl false))) sNil)
    (sRet (x2 (o2 dEq) (xN (o1 dList) (zac (xVar 0) aNil)) (xN1 (zg1 (xVar 0))))))))
def zid : Fn := za7 2 zmx
def zko : SFn := (sRet (xAnd (xN zib (zac (xVar 1) aNil)) (xOr (x2 (o2 dIsN) (xVar 0) (xC .non)) (x2 (o2 dIn) (xVar 1) (xVar 0)))))
def zea : Fn := za7 2 zko
def zli : SFn := (sSeq (sIf (tOr_ (tNo (tTr (xIsi "tuple" (xVar 0)))) (tNo (tBl (zln (o2 dLe) (o2 dLe) (xC (.int 1)) (xN (o1 dLen) (zac (xVar 0) aNil)) (xC (.int 4)))))) (sRet (xC (.bl false))) sNil)
    (sSeq (sIf (tNo (tTr (xN (o1 dAll) (zac (xN1 (lLc (lIt (xVar 0)) [1] (gNm 1) zdw (xN zid (zac (xVar 1) aNil)))) aNil)))) (sRet (xC (.bl false))) sNil)
    (sRet (x2 (o2 dLe) (xN (o1 dLen) (zac (xN1 (lLc (lIt (xVar 0)) [1] (gNm 1) (tBl (x2 (o2 dNotN) (xVar 1) (xC .non))) (xVar 1))) aNil)) (xC (.int 2))))))
def zhk : Fn := za7 2 zli
def zm0 : SFn := (sSeq (sIf (tOr_ (tNo (tTr (xIsi "tuple" (xVar 1)))) (tBl (x2 (o2 dNe) (xN (o1 dLen) (zac (xVar 1) aNil)) (xN (o1 dLen) (zac (xVar 0) aNil))))) (sRet (xC (.bl false))) sNil)
    (sRet (xN (o1 dAll) (zac (xN1 (lLc (lZip (xVar 0) (xVar 1)) [2, 3] (gTp (gCo (gNm 2) (gCo (gNm 3) gNo))) zdw (xN zea (zac (xVar 2) (zac (xVar 3) aNil))))) aNil))))
def zhe : Fn := za7 4 zm0
def zkn : SFn := (sSeq (sIf (tOr_ (tNo (tTr (xIsi "tuple" (xVar 1)))) (tBl (x2 (o2 dGt) (xN (o1 dLen) (zac (xVar 1) aNil)) (xC (.int 8))))) (sRet (xC (.bl false))) sNil)
    (sRet (xN (o1 dAll) (zac (xN1 (lLc (lIt (xVar 1)) [2] (gNm 2) zdw (xN zhe (zac (xVar 0) (zac (xVar 2) aNil))))) aNil))))
def zg6 : Fn := za7 3 zkn
def zh9 : SFn := (sIf (tNo (tTr (xN zhk (zac (xVar 0) aNil)))) (zlr "InvalidColumns") sNil)
def za9 : Fn := za7 1 zh9
def zke : SFn := (sIf (tNo (tTr (xN zhe (zac (xVar 0) (zac (xVar 1) aNil))))) (zlr "InvalidRow") sNil)
def zg4 : Fn := za7 2 zke
def zi7 : SFn := (sIf (tNo (tTr (xN zg6 (zac (xVar 0) (zac (xVar 1) aNil))))) (zlr "InvalidTable") sNil)
def zcx : Fn := za7 2 zi7
def zn5 : SFn := (sSeq (sIf (tOr_ (tNo (tTr (xIsi "tuple" (xVar 1)))) (tOr_ (tBl (x2 (o2 dNe) (xN (o1 dLen) (zac (xVar 1) aNil)) (xC (.int 2)))) (tNo (tTr (xN zd6 (zac (x2 (o2 dIx) (xVar 1) (xC (.int 0))) (zac (xC (.int 0)) (zac (x2 (o2 dSub) (xN (o1 dLen) (zac (xVar 0) aNil)) (xC (.int 1))) aNil)))))))) (sRet (xC (.bl false))) sNil)
    (sRet (xOr (x2 (o2 dIsN) (x2 (o2 dIx) (xVar 1) (xC (.int 1))) (xC .non)) (xN zea (zac (x2 (o2 dIx) (xVar 0) (x2 (o2 dIx) (xVar 1) (xC (.int 0)))) (zac (x2 (o2 dIx) (xVar 1) (xC (.int 1))) aNil))))))
def zi9 : Fn := za7 2 zn5
def zn3 : SFn := (sSeq (sIf (tOr_ (tNo (tTr (xIsi "tuple" (xVar 1)))) (tNo (tTr (xN (o1 dAll) (zac (xN1 (lLc (lIt (xVar 1)) [3] (gNm 3) zdw (xN zi9 (zac (xVar 0) (zac (xVar 3) aNil))))) aNil))))) (sRet (xC (.bl false))) sNil)
    (sSeq (sSet 2 (xN1 (lLc (lIt (xVar 1)) [3] (gNm 3) zdw (x2 (o2 dIx) (xVar 3) (xC (.int 0))))))
    (sRet (x2 (o2 dEq) (xVar 2) (xN1 (zg1 (xVar 2)))))))
def zjb : Fn := za7 4 zn3
def zlj : SFn := (sSeq (sIf (tOr_ (tNo (tTr (xIsi "tuple" (xVar 1)))) (tOr_ (tBl (x2 (o2 dNe) (xN (o1 dLen) (zac (xVar 1) aNil)) (xC (.int 3)))) (tNo (tTr (xN zjb (zac (xVar 0) (zac (x2 (o2 dIx) (xVar 1) (xC (.int 0))) aNil))))))) (sRet (xC (.bl false))) sNil)
    (sSeq (sTg (gTp (gCo (gNm 2) (gCo (gNm 3) (gCo (gNm 4) gNo)))) (xVar 1))
    (sSeq (sIf (tOr_ (tNo (tTr (xN zd6 (zac (xVar 3) (zac (xC (.int 0)) (zac (x2 (o2 dSub) (xN (o1 dLen) (zac (xVar 0) aNil)) (xC (.int 1))) aNil)))))) (tBl (x2 (o2 dIn) (xVar 3) (xN1 (lLc (lIt (xVar 2)) [5] (gNm 5) zdw (x2 (o2 dIx) (xVar 5) (xC (.int 0)))))))) (sRet (xC (.bl false))) sNil)
    (sSeq (sIf (tBl (x2 (o2 dIsN) (xVar 4) (xC .non))) (sRet (xC (.bl true))) sNil)
    (sRet (xAnd (xN zea (zac (x2 (o2 dIx) (xVar 0) (xVar 3)) (zac (xVar 4) aNil))) (xN (o1 dAll) (zac (xN1 (lLc (lIt (xVar 2)) [5] (gNm 5) zdw (x2 (o2 dNotN) (x2 (o2 dIx) (xVar 5) (xC (.int 1))) (xC .non)))) aNil))))))))
def zeo : Fn := za7 6 zlj
def zlg : SFn := (sRet (xN (o1 dAll) (zac (xN1 (lLc (lIt (xVar 0)) [2, 3] (gTp (gCo (gNm 2) (gCo (gNm 3) gNo))) zdw (xOr (x2 (o2 dIsN) (xVar 3) (xC .non)) (x2 (o2 dEq) (x2 (o2 dIx) (xVar 1) (xVar 2)) (xVar 3))))) aNil)))
def zep : Fn := za7 4 zlg
def zm4 : SFn := (sRet (xN (o1 dAll) (zac (xN1 (lLc (lIt (xVar 0)) [3] (gNm 3) zdw (x2 (o2 dEq) (x2 (o2 dIx) (xVar 1) (x2 (o2 dIx) (xVar 3) (xC (.int 0)))) (x2 (o2 dIx) (xVar 2) (x2 (o2 dIx) (xVar 3) (xC (.int 0))))))) aNil)))
def zig : Fn := za7 4 zm4
def zjo : SFn := (sIf (tNo (tTr (xN zeo (zac (xVar 0) (zac (xVar 1) aNil))))) (zlr "InvalidRule") sNil)
def zdy : Fn := za7 2 zjo
def s_is_rule : SFn := (sSeq (zk0 (xN za9 (zac (xVar 0) aNil)))
    (sRet (xN zeo (zac (xVar 0) (zac (xVar 1) aNil)))))
def zj4 : Fn := za7 2 s_is_rule
def s_matches : SFn := (sSeq (zk0 (xN za9 (zac (xVar 0) aNil)))
    (sSeq (zk0 (xN zdy (zac (xVar 0) (zac (xVar 1) aNil))))
    (sSeq (zk0 (xN zg4 (zac (xVar 0) (zac (xVar 2) aNil))))
    (sRet (xN zep (zac (x2 (o2 dIx) (xVar 1) (xC (.int 0))) (zac (xVar 2) aNil)))))))
def zkk : Fn := za7 3 s_matches
def zcw : SFn := (sIf (tAn (tBl (x2 (o2 dLt) (xVar 4) (xVar 8))) (tAn (tTr (xN zig (zac (xVar 5) (zac (x2 (o2 dIx) (xVar 1) (xVar 4)) (zac (x2 (o2 dIx) (xVar 1) (xVar 8)) aNil))))) (tBl (x2 (o2 dNe) (x2 (o2 dIx) (x2 (o2 dIx) (xVar 1) (xVar 4)) (xVar 6)) (x2 (o2 dIx) (x2 (o2 dIx) (xVar 1) (xVar 8)) (xVar 6)))))) (sApp (xVar 3) (xTup (zac (xVar 4) (zac (xVar 8) aNil)))) sNil)
def zeb : SFn := (sFor (lIt (xVar 2)) (gNm 8) zcw)
def zhl : SFn := (sSeq (sTg (gTp (gCo (gNm 5) (gCo (gNm 6) (gCo (gNm 7) gNo)))) (xVar 0))
    (sSeq (sSet 2 (xN1 (lLc (lRg1 (zac (xN (o1 dLen) (zac (xVar 1) aNil)) aNil)) [4] (gNm 4) (tTr (xN zep (zac (xVar 5) (zac (x2 (o2 dIx) (xVar 1) (xVar 4)) aNil)))) (xVar 4))))
    (sSeq (sIf (tBl (x2 (o2 dNotN) (xVar 7) (xC .non))) (sRet (xN1 (lLc (lIt (xVar 2)) [4] (gNm 4) (tBl (x2 (o2 dNe) (x2 (o2 dIx) (x2 (o2 dIx) (xVar 1) (xVar 4)) (xVar 6)) (xVar 7))) (xTup (zac (xVar 4) aNil))))) sNil)
    (sSeq (sNew 3 (lLst aNil))
    (sSeq (sFor (lIt (xVar 2)) (gNm 4) zeb)
    (sSeq (sFrz 3) (sRet (xVar 3))))))))
def zd2 : Fn := za7 9 zhl
def zng : SFn := (sRet (x2 (o2 dEq) (xN zd2 (zac (xVar 0) (zac (xVar 1) aNil))) (xLst aNil)))
def zhf : Fn := za7 2 zng
def s_holds : SFn := (sSeq (zk0 (xN za9 (zac (xVar 0) aNil)))
    (sSeq (zk0 (xN zdy (zac (xVar 0) (zac (xVar 1) aNil))))
    (sSeq (zk0 (xN zcx (zac (xVar 0) (zac (xVar 2) aNil))))
    (sRet (xN zhf (zac (xVar 1) (zac (xVar 2) aNil)))))))
def zmy : Fn := za7 3 s_holds
def zh4 : SFn := (sSeq (sIf (tOr_ (tBl (x2 (o2 dNe) (xSl (xVar 0) (pEx (xC (.int 1))) pNo) (xSl (xVar 1) (pEx (xC (.int 1))) pNo))) (tBl (x2 (o2 dEq) (x2 (o2 dIx) (xVar 0) (xC (.int 0))) (x2 (o2 dIx) (xVar 1) (xC (.int 0)))))) (sRet (xC (.bl false))) sNil)
    (sSeq (sSet 2 (xIf (tBl (x2 (o2 dIsN) (x2 (o2 dIx) (xVar 0) (xC (.int 2))) (xC .non))) (xN1 (lLc (lIt (x2 (o2 dIx) (xVar 1) (xC (.int 0)))) [4, 5] (gTp (gCo (gNm 4) (gCo (gNm 5) gNo))) zdw (xTup (zac (xVar 4) (zac (xC .non) aNil))))) (xLst aNil)))
    (sRet (xN (o1 dAll) (zac (xN1 (lLc (lIt (x2 (o2 dIx) (xVar 0) (xC (.int 0)))) [3] (gNm 3) zdw (xOr (x2 (o2 dIn) (xVar 3) (x2 (o2 dIx) (xVar 1) (xC (.int 0)))) (x2 (o2 dIn) (xVar 3) (xVar 2))))) aNil)))))
def zd9 : Fn := za7 6 zh4
def zd4 : SFn := (sIf (tBl (x2 (o2 dNotN) (x2 (o2 dIx) (xVar 6) (xC (.int 1))) (xC .non))) (sApp (xVar 1) (xTup (zac (xTup (aStar (xSl (xVar 2) pNo (pEx (xVar 5))) (zac (xTup (zac (x2 (o2 dIx) (xVar 6) (xC (.int 0))) (zac (xC .non) aNil))) (aStar (xSl (xVar 2) (pEx (x2 (o2 dAdd) (xVar 5) (xC (.int 1)))) pNo) aNil)))) (zac (xVar 3) (zac (xVar 4) aNil))))) sNil)
def zhg : SFn := (sSeq (sTg (gTp (gCo (gNm 2) (gCo (gNm 3) (gCo (gNm 4) gNo)))) (xVar 0))
    (sSeq (sNew 1 (lLc (lRg1 (zac (xN (o1 dLen) (zac (xVar 2) aNil)) aNil)) [5] (gNm 5) zdw (xTup (zac (x2 (o2 dAdd) (xSl (xVar 2) pNo (pEx (xVar 5))) (xSl (xVar 2) (pEx (x2 (o2 dAdd) (xVar 5) (xC (.int 1)))) pNo)) (zac (xVar 3) (zac (xVar 4) aNil))))))
    (sSeq (sIf (tBl (x2 (o2 dIsN) (xVar 4) (xC .non))) (sFor (lEnum (xVar 2)) (gTp (gCo (gNm 5) (gCo (gNm 6) gNo))) zd4) sNil)
    (sSeq (sFrz 1) (sRet (xVar 1))))))
def zdq : Fn := za7 7 zhg
def zjp : SFn := (sSeq (zk0 (xN za9 (zac (xVar 0) aNil)))
    (sSeq (zk0 (xN zdy (zac (xVar 0) (zac (xVar 1) aNil))))
    (sSeq (sIf (tNo (tTr (xN zeo (zac (xVar 0) (zac (xVar 2) aNil))))) (zlr "InvalidValue") sNil)
    (sRet (xN zd9 (zac (xVar 1) (zac (xVar 2) aNil)))))))
def zeg : Fn := za7 3 zjp
def zeq : SFn := (sSeq (sSet 5 (x2 (o2 dAdd) (xN1 (zg1 (xN1 (lLc (lIt (xVar 0)) [8] (gNm 8) zdw (x2 (o2 dIx) (xVar 8) (xVar 4)))))) (x2 (o2 zgc) (xLst (zac (xC .non) aNil)) (xN (o1 dInt) (zac (xVar 2) aNil)))))
    (sSet 3 (x2 (o2 dAdd) (xVar 3) (xN1 (lLc2 (lIt (xVar 3)) [6, 7] (gNm 6) zdw (lIt (xVar 5)) [7] (gNm 7) zdw (xTup (aStar (xVar 6) (zac (xTup (zac (xVar 4) (zac (xVar 7) aNil))) aNil))))))))
def zj1 : SFn := (sSeq (sSet 3 (xLst (zac (xTup aNil) aNil)))
    (sSeq (sFor (lIt (xVar 1)) (gNm 4) zeq)
    (sRet (xVar 3))))
def ze6 : Fn := za7 9 zj1
def zds : SFn := (sExt (xVar 2) (xN1 (lLc (lIt (xN ze6 (zac (xVar 1) (zac (xVar 4) (zac (xC (.bl false)) aNil))))) [7] (gNm 7) zdw (xTup (zac (xVar 7) (zac (xVar 3) (zac (xVar 5) aNil)))))))
def zdu : SFn := (sSeq (sSet 4 (xN1 (lLc (lRg1 (zac (xN (o1 dLen) (zac (xVar 0) aNil)) aNil)) [6] (gNm 6) (tBl (x2 (o2 dNe) (xVar 6) (xVar 3))) (xVar 6))))
    (sSeq (sExt (xVar 2) (xN1 (lLc (lIt (xN ze6 (zac (xVar 1) (zac (xVar 4) (zac (xC (.bl true)) aNil))))) [7] (gNm 7) zdw (xTup (zac (xVar 7) (zac (xVar 3) (zac (xC .non) aNil)))))))
    (sFor (lIt (xN1 (zg1 (xN1 (lLc (lIt (xVar 1)) [8] (gNm 8) zdw (x2 (o2 dIx) (xVar 8) (xVar 3))))))) (gNm 5) zds)))
def zh0 : SFn := (sSeq (sNew 2 (lLst aNil))
    (sSeq (sFor (lRg1 (zac (xN (o1 dLen) (zac (xVar 0) aNil)) aNil)) (gNm 3) zdu)
    (sSeq (sFrz 2) (sRet (xVar 2)))))
def ze_ : Fn := za7 9 zh0
def s_is_good : SFn := (sRet (xAnd (x2 (o2 dGe) (xN (o1 dLen) (zac (xN1 (lLc (lIt (xVar 0)) [3] (gNm 3) (tTr (xN zep (zac (x2 (o2 dIx) (xVar 2) (xC (.int 0))) (zac (xVar 3) aNil)))) (xVar 3))) aNil)) (xVar 1)) (xN zhf (zac (xVar 2) (zac (xVar 0) aNil)))))
def ziy : Fn := za7 4 s_is_good
def zls : SFn := (sSeq (sSet 3 (xN1 (lLc (lIt (xN ze_ (zac (xVar 0) (zac (xVar 1) aNil)))) [4] (gNm 4) (tTr (xN ziy (zac (xVar 1) (zac (xVar 2) (zac (xVar 4) aNil))))) (xVar 4))))
    (sRet (xN1 (lLc (lIt (xVar 3)) [4] (gNm 4) (tNo (tTr (xN (o1 dAny) (zac (xN1 (lLc (lIt (xN zdq (zac (xVar 4) aNil))) [5] (gNm 5) zdw (xN ziy (zac (xVar 1) (zac (xVar 2) (zac (xVar 5) aNil)))))) aNil)))) (xVar 4)))))
def zho : Fn := za7 6 zls
def zkj : SFn := (sSeq (zk0 (xN za9 (zac (xVar 0) aNil)))
    (sSeq (zk0 (xN zcx (zac (xVar 0) (zac (xVar 1) aNil))))
    (sSeq (sIf (tNo (tTr (xN zd6 (zac (xVar 2) (zac (xC (.int 1)) (zac (xC (.int 8)) aNil)))))) (zlr "InvalidNumber") sNil)
    (sRet (xN zho (zac (xVar 0) (zac (xVar 1) (zac (xVar 2) aNil))))))))
def zbn : Fn := za7 3 zkj
def zjn : SFn := (sSeq (sIf (tBl (x2 (o2 dGe) (xVar 0) (x2 (o2 dPow) (xC (.int 10)) (xC (.int 18))))) (sRet (xVar 0)) sNil)
    (sSeq (sSet 2 (xLst (zac (xC (.int 2147483629)) (zac (xC (.int 2147483587)) (zac (xC (.int 2147483579)) (zac (xC (.int 2147483563)) (zac (xC (.int 2147483549)) (zac (xC (.int 2147483543)) (zac (xC (.int 2147483497)) aNil)))))))))
    (sSeq (sSet 2 (x2 (o2 dAdd) (xVar 2) (xLst (zac (xC (.int 2147483489)) (zac (xC (.int 2147483477)) (zac (xC (.int 2147483423)) (zac (xC (.int 2147483399)) (zac (xC (.int 2147483353)) (zac (xC (.int 2147483323)) aNil)))))))))
    (sSeq (sSet 3 (x2 (o2 dAdd) (x2 (o2 dAdd) (x2 (o2 zgc) (x2 (o2 dMod) (xN (o1 dInt) (zac (xVar 0) aNil)) (xC (.int 1000000007))) (x2 (o2 dAdd) (x2 (o2 zgc) (xC (.int 2)) (xVar 1)) (xC (.int 69069)))) (x2 (o2 zgc) (xVar 1) (xC (.int 40503)))) (xC (.int 977))))
    (sSeq (sSet 4 (x2 (o2 dMod) (xN (o1 dInt) (zac (x2 (o2 dPow) (xVar 3) (xC (.int 3))) aNil)) (x2 (o2 dIx) (xVar 2) (x2 (o2 dMod) (xN (o1 dInt) (zac (xVar 1) aNil)) (xC (.int 13))))))
    (sSeq (sSet 5 (x2 (o2 dAdd) (x2 (o2 dMod) (xN (o1 dInt) (zac (xVar 0) aNil)) (xC (.int 65537))) (xC (.int 5))))
    (sSeq (sSet 6 (x2 (o2 dMod) (xN (o1 dInt) (zac (x2 (o2 dPow) (x2 (o2 dAdd) (x2 (o2 zgc) (xVar 4) (x2 (o2 dAdd) (xVar 1) (xC (.int 3)))) (xVar 5)) (xC (.int 5))) aNil)) (x2 (o2 dIx) (xVar 2) (x2 (o2 dMod) (xN (o1 dInt) (zac (x2 (o2 dAdd) (xVar 1) (xC (.int 5))) aNil)) (xC (.int 13))))))
    (sSeq (sSet 7 (x2 (o2 dMod) (xN (o1 dInt) (zac (x2 (o2 dPow) (x2 (o2 dAdd) (x2 (o2 dAdd) (xVar 6) (x2 (o2 dMod) (xN (o1 dInt) (zac (xVar 4) aNil)) (xC (.int 1009)))) (xVar 1)) (xC (.int 3))) aNil)) (x2 (o2 dIx) (xVar 2) (x2 (o2 dMod) (xN (o1 dInt) (zac (x2 (o2 dAdd) (xVar 1) (xC (.int 7))) aNil)) (xC (.int 13))))))
    (sRet (x2 (o2 dAdd) (x2 (o2 zgc) (x2 (o2 dAdd) (x2 (o2 zgc) (xVar 4) (xC (.int 2147483647))) (xVar 6)) (xC (.int 2147483647))) (xVar 7)))))))))))
def zfb : Fn := za7 8 zjn
def zee : SFn := (sPut (xVar 1) (x2 (o2 dMod) (xN (o1 dInt) (zac (xVar 2) aNil)) (xC (.int 12))) (x2 (o2 dAdd) (x2 (o2 dIx) (xVar 1) (x2 (o2 dMod) (xN (o1 dInt) (zac (xVar 2) aNil)) (xC (.int 12)))) (xVar 3)))
def zly : SFn := (sSeq (sNew 1 (lList (xSl (xVar 0) pNo (pEx (xC (.int 12))))))
    (sSeq (sFor (lEnum (xSl (xVar 0) (pEx (xC (.int 12))) (pEx (xC (.int 63))))) (gTp (gCo (gNm 2) (gCo (gNm 3) gNo))) zee)
    (sSeq (sFrz 1) (sRetN (lLst (zac (xVar 1) (zac (xC (.int 0)) (zac (xC (.int 0)) aNil))))))))
def zhi : Fn := za7 4 zly
def zlh : SFn := (sSeq (sIf (tBl (x2 (o2 dLt) (x2 (o2 dIx) (xVar 0) (xC (.int 2))) (xVar 1))) (sSeq (sSet 3 (x2 (o2 dIx) (xVar 0) (xC (.int 1))))
    (sSeq (sSet 4 (xC (.int 0)))
    (sSeq (sIf (tBl (x2 (o2 dLt) (xVar 3) (xN (o1 dLen) (zac (x2 (o2 dIx) (xVar 0) (xC (.int 0))) aNil)))) (sSet 4 (x2 (o2 dIx) (x2 (o2 dIx) (xVar 0) (xC (.int 0))) (xVar 3))) (sIf (tBl (x2 (o2 dGt) (xN (o1 dLen) (zac (x2 (o2 dIx) (xVar 0) (xC (.int 0))) aNil)) (xC (.int 0)))) (sSet 4 (x2 (o2 dMod) (xN (o1 dInt) (zac (x2 (o2 dIx) (x2 (o2 dIx) (xVar 0) (xC (.int 0))) (x2 (o2 dMod) (xN (o1 dInt) (zac (x2 (o2 dAdd) (x2 (o2 zgc) (xVar 3) (xC (.int 5))) (xC (.int 3))) aNil)) (xN (o1 dLen) (zac (x2 (o2 dIx) (xVar 0) (xC (.int 0))) aNil)))) aNil)) (x2 (o2 dAdd) (x2 (o2 dPow) (xC (.int 10)) (xC (.int 17))) (xVar 3)))) sNil))
    (sSeq (sPut (xVar 0) (xC (.int 1)) (x2 (o2 dAdd) (xVar 3) (xC (.int 1))))
    (sPut (xVar 0) (xC (.int 2)) (xN zfb (zac (xVar 4) (zac (xVar 3) aNil)))))))) sNil)
    (sSeq (sSet 2 (x2 (o2 dMod) (xN (o1 dInt) (zac (x2 (o2 dIx) (xVar 0) (xC (.int 2))) aNil)) (xVar 1)))
    (sSeq (sPut (xVar 0) (xC (.int 2)) (x2 (o2 dDiv) (x2 (o2 dIx) (xVar 0) (xC (.int 2))) (xVar 1)))
    (sRet (xVar 2)))))
def zaq : Fn := za7 5 zlh
def zlm : SFn := (sSeq (sPut (xVar 0) (xC (.int 2)) (xC (.int 0)))
    (sRet (xVar 0)))
def zfu : Fn := za7 1 zlm
def zm8 : SFn := (sRet (x2 (o2 dIx) (xVar 1) (xN zaq (zac (xVar 0) (zac (xN (o1 dLen) (zac (xVar 1) aNil)) aNil)))))
def zcr : Fn := za7 2 zm8
def zd8 : SFn := (sSeq (sSet 5 (xN1 (zg1 (xN1 (lLc (lRg1 (zac (x2 (o2 dAdd) (xC (.int 1)) (xN zaq (zac (xVar 0) (zac (xC (.int 3)) aNil)))) aNil)) [6] (gNm 6) zdw (xN zaq (zac (xVar 0) (zac (xC (.int 4)) aNil))))))))
    (sIf (tAn (tBl (x2 (o2 dLt) (xVar 4) (xC (.int 2)))) (tBl (x2 (o2 dEq) (xN zaq (zac (xVar 0) (zac (xC (.int 3)) aNil))) (xC (.int 0))))) (sSeq (sSet 4 (x2 (o2 dAdd) (xVar 4) (xC (.int 1))))
    (sSet 3 (x2 (o2 dAdd) (xVar 3) (xTup (zac (xN (o1 dTuple) (zac (xVar 5) aNil)) aNil))))) (sSet 3 (x2 (o2 dAdd) (xVar 3) (xTup (zac (xC .non) aNil))))))
def zi6 : SFn := (sSeq (sTg (gTp (gCo (gNm 3) (gCo (gNm 4) gNo))) (xTup (zac (xTup aNil) (zac (xC (.int 0)) aNil))))
    (sSeq (sFor (lRg1 (zac (x2 (o2 dAdd) (xC (.int 1)) (xN zaq (zac (xVar 0) (zac (xVar 1) aNil)))) aNil)) (gNm 2) zd8)
    (sRet (xVar 3))))
def zd5 : Fn := za7 7 zi6
def zkx : SFn := (sSeq (sIf (tBl (x2 (o2 dIsN) (xVar 1) (xC .non))) (sRet (xN zcr (zac (xVar 0) (zac (xLst (zac (xC (.int 0)) (zac (xC (.int 1)) (zac (xC (.int 2)) (zac (xC (.int 0)) (zac (xC (.int 1)) (zac (xC (.int 2)) (zac (xC (.int 3)) (zac (x2 (o2 dPow) (xC (.int 10)) (xC (.int 29))) (zac (x2 (o2 dAdd) (x2 (o2 dPow) (xC (.int 10)) (xC (.int 29))) (xC (.int 1))) aNil)))))))))) aNil)))) sNil)
    (sRet (xN zcr (zac (xVar 0) (zac (xVar 1) aNil)))))
def zew : Fn := za7 2 zkx
def zmg : SFn := (sRet (xN (o1 dTuple) (zac (xN1 (lLc (lIt (xVar 1)) [2] (gNm 2) zdw (xN zew (zac (xVar 0) (zac (xVar 2) aNil))))) aNil)))
def zie : Fn := za7 3 zmg
def zet : SFn := (sSeq (sSet 5 (xN zie (zac (xVar 0) (zac (xVar 1) aNil))))
    (sSeq (sIf (tAn (tBl (x2 (o2 dGt) (xVar 4) (xC (.int 0)))) (tBl (x2 (o2 dEq) (xN zaq (zac (xVar 0) (zac (xC (.int 2)) aNil))) (xC (.int 0))))) (sSeq (sSet 6 (xN zaq (zac (xVar 0) (zac (xN (o1 dLen) (zac (xVar 1) aNil)) aNil))))
    (sSeq (sSet 7 (xN zcr (zac (xVar 0) (zac (xVar 3) aNil))))
    (sSet 5 (x2 (o2 dAdd) (x2 (o2 dAdd) (xSl (xVar 7) pNo (pEx (xVar 6))) (xSl (xVar 5) (pEx (xVar 6)) (pEx (x2 (o2 dAdd) (xVar 6) (xC (.int 1)))))) (xSl (xVar 7) (pEx (x2 (o2 dAdd) (xVar 6) (xC (.int 1)))) pNo))))) sNil)
    (sSet 3 (x2 (o2 dAdd) (xVar 3) (xTup (zac (xVar 5) aNil))))))
def zkb : SFn := (sSeq (sSet 3 (xTup aNil))
    (sSeq (sFor (lRg1 (zac (xVar 2) aNil)) (gNm 4) zet)
    (sRet (xVar 3))))
def ze4 : Fn := za7 8 zkb
def zkf : SFn := (sSeq (sIf (tBl (x2 (o2 dIn) (xVar 2) (xVar 1))) (sRet (xC (.bl true))) sNil)
    (sSeq (sSet 3 (xN1 (lLc (lIt (xVar 1)) [4] (gNm 4) (tBl (x2 (o2 dEq) (xSl (xVar 4) (pEx (xC (.int 1))) pNo) (xSl (xVar 2) (pEx (xC (.int 1))) pNo))) (xVar 4))))
    (sRet (x2 (o2 dIn) (xC (.bl true)) (xN1 (lLc (lIt (xVar 3)) [4] (gNm 4) zdw (xN zeg (zac (xVar 0) (zac (xVar 4) (zac (xVar 2) aNil))))))))))
def ze8 : Fn := za7 5 zkf
def zlo : SFn := (sRet (xN (o1 dLen) (zac (xN1 (lLc (lIt (xVar 2)) [3] (gNm 3) (tTr (xN zkk (zac (xVar 0) (zac (xVar 1) (zac (xVar 3) aNil))))) (xVar 3))) aNil)))
def zfi : Fn := za7 4 zlo
def zev : SFn := (sIf (tAn (tBl (x2 (o2 dNe) (xVar 7) (xVar 4))) (tBl (x2 (o2 dEq) (xN zaq (zac (xVar 0) (zac (xC (.int 2)) aNil))) (xC (.int 0))))) (sSeq (sSet 8 (xAnd (x2 (o2 dIsN) (xVar 5) (xC .non)) (x2 (o2 dEq) (xN zaq (zac (xVar 0) (zac (xC (.int 2)) aNil))) (xC (.int 0)))))
    (sSet 6 (x2 (o2 dAdd) (xVar 6) (xTup (zac (xTup (zac (xVar 7) (zac (xIf (tTr (xVar 8)) (xC .non) (x2 (o2 dIx) (xVar 3) (xVar 7))) aNil))) aNil))))) sNil)
def zj6 : SFn := (sSeq (sSet 3 (xN zcr (zac (xVar 0) (zac (xVar 2) aNil))))
    (sSeq (sSet 4 (xN zaq (zac (xVar 0) (zac (xN (o1 dLen) (zac (xVar 1) aNil)) aNil))))
    (sSeq (sSet 5 (xN zcr (zac (xVar 0) (zac (xLst (zac (xC .non) (zac (x2 (o2 dIx) (xVar 3) (xVar 4)) aNil))) aNil))))
    (sSeq (sSet 6 (xTup aNil))
    (sSeq (sFor (lRg1 (zac (xN (o1 dLen) (zac (xVar 1) aNil)) aNil)) (gNm 7) zev)
    (sRet (xTup (zac (xVar 6) (zac (xVar 4) (zac (xVar 5) aNil))))))))))
def zg5 : Fn := za7 9 zj6
def zey : SFn := (sSeq (sIf (tOr_ (tNo (tTr (xN zj4 (zac (xVar 1) (zac (xVar 5) aNil))))) (tNo (tTr (xN zmy (zac (xVar 1) (zac (xVar 5) (zac (xVar 2) aNil))))))) (sRet (xC (.bl false))) sNil)
    (sSeq (sIf (tBl (x2 (o2 dLt) (xN zfi (zac (xVar 1) (zac (xVar 5) (zac (xVar 2) aNil)))) (xVar 3))) (sRet (xC (.bl false))) sNil)
    (sSeq (sSet 8 (xN1 (lLc (lIt (xVar 4)) [9] (gNm 9) (tBl (x2 (o2 dEq) (xSl (xVar 9) (pEx (xC (.int 1))) pNo) (xSl (xVar 5) (pEx (xC (.int 1))) pNo))) (xVar 9))))
    (sIf (tBl (x2 (o2 dIn) (xC (.bl true)) (xN1 (lLc (lIt (xVar 8)) [9] (gNm 9) zdw (xN zeg (zac (xVar 1) (zac (xVar 9) (zac (xVar 5) aNil)))))))) (sRet (xC (.bl false))) sNil))))
def ze5 : SFn := (sSeq (sSet 5 (xN zg5 (zac (xVar 0) (zac (xVar 1) (zac (xVar 2) aNil)))))
    (sIf (tAn (tTr (xN zmy (zac (xVar 1) (zac (xVar 5) (zac (xVar 2) aNil))))) (tBl (x2 (o2 dGe) (xN zfi (zac (xVar 1) (zac (xVar 5) (zac (xVar 2) aNil)))) (xVar 3)))) (sIf (tNo (tTr (xN ze8 (zac (xVar 1) (zac (xVar 4) (zac (xVar 5) aNil)))))) (sRet (xC (.bl false))) sNil) sNil))
def zkm : SFn := (sSeq (sSet 4 (xN zbn (zac (xVar 1) (zac (xVar 2) (zac (xVar 3) aNil)))))
    (sSeq (sIf (tBl (x2 (o2 dNe) (zo2 (xN1 (lLc (lIt (xVar 4)) [5] (gNm 5) zdw (xN (o1 zl1) (zac (xVar 5) aNil))))) (xN (o1 dLen) (zac (xVar 4) aNil)))) (sRet (xC (.bl false))) sNil)
    (sSeq (sFor (lIt (xSl (xVar 4) pNo (pEx (xC (.int 12))))) (gNm 5) zey)
    (sSeq (sFor (lRg1 (zac (xC (.int 8)) aNil)) (gNm 6) ze5)
    (sSeq (sSet 7 (xN zbn (zac (xVar 1) (zac (xVar 2) (zac (x2 (o2 dAdd) (xVar 3) (xC (.int 1))) aNil)))))
    (sRet (xN (o1 dAll) (zac (xN1 (lLc (lIt (xSl (xVar 7) pNo (pEx (xC (.int 12))))) [5] (gNm 5) zdw (xN ze8 (zac (xVar 1) (zac (xVar 4) (zac (xVar 5) aNil)))))) aNil))))))))
def zez : Fn := za7 10 zkm
def zot : SFn := (sSeq (sSet 3 (xN zd5 (zac (xN zfu (zac (xVar 1) aNil)) (zac (xN zcr (zac (xVar 1) (zac (xLst (zac (xC (.int 3)) (zac (xC (.int 3)) (zac (xC (.int 4)) aNil)))) aNil))) aNil))))
    (sSeq (sSet 4 (xN ze4 (zac (xVar 1) (zac (xVar 3) (zac (x2 (o2 dAdd) (xC (.int 1)) (xN zaq (zac (xVar 1) (zac (xC (.int 5)) aNil)))) aNil)))))
    (sSeq (sSet 5 (x2 (o2 dAdd) (xC (.int 1)) (xN zaq (zac (xVar 1) (zac (xC (.int 3)) aNil)))))
    (sSeq (sIf (tNo (tTr (xN zez (zac (xVar 1) (zac (xVar 3) (zac (xVar 4) (zac (xVar 5) aNil))))))) (sRet (xC (.bl false))) sNil)
    (sIf (tBl (x2 (o2 dLt) (xN (o1 dLen) (zac (xVar 4) aNil)) (xC (.int 5)))) (sSeq (sSet 6 (xN zbn (zac (xVar 3) (zac (x2 (o2 dAdd) (xVar 4) (xVar 4)) (zac (x2 (o2 zgc) (xC (.int 2)) (xVar 5)) aNil)))))
    (sSeq (sSet 7 (xN1 (zk6 (xN1 (lLc (lIt (xN zbn (zac (xVar 3) (zac (xVar 4) (zac (xVar 5) aNil))))) [8] (gNm 8) zdw (xN (o1 zl1) (zac (xVar 8) aNil)))))))
    (sIf (tBl (x2 (o2 dNe) (xN1 (zk6 (xN1 (lLc (lIt (xVar 6)) [8] (gNm 8) zdw (xN (o1 zl1) (zac (xVar 8) aNil)))))) (xVar 7))) (sRet (xC (.bl false))) sNil))) sNil)))))
def s_law : SFn := (sSeq (sSet 1 (xN zhi (zac (xVar 0) aNil)))
    (sSeq (sFor (lRg1 (zac (xC (.int 3)) aNil)) (gNm 2) zot)
    (sRet (x2 (o2 dEq) (xN (o1 dLen) (zac (xN zbn (zac (xTup (zac (xC .non) aNil)) (zac (x2 (o2 zgc) (xTup (zac (xTup (zac (xC (.int 5)) aNil)) aNil)) (xC (.int 8))) (zac (xC (.int 8)) aNil)))) aNil)) (xC (.int 2))))))
def g_law : Fn := za7 9 s_law
end T41
set_option maxHeartbeats 0
namespace T41
open PySem PySem.Spec PyProof.Rows L2 DL
def top (i : Nat) : Stmt := PySem.Challenge.pw_whererules_k41_whole_finding.main.body.getD i (.Pass ⟨0, 0, 0, 0⟩)
structure Txt (K : PySem.W.Frag) (mg : Str → Option Value) : Prop where
  b_all : mg "all" = none
  b_any : mg "any" = none
  b_bool : mg "bool" = none
  b_enumerate : mg "enumerate" = none
  b_int : mg "int" = none
  b_isinstance : mg "isinstance" = none
  b_len : mg "len" = none
  b_list : mg "list" = none
  b_range : mg "range" = none
  b_repr : mg "repr" = none
  b_set : mg "set" = none
  b_sorted : mg "sorted" = none
  b_tuple : mg "tuple" = none
  b_zip : mg "zip" = none
  i_MOST_COLUMNS : ∃ t, mg "MOST_COLUMNS" = some (.int 4 t)
  i_MOST_ROWS : ∃ t, mg "MOST_ROWS" = some (.int 8 t)
  e_InvalidColumns : ExcD K mg "InvalidColumns"
  e_InvalidNumber : ExcD K mg "InvalidNumber"
  e_InvalidRow : ExcD K mg "InvalidRow"
  e_InvalidRule : ExcD K mg "InvalidRule"
  e_InvalidTable : ExcD K mg "InvalidTable"
  e_InvalidValue : ExcD K mg "InvalidValue"
  d_is_integer : ∃ f fd, FunD K "is_integer" "is_integer" (defArgs (top 9)) (defBody (top 9)) (defScope (top 9)) [] [] f fd ∧ mg "is_integer" = some (.ref f)
  d_is_between : ∃ f fd, FunD K "is_between" "is_between" (defArgs (top 10)) (defBody (top 10)) (defScope (top 10)) [] [] f fd ∧ mg "is_between" = some (.ref f)
  d_is_value : ∃ f fd, FunD K "is_value" "is_value" (defArgs (top 14)) (defBody (top 14)) (defScope (top 14)) [] [] f fd ∧ mg "is_value" = some (.ref f)
  d_is_column : ∃ f fd, FunD K "is_column" "is_column" (defArgs (top 15)) (defBody (top 15)) (defScope (top 15)) [] [] f fd ∧ mg "is_column" = some (.ref f)
  d_is_value_of : ∃ f fd, FunD K "is_value_of" "is_value_of" (defArgs (top 16)) (defBody (top 16)) (defScope (top 16)) [] [] f fd ∧ mg "is_value_of" = some (.ref f)
  d_is_columns : ∃ f fd, FunD K "is_columns" "is_columns" (defArgs (top 17)) (defBody (top 17)) (defScope (top 17)) [] [] f fd ∧ mg "is_columns" = some (.ref f)
  d_is_row_of : ∃ f fd, FunD K "is_row_of" "is_row_of" (defArgs (top 18)) (defBody (top 18)) (defScope (top 18)) [] [] f fd ∧ mg "is_row_of" = some (.ref f)
  d_is_table_of : ∃ f fd, FunD K "is_table_of" "is_table_of" (defArgs (top 19)) (defBody (top 19)) (defScope (top 19)) [] [] f fd ∧ mg "is_table_of" = some (.ref f)
  d_require_columns : ∃ f fd, FunD K "require_columns" "require_columns" (defArgs (top 20)) (defBody (top 20)) (defScope (top 20)) [] [] f fd ∧ mg "require_columns" = some (.ref f)
  d_require_row : ∃ f fd, FunD K "require_row" "require_row" (defArgs (top 21)) (defBody (top 21)) (defScope (top 21)) [] [] f fd ∧ mg "require_row" = some (.ref f)
  d_require_table : ∃ f fd, FunD K "require_table" "require_table" (defArgs (top 22)) (defBody (top 22)) (defScope (top 22)) [] [] f fd ∧ mg "require_table" = some (.ref f)
  d_is_entry : ∃ f fd, FunD K "is_entry" "is_entry" (defArgs (top 24)) (defBody (top 24)) (defScope (top 24)) [] [] f fd ∧ mg "is_entry" = some (.ref f)
  d_is_given : ∃ f fd, FunD K "is_given" "is_given" (defArgs (top 25)) (defBody (top 25)) (defScope (top 25)) [] [] f fd ∧ mg "is_given" = some (.ref f)
  d_is_rule_of : ∃ f fd, FunD K "is_rule_of" "is_rule_of" (defArgs (top 26)) (defBody (top 26)) (defScope (top 26)) [] [] f fd ∧ mg "is_rule_of" = some (.ref f)
  d_does_match : ∃ f fd, FunD K "does_match" "does_match" (defArgs (top 27)) (defBody (top 27)) (defScope (top 27)) [] [] f fd ∧ mg "does_match" = some (.ref f)
  d_are_equal : ∃ f fd, FunD K "are_equal" "are_equal" (defArgs (top 28)) (defBody (top 28)) (defScope (top 28)) [] [] f fd ∧ mg "are_equal" = some (.ref f)
  d_require_rule : ∃ f fd, FunD K "require_rule" "require_rule" (defArgs (top 29)) (defBody (top 29)) (defScope (top 29)) [] [] f fd ∧ mg "require_rule" = some (.ref f)
  d_is_rule : ∃ f fd, FunD K "is_rule" "is_rule" (defArgs (top 30)) (defBody (top 30)) (defScope (top 30)) [] [] f fd ∧ mg "is_rule" = some (.ref f)
  d_matches : ∃ f fd, FunD K "matches" "matches" (defArgs (top 31)) (defBody (top 31)) (defScope (top 31)) [] [] f fd ∧ mg "matches" = some (.ref f)
  d_find_rule_breaks : ∃ f fd, FunD K "find_rule_breaks" "find_rule_breaks" (defArgs (top 33)) (defBody (top 33)) (defScope (top 33)) [] [] f fd ∧ mg "find_rule_breaks" = some (.ref f)
  d_does_hold : ∃ f fd, FunD K "does_hold" "does_hold" (defArgs (top 34)) (defBody (top 34)) (defScope (top 34)) [] [] f fd ∧ mg "does_hold" = some (.ref f)
  d_holds : ∃ f fd, FunD K "holds" "holds" (defArgs (top 35)) (defBody (top 35)) (defScope (top 35)) [] [] f fd ∧ mg "holds" = some (.ref f)
  d_is_more_general : ∃ f fd, FunD K "is_more_general" "is_more_general" (defArgs (top 37)) (defBody (top 37)) (defScope (top 37)) [] [] f fd ∧ mg "is_more_general" = some (.ref f)
  d_find_next_general : ∃ f fd, FunD K "find_next_general" "find_next_general" (defArgs (top 38)) (defBody (top 38)) (defScope (top 38)) [] [] f fd ∧ mg "find_next_general" = some (.ref f)
  d_more_general : ∃ f fd, FunD K "more_general" "more_general" (defArgs (top 39)) (defBody (top 39)) (defScope (top 39)) [] [] f fd ∧ mg "more_general" = some (.ref f)
  d_find_givens : ∃ f fd, FunD K "find_givens" "find_givens" (defArgs (top 41)) (defBody (top 41)) (defScope (top 41)) [] [] f fd ∧ mg "find_givens" = some (.ref f)
  d_find_candidates : ∃ f fd, FunD K "find_candidates" "find_candidates" (defArgs (top 42)) (defBody (top 42)) (defScope (top 42)) [] [] f fd ∧ mg "find_candidates" = some (.ref f)
  d_is_good : ∃ f fd, FunD K "is_good" "is_good" (defArgs (top 43)) (defBody (top 43)) (defScope (top 43)) [] [] f fd ∧ mg "is_good" = some (.ref f)
  d_find_found : ∃ f fd, FunD K "find_found" "find_found" (defArgs (top 44)) (defBody (top 44)) (defScope (top 44)) [] [] f fd ∧ mg "find_found" = some (.ref f)
  d_found_rules : ∃ f fd, FunD K "found_rules" "found_rules" (defArgs (top 45)) (defBody (top 45)) (defScope (top 45)) [] [] f fd ∧ mg "found_rules" = some (.ref f)
  d_l_law_spread : ∃ f fd, FunD K "_law_spread" "_law_spread" (defArgs (top 47)) (defBody (top 47)) (defScope (top 47)) [] [] f fd ∧ mg "_law_spread" = some (.ref f)
  d_l_law_open : ∃ f fd, FunD K "_law_open" "_law_open" (defArgs (top 48)) (defBody (top 48)) (defScope (top 48)) [] [] f fd ∧ mg "_law_open" = some (.ref f)
  d_l_law_take : ∃ f fd, FunD K "_law_take" "_law_take" (defArgs (top 49)) (defBody (top 49)) (defScope (top 49)) [] [] f fd ∧ mg "_law_take" = some (.ref f)
  d_l_law_anew : ∃ f fd, FunD K "_law_anew" "_law_anew" (defArgs (top 50)) (defBody (top 50)) (defScope (top 50)) [] [] f fd ∧ mg "_law_anew" = some (.ref f)
  d_l_law_one : ∃ f fd, FunD K "_law_one" "_law_one" (defArgs (top 51)) (defBody (top 51)) (defScope (top 51)) [] [] f fd ∧ mg "_law_one" = some (.ref f)
  d_l_law_columns : ∃ f fd, FunD K "_law_columns" "_law_columns" (defArgs (top 52)) (defBody (top 52)) (defScope (top 52)) [] [] f fd ∧ mg "_law_columns" = some (.ref f)
  d_l_law_value : ∃ f fd, FunD K "_law_value" "_law_value" (defArgs (top 53)) (defBody (top 53)) (defScope (top 53)) [] [] f fd ∧ mg "_law_value" = some (.ref f)
  d_l_law_row : ∃ f fd, FunD K "_law_row" "_law_row" (defArgs (top 54)) (defBody (top 54)) (defScope (top 54)) [] [] f fd ∧ mg "_law_row" = some (.ref f)
  d_l_law_table : ∃ f fd, FunD K "_law_table" "_law_table" (defArgs (top 55)) (defBody (top 55)) (defScope (top 55)) [] [] f fd ∧ mg "_law_table" = some (.ref f)
  d_l_law_taken : ∃ f fd, FunD K "_law_taken" "_law_taken" (defArgs (top 56)) (defBody (top 56)) (defScope (top 56)) [] [] f fd ∧ mg "_law_taken" = some (.ref f)
  d_l_law_many : ∃ f fd, FunD K "_law_many" "_law_many" (defArgs (top 57)) (defBody (top 57)) (defScope (top 57)) [] [] f fd ∧ mg "_law_many" = some (.ref f)
  d_l_law_drawn : ∃ f fd, FunD K "_law_drawn" "_law_drawn" (defArgs (top 58)) (defBody (top 58)) (defScope (top 58)) [] [] f fd ∧ mg "_law_drawn" = some (.ref f)
  d_l_law_right : ∃ f fd, FunD K "_law_right" "_law_right" (defArgs (top 59)) (defBody (top 59)) (defScope (top 59)) [] [] f fd ∧ mg "_law_right" = some (.ref f)
  d_law : ∃ f fd, FunD K "law" "law" (defArgs (top 60)) (defBody (top 60)) (defScope (top 60)) [] [] f fd ∧ mg "law" = some (.ref f)
variable {P : Program} {w : World} {K : PySem.W.Frag} {mg : Str → Option Value} {base : Heap}
theorem zph : FnScope (["value"] : List Str) (["value"] : List Str) (defScope (top 9)) := ⟨rfl, rfl, rfl, by decide +kernel, rfl, by decide +kernel, by decide +kernel⟩
theorem zkp (T : Txt K mg) : Def P w K mg base 1 "is_integer" 1 zgs := zcq T.d_is_integer zph (fun _ _ _ _ _ _ us hl => match us, hl with | [_], _ => rfl) (fun f cdv A outer s H E hr hG =>
    (zah (zao (znb (zj9 (zaa (i := 0)) T.b_isinstance T.b_int (by decide +kernel)) (zi5 (de_not (zj9 (zaa (i := 0)) T.b_isinstance T.b_bool (by decide +kernel))))))))
theorem zpf : FnScope (["value", "least", "most"] : List Str) (["value", "least", "most"] : List Str) (defScope (top 10)) := ⟨rfl, rfl, rfl, by decide +kernel, rfl, by decide +kernel, by decide +kernel⟩
theorem zil (T : Txt K mg) : Def P w K mg base 2 "is_between" 3 zd6 := zcq T.d_is_between zpf (fun _ _ _ _ _ _ us hl => match us, hl with | [_, _, _], _ => rfl) (fun f cdv A outer s H E hr hG =>
    (zah (zao (znb (zai (zkp T) (hr.mono (by decide)) hG (takes_of rfl rfl rfl rfl) (za_ (zaa (i := 0)) zad) (hlen := (zab zak))) (zi5 (de_chain op_le op_le zmm zmm (zaa (i := 1)) (zaa (i := 0)) (zaa (i := 2))))))))
theorem sc_is_value : FnScope (["value"] : List Str) (["value"] : List Str) (defScope (top 14)) := ⟨rfl, rfl, rfl, by decide +kernel, rfl, by decide +kernel, by decide +kernel⟩
theorem zml (T : Txt K mg) : Def P w K mg base 2 "is_value" 1 zib := zcq T.d_is_value sc_is_value (fun _ _ _ _ _ _ us hl => match us, hl with | [_], _ => rfl) (fun f cdv A outer s H E hr hG =>
    (zah (zao (znb (zai (zkp T) (hr.mono (by decide)) hG (takes_of rfl rfl rfl rfl) (za_ (zaa (i := 0)) zad) (hlen := (zab zak))) (zi5 (ze7 op_ge dGe_ok (zaa (i := 0)) zag))))))
theorem sc_is_column : FnScope (["value", "one"] : List Str) (["value"] : List Str) (defScope (top 15)) := ⟨rfl, rfl, rfl, by decide +kernel, rfl, by decide +kernel, by decide +kernel⟩
theorem ok_is_column (T : Txt K mg) : Def P w K mg base 3 "is_column" 1 zid := zcq T.d_is_column sc_is_column (fun _ _ _ _ _ _ us hl => match us, hl with | [_], _ => rfl) (fun f cdv A outer s H E hr hG =>
    (zaf (zcy (zbo op_isN zio (zaa (i := 0)) zec) (zah (zao zgy)) za2)
    (zaf (zcy (zl5 (zd_ (zem (zj9 (zaa (i := 0)) T.b_isinstance T.b_tuple (by decide +kernel)))) (zji (zd_ (dt_chain op_le op_le zmm zmm zag (zam call_len zb2 T.b_len (by decide +kernel) (za_ (zaa (i := 0)) zad)) zag)))).dt (zah (zao zgy)) za2)
    (zaf (zcy (zd_ (zem (zam (cr_all rfl) zht T.b_all (by decide +kernel) (za_ (zex (own := [("one", 1)]) rfl sc_is_column.nd (zbp (zaa (i := 0))) (blkOk_by (N := ["value", "one"]) (sc := defScope (top 15)) (by decide +kernel)) (fun _ _ _ _ _ => (zaj (i := 1) sc_is_column.nd)) (fun _ _ _ _ _ => zbq) (fun _ _ _ _ _ => (zai (zml T) (hr.mono (by decide)) hG takes0 (za_ (zaa (i := 1)) zad) (hlen := (zab zak))))).de zad)))) (zah (zao zgy)) za2)
    (zah (zao (ze7 (zf_ (ru64 hr)) zh8 (zbu call_list_of dList_ok T.b_list (by decide +kernel) (za_ (zaa (i := 0)) zad)) (zh5 rfl (zaa (i := 0)) T.b_sorted T.b_set).de)))))))
theorem zno : FnScope (["column", "value"] : List Str) (["column", "value"] : List Str) (defScope (top 16)) := ⟨rfl, rfl, rfl, by decide +kernel, rfl, by decide +kernel, by decide +kernel⟩
theorem zhz (T : Txt K mg) : Def P w K mg base 3 "is_value_of" 2 zea := zcq T.d_is_value_of zno (fun _ _ _ _ _ _ us hl => match us, hl with | [_, _], _ => rfl) (fun f cdv A outer s H E hr hG =>
    (zah (zao (znb (zai (zml T) (hr.mono (by decide)) hG (takes_of rfl rfl rfl rfl) (za_ (zaa (i := 1)) zad) (hlen := (zab zak))) (zi5 (de_or (ze7 op_isN zio (zaa (i := 0)) zec) (zi5 (ze7 (zju (ru65 hr)) zme (zaa (i := 1)) (zaa (i := 0))))))))))
theorem sc_is_columns : FnScope (["value", "column"] : List Str) (["value"] : List Str) (defScope (top 17)) := ⟨rfl, rfl, rfl, by decide +kernel, rfl, by decide +kernel, by decide +kernel⟩
theorem zo4 (T : Txt K mg) : Def P w K mg base 4 "is_columns" 1 zhk := zcq T.d_is_columns sc_is_columns (fun _ _ _ _ _ _ us hl => match us, hl with | [_], _ => rfl) (fun f cdv A outer s H E hr hG =>
    (zaf (zcy (zl5 (zd_ (zem (zj9 (zaa (i := 0)) T.b_isinstance T.b_tuple (by decide +kernel)))) (zji (zd_ (dt_chain op_le op_le zmm zmm zag (zam call_len zb2 T.b_len (by decide +kernel) (za_ (zaa (i := 0)) zad)) (DL.zk4 (by rfl) T.i_MOST_COLUMNS))))).dt (zah (zao zgy)) za2)
    (zaf (zcy (zd_ (zem (zam (cr_all rfl) zht T.b_all (by decide +kernel) (za_ (zex (own := [("column", 1)]) rfl sc_is_columns.nd (zbp (zaa (i := 0))) (blkOk_by (N := ["value", "column"]) (sc := defScope (top 17)) (by decide +kernel)) (fun _ _ _ _ _ => (zaj (i := 1) sc_is_columns.nd)) (fun _ _ _ _ _ => zbq) (fun _ _ _ _ _ => (zai (ok_is_column T) (hr.mono (by decide)) hG takes0 (za_ (zaa (i := 1)) zad) (hlen := (zab zak))))).de zad)))) (zah (zao zgy)) za2)
    (zah (zao (ze7 op_le zmm (zam call_len zb2 T.b_len (by decide +kernel) (za_ (zex (own := [("column", 1)]) rfl sc_is_columns.nd (zbp (zaa (i := 0))) (blkOk_by (N := ["value", "column"]) (sc := defScope (top 17)) (by decide +kernel)) (fun _ _ _ _ _ => (zaj (i := 1) sc_is_columns.nd)) (fun _ _ _ _ _ => (zhu (zbo op_notN zmc (zaa (i := 1)) zec))) (fun _ _ _ _ _ => (zaa (i := 1)))).de zad)) zag))))))
theorem sc_is_row_of : FnScope (["columns", "value", "column", "one"] : List Str) (["columns", "value"] : List Str) (defScope (top 18)) := ⟨rfl, rfl, rfl, by decide +kernel, rfl, by decide +kernel, by decide +kernel⟩
theorem zlc (T : Txt K mg) : Def P w K mg base 4 "is_row_of" 2 zhe := zcq T.d_is_row_of sc_is_row_of (fun _ _ _ _ _ _ us hl => match us, hl with | [_, _], _ => rfl) (fun f cdv A outer s H E hr hG =>
    (zaf (zcy (zl5 (zd_ (zem (zj9 (zaa (i := 1)) T.b_isinstance T.b_tuple (by decide +kernel)))) (zji (zbo (zhs (ru64 hr)) zjm (zam call_len zb2 T.b_len (by decide +kernel) (za_ (zaa (i := 1)) zad)) (zam call_len zb2 T.b_len (by decide +kernel) (za_ (zaa (i := 0)) zad))))).dt (zah (zao zgy)) za2)
    (zah (zao (zam (cr_all rfl) zht T.b_all (by decide +kernel) (za_ (zex (own := [("column", 2), ("one", 3)]) rfl sc_is_row_of.nd (di_zip (zaa (i := 0)) (zaa (i := 1)) T.b_zip) (blkOk_by (N := ["columns", "value", "column", "one"]) (sc := defScope (top 18)) (by decide +kernel)) (fun _ _ _ _ _ => (zj0 rfl (zby (zaj (i := 2) sc_is_row_of.nd) (zby (zaj (i := 3) sc_is_row_of.nd) zik)) (zbk (zbk zg2)))) (fun _ _ _ _ _ => zbq) (fun _ _ _ _ _ => (zai (zhz T) (hr.mono (by decide)) hG takes0 (za_ (zaa (i := 2)) (za_ (zaa (i := 3)) zad)) (hlen := (zab (zab zak)))))).de zad))))))
theorem sc_is_table_of : FnScope (["columns", "value", "row"] : List Str) (["columns", "value"] : List Str) (defScope (top 19)) := ⟨rfl, rfl, rfl, by decide +kernel, rfl, by decide +kernel, by decide +kernel⟩
theorem znu (T : Txt K mg) : Def P w K mg base 5 "is_table_of" 2 zg6 := zcq T.d_is_table_of sc_is_table_of (fun _ _ _ _ _ _ us hl => match us, hl with | [_, _], _ => rfl) (fun f cdv A outer s H E hr hG =>
    (zaf (zcy (zl5 (zd_ (zem (zj9 (zaa (i := 1)) T.b_isinstance T.b_tuple (by decide +kernel)))) (zji (zbo op_gt dGt_ok (zam call_len zb2 T.b_len (by decide +kernel) (za_ (zaa (i := 1)) zad)) (DL.zk4 (by rfl) T.i_MOST_ROWS)))).dt (zah (zao zgy)) za2)
    (zah (zao (zam (cr_all rfl) zht T.b_all (by decide +kernel) (za_ (zex (own := [("row", 2)]) rfl sc_is_table_of.nd (zbp (zaa (i := 1))) (blkOk_by (N := ["columns", "value", "row"]) (sc := defScope (top 19)) (by decide +kernel)) (fun _ _ _ _ _ => (zaj (i := 2) sc_is_table_of.nd)) (fun _ _ _ _ _ => zbq) (fun _ _ _ _ _ => (zai (zlc T) (hr.mono (by decide)) hG takes0 (za_ (zaa (i := 0)) (za_ (zaa (i := 2)) zad)) (hlen := (zab (zab zak)))))).de zad))))))
theorem zkd : FnScope (["value"] : List Str) (["value"] : List Str) (defScope (top 20)) := ⟨rfl, rfl, rfl, by decide +kernel, rfl, by decide +kernel, by decide +kernel⟩
theorem zcp (T : Txt K mg) : Def P w K mg base 5 "require_columns" 1 za9 := zcq T.d_require_columns zkd (fun _ _ _ _ _ _ us hl => match us, hl with | [_], _ => rfl) (fun f cdv A outer s H E hr hG =>
    (zah (zcy (zd_ (zem (zai (zo4 T) (hr.mono (by decide)) hG (takes_of rfl rfl rfl rfl) (za_ (zaa (i := 0)) zad) (hlen := (zab zak))))) (zah (zj_ rfl (takes_of rfl rfl rfl rfl) T.e_InvalidColumns)) za2)))
theorem znm : FnScope (["columns", "value"] : List Str) (["columns", "value"] : List Str) (defScope (top 21)) := ⟨rfl, rfl, rfl, by decide +kernel, rfl, by decide +kernel, by decide +kernel⟩
theorem znr (T : Txt K mg) : Def P w K mg base 5 "require_row" 2 zg4 := zcq T.d_require_row znm (fun _ _ _ _ _ _ us hl => match us, hl with | [_, _], _ => rfl) (fun f cdv A outer s H E hr hG =>
    (zah (zcy (zd_ (zem (zai (zlc T) (hr.mono (by decide)) hG (takes_of rfl rfl rfl rfl) (za_ (zaa (i := 0)) (za_ (zaa (i := 1)) zad)) (hlen := (zab (zab zak)))))) (zah (zj_ rfl (takes_of rfl rfl rfl rfl) T.e_InvalidRow)) za2)))
theorem zl4 : FnScope (["columns", "value"] : List Str) (["columns", "value"] : List Str) (defScope (top 22)) := ⟨rfl, rfl, rfl, by decide +kernel, rfl, by decide +kernel, by decide +kernel⟩
theorem ziu (T : Txt K mg) : Def P w K mg base 6 "require_table" 2 zcx := zcq T.d_require_table zl4 (fun _ _ _ _ _ _ us hl => match us, hl with | [_, _], _ => rfl) (fun f cdv A outer s H E hr hG =>
    (zah (zcy (zd_ (zem (zai (znu T) (hr.mono (by decide)) hG (takes_of rfl rfl rfl rfl) (za_ (zaa (i := 0)) (za_ (zaa (i := 1)) zad)) (hlen := (zab (zab zak)))))) (zah (zj_ rfl (takes_of rfl rfl rfl rfl) T.e_InvalidTable)) za2)))
theorem sc_is_entry : FnScope (["columns", "value"] : List Str) (["columns", "value"] : List Str) (defScope (top 24)) := ⟨rfl, rfl, rfl, by decide +kernel, rfl, by decide +kernel, by decide +kernel⟩
theorem ok_is_entry (T : Txt K mg) : Def P w K mg base 4 "is_entry" 2 zi9 := zcq T.d_is_entry sc_is_entry (fun _ _ _ _ _ _ us hl => match us, hl with | [_, _], _ => rfl) (fun f cdv A outer s H E hr hG =>
    (zaf (zcy (zl5 (zd_ (zem (zj9 (zaa (i := 1)) T.b_isinstance T.b_tuple (by decide +kernel)))) (zl5 (zbo (zhs (ru64 hr)) zjm (zam call_len zb2 T.b_len (by decide +kernel) (za_ (zaa (i := 1)) zad)) zag) (zji (zd_ (zem (zai (zil T) (hr.mono (by decide)) hG (takes_of rfl rfl rfl rfl) (za_ (zbx (zaa (i := 1)) zag) (za_ zag (za_ (za8 op_sub dSub_ok (zam call_len zb2 T.b_len (by decide +kernel) (za_ (zaa (i := 0)) zad)) zag) zad))) (hlen := (zab (zab (zab zak)))))))))).dt (zah (zao zgy)) za2)
    (zah (zao (de_or (ze7 op_isN zio (zbx (zaa (i := 1)) zag) zec) (zi5 (zai (zhz T) (hr.mono (by decide)) hG (takes_of rfl rfl rfl rfl) (za_ (zbx (zaa (i := 0)) (zbx (zaa (i := 1)) zag)) (za_ (zbx (zaa (i := 1)) zag) zad)) (hlen := (zab (zab zak))))))))))
theorem sc_is_given : FnScope (["columns", "value", "numbers", "entry"] : List Str) (["columns", "value"] : List Str) (defScope (top 25)) := ⟨rfl, rfl, rfl, by decide +kernel, rfl, by decide +kernel, by decide +kernel⟩
theorem ok_is_given (T : Txt K mg) : Def P w K mg base 5 "is_given" 2 zjb := zcq T.d_is_given sc_is_given (fun _ _ _ _ _ _ us hl => match us, hl with | [_, _], _ => rfl) (fun f cdv A outer s H E hr hG =>
    (zaf (zcy (zl5 (zd_ (zem (zj9 (zaa (i := 1)) T.b_isinstance T.b_tuple (by decide +kernel)))) (zji (zd_ (zem (zam (cr_all rfl) zht T.b_all (by decide +kernel) (za_ (zex (own := [("entry", 3)]) rfl sc_is_given.nd (zbp (zaa (i := 1))) (blkOk_by (N := ["columns", "value", "numbers", "entry"]) (sc := defScope (top 25)) (by decide +kernel)) (fun _ _ _ _ _ => (zaj (i := 3) sc_is_given.nd)) (fun _ _ _ _ _ => zbq) (fun _ _ _ _ _ => (zai (ok_is_entry T) (hr.mono (by decide)) hG takes0 (za_ (zaa (i := 0)) (za_ (zaa (i := 3)) zad)) (hlen := (zab (zab zak)))))).de zad)))))).dt (zah (zao zgy)) za2)
    (zaf (zja (i := 2) (own := [("entry", 3)]) rfl sc_is_given.nd (zbp (zaa (i := 1))) (blkOk_by (N := ["columns", "value", "numbers", "entry"]) (sc := defScope (top 25)) (by decide +kernel)) (fun _ _ _ _ _ => (zaj (i := 3) sc_is_given.nd)) (fun _ _ _ _ _ => zbq) (fun _ _ _ _ _ => (zbx (zaa (i := 3)) zag)))
    (zah (zao (ze7 (zf_ (ru64 hr)) zh8 (zaa (i := 2)) (zh5 rfl (zaa (i := 2)) T.b_sorted T.b_set).de))))))
theorem sc_is_rule_of : FnScope (["columns", "value", "given", "column", "want", "entry"] : List Str) (["columns", "value"] : List Str) (defScope (top 26)) := ⟨rfl, rfl, rfl, by decide +kernel, rfl, by decide +kernel, by decide +kernel⟩
theorem zij (T : Txt K mg) : Def P w K mg base 6 "is_rule_of" 2 zeo := zcq T.d_is_rule_of sc_is_rule_of (fun _ _ _ _ _ _ us hl => match us, hl with | [_, _], _ => rfl) (fun f cdv A outer s H E hr hG =>
    (zaf (zcy (zl5 (zd_ (zem (zj9 (zaa (i := 1)) T.b_isinstance T.b_tuple (by decide +kernel)))) (zl5 (zbo (zhs (ru64 hr)) zjm (zam call_len zb2 T.b_len (by decide +kernel) (za_ (zaa (i := 1)) zad)) zag) (zji (zd_ (zem (zai (ok_is_given T) (hr.mono (by decide)) hG (takes_of rfl rfl rfl rfl) (za_ (zaa (i := 0)) (za_ (zbx (zaa (i := 1)) zag) zad)) (hlen := (zab (zab zak))))))))).dt (zah (zao zgy)) za2)
    (zaf (ds_tg (zaa (i := 1)) (zj0 rfl (zby (zaj (i := 2) sc_is_rule_of.nd) (zby (zaj (i := 3) sc_is_rule_of.nd) (zby (zaj (i := 4) sc_is_rule_of.nd) zik))) (zbk (zbk (zbk zg2)))))
    (zaf (zcy (zl5 (zd_ (zem (zai (zil T) (hr.mono (by decide)) hG (takes_of rfl rfl rfl rfl) (za_ (zaa (i := 3)) (za_ zag (za_ (za8 op_sub dSub_ok (zam call_len zb2 T.b_len (by decide +kernel) (za_ (zaa (i := 0)) zad)) zag) zad))) (hlen := (zab (zab (zab zak))))))) (zji (zbo (zju (ru65 hr)) zme (zaa (i := 3)) (zex (own := [("entry", 5)]) rfl sc_is_rule_of.nd (zbp (zaa (i := 2))) (blkOk_by (N := ["columns", "value", "given", "column", "want", "entry"]) (sc := defScope (top 26)) (by decide +kernel)) (fun _ _ _ _ _ => (zaj (i := 5) sc_is_rule_of.nd)) (fun _ _ _ _ _ => zbq) (fun _ _ _ _ _ => (zbx (zaa (i := 5)) zag))).de))).dt (zah (zao zgy)) za2)
    (zaf (zcy (zbo op_isN zio (zaa (i := 4)) zec) (zah (zao zgy)) za2)
    (zah (zao (znb (zai (zhz T) (hr.mono (by decide)) hG (takes_of rfl rfl rfl rfl) (za_ (zbx (zaa (i := 0)) (zaa (i := 3))) (za_ (zaa (i := 4)) zad)) (hlen := (zab (zab zak)))) (zi5 (zam (cr_all rfl) zht T.b_all (by decide +kernel) (za_ (zex (own := [("entry", 5)]) rfl sc_is_rule_of.nd (zbp (zaa (i := 2))) (blkOk_by (N := ["columns", "value", "given", "column", "want", "entry"]) (sc := defScope (top 26)) (by decide +kernel)) (fun _ _ _ _ _ => (zaj (i := 5) sc_is_rule_of.nd)) (fun _ _ _ _ _ => zbq) (fun _ _ _ _ _ => (ze7 op_notN zmc (zbx (zaa (i := 5)) zag) zec))).de zad)))))))))))
theorem sc_does_match : FnScope (["given", "row", "column", "value"] : List Str) (["given", "row"] : List Str) (defScope (top 27)) := ⟨rfl, rfl, rfl, by decide +kernel, rfl, by decide +kernel, by decide +kernel⟩
theorem zif (T : Txt K mg) : Def P w K mg base 1 "does_match" 2 zep := zcq T.d_does_match sc_does_match (fun _ _ _ _ _ _ us hl => match us, hl with | [_, _], _ => rfl) (fun f cdv A outer s H E hr hG =>
    (zah (zao (zam (cr_all rfl) zht T.b_all (by decide +kernel) (za_ (zex (own := [("column", 2), ("value", 3)]) rfl sc_does_match.nd (zbp (zaa (i := 0))) (blkOk_by (N := ["given", "row", "column", "value"]) (sc := defScope (top 27)) (by decide +kernel)) (fun _ _ _ _ _ => (zj0 rfl (zby (zaj (i := 2) sc_does_match.nd) (zby (zaj (i := 3) sc_does_match.nd) zik)) (zbk (zbk zg2)))) (fun _ _ _ _ _ => zbq) (fun _ _ _ _ _ => (de_or (ze7 op_isN zio (zaa (i := 3)) zec) (zi5 (ze7 (zf_ (ru64 hr)) zh8 (zbx (zaa (i := 1)) (zaa (i := 2))) (zaa (i := 3))))))).de zad)))))
theorem sc_are_equal : FnScope (["given", "row", "other", "entry"] : List Str) (["given", "row", "other"] : List Str) (defScope (top 28)) := ⟨rfl, rfl, rfl, by decide +kernel, rfl, by decide +kernel, by decide +kernel⟩
theorem ok_are_equal (T : Txt K mg) : Def P w K mg base 1 "are_equal" 3 zig := zcq T.d_are_equal sc_are_equal (fun _ _ _ _ _ _ us hl => match us, hl with | [_, _, _], _ => rfl) (fun f cdv A outer s H E hr hG =>
    (zah (zao (zam (cr_all rfl) zht T.b_all (by decide +kernel) (za_ (zex (own := [("entry", 3)]) rfl sc_are_equal.nd (zbp (zaa (i := 0))) (blkOk_by (N := ["given", "row", "other", "entry"]) (sc := defScope (top 28)) (by decide +kernel)) (fun _ _ _ _ _ => (zaj (i := 3) sc_are_equal.nd)) (fun _ _ _ _ _ => zbq) (fun _ _ _ _ _ => (ze7 (zf_ (ru64 hr)) zh8 (zbx (zaa (i := 1)) (zbx (zaa (i := 3)) zag)) (zbx (zaa (i := 2)) (zbx (zaa (i := 3)) zag))))).de zad)))))
theorem zmq : FnScope (["columns", "value"] : List Str) (["columns", "value"] : List Str) (defScope (top 29)) := ⟨rfl, rfl, rfl, by decide +kernel, rfl, by decide +kernel, by decide +kernel⟩
theorem zhb (T : Txt K mg) : Def P w K mg base 7 "require_rule" 2 zdy := zcq T.d_require_rule zmq (fun _ _ _ _ _ _ us hl => match us, hl with | [_, _], _ => rfl) (fun f cdv A outer s H E hr hG =>
    (zah (zcy (zd_ (zem (zai (zij T) (hr.mono (by decide)) hG (takes_of rfl rfl rfl rfl) (za_ (zaa (i := 0)) (za_ (zaa (i := 1)) zad)) (hlen := (zab (zab zak)))))) (zah (zj_ rfl (takes_of rfl rfl rfl rfl) T.e_InvalidRule)) za2)))
theorem sc_is_rule : FnScope (["columns", "value"] : List Str) (["columns", "value"] : List Str) (defScope (top 30)) := ⟨rfl, rfl, rfl, by decide +kernel, rfl, by decide +kernel, by decide +kernel⟩
theorem ok_is_rule (T : Txt K mg) : Def P w K mg base 7 "is_rule" 2 zj4 := zcq T.d_is_rule sc_is_rule (fun _ _ _ _ _ _ us hl => match us, hl with | [_, _], _ => rfl) (fun f cdv A outer s H E hr hG =>
    (zaf (zhc (zai (zcp T) (hr.mono (by decide)) hG (takes_of rfl rfl rfl rfl) (za_ (zaa (i := 0)) zad) (hlen := (zab zak))))
    (zah (zao (zai (zij T) (hr.mono (by decide)) hG (takes_of rfl rfl rfl rfl) (za_ (zaa (i := 0)) (za_ (zaa (i := 1)) zad)) (hlen := (zab (zab zak))))))))
theorem sc_matches : FnScope (["columns", "rule", "row"] : List Str) (["columns", "rule", "row"] : List Str) (defScope (top 31)) := ⟨rfl, rfl, rfl, by decide +kernel, rfl, by decide +kernel, by decide +kernel⟩
theorem ok_matches (T : Txt K mg) : Def P w K mg base 8 "matches" 3 zkk := zcq T.d_matches sc_matches (fun _ _ _ _ _ _ us hl => match us, hl with | [_, _, _], _ => rfl) (fun f cdv A outer s H E hr hG =>
    (zaf (zhc (zai (zcp T) (hr.mono (by decide)) hG (takes_of rfl rfl rfl rfl) (za_ (zaa (i := 0)) zad) (hlen := (zab zak))))
    (zaf (zhc (zai (zhb T) (hr.mono (by decide)) hG (takes_of rfl rfl rfl rfl) (za_ (zaa (i := 0)) (za_ (zaa (i := 1)) zad)) (hlen := (zab (zab zak)))))
    (zaf (zhc (zai (znr T) (hr.mono (by decide)) hG (takes_of rfl rfl rfl rfl) (za_ (zaa (i := 0)) (za_ (zaa (i := 2)) zad)) (hlen := (zab (zab zak)))))
    (zah (zao (zai (zif T) (hr.mono (by decide)) hG (takes_of rfl rfl rfl rfl) (za_ (zbx (zaa (i := 1)) zag) (za_ (zaa (i := 2)) zad)) (hlen := (zab (zab zak))))))))))
theorem sc_find_rule_breaks : FnScope (["rule", "table", "rows", "found", "i", "given", "column", "want", "j"] : List Str) (["rule", "table"] : List Str) (defScope (top 33)) := ⟨rfl, rfl, rfl, by decide +kernel, rfl, by decide +kernel, by decide +kernel⟩
theorem zjs (T : Txt K mg) : Def P w K mg base 2 "find_rule_breaks" 2 zd2 := zcq T.d_find_rule_breaks sc_find_rule_breaks (fun _ _ _ _ _ _ us hl => match us, hl with | [_, _], _ => rfl) (fun f cdv A outer s H E hr hG =>
    (zaf (ds_tg (zaa (i := 0)) (zj0 rfl (zby (zaj (i := 5) sc_find_rule_breaks.nd) (zby (zaj (i := 6) sc_find_rule_breaks.nd) (zby (zaj (i := 7) sc_find_rule_breaks.nd) zik))) (zbk (zbk (zbk zg2)))))
    (zaf (zja (i := 2) (own := [("i", 4)]) rfl sc_find_rule_breaks.nd (zei (za_ (zam call_len zb2 T.b_len (by decide +kernel) (za_ (zaa (i := 1)) zad)) zad) T.b_range) (blkOk_by (N := ["rule", "table", "rows", "found", "i", "given", "column", "want", "j"]) (sc := defScope (top 33)) (by decide +kernel)) (fun _ _ _ _ _ => (zaj (i := 4) sc_find_rule_breaks.nd)) (fun _ _ _ _ _ => (zhu (zem (zai (zif T) (hr.mono (by decide)) hG takes0 (za_ (zaa (i := 5)) (za_ (zbx (zaa (i := 1)) (zaa (i := 4))) zad)) (hlen := (zab (zab zak))))))) (fun _ _ _ _ _ => (zaa (i := 4))))
    (zaf (zcy (zbo op_notN zmc (zaa (i := 7)) zec) (zah (zao (zex (own := [("i", 4)]) rfl sc_find_rule_breaks.nd (zbp (zaa (i := 2))) (blkOk_by (N := ["rule", "table", "rows", "found", "i", "given", "column", "want", "j"]) (sc := defScope (top 33)) (by decide +kernel)) (fun _ _ _ _ _ => (zaj (i := 4) sc_find_rule_breaks.nd)) (fun _ _ _ _ _ => (zhu (zbo (zhs (ru64 hr)) zjm (zbx (zbx (zaa (i := 1)) (zaa (i := 4))) (zaa (i := 6))) (zaa (i := 7))))) (fun _ _ _ _ _ => (zdx (za_ (zaa (i := 4)) zad)))).de)) za2)
    (zaf (ds_new (i := 3) (ne_lst zad) sc_find_rule_breaks.nd (hf := .inr rfl))
    (zaf (zh1 (passes_of rfl) rfl (zbp (zaa (i := 2))) (zaj (i := 4) sc_find_rule_breaks.nd) (zah (zh1 (passes_of rfl) rfl (zbp (zaa (i := 2))) (zaj (i := 8) sc_find_rule_breaks.nd) (zah (zcy (znz (zbo op_lt zn2 (zaa (i := 4)) (zaa (i := 8))) (znz (zem (zai (ok_are_equal T) (hr.mono (by decide)) hG (takes_of rfl rfl rfl rfl) (za_ (zaa (i := 5)) (za_ (zbx (zaa (i := 1)) (zaa (i := 4))) (za_ (zbx (zaa (i := 1)) (zaa (i := 8))) zad))) (hlen := (zab (zab (zab zak)))))) (zmj (zbo (zhs (ru64 hr)) zjm (zbx (zbx (zaa (i := 1)) (zaa (i := 4))) (zaa (i := 6))) (zbx (zbx (zaa (i := 1)) (zaa (i := 8))) (zaa (i := 6))))))).dt (zah (ds_append (zaa (i := 3)) (zdx (za_ (zaa (i := 4)) (za_ (zaa (i := 8)) zad))))) za2)))))
    (zoy (i := 3) (zah (zao (zaa (i := 3)))))))))))
theorem sc_does_hold : FnScope (["rule", "table"] : List Str) (["rule", "table"] : List Str) (defScope (top 34)) := ⟨rfl, rfl, rfl, by decide +kernel, rfl, by decide +kernel, by decide +kernel⟩
theorem zlw (T : Txt K mg) : Def P w K mg base 3 "does_hold" 2 zhf := zcq T.d_does_hold sc_does_hold (fun _ _ _ _ _ _ us hl => match us, hl with | [_, _], _ => rfl) (fun f cdv A outer s H E hr hG =>
    (zah (zao (ze7 (zf_ (ru64 hr)) zh8 (zai (zjs T) (hr.mono (by decide)) hG (takes_of rfl rfl rfl rfl) (za_ (zaa (i := 0)) (za_ (zaa (i := 1)) zad)) (hlen := (zab (zab zak)))) (zkc zad)))))
theorem sc_holds : FnScope (["columns", "rule", "table"] : List Str) (["columns", "rule", "table"] : List Str) (defScope (top 35)) := ⟨rfl, rfl, rfl, by decide +kernel, rfl, by decide +kernel, by decide +kernel⟩
theorem ok_holds (T : Txt K mg) : Def P w K mg base 8 "holds" 3 zmy := zcq T.d_holds sc_holds (fun _ _ _ _ _ _ us hl => match us, hl with | [_, _, _], _ => rfl) (fun f cdv A outer s H E hr hG =>
    (zaf (zhc (zai (zcp T) (hr.mono (by decide)) hG (takes_of rfl rfl rfl rfl) (za_ (zaa (i := 0)) zad) (hlen := (zab zak))))
    (zaf (zhc (zai (zhb T) (hr.mono (by decide)) hG (takes_of rfl rfl rfl rfl) (za_ (zaa (i := 0)) (za_ (zaa (i := 1)) zad)) (hlen := (zab (zab zak)))))
    (zaf (zhc (zai (ziu T) (hr.mono (by decide)) hG (takes_of rfl rfl rfl rfl) (za_ (zaa (i := 0)) (za_ (zaa (i := 2)) zad)) (hlen := (zab (zab zak)))))
    (zah (zao (zai (zlw T) (hr.mono (by decide)) hG (takes_of rfl rfl rfl rfl) (za_ (zaa (i := 1)) (za_ (zaa (i := 2)) zad)) (hlen := (zab (zab zak))))))))))
theorem sc_is_more_general : FnScope (["one", "other", "blanks", "entry", "column", "value"] : List Str) (["one", "other"] : List Str) (defScope (top 37)) := ⟨rfl, rfl, rfl, by decide +kernel, rfl, by decide +kernel, by decide +kernel⟩
theorem zk_ (T : Txt K mg) : Def P w K mg base 1 "is_more_general" 2 zd9 := zcq T.d_is_more_general sc_is_more_general (fun _ _ _ _ _ _ us hl => match us, hl with | [_, _], _ => rfl) (fun f cdv A outer s H E hr hG =>
    (zaf (zcy (zl5 (zbo (zhs (ru64 hr)) zjm (zi4 (zaa (i := 0)) (zir zag) zjw) (zi4 (zaa (i := 1)) (zir zag) zjw)) (zji (zbo (zf_ (ru64 hr)) zh8 (zbx (zaa (i := 0)) zag) (zbx (zaa (i := 1)) zag)))).dt (zah (zao zgy)) za2)
    (zaf (zbm (i := 2) (de_if (zbo op_isN zio (zbx (zaa (i := 0)) zag) zec) (zex (own := [("column", 4), ("value", 5)]) rfl sc_is_more_general.nd (zbp (zbx (zaa (i := 1)) zag)) (blkOk_by (N := ["one", "other", "blanks", "entry", "column", "value"]) (sc := defScope (top 37)) (by decide +kernel)) (fun _ _ _ _ _ => (zj0 rfl (zby (zaj (i := 4) sc_is_more_general.nd) (zby (zaj (i := 5) sc_is_more_general.nd) zik)) (zbk (zbk zg2)))) (fun _ _ _ _ _ => zbq) (fun _ _ _ _ _ => (zdx (za_ (zaa (i := 4)) (za_ zec zad))))).de (zkc zad)) sc_is_more_general.nd)
    (zah (zao (zam (cr_all rfl) zht T.b_all (by decide +kernel) (za_ (zex (own := [("entry", 3)]) rfl sc_is_more_general.nd (zbp (zbx (zaa (i := 0)) zag)) (blkOk_by (N := ["one", "other", "blanks", "entry", "column", "value"]) (sc := defScope (top 37)) (by decide +kernel)) (fun _ _ _ _ _ => (zaj (i := 3) sc_is_more_general.nd)) (fun _ _ _ _ _ => zbq) (fun _ _ _ _ _ => (de_or (ze7 (zju (ru65 hr)) zme (zaa (i := 3)) (zbx (zaa (i := 1)) zag)) (zi5 (ze7 (zju (ru65 hr)) zme (zaa (i := 3)) (zaa (i := 2))))))).de zad)))))))
theorem sc_find_next_general : FnScope (["rule", "found", "given", "column", "want", "k", "entry"] : List Str) (["rule"] : List Str) (defScope (top 38)) := ⟨rfl, rfl, rfl, by decide +kernel, rfl, by decide +kernel, by decide +kernel⟩
theorem zjc (T : Txt K mg) : Def P w K mg base 1 "find_next_general" 1 zdq := zcq T.d_find_next_general sc_find_next_general (fun _ _ _ _ _ _ us hl => match us, hl with | [_], _ => rfl) (fun f cdv A outer s H E hr hG =>
    (zaf (ds_tg (zaa (i := 0)) (zj0 rfl (zby (zaj (i := 2) sc_find_next_general.nd) (zby (zaj (i := 3) sc_find_next_general.nd) (zby (zaj (i := 4) sc_find_next_general.nd) zik))) (zbk (zbk (zbk zg2)))))
    (zaf (ds_newLc (i := 1) (own := [("k", 5)]) rfl sc_find_next_general.nd (zei (za_ (zam call_len zb2 T.b_len (by decide +kernel) (za_ (zaa (i := 2)) zad)) zad) T.b_range) (blkOk_by (N := ["rule", "found", "given", "column", "want", "k", "entry"]) (sc := defScope (top 38)) (by decide +kernel)) (fun _ _ _ _ _ => (zaj (i := 5) sc_find_next_general.nd)) (fun _ _ _ _ _ => zbq) (fun _ _ _ _ _ => (zdx (za_ (za8 za4 za3 (zi4 (zaa (i := 2)) zjw (zir (zaa (i := 5)))) (zi4 (zaa (i := 2)) (zir (za8 za4 za3 (zaa (i := 5)) zag)) zjw)) (za_ (zaa (i := 3)) (za_ (zaa (i := 4)) zad))))))
    (zaf (zcy (zbo op_isN zio (zaa (i := 4)) zec) (zah (zh1 (passes_of rfl) rfl (di_enum (zaa (i := 2)) T.b_enumerate) (zj0 rfl (zby (zaj (i := 5) sc_find_next_general.nd) (zby (zaj (i := 6) sc_find_next_general.nd) zik)) (zbk (zbk zg2))) (zah (zcy (zbo op_notN zmc (zbx (zaa (i := 6)) zag) zec) (zah (ds_append (zaa (i := 1)) (zdx (za_ (zdx (da_star (zi4 (zaa (i := 2)) zjw (zir (zaa (i := 5)))) (za_ (zdx (za_ (zbx (zaa (i := 6)) zag) (za_ zec zad))) (da_star (zi4 (zaa (i := 2)) (zir (za8 za4 za3 (zaa (i := 5)) zag)) zjw) zad)))) (za_ (zaa (i := 3)) (za_ (zaa (i := 4)) zad)))))) za2)))) za2)
    (zoy (i := 1) (zah (zao (zaa (i := 1)))))))))
theorem zmn : FnScope (["columns", "rule", "value"] : List Str) (["columns", "rule", "value"] : List Str) (defScope (top 39)) := ⟨rfl, rfl, rfl, by decide +kernel, rfl, by decide +kernel, by decide +kernel⟩
theorem zi0 (T : Txt K mg) : Def P w K mg base 8 "more_general" 3 zeg := zcq T.d_more_general zmn (fun _ _ _ _ _ _ us hl => match us, hl with | [_, _, _], _ => rfl) (fun f cdv A outer s H E hr hG =>
    (zaf (zhc (zai (zcp T) (hr.mono (by decide)) hG (takes_of rfl rfl rfl rfl) (za_ (zaa (i := 0)) zad) (hlen := (zab zak))))
    (zaf (zhc (zai (zhb T) (hr.mono (by decide)) hG (takes_of rfl rfl rfl rfl) (za_ (zaa (i := 0)) (za_ (zaa (i := 1)) zad)) (hlen := (zab (zab zak)))))
    (zaf (zcy (zd_ (zem (zai (zij T) (hr.mono (by decide)) hG (takes_of rfl rfl rfl rfl) (za_ (zaa (i := 0)) (za_ (zaa (i := 2)) zad)) (hlen := (zab (zab zak)))))) (zah (zj_ rfl (takes_of rfl rfl rfl rfl) T.e_InvalidValue)) za2)
    (zah (zao (zai (zk_ T) (hr.mono (by decide)) hG (takes_of rfl rfl rfl rfl) (za_ (zaa (i := 1)) (za_ (zaa (i := 2)) zad)) (hlen := (zab (zab zak))))))))))
theorem sc_find_givens : FnScope (["table", "numbers", "blanks", "found", "number", "values", "given", "value", "row"] : List Str) (["table", "numbers", "blanks"] : List Str) (defScope (top 41)) := ⟨rfl, rfl, rfl, by decide +kernel, rfl, by decide +kernel, by decide +kernel⟩
theorem zjj (T : Txt K mg) : Def P w K mg base 1 "find_givens" 3 ze6 := zcq T.d_find_givens sc_find_givens (fun _ _ _ _ _ _ us hl => match us, hl with | [_, _, _], _ => rfl) (fun f cdv A outer s H E hr hG =>
    (zaf (zbm (i := 3) (zkc (za_ (zdx zad) zad)) sc_find_givens.nd)
    (zaf (zh1 (passes_of rfl) rfl (zbp (zaa (i := 1))) (zaj (i := 4) sc_find_givens.nd) (zaf (zbm (i := 5) (za8 za4 za3 (zh5 rfl (zex (own := [("row", 8)]) rfl sc_find_givens.nd (zbp (zaa (i := 0))) (blkOk_by (N := ["table", "numbers", "blanks", "found", "number", "values", "given", "value", "row"]) (sc := defScope (top 41)) (by decide +kernel)) (fun _ _ _ _ _ => (zaj (i := 8) sc_find_givens.nd)) (fun _ _ _ _ _ => zbq) (fun _ _ _ _ _ => (zbx (zaa (i := 8)) (zaa (i := 4))))).de T.b_sorted T.b_set).de (za8 zhx zfd (zkc (za_ zec zad)) (zbu call_int1 zej T.b_int (by decide +kernel) (za_ (zaa (i := 2)) zad)))) sc_find_givens.nd)
    (zah (zbm (i := 3) (za8 za4 za3 (zaa (i := 3)) (ne_lc2 (own := [("given", 6), ("value", 7)]) (v1 := [7]) rfl sc_find_givens.nd (zbp (zaa (i := 3))) (blkOk_by (N := ["table", "numbers", "blanks", "found", "number", "values", "given", "value", "row"]) (sc := defScope (top 41)) (by decide +kernel)) (fun _ _ _ _ _ => (zaj (i := 6) sc_find_givens.nd)) (fun _ _ _ _ _ => zbq) (fun _ _ _ _ _ => (zbp (zaa (i := 5)))) (fun _ _ _ _ _ => (zaj (i := 7) sc_find_givens.nd)) (fun _ _ _ _ _ => zbq) (fun _ _ _ _ _ => (zdx (da_star (zaa (i := 6)) (za_ (zdx (za_ (zaa (i := 4)) (za_ (zaa (i := 7)) zad))) zad))))).de) sc_find_givens.nd))))
    (zah (zao (zaa (i := 3)))))))
theorem sc_find_candidates : FnScope (["columns", "table", "found", "column", "numbers", "want", "number", "given", "row"] : List Str) (["columns", "table"] : List Str) (defScope (top 42)) := ⟨rfl, rfl, rfl, by decide +kernel, rfl, by decide +kernel, by decide +kernel⟩
theorem zkg (T : Txt K mg) : Def P w K mg base 2 "find_candidates" 2 ze_ := zcq T.d_find_candidates sc_find_candidates (fun _ _ _ _ _ _ us hl => match us, hl with | [_, _], _ => rfl) (fun f cdv A outer s H E hr hG =>
    (zaf (ds_new (i := 2) (ne_lst zad) sc_find_candidates.nd (hf := .inr rfl))
    (zaf (zh1 (passes_of rfl) rfl (zei (za_ (zam call_len zb2 T.b_len (by decide +kernel) (za_ (zaa (i := 0)) zad)) zad) T.b_range) (zaj (i := 3) sc_find_candidates.nd) (zaf (zja (i := 4) (own := [("number", 6)]) rfl sc_find_candidates.nd (zei (za_ (zam call_len zb2 T.b_len (by decide +kernel) (za_ (zaa (i := 0)) zad)) zad) T.b_range) (blkOk_by (N := ["columns", "table", "found", "column", "numbers", "want", "number", "given", "row"]) (sc := defScope (top 42)) (by decide +kernel)) (fun _ _ _ _ _ => (zaj (i := 6) sc_find_candidates.nd)) (fun _ _ _ _ _ => (zhu (zbo (zhs (ru64 hr)) zjm (zaa (i := 6)) (zaa (i := 3))))) (fun _ _ _ _ _ => (zaa (i := 6))))
    (zaf (ds_extend (zaa (i := 2)) (zex (own := [("given", 7)]) rfl sc_find_candidates.nd (zbp (zai (zjj T) (hr.mono (by decide)) hG (takes_of rfl rfl rfl rfl) (za_ (zaa (i := 1)) (za_ (zaa (i := 4)) (za_ zgy zad))) (hlen := (zab (zab (zab zak)))))) (blkOk_by (N := ["columns", "table", "found", "column", "numbers", "want", "number", "given", "row"]) (sc := defScope (top 42)) (by decide +kernel)) (fun _ _ _ _ _ => (zaj (i := 7) sc_find_candidates.nd)) (fun _ _ _ _ _ => zbq) (fun _ _ _ _ _ => (zdx (za_ (zaa (i := 7)) (za_ (zaa (i := 3)) (za_ zec zad)))))).de)
    (zah (zh1 (passes_of rfl) rfl (zbp (zh5 rfl (zex (own := [("row", 8)]) rfl sc_find_candidates.nd (zbp (zaa (i := 1))) (blkOk_by (N := ["columns", "table", "found", "column", "numbers", "want", "number", "given", "row"]) (sc := defScope (top 42)) (by decide +kernel)) (fun _ _ _ _ _ => (zaj (i := 8) sc_find_candidates.nd)) (fun _ _ _ _ _ => zbq) (fun _ _ _ _ _ => (zbx (zaa (i := 8)) (zaa (i := 3))))).de T.b_sorted T.b_set).de) (zaj (i := 5) sc_find_candidates.nd) (zah (ds_extend (zaa (i := 2)) (zex (own := [("given", 7)]) rfl sc_find_candidates.nd (zbp (zai (zjj T) (hr.mono (by decide)) hG (takes_of rfl rfl rfl rfl) (za_ (zaa (i := 1)) (za_ (zaa (i := 4)) (za_ zgy zad))) (hlen := (zab (zab (zab zak)))))) (blkOk_by (N := ["columns", "table", "found", "column", "numbers", "want", "number", "given", "row"]) (sc := defScope (top 42)) (by decide +kernel)) (fun _ _ _ _ _ => (zaj (i := 7) sc_find_candidates.nd)) (fun _ _ _ _ _ => zbq) (fun _ _ _ _ _ => (zdx (za_ (zaa (i := 7)) (za_ (zaa (i := 3)) (za_ (zaa (i := 5)) zad)))))).de)))))))
    (zoy (i := 2) (zah (zao (zaa (i := 2))))))))
theorem sc_is_good : FnScope (["table", "number", "rule", "row"] : List Str) (["table", "number", "rule"] : List Str) (defScope (top 43)) := ⟨rfl, rfl, rfl, by decide +kernel, rfl, by decide +kernel, by decide +kernel⟩
theorem zo_ (T : Txt K mg) : Def P w K mg base 4 "is_good" 3 ziy := zcq T.d_is_good sc_is_good (fun _ _ _ _ _ _ us hl => match us, hl with | [_, _, _], _ => rfl) (fun f cdv A outer s H E hr hG =>
    (zah (zao (znb (ze7 op_ge dGe_ok (zam call_len zb2 T.b_len (by decide +kernel) (za_ (zex (own := [("row", 3)]) rfl sc_is_good.nd (zbp (zaa (i := 0))) (blkOk_by (N := ["table", "number", "rule", "row"]) (sc := defScope (top 43)) (by decide +kernel)) (fun _ _ _ _ _ => (zaj (i := 3) sc_is_good.nd)) (fun _ _ _ _ _ => (zhu (zem (zai (zif T) (hr.mono (by decide)) hG takes0 (za_ (zbx (zaa (i := 2)) zag) (za_ (zaa (i := 3)) zad)) (hlen := (zab (zab zak))))))) (fun _ _ _ _ _ => (zaa (i := 3)))).de zad)) (zaa (i := 1))) (zi5 (zai (zlw T) (hr.mono (by decide)) hG (takes_of rfl rfl rfl rfl) (za_ (zaa (i := 2)) (za_ (zaa (i := 0)) zad)) (hlen := (zab (zab zak)))))))))
theorem sc_find_found : FnScope (["columns", "table", "number", "good", "rule", "other"] : List Str) (["columns", "table", "number"] : List Str) (defScope (top 44)) := ⟨rfl, rfl, rfl, by decide +kernel, rfl, by decide +kernel, by decide +kernel⟩
theorem zoq (T : Txt K mg) : Def P w K mg base 5 "find_found" 3 zho := zcq T.d_find_found sc_find_found (fun _ _ _ _ _ _ us hl => match us, hl with | [_, _, _], _ => rfl) (fun f cdv A outer s H E hr hG =>
    (zaf (zja (i := 3) (own := [("rule", 4)]) rfl sc_find_found.nd (zbp (zai (zkg T) (hr.mono (by decide)) hG (takes_of rfl rfl rfl rfl) (za_ (zaa (i := 0)) (za_ (zaa (i := 1)) zad)) (hlen := (zab (zab zak))))) (blkOk_by (N := ["columns", "table", "number", "good", "rule", "other"]) (sc := defScope (top 44)) (by decide +kernel)) (fun _ _ _ _ _ => (zaj (i := 4) sc_find_found.nd)) (fun _ _ _ _ _ => (zhu (zem (zai (zo_ T) (hr.mono (by decide)) hG takes0 (za_ (zaa (i := 1)) (za_ (zaa (i := 2)) (za_ (zaa (i := 4)) zad))) (hlen := (zab (zab (zab zak)))))))) (fun _ _ _ _ _ => (zaa (i := 4))))
    (zah (zao (zex (own := [("rule", 4)]) rfl sc_find_found.nd (zbp (zaa (i := 3))) (blkOk_by (N := ["columns", "table", "number", "good", "rule", "other"]) (sc := defScope (top 44)) (by decide +kernel)) (fun _ _ _ _ _ => (zaj (i := 4) sc_find_found.nd)) (fun _ _ _ _ _ => (zhu (zd_ (zem (zam (cr_any rfl) dAny_ok T.b_any (by decide +kernel) (za_ (zex (own := [("other", 5)]) rfl sc_find_found.nd (zbp (zai (zjc T) (hr.mono (by decide)) hG takes0 (za_ (zaa (i := 4)) zad) (hlen := (zab zak)))) (blkOk_in (N := ["columns", "table", "number", "good", "rule", "other"]) (by decide +kernel)) (fun _ _ _ _ _ => (zaj (i := 5) sc_find_found.nd)) (fun _ _ _ _ _ => zbq) (fun _ _ _ _ _ => (zai (zo_ T) (hr.mono (by decide)) hG takes0 (za_ (zaa (i := 1)) (za_ (zaa (i := 2)) (za_ (zaa (i := 5)) zad))) (hlen := (zab (zab (zab zak))))))).de zad)))))) (fun _ _ _ _ _ => (zaa (i := 4)))).de))))
theorem znq : FnScope (["columns", "table", "number"] : List Str) (["columns", "table", "number"] : List Str) (defScope (top 45)) := ⟨rfl, rfl, rfl, by decide +kernel, rfl, by decide +kernel, by decide +kernel⟩
theorem zeh (T : Txt K mg) : Def P w K mg base 7 "found_rules" 3 zbn := zcq T.d_found_rules znq (fun _ _ _ _ _ _ us hl => match us, hl with | [_, _, _], _ => rfl) (fun f cdv A outer s H E hr hG =>
    (zaf (zhc (zai (zcp T) (hr.mono (by decide)) hG (takes_of rfl rfl rfl rfl) (za_ (zaa (i := 0)) zad) (hlen := (zab zak))))
    (zaf (zhc (zai (ziu T) (hr.mono (by decide)) hG (takes_of rfl rfl rfl rfl) (za_ (zaa (i := 0)) (za_ (zaa (i := 1)) zad)) (hlen := (zab (zab zak)))))
    (zaf (zcy (zd_ (zem (zai (zil T) (hr.mono (by decide)) hG (takes_of rfl rfl rfl rfl) (za_ (zaa (i := 2)) (za_ zag (za_ (DL.zk4 (by rfl) T.i_MOST_ROWS) zad))) (hlen := (zab (zab (zab zak))))))) (zah (zj_ rfl (takes_of rfl rfl rfl rfl) T.e_InvalidNumber)) za2)
    (zah (zao (zai (zoq T) (hr.mono (by decide)) hG (takes_of rfl rfl rfl rfl) (za_ (zaa (i := 0)) (za_ (zaa (i := 1)) (za_ (zaa (i := 2)) zad))) (hlen := (zab (zab (zab zak)))))))))))
theorem sc_l_law_spread : FnScope (["_law_cell", "_law_at", "_law_primes", "_law_mixed", "_law_one_here", "_law_rest", "_law_two", "_law_three"] : List Str) (["_law_cell", "_law_at"] : List Str) (defScope (top 47)) := ⟨rfl, rfl, rfl, by decide +kernel, rfl, by decide +kernel, by decide +kernel⟩
theorem znf (T : Txt K mg) : Def P w K mg base 1 "_law_spread" 2 zfb := zcq T.d_l_law_spread sc_l_law_spread (fun _ _ _ _ _ _ us hl => match us, hl with | [_, _], _ => rfl) (fun f cdv A outer s H E hr hG =>
    (zaf (zcy (zbo op_ge dGe_ok (zaa (i := 0)) (za8 op_pow zjy zag zag)) (zah (zao (zaa (i := 0)))) za2)
    (zaf (zbm (i := 2) (zkc (za_ zag (za_ zag (za_ zag (za_ zag (za_ zag (za_ zag (za_ zag zad)))))))) sc_l_law_spread.nd)
    (zaf (zbm (i := 2) (za8 za4 za3 (zaa (i := 2)) (zkc (za_ zag (za_ zag (za_ zag (za_ zag (za_ zag (za_ zag zad)))))))) sc_l_law_spread.nd)
    (zaf (zbm (i := 3) (za8 za4 za3 (za8 za4 za3 (za8 zhx zfd (za8 op_mod zer (zbu call_int1 zej T.b_int (by decide +kernel) (za_ (zaa (i := 0)) zad)) zag) (za8 za4 za3 (za8 zhx zfd zag (zaa (i := 1))) zag)) (za8 zhx zfd (zaa (i := 1)) zag)) zag) sc_l_law_spread.nd)
    (zaf (zbm (i := 4) (za8 op_mod zer (zbu call_int1 zej T.b_int (by decide +kernel) (za_ (za8 op_pow zjy (zaa (i := 3)) zag) zad)) (zbx (zaa (i := 2)) (za8 op_mod zer (zbu call_int1 zej T.b_int (by decide +kernel) (za_ (zaa (i := 1)) zad)) zag))) sc_l_law_spread.nd)
    (zaf (zbm (i := 5) (za8 za4 za3 (za8 op_mod zer (zbu call_int1 zej T.b_int (by decide +kernel) (za_ (zaa (i := 0)) zad)) zag) zag) sc_l_law_spread.nd)
    (zaf (zbm (i := 6) (za8 op_mod zer (zbu call_int1 zej T.b_int (by decide +kernel) (za_ (za8 op_pow zjy (za8 za4 za3 (za8 zhx zfd (zaa (i := 4)) (za8 za4 za3 (zaa (i := 1)) zag)) (zaa (i := 5))) zag) zad)) (zbx (zaa (i := 2)) (za8 op_mod zer (zbu call_int1 zej T.b_int (by decide +kernel) (za_ (za8 za4 za3 (zaa (i := 1)) zag) zad)) zag))) sc_l_law_spread.nd)
    (zaf (zbm (i := 7) (za8 op_mod zer (zbu call_int1 zej T.b_int (by decide +kernel) (za_ (za8 op_pow zjy (za8 za4 za3 (za8 za4 za3 (zaa (i := 6)) (za8 op_mod zer (zbu call_int1 zej T.b_int (by decide +kernel) (za_ (zaa (i := 4)) zad)) zag)) (zaa (i := 1))) zag) zad)) (zbx (zaa (i := 2)) (za8 op_mod zer (zbu call_int1 zej T.b_int (by decide +kernel) (za_ (za8 za4 za3 (zaa (i := 1)) zag) zad)) zag))) sc_l_law_spread.nd)
    (zah (zao (za8 za4 za3 (za8 zhx zfd (za8 za4 za3 (za8 zhx zfd (zaa (i := 4)) zag) (zaa (i := 6))) zag) (zaa (i := 7))))))))))))))
theorem sc_l_law_open : FnScope (["_law_script", "_law_cells", "_law_k", "_law_cell"] : List Str) (["_law_script"] : List Str) (defScope (top 48)) := ⟨rfl, rfl, rfl, by decide +kernel, rfl, by decide +kernel, by decide +kernel⟩
theorem zpj (T : Txt K mg) : Def P w K mg base 1 "_law_open" 1 zhi := zcq T.d_l_law_open sc_l_law_open (fun _ _ _ _ _ _ us hl => match us, hl with | [_], _ => rfl) (fun f cdv A outer s H E hr hG =>
    (zaf (ds_new (i := 1) (ne_list (p2 := ⟨0, 0, 0, 0⟩) (zi4 (zaa (i := 0)) zjw (zir zag)) T.b_list) sc_l_law_open.nd (hf := .inr rfl))
    (zaf (zh1 (passes_of rfl) rfl (di_enum (zi4 (zaa (i := 0)) (zir zag) (zir zag)) T.b_enumerate) (zj0 rfl (zby (zaj (i := 2) sc_l_law_open.nd) (zby (zaj (i := 3) sc_l_law_open.nd) zik)) (zbk (zbk zg2))) (zah (ds_put (zaa (i := 1)) (za8 op_mod zer (zbu call_int1 zej T.b_int (by decide +kernel) (za_ (zaa (i := 2)) zad)) zag) (za8 za4 za3 (zbx (zaa (i := 1)) (za8 op_mod zer (zbu call_int1 zej T.b_int (by decide +kernel) (za_ (zaa (i := 2)) zad)) zag)) (zaa (i := 3))))))
    (zoy (i := 1) (zah (ds_retN (ne_lst (za_ (zaa (i := 1)) (za_ zag (za_ zag zad))))))))))
theorem sc_l_law_take : FnScope (["_law_pen", "_law_many_here", "_law_found", "_law_at", "_law_cell"] : List Str) (["_law_pen", "_law_many_here"] : List Str) (defScope (top 49)) := ⟨rfl, rfl, rfl, by decide +kernel, rfl, by decide +kernel, by decide +kernel⟩
theorem zbl (T : Txt K mg) : Def P w K mg base 2 "_law_take" 2 zaq := zcq T.d_l_law_take sc_l_law_take (fun _ _ _ _ _ _ us hl => match us, hl with | [_, _], _ => rfl) (fun f cdv A outer s H E hr hG =>
    (zaf (zcy (zbo op_lt zn2 (zbx (zaa (i := 0)) zag) (zaa (i := 1))) (zaf (zbm (i := 3) (zbx (zaa (i := 0)) zag) sc_l_law_take.nd)
    (zaf (zbm (i := 4) zag sc_l_law_take.nd)
    (zaf (zcy (zbo op_lt zn2 (zaa (i := 3)) (zam call_len zb2 T.b_len (by decide +kernel) (za_ (zbx (zaa (i := 0)) zag) zad))) (zah (zbm (i := 4) (zbx (zbx (zaa (i := 0)) zag) (zaa (i := 3))) sc_l_law_take.nd)) (zah (zcy (zbo op_gt dGt_ok (zam call_len zb2 T.b_len (by decide +kernel) (za_ (zbx (zaa (i := 0)) zag) zad)) zag) (zah (zbm (i := 4) (za8 op_mod zer (zbu call_int1 zej T.b_int (by decide +kernel) (za_ (zbx (zbx (zaa (i := 0)) zag) (za8 op_mod zer (zbu call_int1 zej T.b_int (by decide +kernel) (za_ (za8 za4 za3 (za8 zhx zfd (zaa (i := 3)) zag) zag) zad)) (zam call_len zb2 T.b_len (by decide +kernel) (za_ (zbx (zaa (i := 0)) zag) zad)))) zad)) (za8 za4 za3 (za8 op_pow zjy zag zag) (zaa (i := 3)))) sc_l_law_take.nd)) za2)))
    (zaf (ds_put (zaa (i := 0)) zag (za8 za4 za3 (zaa (i := 3)) zag))
    (zah (ds_put (zaa (i := 0)) zag (zai (znf T) (hr.mono (by decide)) hG (takes_of rfl rfl rfl rfl) (za_ (zaa (i := 4)) (za_ (zaa (i := 3)) zad)) (hlen := (zab (zab zak)))))))))) za2)
    (zaf (zbm (i := 2) (za8 op_mod zer (zbu call_int1 zej T.b_int (by decide +kernel) (za_ (zbx (zaa (i := 0)) zag) zad)) (zaa (i := 1))) sc_l_law_take.nd)
    (zaf (ds_put (zaa (i := 0)) zag (za8 op_fdivW dDiv_ok (zbx (zaa (i := 0)) zag) (zaa (i := 1))))
    (zah (zao (zaa (i := 2))))))))
theorem zpa : FnScope (["_law_pen"] : List Str) (["_law_pen"] : List Str) (defScope (top 50)) := ⟨rfl, rfl, rfl, by decide +kernel, rfl, by decide +kernel, by decide +kernel⟩
theorem zp_ (T : Txt K mg) : Def P w K mg base 1 "_law_anew" 1 zfu := zcq T.d_l_law_anew zpa (fun _ _ _ _ _ _ us hl => match us, hl with | [_], _ => rfl) (fun f cdv A outer s H E hr hG =>
    (zaf (ds_put (zaa (i := 0)) zag zag)
    (zah (zao (zaa (i := 0))))))
theorem sc_l_law_one : FnScope (["_law_pen", "_law_some"] : List Str) (["_law_pen", "_law_some"] : List Str) (defScope (top 51)) := ⟨rfl, rfl, rfl, by decide +kernel, rfl, by decide +kernel, by decide +kernel⟩
theorem zen (T : Txt K mg) : Def P w K mg base 3 "_law_one" 2 zcr := zcq T.d_l_law_one sc_l_law_one (fun _ _ _ _ _ _ us hl => match us, hl with | [_, _], _ => rfl) (fun f cdv A outer s H E hr hG =>
    (zah (zao (zbx (zaa (i := 1)) (zai (zbl T) (hr.mono (by decide)) hG (takes_of rfl rfl rfl rfl) (za_ (zaa (i := 0)) (za_ (zam call_len zb2 T.b_len (by decide +kernel) (za_ (zaa (i := 1)) zad)) zad)) (hlen := (zab (zab zak))))))))
theorem sc_l_law_columns : FnScope (["_law_pen", "_law_most", "_law_k", "_law_found", "_law_closed", "_law_own", "_law_step"] : List Str) (["_law_pen", "_law_most"] : List Str) (defScope (top 52)) := ⟨rfl, rfl, rfl, by decide +kernel, rfl, by decide +kernel, by decide +kernel⟩
theorem zl0 (T : Txt K mg) : Def P w K mg base 3 "_law_columns" 2 zd5 := zcq T.d_l_law_columns sc_l_law_columns (fun _ _ _ _ _ _ us hl => match us, hl with | [_, _], _ => rfl) (fun f cdv A outer s H E hr hG =>
    (zaf (ds_tg (zdx (za_ (zdx zad) (za_ zag zad))) (zj0 rfl (zby (zaj (i := 3) sc_l_law_columns.nd) (zby (zaj (i := 4) sc_l_law_columns.nd) zik)) (zbk (zbk zg2))))
    (zaf (zh1 (passes_of rfl) rfl (zei (za_ (za8 za4 za3 zag (zai (zbl T) (hr.mono (by decide)) hG (takes_of rfl rfl rfl rfl) (za_ (zaa (i := 0)) (za_ (zaa (i := 1)) zad)) (hlen := (zab (zab zak))))) zad) T.b_range) (zaj (i := 2) sc_l_law_columns.nd) (zaf (zbm (i := 5) (zh5 rfl (zex (own := [("_law_step", 6)]) rfl sc_l_law_columns.nd (zei (za_ (za8 za4 za3 zag (zai (zbl T) (hr.mono (by decide)) hG (takes_of rfl rfl rfl rfl) (za_ (zaa (i := 0)) (za_ zag zad)) (hlen := (zab (zab zak))))) zad) T.b_range) (blkOk_by (N := ["_law_pen", "_law_most", "_law_k", "_law_found", "_law_closed", "_law_own", "_law_step"]) (sc := defScope (top 52)) (by decide +kernel)) (fun _ _ _ _ _ => (zaj (i := 6) sc_l_law_columns.nd)) (fun _ _ _ _ _ => zbq) (fun _ _ _ _ _ => (zai (zbl T) (hr.mono (by decide)) hG takes0 (za_ (zaa (i := 0)) (za_ zag zad)) (hlen := (zab (zab zak)))))).de T.b_sorted T.b_set).de sc_l_law_columns.nd)
    (zah (zcy (znz (zbo op_lt zn2 (zaa (i := 4)) zag) (zmj (zbo (zf_ (ru64 hr)) zh8 (zai (zbl T) (hr.mono (by decide)) hG (takes_of rfl rfl rfl rfl) (za_ (zaa (i := 0)) (za_ zag zad)) (hlen := (zab (zab zak)))) zag))).dt (zaf (zbm (i := 4) (za8 za4 za3 (zaa (i := 4)) zag) sc_l_law_columns.nd)
    (zah (zbm (i := 3) (za8 za4 za3 (zaa (i := 3)) (zdx (za_ (zbu call_tuple_of dTuple_ok T.b_tuple (by decide +kernel) (za_ (zaa (i := 5)) zad)) zad))) sc_l_law_columns.nd))) (zah (zbm (i := 3) (za8 za4 za3 (zaa (i := 3)) (zdx (za_ zec zad))) sc_l_law_columns.nd))))))
    (zah (zao (zaa (i := 3)))))))
theorem zni : FnScope (["_law_pen", "_law_column"] : List Str) (["_law_pen", "_law_column"] : List Str) (defScope (top 53)) := ⟨rfl, rfl, rfl, by decide +kernel, rfl, by decide +kernel, by decide +kernel⟩
theorem znh (T : Txt K mg) : Def P w K mg base 4 "_law_value" 2 zew := zcq T.d_l_law_value zni (fun _ _ _ _ _ _ us hl => match us, hl with | [_, _], _ => rfl) (fun f cdv A outer s H E hr hG =>
    (zaf (zcy (zbo op_isN zio (zaa (i := 1)) zec) (zah (zao (zai (zen T) (hr.mono (by decide)) hG (takes_of rfl rfl rfl rfl) (za_ (zaa (i := 0)) (za_ (zkc (za_ zag (za_ zag (za_ zag (za_ zag (za_ zag (za_ zag (za_ zag (za_ (za8 op_pow zjy zag zag) (za_ (za8 za4 za3 (za8 op_pow zjy zag zag) zag) zad)))))))))) zad)) (hlen := (zab (zab zak)))))) za2)
    (zah (zao (zai (zen T) (hr.mono (by decide)) hG (takes_of rfl rfl rfl rfl) (za_ (zaa (i := 0)) (za_ (zaa (i := 1)) zad)) (hlen := (zab (zab zak))))))))
theorem sc_l_law_row : FnScope (["_law_pen", "_law_columns_here", "_law_column"] : List Str) (["_law_pen", "_law_columns_here"] : List Str) (defScope (top 54)) := ⟨rfl, rfl, rfl, by decide +kernel, rfl, by decide +kernel, by decide +kernel⟩
theorem ok_l_law_row (T : Txt K mg) : Def P w K mg base 5 "_law_row" 2 zie := zcq T.d_l_law_row sc_l_law_row (fun _ _ _ _ _ _ us hl => match us, hl with | [_, _], _ => rfl) (fun f cdv A outer s H E hr hG =>
    (zah (zao (zbu call_tuple_of dTuple_ok T.b_tuple (by decide +kernel) (za_ (zex (own := [("_law_column", 2)]) rfl sc_l_law_row.nd (zbp (zaa (i := 1))) (blkOk_by (N := ["_law_pen", "_law_columns_here", "_law_column"]) (sc := defScope (top 54)) (by decide +kernel)) (fun _ _ _ _ _ => (zaj (i := 2) sc_l_law_row.nd)) (fun _ _ _ _ _ => zbq) (fun _ _ _ _ _ => (zai (znh T) (hr.mono (by decide)) hG takes0 (za_ (zaa (i := 0)) (za_ (zaa (i := 2)) zad)) (hlen := (zab (zab zak)))))).de zad)))))
theorem sc_l_law_table : FnScope (["_law_pen", "_law_columns_here", "_law_many_here", "_law_found", "_law_k", "_law_row_here", "_law_at", "_law_other"] : List Str) (["_law_pen", "_law_columns_here", "_law_many_here"] : List Str) (defScope (top 55)) := ⟨rfl, rfl, rfl, by decide +kernel, rfl, by decide +kernel, by decide +kernel⟩
theorem znv (T : Txt K mg) : Def P w K mg base 6 "_law_table" 3 ze4 := zcq T.d_l_law_table sc_l_law_table (fun _ _ _ _ _ _ us hl => match us, hl with | [_, _, _], _ => rfl) (fun f cdv A outer s H E hr hG =>
    (zaf (zbm (i := 3) (zdx zad) sc_l_law_table.nd)
    (zaf (zh1 (passes_of rfl) rfl (zei (za_ (zaa (i := 2)) zad) T.b_range) (zaj (i := 4) sc_l_law_table.nd) (zaf (zbm (i := 5) (zai (ok_l_law_row T) (hr.mono (by decide)) hG (takes_of rfl rfl rfl rfl) (za_ (zaa (i := 0)) (za_ (zaa (i := 1)) zad)) (hlen := (zab (zab zak)))) sc_l_law_table.nd)
    (zaf (zcy (znz (zbo op_gt dGt_ok (zaa (i := 4)) zag) (zmj (zbo (zf_ (ru64 hr)) zh8 (zai (zbl T) (hr.mono (by decide)) hG (takes_of rfl rfl rfl rfl) (za_ (zaa (i := 0)) (za_ zag zad)) (hlen := (zab (zab zak)))) zag))).dt (zaf (zbm (i := 6) (zai (zbl T) (hr.mono (by decide)) hG (takes_of rfl rfl rfl rfl) (za_ (zaa (i := 0)) (za_ (zam call_len zb2 T.b_len (by decide +kernel) (za_ (zaa (i := 1)) zad)) zad)) (hlen := (zab (zab zak)))) sc_l_law_table.nd)
    (zaf (zbm (i := 7) (zai (zen T) (hr.mono (by decide)) hG (takes_of rfl rfl rfl rfl) (za_ (zaa (i := 0)) (za_ (zaa (i := 3)) zad)) (hlen := (zab (zab zak)))) sc_l_law_table.nd)
    (zah (zbm (i := 5) (za8 za4 za3 (za8 za4 za3 (zi4 (zaa (i := 7)) zjw (zir (zaa (i := 6)))) (zi4 (zaa (i := 5)) (zir (zaa (i := 6))) (zir (za8 za4 za3 (zaa (i := 6)) zag)))) (zi4 (zaa (i := 7)) (zir (za8 za4 za3 (zaa (i := 6)) zag)) zjw)) sc_l_law_table.nd)))) za2)
    (zah (zbm (i := 3) (za8 za4 za3 (zaa (i := 3)) (zdx (za_ (zaa (i := 5)) zad))) sc_l_law_table.nd)))))
    (zah (zao (zaa (i := 3)))))))
theorem sc_l_law_taken : FnScope (["_law_columns_here", "_law_some", "_law_rule", "_law_kin", "_law_other"] : List Str) (["_law_columns_here", "_law_some", "_law_rule"] : List Str) (defScope (top 56)) := ⟨rfl, rfl, rfl, by decide +kernel, rfl, by decide +kernel, by decide +kernel⟩
theorem zjh (T : Txt K mg) : Def P w K mg base 9 "_law_taken" 3 ze8 := zcq T.d_l_law_taken sc_l_law_taken (fun _ _ _ _ _ _ us hl => match us, hl with | [_, _, _], _ => rfl) (fun f cdv A outer s H E hr hG =>
    (zaf (zcy (zbo (zju (ru65 hr)) zme (zaa (i := 2)) (zaa (i := 1))) (zah (zao zgy)) za2)
    (zaf (zja (i := 3) (own := [("_law_other", 4)]) rfl sc_l_law_taken.nd (zbp (zaa (i := 1))) (blkOk_by (N := ["_law_columns_here", "_law_some", "_law_rule", "_law_kin", "_law_other"]) (sc := defScope (top 56)) (by decide +kernel)) (fun _ _ _ _ _ => (zaj (i := 4) sc_l_law_taken.nd)) (fun _ _ _ _ _ => (zhu (zbo (zf_ (ru64 hr)) zh8 (zi4 (zaa (i := 4)) (zir zag) zjw) (zi4 (zaa (i := 2)) (zir zag) zjw)))) (fun _ _ _ _ _ => (zaa (i := 4))))
    (zah (zao (ze7 (zju (ru65 hr)) zme zgy (zex (own := [("_law_other", 4)]) rfl sc_l_law_taken.nd (zbp (zaa (i := 3))) (blkOk_by (N := ["_law_columns_here", "_law_some", "_law_rule", "_law_kin", "_law_other"]) (sc := defScope (top 56)) (by decide +kernel)) (fun _ _ _ _ _ => (zaj (i := 4) sc_l_law_taken.nd)) (fun _ _ _ _ _ => zbq) (fun _ _ _ _ _ => (zai (zi0 T) (hr.mono (by decide)) hG takes0 (za_ (zaa (i := 0)) (za_ (zaa (i := 4)) (za_ (zaa (i := 2)) zad))) (hlen := (zab (zab (zab zak))))))).de))))))
theorem sc_l_law_many : FnScope (["_law_columns_here", "_law_rule", "_law_table_here", "_law_row_here"] : List Str) (["_law_columns_here", "_law_rule", "_law_table_here"] : List Str) (defScope (top 57)) := ⟨rfl, rfl, rfl, by decide +kernel, rfl, by decide +kernel, by decide +kernel⟩
theorem zj7 (T : Txt K mg) : Def P w K mg base 9 "_law_many" 3 zfi := zcq T.d_l_law_many sc_l_law_many (fun _ _ _ _ _ _ us hl => match us, hl with | [_, _, _], _ => rfl) (fun f cdv A outer s H E hr hG =>
    (zah (zao (zam call_len zb2 T.b_len (by decide +kernel) (za_ (zex (own := [("_law_row_here", 3)]) rfl sc_l_law_many.nd (zbp (zaa (i := 2))) (blkOk_by (N := ["_law_columns_here", "_law_rule", "_law_table_here", "_law_row_here"]) (sc := defScope (top 57)) (by decide +kernel)) (fun _ _ _ _ _ => (zaj (i := 3) sc_l_law_many.nd)) (fun _ _ _ _ _ => (zhu (zem (zai (ok_matches T) (hr.mono (by decide)) hG takes0 (za_ (zaa (i := 0)) (za_ (zaa (i := 1)) (za_ (zaa (i := 3)) zad))) (hlen := (zab (zab (zab zak)))))))) (fun _ _ _ _ _ => (zaa (i := 3)))).de zad)))))
theorem sc_l_law_drawn : FnScope (["_law_pen", "_law_columns_here", "_law_table_here", "_law_row_here", "_law_column", "_law_want", "_law_given", "_law_k", "_law_blank"] : List Str) (["_law_pen", "_law_columns_here", "_law_table_here"] : List Str) (defScope (top 58)) := ⟨rfl, rfl, rfl, by decide +kernel, rfl, by decide +kernel, by decide +kernel⟩
theorem znn (T : Txt K mg) : Def P w K mg base 4 "_law_drawn" 3 zg5 := zcq T.d_l_law_drawn sc_l_law_drawn (fun _ _ _ _ _ _ us hl => match us, hl with | [_, _, _], _ => rfl) (fun f cdv A outer s H E hr hG =>
    (zaf (zbm (i := 3) (zai (zen T) (hr.mono (by decide)) hG (takes_of rfl rfl rfl rfl) (za_ (zaa (i := 0)) (za_ (zaa (i := 2)) zad)) (hlen := (zab (zab zak)))) sc_l_law_drawn.nd)
    (zaf (zbm (i := 4) (zai (zbl T) (hr.mono (by decide)) hG (takes_of rfl rfl rfl rfl) (za_ (zaa (i := 0)) (za_ (zam call_len zb2 T.b_len (by decide +kernel) (za_ (zaa (i := 1)) zad)) zad)) (hlen := (zab (zab zak)))) sc_l_law_drawn.nd)
    (zaf (zbm (i := 5) (zai (zen T) (hr.mono (by decide)) hG (takes_of rfl rfl rfl rfl) (za_ (zaa (i := 0)) (za_ (zkc (za_ zec (za_ (zbx (zaa (i := 3)) (zaa (i := 4))) zad))) zad)) (hlen := (zab (zab zak)))) sc_l_law_drawn.nd)
    (zaf (zbm (i := 6) (zdx zad) sc_l_law_drawn.nd)
    (zaf (zh1 (passes_of rfl) rfl (zei (za_ (zam call_len zb2 T.b_len (by decide +kernel) (za_ (zaa (i := 1)) zad)) zad) T.b_range) (zaj (i := 7) sc_l_law_drawn.nd) (zah (zcy (znz (zbo (zhs (ru64 hr)) zjm (zaa (i := 7)) (zaa (i := 4))) (zmj (zbo (zf_ (ru64 hr)) zh8 (zai (zbl T) (hr.mono (by decide)) hG (takes_of rfl rfl rfl rfl) (za_ (zaa (i := 0)) (za_ zag zad)) (hlen := (zab (zab zak)))) zag))).dt (zaf (zbm (i := 8) (znb (ze7 op_isN zio (zaa (i := 5)) zec) (zi5 (ze7 (zf_ (ru64 hr)) zh8 (zai (zbl T) (hr.mono (by decide)) hG (takes_of rfl rfl rfl rfl) (za_ (zaa (i := 0)) (za_ zag zad)) (hlen := (zab (zab zak)))) zag))) sc_l_law_drawn.nd)
    (zah (zbm (i := 6) (za8 za4 za3 (zaa (i := 6)) (zdx (za_ (zdx (za_ (zaa (i := 7)) (za_ (de_if (zem (zaa (i := 8))) zec (zbx (zaa (i := 3)) (zaa (i := 7)))) zad))) zad))) sc_l_law_drawn.nd))) za2)))
    (zah (zao (zdx (za_ (zaa (i := 6)) (za_ (zaa (i := 4)) (za_ (zaa (i := 5)) zad))))))))))))
theorem sc_l_law_right : FnScope (["_law_pen", "_law_columns_here", "_law_table_here", "_law_number", "_law_some", "_law_rule", "_law_step", "_law_more", "_law_kin", "_law_other"] : List Str) (["_law_pen", "_law_columns_here", "_law_table_here", "_law_number"] : List Str) (defScope (top 59)) := ⟨rfl, rfl, rfl, by decide +kernel, rfl, by decide +kernel, by decide +kernel⟩
theorem znt (T : Txt K mg) : Def P w K mg base 10 "_law_right" 4 zez := zcq T.d_l_law_right sc_l_law_right (fun _ _ _ _ _ _ us hl => match us, hl with | [_, _, _, _], _ => rfl) (fun f cdv A outer s H E hr hG =>
    (zaf (zbm (i := 4) (zai (zeh T) (hr.mono (by decide)) hG (takes_of rfl rfl rfl rfl) (za_ (zaa (i := 1)) (za_ (zaa (i := 2)) (za_ (zaa (i := 3)) zad))) (hlen := (zab (zab (zab zak))))) sc_l_law_right.nd)
    (zaf (zcy (zbo (zhs (ru64 hr)) zjm (de_lenSetS rfl (zex (own := [("_law_rule", 5)]) rfl sc_l_law_right.nd (zbp (zaa (i := 4))) (blkOk_by (N := ["_law_pen", "_law_columns_here", "_law_table_here", "_law_number", "_law_some", "_law_rule", "_law_step", "_law_more", "_law_kin", "_law_other"]) (sc := defScope (top 59)) (by decide +kernel)) (fun _ _ _ _ _ => (zaj (i := 5) sc_l_law_right.nd)) (fun _ _ _ _ _ => zbq) (fun _ _ _ _ _ => (zam (cr_repr hG (ru64 hr)) zpc T.b_repr (by decide +kernel) (za_ (zaa (i := 5)) zad)))).de T.b_len T.b_set) (zam call_len zb2 T.b_len (by decide +kernel) (za_ (zaa (i := 4)) zad))) (zah (zao zgy)) za2)
    (zaf (zh1 (passes_of rfl) rfl (zbp (zi4 (zaa (i := 4)) zjw (zir zag))) (zaj (i := 5) sc_l_law_right.nd) (zaf (zcy (zl5 (zd_ (zem (zai (ok_is_rule T) (hr.mono (by decide)) hG (takes_of rfl rfl rfl rfl) (za_ (zaa (i := 1)) (za_ (zaa (i := 5)) zad)) (hlen := (zab (zab zak)))))) (zji (zd_ (zem (zai (ok_holds T) (hr.mono (by decide)) hG (takes_of rfl rfl rfl rfl) (za_ (zaa (i := 1)) (za_ (zaa (i := 5)) (za_ (zaa (i := 2)) zad))) (hlen := (zab (zab (zab zak))))))))).dt (zah (zao zgy)) za2)
    (zaf (zcy (zbo op_lt zn2 (zai (zj7 T) (hr.mono (by decide)) hG (takes_of rfl rfl rfl rfl) (za_ (zaa (i := 1)) (za_ (zaa (i := 5)) (za_ (zaa (i := 2)) zad))) (hlen := (zab (zab (zab zak))))) (zaa (i := 3))) (zah (zao zgy)) za2)
    (zaf (zja (i := 8) (own := [("_law_other", 9)]) rfl sc_l_law_right.nd (zbp (zaa (i := 4))) (blkOk_by (N := ["_law_pen", "_law_columns_here", "_law_table_here", "_law_number", "_law_some", "_law_rule", "_law_step", "_law_more", "_law_kin", "_law_other"]) (sc := defScope (top 59)) (by decide +kernel)) (fun _ _ _ _ _ => (zaj (i := 9) sc_l_law_right.nd)) (fun _ _ _ _ _ => (zhu (zbo (zf_ (ru64 hr)) zh8 (zi4 (zaa (i := 9)) (zir zag) zjw) (zi4 (zaa (i := 5)) (zir zag) zjw)))) (fun _ _ _ _ _ => (zaa (i := 9))))
    (zah (zcy (zbo (zju (ru65 hr)) zme zgy (zex (own := [("_law_other", 9)]) rfl sc_l_law_right.nd (zbp (zaa (i := 8))) (blkOk_by (N := ["_law_pen", "_law_columns_here", "_law_table_here", "_law_number", "_law_some", "_law_rule", "_law_step", "_law_more", "_law_kin", "_law_other"]) (sc := defScope (top 59)) (by decide +kernel)) (fun _ _ _ _ _ => (zaj (i := 9) sc_l_law_right.nd)) (fun _ _ _ _ _ => zbq) (fun _ _ _ _ _ => (zai (zi0 T) (hr.mono (by decide)) hG takes0 (za_ (zaa (i := 1)) (za_ (zaa (i := 9)) (za_ (zaa (i := 5)) zad))) (hlen := (zab (zab (zab zak))))))).de) (zah (zao zgy)) za2))))))
    (zaf (zh1 (passes_of rfl) rfl (zei (za_ zag zad) T.b_range) (zaj (i := 6) sc_l_law_right.nd) (zaf (zbm (i := 5) (zai (znn T) (hr.mono (by decide)) hG (takes_of rfl rfl rfl rfl) (za_ (zaa (i := 0)) (za_ (zaa (i := 1)) (za_ (zaa (i := 2)) zad))) (hlen := (zab (zab (zab zak))))) sc_l_law_right.nd)
    (zah (zcy (znz (zem (zai (ok_holds T) (hr.mono (by decide)) hG (takes_of rfl rfl rfl rfl) (za_ (zaa (i := 1)) (za_ (zaa (i := 5)) (za_ (zaa (i := 2)) zad))) (hlen := (zab (zab (zab zak)))))) (zmj (zbo op_ge dGe_ok (zai (zj7 T) (hr.mono (by decide)) hG (takes_of rfl rfl rfl rfl) (za_ (zaa (i := 1)) (za_ (zaa (i := 5)) (za_ (zaa (i := 2)) zad))) (hlen := (zab (zab (zab zak))))) (zaa (i := 3))))).dt (zah (zcy (zd_ (zem (zai (zjh T) (hr.mono (by decide)) hG (takes_of rfl rfl rfl rfl) (za_ (zaa (i := 1)) (za_ (zaa (i := 4)) (za_ (zaa (i := 5)) zad))) (hlen := (zab (zab (zab zak))))))) (zah (zao zgy)) za2)) za2))))
    (zaf (zbm (i := 7) (zai (zeh T) (hr.mono (by decide)) hG (takes_of rfl rfl rfl rfl) (za_ (zaa (i := 1)) (za_ (zaa (i := 2)) (za_ (za8 za4 za3 (zaa (i := 3)) zag) zad))) (hlen := (zab (zab (zab zak))))) sc_l_law_right.nd)
    (zah (zao (zam (cr_all rfl) zht T.b_all (by decide +kernel) (za_ (zex (own := [("_law_rule", 5)]) rfl sc_l_law_right.nd (zbp (zi4 (zaa (i := 7)) zjw (zir zag))) (blkOk_by (N := ["_law_pen", "_law_columns_here", "_law_table_here", "_law_number", "_law_some", "_law_rule", "_law_step", "_law_more", "_law_kin", "_law_other"]) (sc := defScope (top 59)) (by decide +kernel)) (fun _ _ _ _ _ => (zaj (i := 5) sc_l_law_right.nd)) (fun _ _ _ _ _ => zbq) (fun _ _ _ _ _ => (zai (zjh T) (hr.mono (by decide)) hG takes0 (za_ (zaa (i := 1)) (za_ (zaa (i := 4)) (za_ (zaa (i := 5)) zad))) (hlen := (zab (zab (zab zak))))))).de zad))))))))))
theorem sc_law : FnScope (["_law_script", "_law_pen", "_law_turn", "_law_columns_here", "_law_table_here", "_law_number", "_law_more", "_law_due", "_law_rule"] : List Str) (["_law_script"] : List Str) (defScope (top 60)) := ⟨rfl, rfl, rfl, by decide +kernel, rfl, by decide +kernel, by decide +kernel⟩
theorem bd_law (T : Txt K mg) (f : Addr) (cdv : Value) (A : Around) (outer : List Env) (s : Shared) (H : Hp) (E : XK) (hr : Room 10 (A.deeper (envOfC "law" (defScope (top 60)) s.heap.objs.size f cdv))) (hG : A.guards = some []) :
    DSs (cxOf (L2.CX P w) P w K mg base (["_law_script", "_law_pen", "_law_turn", "_law_columns_here", "_law_table_here", "_law_number", "_law_more", "_law_due", "_law_rule"] : List Str) "law" (defScope (top 60)) f cdv A outer s H E) (fun cls d _ H => E cls d H) (defBody (top 60)) s_law :=
    (zaf (zbm (i := 1) (zai (zpj T) (hr.mono (by decide)) hG (takes_of rfl rfl rfl rfl) (za_ (zaa (i := 0)) zad) (hlen := (zab zak))) sc_law.nd)
    (zaf (zh1 (passes_of rfl) rfl (zei (za_ zag zad) T.b_range) (zaj (i := 2) sc_law.nd) (zaf (zbm (i := 3) (zai (zl0 T) (hr.mono (by decide)) hG (takes_of rfl rfl rfl rfl) (za_ (zai (zp_ T) (hr.mono (by decide)) hG (takes_of rfl rfl rfl rfl) (za_ (zaa (i := 1)) zad) (hlen := (zab zak))) (za_ (zai (zen T) (hr.mono (by decide)) hG (takes_of rfl rfl rfl rfl) (za_ (zaa (i := 1)) (za_ (zkc (za_ zag (za_ zag (za_ zag zad)))) zad)) (hlen := (zab (zab zak)))) zad)) (hlen := (zab (zab zak)))) sc_law.nd)
    (zaf (zbm (i := 4) (zai (znv T) (hr.mono (by decide)) hG (takes_of rfl rfl rfl rfl) (za_ (zaa (i := 1)) (za_ (zaa (i := 3)) (za_ (za8 za4 za3 zag (zai (zbl T) (hr.mono (by decide)) hG (takes_of rfl rfl rfl rfl) (za_ (zaa (i := 1)) (za_ zag zad)) (hlen := (zab (zab zak))))) zad))) (hlen := (zab (zab (zab zak))))) sc_law.nd)
    (zaf (zbm (i := 5) (za8 za4 za3 zag (zai (zbl T) (hr.mono (by decide)) hG (takes_of rfl rfl rfl rfl) (za_ (zaa (i := 1)) (za_ zag zad)) (hlen := (zab (zab zak))))) sc_law.nd)
    (zaf (zcy (zd_ (zem (zai (znt T) (hr.mono (by decide)) hG (takes_of rfl rfl rfl rfl) (za_ (zaa (i := 1)) (za_ (zaa (i := 3)) (za_ (zaa (i := 4)) (za_ (zaa (i := 5)) zad)))) (hlen := (zab (zab (zab (zab zak)))))))) (zah (zao zgy)) za2)
    (zah (zcy (zbo op_lt zn2 (zam call_len zb2 T.b_len (by decide +kernel) (za_ (zaa (i := 4)) zad)) zag) (zaf (zbm (i := 6) (zai (zeh T) (hr.mono (by decide)) hG (takes_of rfl rfl rfl rfl) (za_ (zaa (i := 3)) (za_ (za8 za4 za3 (zaa (i := 4)) (zaa (i := 4))) (za_ (za8 zhx zfd zag (zaa (i := 5))) zad))) (hlen := (zab (zab (zab zak))))) sc_law.nd)
    (zaf (zbm (i := 7) (ne_sorted (zex (own := [("_law_rule", 8)]) rfl sc_law.nd (zbp (zai (zeh T) (hr.mono (by decide)) hG (takes_of rfl rfl rfl rfl) (za_ (zaa (i := 3)) (za_ (zaa (i := 4)) (za_ (zaa (i := 5)) zad))) (hlen := (zab (zab (zab zak)))))) (blkOk_by (N := ["_law_script", "_law_pen", "_law_turn", "_law_columns_here", "_law_table_here", "_law_number", "_law_more", "_law_due", "_law_rule"]) (sc := defScope (top 60)) (by decide +kernel)) (fun _ _ _ _ _ => (zaj (i := 8) sc_law.nd)) (fun _ _ _ _ _ => zbq) (fun _ _ _ _ _ => (zam (cr_repr hG (ru64 hr)) zpc T.b_repr (by decide +kernel) (za_ (zaa (i := 8)) zad)))).de (ru64 hr) T.b_sorted).de sc_law.nd)
    (zah (zcy (zbo (zhs (ru64 hr)) zjm (ne_sorted (zex (own := [("_law_rule", 8)]) rfl sc_law.nd (zbp (zaa (i := 6))) (blkOk_by (N := ["_law_script", "_law_pen", "_law_turn", "_law_columns_here", "_law_table_here", "_law_number", "_law_more", "_law_due", "_law_rule"]) (sc := defScope (top 60)) (by decide +kernel)) (fun _ _ _ _ _ => (zaj (i := 8) sc_law.nd)) (fun _ _ _ _ _ => zbq) (fun _ _ _ _ _ => (zam (cr_repr hG (ru64 hr)) zpc T.b_repr (by decide +kernel) (za_ (zaa (i := 8)) zad)))).de (ru64 hr) T.b_sorted).de (zaa (i := 7))) (zah (zao zgy)) za2)))) za2)))))))
    (zah (zao (ze7 (zf_ (ru64 hr)) zh8 (zam call_len zb2 T.b_len (by decide +kernel) (za_ (zai (zeh T) (hr.mono (by decide)) hG (takes_of rfl rfl rfl rfl) (za_ (zdx (za_ zec zad)) (za_ (za8 zhx zfd (zdx (za_ (zdx (za_ zag zad)) zad)) zag) (za_ zag zad))) (hlen := (zab (zab (zab zak))))) zad)) zag)))))
end T41
namespace DL
open PySem PySem.Spec PyProof.Rows L2
/-! a hook that looks at given addresses alone -/
end DL
set_option maxHeartbeats 0
namespace T41
open PySem PySem.Spec PyProof.Rows L2 DL
def mkD (x : Str) (i : Nat) : He.DefD := ⟨(x, none), x, x, defArgs (top i), defBody (top i), defScope (top i), [], []⟩
def fn : List He.DefD := ([mkD "is_integer" 9, mkD "is_between" 10, mkD "is_value" 14, mkD "is_column" 15, mkD "is_value_of" 16, mkD "is_columns" 17, mkD "is_row_of" 18, mkD "is_table_of" 19, mkD "require_columns" 20, mkD "require_row" 21, mkD "require_table" 22, mkD "is_entry" 24, mkD "is_given" 25, mkD "is_rule_of" 26, mkD "does_match" 27, mkD "are_equal" 28, mkD "require_rule" 29, mkD "is_rule" 30, mkD "matches" 31, mkD "find_rule_breaks" 33, mkD "does_hold" 34, mkD "holds" 35, mkD "is_more_general" 37, mkD "find_next_general" 38, mkD "more_general" 39, mkD "find_givens" 41, mkD "find_candidates" 42, mkD "is_good" 43, mkD "find_found" 44, mkD "found_rules" 45] : List He.DefD) ++ ([mkD "_law_spread" 47, mkD "_law_open" 48, mkD "_law_take" 49, mkD "_law_anew" 50, mkD "_law_one" 51, mkD "_law_columns" 52, mkD "_law_value" 53, mkD "_law_row" 54, mkD "_law_table" 55, mkD "_law_taken" 56, mkD "_law_many" 57, mkD "_law_drawn" 58, mkD "_law_right" 59, mkD "law" 60] : List He.DefD)
def fa : List He.Fa := ([.free "all", .free "any", .free "bool", .free "enumerate", .free "int", .free "isinstance", .free "len", .free "list", .free "range", .free "repr", .free "set", .free "sorted", .free "tuple", .free "zip", .int "MOST_COLUMNS" 4, .int "MOST_ROWS" 8, .glo "InvalidColumns", .exc "InvalidColumns", .glo "InvalidNumber", .exc "InvalidNumber", .glo "InvalidRow", .exc "InvalidRow", .glo "InvalidRule", .exc "InvalidRule", .glo "InvalidTable", .exc "InvalidTable", .glo "InvalidValue", .exc "InvalidValue", .glo "is_integer", .glo "is_between"] : List He.Fa) ++ ([.glo "is_value", .glo "is_column", .glo "is_value_of", .glo "is_columns", .glo "is_row_of", .glo "is_table_of", .glo "require_columns", .glo "require_row", .glo "require_table", .glo "is_entry", .glo "is_given", .glo "is_rule_of", .glo "does_match", .glo "are_equal", .glo "require_rule", .glo "is_rule", .glo "matches", .glo "find_rule_breaks", .glo "does_hold", .glo "holds", .glo "is_more_general", .glo "find_next_general", .glo "more_general", .glo "find_givens", .glo "find_candidates", .glo "is_good", .glo "find_found", .glo "found_rules", .glo "_law_spread", .glo "_law_open"] : List He.Fa) ++ ([.glo "_law_take", .glo "_law_anew", .glo "_law_one", .glo "_law_columns", .glo "_law_value", .glo "_law_row", .glo "_law_table", .glo "_law_taken", .glo "_law_many", .glo "_law_drawn", .glo "_law_right", .glo "law"] : List He.Fa)
def loose : List Str := (["is_integer", "is_between", "is_value", "is_column", "is_value_of", "is_columns", "is_row_of", "is_table_of", "require_columns", "require_row", "require_table", "is_entry", "is_given", "is_rule_of", "does_match", "are_equal", "require_rule", "is_rule", "matches", "find_rule_breaks", "does_hold", "holds", "is_more_general", "find_next_general", "more_general", "find_givens", "find_candidates", "is_good", "find_found", "found_rules"] : List Str) ++ (["_law_spread", "_law_open", "_law_take", "_law_anew", "_law_one", "_law_columns", "_law_value", "_law_row", "_law_table", "_law_taken", "_law_many", "_law_drawn", "_law_right", "RuleError", "InvalidColumns", "InvalidRow", "InvalidTable", "InvalidRule", "InvalidNumber", "InvalidValue", "MOST_COLUMNS", "MOST_ROWS"] : List Str)
abbrev R : PySem.W.OpenRow := PySem.W.OpenLaw.row PySem.Challenge.rw_whererules_k41_whole_finding
abbrev hk : PySem.W.Hook := He.hookD 5 fa fn
def ob (s : PySem.W.SharedT) : He.AlD := He.obsDG 5 fa fn (HandSHeadRun.getT s)
theorem ob_eq (s : PySem.W.SharedT) : ob s = hk.obs s.abs := He.obsDG_eq (HandSHeadRun.getT_eq s)
theorem run (w : World) : HandSHeadRun.RunEq R (PySem.W.view R.prog [60]) hk ob 20000 loose w := by
  intro os
  kernel_rfl
theorem txt_of {K : PySem.W.Frag} {h : Heap} {mg : Str → Option Value} (X : K.In h) (G : h.Ns mainGlobals mg) (c : He.SaysD fa fn K) : Txt K mg where
  b_all := He.free_ok X G (c.fact 0 (f := .free "all") rfl)
  b_any := He.free_ok X G (c.fact 1 (f := .free "any") rfl)
  b_bool := He.free_ok X G (c.fact 2 (f := .free "bool") rfl)
  b_enumerate := He.free_ok X G (c.fact 3 (f := .free "enumerate") rfl)
  b_int := He.free_ok X G (c.fact 4 (f := .free "int") rfl)
  b_isinstance := He.free_ok X G (c.fact 5 (f := .free "isinstance") rfl)
  b_len := He.free_ok X G (c.fact 6 (f := .free "len") rfl)
  b_list := He.free_ok X G (c.fact 7 (f := .free "list") rfl)
  b_range := He.free_ok X G (c.fact 8 (f := .free "range") rfl)
  b_repr := He.free_ok X G (c.fact 9 (f := .free "repr") rfl)
  b_set := He.free_ok X G (c.fact 10 (f := .free "set") rfl)
  b_sorted := He.free_ok X G (c.fact 11 (f := .free "sorted") rfl)
  b_tuple := He.free_ok X G (c.fact 12 (f := .free "tuple") rfl)
  b_zip := He.free_ok X G (c.fact 13 (f := .free "zip") rfl)
  i_MOST_COLUMNS := He.int_ok X G (c.fact 14 (f := .int "MOST_COLUMNS" 4) rfl)
  i_MOST_ROWS := He.int_ok X G (c.fact 15 (f := .int "MOST_ROWS" 8) rfl)
  e_InvalidColumns := zla X G (c.fact 16 (f := .glo "InvalidColumns") rfl) (c.fact 17 (f := .exc "InvalidColumns") rfl)
  e_InvalidNumber := zla X G (c.fact 18 (f := .glo "InvalidNumber") rfl) (c.fact 19 (f := .exc "InvalidNumber") rfl)
  e_InvalidRow := zla X G (c.fact 20 (f := .glo "InvalidRow") rfl) (c.fact 21 (f := .exc "InvalidRow") rfl)
  e_InvalidRule := zla X G (c.fact 22 (f := .glo "InvalidRule") rfl) (c.fact 23 (f := .exc "InvalidRule") rfl)
  e_InvalidTable := zla X G (c.fact 24 (f := .glo "InvalidTable") rfl) (c.fact 25 (f := .exc "InvalidTable") rfl)
  e_InvalidValue := zla X G (c.fact 26 (f := .glo "InvalidValue") rfl) (c.fact 27 (f := .exc "InvalidValue") rfl)
  d_is_integer := let ⟨fd, F⟩ := c.def_ 0 (d := mkD "is_integer" 9) rfl; ⟨_, fd, F, He.glo_ok X G (c.fact 28 (f := .glo "is_integer") rfl)⟩
  d_is_between := let ⟨fd, F⟩ := c.def_ 1 (d := mkD "is_between" 10) rfl; ⟨_, fd, F, He.glo_ok X G (c.fact 29 (f := .glo "is_between") rfl)⟩
  d_is_value := let ⟨fd, F⟩ := c.def_ 2 (d := mkD "is_value" 14) rfl; ⟨_, fd, F, He.glo_ok X G (c.fact 30 (f := .glo "is_value") rfl)⟩
  d_is_column := let ⟨fd, F⟩ := c.def_ 3 (d := mkD "is_column" 15) rfl; ⟨_, fd, F, He.glo_ok X G (c.fact 31 (f := .glo "is_column") rfl)⟩
  d_is_value_of := let ⟨fd, F⟩ := c.def_ 4 (d := mkD "is_value_of" 16) rfl; ⟨_, fd, F, He.glo_ok X G (c.fact 32 (f := .glo "is_value_of") rfl)⟩
  d_is_columns := let ⟨fd, F⟩ := c.def_ 5 (d := mkD "is_columns" 17) rfl; ⟨_, fd, F, He.glo_ok X G (c.fact 33 (f := .glo "is_columns") rfl)⟩
  d_is_row_of := let ⟨fd, F⟩ := c.def_ 6 (d := mkD "is_row_of" 18) rfl; ⟨_, fd, F, He.glo_ok X G (c.fact 34 (f := .glo "is_row_of") rfl)⟩
  d_is_table_of := let ⟨fd, F⟩ := c.def_ 7 (d := mkD "is_table_of" 19) rfl; ⟨_, fd, F, He.glo_ok X G (c.fact 35 (f := .glo "is_table_of") rfl)⟩
  d_require_columns := let ⟨fd, F⟩ := c.def_ 8 (d := mkD "require_columns" 20) rfl; ⟨_, fd, F, He.glo_ok X G (c.fact 36 (f := .glo "require_columns") rfl)⟩
  d_require_row := let ⟨fd, F⟩ := c.def_ 9 (d := mkD "require_row" 21) rfl; ⟨_, fd, F, He.glo_ok X G (c.fact 37 (f := .glo "require_row") rfl)⟩
  d_require_table := let ⟨fd, F⟩ := c.def_ 10 (d := mkD "require_table" 22) rfl; ⟨_, fd, F, He.glo_ok X G (c.fact 38 (f := .glo "require_table") rfl)⟩
  d_is_entry := let ⟨fd, F⟩ := c.def_ 11 (d := mkD "is_entry" 24) rfl; ⟨_, fd, F, He.glo_ok X G (c.fact 39 (f := .glo "is_entry") rfl)⟩
  d_is_given := let ⟨fd, F⟩ := c.def_ 12 (d := mkD "is_given" 25) rfl; ⟨_, fd, F, He.glo_ok X G (c.fact 40 (f := .glo "is_given") rfl)⟩
  d_is_rule_of := let ⟨fd, F⟩ := c.def_ 13 (d := mkD "is_rule_of" 26) rfl; ⟨_, fd, F, He.glo_ok X G (c.fact 41 (f := .glo "is_rule_of") rfl)⟩
  d_does_match := let ⟨fd, F⟩ := c.def_ 14 (d := mkD "does_match" 27) rfl; ⟨_, fd, F, He.glo_ok X G (c.fact 42 (f := .glo "does_match") rfl)⟩
  d_are_equal := let ⟨fd, F⟩ := c.def_ 15 (d := mkD "are_equal" 28) rfl; ⟨_, fd, F, He.glo_ok X G (c.fact 43 (f := .glo "are_equal") rfl)⟩
  d_require_rule := let ⟨fd, F⟩ := c.def_ 16 (d := mkD "require_rule" 29) rfl; ⟨_, fd, F, He.glo_ok X G (c.fact 44 (f := .glo "require_rule") rfl)⟩
  d_is_rule := let ⟨fd, F⟩ := c.def_ 17 (d := mkD "is_rule" 30) rfl; ⟨_, fd, F, He.glo_ok X G (c.fact 45 (f := .glo "is_rule") rfl)⟩
  d_matches := let ⟨fd, F⟩ := c.def_ 18 (d := mkD "matches" 31) rfl; ⟨_, fd, F, He.glo_ok X G (c.fact 46 (f := .glo "matches") rfl)⟩
  d_find_rule_breaks := let ⟨fd, F⟩ := c.def_ 19 (d := mkD "find_rule_breaks" 33) rfl; ⟨_, fd, F, He.glo_ok X G (c.fact 47 (f := .glo "find_rule_breaks") rfl)⟩
  d_does_hold := let ⟨fd, F⟩ := c.def_ 20 (d := mkD "does_hold" 34) rfl; ⟨_, fd, F, He.glo_ok X G (c.fact 48 (f := .glo "does_hold") rfl)⟩
  d_holds := let ⟨fd, F⟩ := c.def_ 21 (d := mkD "holds" 35) rfl; ⟨_, fd, F, He.glo_ok X G (c.fact 49 (f := .glo "holds") rfl)⟩
  d_is_more_general := let ⟨fd, F⟩ := c.def_ 22 (d := mkD "is_more_general" 37) rfl; ⟨_, fd, F, He.glo_ok X G (c.fact 50 (f := .glo "is_more_general") rfl)⟩
  d_find_next_general := let ⟨fd, F⟩ := c.def_ 23 (d := mkD "find_next_general" 38) rfl; ⟨_, fd, F, He.glo_ok X G (c.fact 51 (f := .glo "find_next_general") rfl)⟩
  d_more_general := let ⟨fd, F⟩ := c.def_ 24 (d := mkD "more_general" 39) rfl; ⟨_, fd, F, He.glo_ok X G (c.fact 52 (f := .glo "more_general") rfl)⟩
  d_find_givens := let ⟨fd, F⟩ := c.def_ 25 (d := mkD "find_givens" 41) rfl; ⟨_, fd, F, He.glo_ok X G (c.fact 53 (f := .glo "find_givens") rfl)⟩
  d_find_candidates := let ⟨fd, F⟩ := c.def_ 26 (d := mkD "find_candidates" 42) rfl; ⟨_, fd, F, He.glo_ok X G (c.fact 54 (f := .glo "find_candidates") rfl)⟩
  d_is_good := let ⟨fd, F⟩ := c.def_ 27 (d := mkD "is_good" 43) rfl; ⟨_, fd, F, He.glo_ok X G (c.fact 55 (f := .glo "is_good") rfl)⟩
  d_find_found := let ⟨fd, F⟩ := c.def_ 28 (d := mkD "find_found" 44) rfl; ⟨_, fd, F, He.glo_ok X G (c.fact 56 (f := .glo "find_found") rfl)⟩
  d_found_rules := let ⟨fd, F⟩ := c.def_ 29 (d := mkD "found_rules" 45) rfl; ⟨_, fd, F, He.glo_ok X G (c.fact 57 (f := .glo "found_rules") rfl)⟩
  d_l_law_spread := let ⟨fd, F⟩ := c.def_ 30 (d := mkD "_law_spread" 47) rfl; ⟨_, fd, F, He.glo_ok X G (c.fact 58 (f := .glo "_law_spread") rfl)⟩
  d_l_law_open := let ⟨fd, F⟩ := c.def_ 31 (d := mkD "_law_open" 48) rfl; ⟨_, fd, F, He.glo_ok X G (c.fact 59 (f := .glo "_law_open") rfl)⟩
  d_l_law_take := let ⟨fd, F⟩ := c.def_ 32 (d := mkD "_law_take" 49) rfl; ⟨_, fd, F, He.glo_ok X G (c.fact 60 (f := .glo "_law_take") rfl)⟩
  d_l_law_anew := let ⟨fd, F⟩ := c.def_ 33 (d := mkD "_law_anew" 50) rfl; ⟨_, fd, F, He.glo_ok X G (c.fact 61 (f := .glo "_law_anew") rfl)⟩
  d_l_law_one := let ⟨fd, F⟩ := c.def_ 34 (d := mkD "_law_one" 51) rfl; ⟨_, fd, F, He.glo_ok X G (c.fact 62 (f := .glo "_law_one") rfl)⟩
  d_l_law_columns := let ⟨fd, F⟩ := c.def_ 35 (d := mkD "_law_columns" 52) rfl; ⟨_, fd, F, He.glo_ok X G (c.fact 63 (f := .glo "_law_columns") rfl)⟩
  d_l_law_value := let ⟨fd, F⟩ := c.def_ 36 (d := mkD "_law_value" 53) rfl; ⟨_, fd, F, He.glo_ok X G (c.fact 64 (f := .glo "_law_value") rfl)⟩
  d_l_law_row := let ⟨fd, F⟩ := c.def_ 37 (d := mkD "_law_row" 54) rfl; ⟨_, fd, F, He.glo_ok X G (c.fact 65 (f := .glo "_law_row") rfl)⟩
  d_l_law_table := let ⟨fd, F⟩ := c.def_ 38 (d := mkD "_law_table" 55) rfl; ⟨_, fd, F, He.glo_ok X G (c.fact 66 (f := .glo "_law_table") rfl)⟩
  d_l_law_taken := let ⟨fd, F⟩ := c.def_ 39 (d := mkD "_law_taken" 56) rfl; ⟨_, fd, F, He.glo_ok X G (c.fact 67 (f := .glo "_law_taken") rfl)⟩
  d_l_law_many := let ⟨fd, F⟩ := c.def_ 40 (d := mkD "_law_many" 57) rfl; ⟨_, fd, F, He.glo_ok X G (c.fact 68 (f := .glo "_law_many") rfl)⟩
  d_l_law_drawn := let ⟨fd, F⟩ := c.def_ 41 (d := mkD "_law_drawn" 58) rfl; ⟨_, fd, F, He.glo_ok X G (c.fact 69 (f := .glo "_law_drawn") rfl)⟩
  d_l_law_right := let ⟨fd, F⟩ := c.def_ 42 (d := mkD "_law_right" 59) rfl; ⟨_, fd, F, He.glo_ok X G (c.fact 70 (f := .glo "_law_right") rfl)⟩
  d_law := let ⟨fd, F⟩ := c.def_ 43 (d := mkD "law" 60) rfl; ⟨_, fd, F, He.glo_ok X G (c.fact 71 (f := .glo "law") rfl)⟩
end T41
set_option maxHeartbeats 4000000
namespace DL
open PySem PySem.Spec PyProof.Rows L2
/-! # plain laws of the functions -/
def znj {α : Type} (x : DV) (t e : Res α) : Res α := match x with
  | .dat (.bl b) => bif b then t else e
  | _ => .bad
theorem xAnd_eq (f g : XFn) : xAnd f g = fun ρ S => (f ρ S).bind fun x S1 => znj x (g ρ S1) (.ok (.dat (.bl false)) S1) := by
  funext ρ S
  unfold xAnd znj
  congr 1
  funext x S1
  cases x with
  | dat d => cases d with
    | bl b => cases b <;> rfl
    | non => rfl
    | int i => rfl
    | str i => rfl
    | lst i => rfl
    | tup i => rfl
    | cas i => rfl
    | dct i => rfl
  | obj k => rfl
  | scr ns => rfl
  | exn c p => rfl
theorem xOr_eq (f g : XFn) : xOr f g = fun ρ S => (f ρ S).bind fun x S1 => znj x (.ok (.dat (.bl true)) S1) (g ρ S1) := by
  funext ρ S
  unfold xOr znj
  congr 1
  funext x S1
  cases x with
  | dat d => cases d with
    | bl b => cases b <;> rfl
    | non => rfl
    | int i => rfl
    | str i => rfl
    | lst i => rfl
    | tup i => rfl
    | cas i => rfl
    | dct i => rfl
  | obj k => rfl
  | scr ns => rfl
  | exn c p => rfl
theorem xChain_eq (o o' : Op2) (f g k : XFn) : zln o o' f g k = fun ρ S => (f ρ S).bind fun x S1 => (g ρ S1).bind fun y S2 => (o x y S2).bind fun z S3 => znj z ((k ρ S3).bind fun w S4 => o' y w S4) (.ok (.dat (.bl false)) S3) := by
  funext ρ S
  unfold zln znj
  congr 1
  funext x S1
  congr 1
  funext x S1
  congr 1
  funext x S1
  cases x with
  | dat d => cases d with
    | bl b => cases b <;> rfl
    | non => rfl
    | int i => rfl
    | str i => rfl
    | lst i => rfl
    | tup i => rfl
    | cas i => rfl
    | dct i => rfl
  | obj k => rfl
  | scr ns => rfl
  | exn c p => rfl
theorem zba (b : Bool) (S : zae) : zns (.dat (.bl b)) S = .ok b S := rfl
theorem za0 (S : zae) : zns (.dat .non) S = .ok false S := rfl
theorem zay (i : Int) (S : zae) : zns (.dat (.int i)) S = .ok (i != 0) S := rfl
theorem za1 (xs : List D) (S : zae) : zns (.dat (.lst xs)) S = .ok (!xs.isEmpty) S := rfl
theorem zaz (xs : List D) (S : zae) : zns (.dat (.tup xs)) S = .ok (!xs.isEmpty) S := rfl
theorem zc_ (n : Nat) (ρ : zan) (S : zae) : ends n (.nx ρ S) = .ok (.dat .non) (S.take n) := rfl
theorem zb9 (n : Nat) (v : DV) (S : zae) : ends n (.rt v S) = leave n v S := rfl
theorem zb5 (n : Nat) (c : Str) (ρ : zan) (S : zae) : ends n (.ex c ρ S) = .ex c (S.take n) := rfl
theorem zau (n : Nat) (d : D) (S : zae) : leave n (.dat d) S = .ok (.dat d) (S.take n) := rfl
def szB (n : Nat) : Bool := n.ble 16777216
theorem szB_iff {n : Nat} : n ≤ sizeLine ↔ szB n = true := by simp [szB, sizeLine]
theorem zbe (ds : List DV) (S : zae) : mkTup ds S = match dats ds with
  | some xs => bif szB xs.length then .ok (.dat (.tup xs)) S else .bad
  | none => .bad := by
  unfold mkTup
  cases dats ds with
  | none => rfl
  | some xs =>
    simp only [szB_iff]
    cases szB xs.length <;> rfl
theorem zbb (ds : List DV) (S : zae) : mkLst ds S = match dats ds with
  | some xs => bif szB xs.length then .ok (.dat (.lst xs)) S else .bad
  | none => .bad := by
  unfold mkLst
  cases dats ds with
  | none => rfl
  | some xs =>
    simp only [szB_iff]
    cases szB xs.length <;> rfl
theorem zf5 : szB 0 = true ∧ szB 1 = true ∧ szB 2 = true ∧ szB 3 = true ∧ szB 4 = true ∧ szB 5 = true ∧ szB 6 = true ∧ szB 7 = true ∧ szB 8 = true ∧ szB 9 = true ∧ szB 10 = true ∧ szB 11 = true ∧ szB 12 = true ∧ szB 13 = true := by decide
/-! ## applied -/
def RS.seq (r : RS) (g : SFn) : RS := match r with
  | .nx ρ' S' => g ρ' S'
  | r => r
theorem zcm (ρ : zan) (S : zae) (g : SFn) : (RS.nx ρ S).seq g = g ρ S := rfl
theorem zc7 (v : DV) (S : zae) (g : SFn) : (RS.rt v S).seq g = .rt v S := rfl
theorem zdf (c : Str) (ρ : zan) (S : zae) (g : SFn) : (RS.ex c ρ S).seq g = .ex c ρ S := rfl
theorem zc4 (ρ : zan) (S : zae) (g : SFn) : (RS.bk ρ S).seq g = .bk ρ S := rfl
theorem zc2 (ρ : zan) (S : zae) (g : SFn) : (RS.ct ρ S).seq g = .ct ρ S := rfl
theorem zbc (b : Bool) (x y : RS) (g : SFn) : (bif b then x else y).seq g = bif b then x.seq g else y.seq g := by cases b <;> rfl
theorem zar (n : Nat) (b : Bool) (x y : RS) : ends n (bif b then x else y) = bif b then ends n x else ends n y := by cases b <;> rfl
theorem c_ok {α : Type} (b : Bool) (x y : α) (S : zae) : (bif b then Res.ok x S else Res.ok y S) = Res.ok (bif b then x else y) S := by cases b <;> rfl
theorem zf6 (b : Bool) (x y : D) : (bif b then DV.dat x else DV.dat y) = DV.dat (bif b then x else y) := by cases b <;> rfl
theorem c_bl (b : Bool) (x y : Bool) : (bif b then D.bl x else D.bl y) = D.bl (bif b then x else y) := by cases b <;> rfl
theorem zfo (b : Bool) (x y : Int) : (bif b then D.int x else D.int y) = D.int (bif b then x else y) := by cases b <;> rfl
theorem zfe (b x : Bool) : (bif b then x else false) = (b && x) := by cases b <;> rfl
theorem c_or (b x : Bool) : (bif b then true else x) = (b || x) := by cases b <;> rfl
theorem zdl (b x : Bool) : (bif b then false else x) = (!b && x) := by cases b <;> rfl
section
variable (ρ : zan) (S : zae) (f g k : XFn) (fa ga : AFn) (fs gs hs : SFn) (t u : TFn) (l : LFn) (G : GFn)
theorem zdm (i : Nat) : xVar i ρ S = match ρ[i]? with
  | some (some dv) => .ok dv S
  | _ => .bad := rfl
theorem a_c (d : D) : xC d ρ S = .ok (.dat d) S := rfl
theorem a_x2 (o : Op2) : x2 o f g ρ S = (f ρ S).bind fun x S1 => (g ρ S1).bind fun y S2 => o x y S2 := rfl
theorem a_o2 (o : D → D → Option D) (x y : D) : o2 o (.dat x) (.dat y) S = res1 (o x y) S := rfl
theorem zdh (d : D) : res1 (some d) S = .ok (.dat d) S := rfl
theorem a_xN (o : OpN) : xN o fa ρ S = (fa ρ S).bind o := rfl
theorem zf8 : aNil ρ S = .ok [] S := rfl
theorem zdp : zac f fa ρ S = (f ρ S).bind fun d S1 => (fa ρ S1).bind fun ds S2 => .ok (d :: ds) S2 := rfl
theorem a_o1 (o : D → Option D) (d : D) : o1 o [.dat d] S = res1 (o d) S := rfl
theorem zfr : xN1 l ρ S = (l ρ S).bind fun ds S1 => .ok (.dat (.lst ds)) S1 := rfl
theorem zfp : xTup fa ρ S = (fa ρ S).bind mkTup := rfl
theorem zgt : xLst fa ρ S = (fa ρ S).bind mkLst := rfl
theorem zfs : tBl f ρ S = (f ρ S).bind bool1 := rfl
theorem zfy : tTr f ρ S = (f ρ S).bind zns := rfl
theorem zga : tNo t ρ S = (t ρ S).bind fun b S1 => .ok (!b) S1 := rfl
theorem zfm : tAn t u ρ S = (t ρ S).bind fun b S1 => bif b then u ρ S1 else .ok false S1 := by
  show (t ρ S).bind _ = _
  congr 1
  funext b S1
  cases b <;> rfl
theorem zf4 : tOr_ t u ρ S = (t ρ S).bind fun b S1 => bif b then .ok true S1 else u ρ S1 := by
  show (t ρ S).bind _ = _
  congr 1
  funext b S1
  cases b <;> rfl
theorem zbz (b : Bool) : bool1 (.dat (.bl b)) S = .ok b S := rfl
theorem zb4 {α : Type} (b : Bool) (x y : Res α) : znj (.dat (.bl b)) x y = bif b then x else y := rfl
theorem zfl : xAnd f g ρ S = (f ρ S).bind fun x S1 => znj x (g ρ S1) (.ok (.dat (.bl false)) S1) := by rw [xAnd_eq]
theorem a_or : xOr f g ρ S = (f ρ S).bind fun x S1 => znj x (.ok (.dat (.bl true)) S1) (g ρ S1) := by rw [xOr_eq]
theorem zcd (o o' : Op2) : zln o o' f g k ρ S = (f ρ S).bind fun x S1 => (g ρ S1).bind fun y S2 => (o x y S2).bind fun z S3 => znj z ((k ρ S3).bind fun w S4 => o' y w S4) (.ok (.dat (.bl false)) S3) := by rw [xChain_eq]
theorem zfn : xNot f ρ S = (f ρ S).bind nDV := rfl
theorem zgf (b : Bool) : nDV (.dat (.bl b)) S = .ok (.dat (.bl (!b))) S := rfl
theorem zfg : xNeg f ρ S = (f ρ S).bind neg1 := rfl
theorem zc0 (i : Int) : neg1 (.dat (.int i)) S = .ok (.dat (.int (-i))) S := rfl
theorem a_if : xIf t f g ρ S = (t ρ S).bind fun b S1 => bif b then f ρ S1 else g ρ S1 := by
  show (t ρ S).bind _ = _
  congr 1
  funext b S1
  cases b <;> rfl
theorem zft (T : String) : xIsi T f ρ S = (f ρ S).bind (oIsi T) := rfl
theorem zc1 (T : String) (d : D) : oIsi T (.dat d) S = .ok (.dat (.bl (isiB T d))) S := rfl
theorem a_it : lIt f ρ S = (f ρ S).bind zg0 := rfl
theorem zax (xs : List D) : zg0 (.dat (.lst xs)) S = .ok xs S := rfl
theorem zaw (xs : List D) : zg0 (.dat (.tup xs)) S = .ok xs S := rfl
theorem zf3 : zdw ρ S = .ok true S := rfl
theorem ze1 : sSeq fs gs ρ S = (fs ρ S).seq gs := rfl
theorem zc9 : sNil ρ S = .nx ρ S := rfl
theorem zgh : sRet f ρ S = (f ρ S).bindS ρ fun v S1 => .rt v S1 := rfl
theorem zgd (i : Nat) : sSet i f ρ S = (f ρ S).bindS ρ fun v S1 => .nx (ρ.set i (some v)) S1 := rfl
theorem zdk : zk0 f ρ S = (f ρ S).bindS ρ fun _ S1 => .nx ρ S1 := rfl
theorem zfh : sIf t fs gs ρ S = (t ρ S).bindS ρ fun b S1 => bif b then fs ρ S1 else gs ρ S1 := by
  show (t ρ S).bindS ρ _ = _
  congr 1
  funext b S1
  cases b <;> rfl
theorem zcf (c : Str) : zlr c ρ S = .ex c ρ S := rfl
theorem zf0 (i j : Nat) : sPar i j f g ρ S = (f ρ S).bindS ρ fun x S1 => (g ρ S1).bindS ρ fun y S2 => .nx ((ρ.set i (some x)).set j (some y)) S2 := rfl
theorem a_tg : sTg G f ρ S = (f ρ S).bindS ρ fun v S1 => match v with
  | .dat d => (match G d ρ with
    | some ρ' => .nx ρ' S1
    | none => .bad)
  | _ => .bad := rfl
theorem a_fn (N : Nat) (ds : List DV) : za7 N fs ds S = ends S.length (fs (ds.map some ++ List.replicate (N - ds.length) none) S) := rfl
theorem zgb (i : Nat) (d : D) : gNm i d ρ = some (ρ.set i (some (.dat d))) := rfl
theorem zgn (q : GsFn) (ds : List D) : gTp q (.tup ds) ρ = q ds ρ := rfl
theorem zfv : gNo [] ρ = some ρ := rfl
theorem zff (q : GsFn) (d : D) (ds : List D) : gCo G q (d :: ds) ρ = (G d ρ).bind (q ds) := rfl
theorem zfq : sFor l G fs ρ S = (l ρ S).bindS ρ fun ds S1 => zfk G fs ds ρ S1 := rfl
theorem a_lc (own : List Nat) : lLc l own G t f ρ S = (l ρ S).bind fun ds S1 => bif szB ds.length then lcGo G t f (zh2 ρ own) ds S1 else .bad := by
  show (l ρ S).bind _ = _
  congr 1
  funext ds S1
  simp only [szB_iff]
  cases szB ds.length <;> rfl
theorem zfw : lRg1 fa ρ S = (fa ρ S).bind rng1 := rfl
theorem zgj : lRg2 fa ρ S = (fa ρ S).bind rng2 := rfl
theorem zgp (i : Nat) : sNew i l ρ S = (l ρ S).bindS ρ fun ds S1 => .nx (ρ.set i (some (.obj S1.length))) (S1 ++ [some ds]) := rfl
theorem zc8 : lLst fa ρ S = (fa ρ S).bind fun ds S1 => match dats ds with
  | some xs => bif szB xs.length then .ok xs S1 else .bad
  | none => .bad := by
  show (fa ρ S).bind _ = _
  congr 1
  funext ds S1
  cases dats ds with
  | none => rfl
  | some xs =>
    simp only [szB_iff]
    cases szB xs.length <;> rfl
theorem zb8 : dats [] = some [] := rfl
theorem zb6 (d : D) (r : List DV) : dats (.dat d :: r) = (dats r).map (d :: ·) := rfl
theorem zc3 (r : List D) (d : D) : (some r).map (d :: ·) = some (d :: r) := rfl
theorem zb0 : zh2 ρ [] = ρ := rfl
theorem zb7 (i : Nat) (r : List Nat) : zh2 ρ (i :: r) = (zh2 ρ r).set i none := rfl
theorem a_sl (l h : PFn) : xSl f l h ρ S = (f ρ S).bind fun x S1 => (l ρ S1).bind fun lo S2 => (h ρ S2).bind fun hi S3 => oSl x lo hi S3 := rfl
theorem zgo : pNo ρ S = .ok none S := rfl
theorem zgw : pEx f ρ S = (f ρ S).bind asInt := rfl
theorem zce (i : Int) : asInt (.dat (.int i)) S = .ok (some i) S := rfl
theorem zdg (i : Nat) : sFrz i ρ S = match ρ[i]? with
  | some (some x) => (match zdv S x with
    | some (k, ds) => .nx (ρ.set i (some (.dat (.lst ds)))) (S.set k none)
    | none => .bad)
  | _ => .bad := rfl
theorem zgu : lZip f g ρ S = (f ρ S).bind fun x S1 => (g ρ S1).bind fun y S2 => zip2 x y S2 := rfl
theorem zc6 (xs ys : List D) : zip2 (.dat (.tup xs)) (.dat (.tup ys)) S = .ok (zipD xs ys) S := rfl
theorem zdi (xs ys : List D) : zip2 (.dat (.lst xs)) (.dat (.lst ys)) S = .ok (zipD xs ys) S := rfl
theorem zdd : lEnum f ρ S = (f ρ S).bind enum1 := rfl
theorem zb1 (xs : List D) : enum1 (.dat (.lst xs)) S = .ok (zlz xs) S := rfl
theorem zbv (xs : List D) : enum1 (.dat (.tup xs)) S = .ok (zlz xs) S := rfl
theorem zcn : zg1 f ρ S = (f ρ S).bind zne := rfl
theorem a_rd (d : D) : rd S (.dat d) = some d := rfl
end
theorem zge {G : GFn} {t : TFn} {f : XFn} {ρ : zan} {S : zae} {q : D → D} : ∀ (xs : List D), (∀ a ∈ xs, ∃ ρ1, G a ρ = some ρ1 ∧ t ρ1 S = .ok true S ∧ f ρ1 S = .ok (.dat (q a)) S) → lcGo G t f ρ xs S = .ok (xs.map q) S
  | [], _ => rfl
  | a :: r, h => by
    obtain ⟨ρ1, h1, h2, h3⟩ := h a (List.mem_cons_self ..)
    have ih := zge (G := G) (t := t) (f := f) (ρ := ρ) (S := S) (q := q) r fun b hb => h b (List.mem_cons_of_mem _ hb)
    simp only [List.map_cons, lcGo, h1, h2, h3, Res.bindN_ok, if_true, ih]
theorem zlv {G : GFn} {t : TFn} {f : XFn} {ρ : zan} {S : zae} {q : D → D} {p : D → Bool} : ∀ (xs : List D), (∀ a ∈ xs, ∃ ρ1, G a ρ = some ρ1 ∧ t ρ1 S = .ok (p a) S ∧ (p a = true → f ρ1 S = .ok (.dat (q a)) S)) → lcGo G t f ρ xs S = .ok ((xs.filter p).map q) S
  | [], _ => rfl
  | a :: r, h => by
    obtain ⟨ρ1, h1, h2, h3⟩ := h a (List.mem_cons_self ..)
    have ih := zlv (G := G) (t := t) (f := f) (ρ := ρ) (S := S) (q := q) (p := p) r fun b hb => h b (List.mem_cons_of_mem _ hb)
    cases hp : p a with
    | false => simp only [lcGo, h1, h2, hp, Res.bindN_ok, ih, List.filter_cons, Bool.false_eq_true, if_false]
    | true => simp only [List.map_cons, lcGo, h1, h2, h3 hp, hp, Res.bindN_ok, if_true, ih, List.filter_cons]
theorem zcj {G : GFn} {t : TFn} {f : XFn} {ρ : zan} {S : zae} {α : Type} {enc : α → D} {q : α → D} : ∀ (xs : List α), (∀ a ∈ xs, ∃ ρ1, G (enc a) ρ = some ρ1 ∧ t ρ1 S = .ok true S ∧ f ρ1 S = .ok (.dat (q a)) S) → lcGo G t f ρ (xs.map enc) S = .ok (xs.map q) S
  | [], _ => rfl
  | a :: r, h => by
    obtain ⟨ρ1, h1, h2, h3⟩ := h a (List.mem_cons_self ..)
    have ih := zcj (G := G) (t := t) (f := f) (ρ := ρ) (S := S) (enc := enc) (q := q) r fun b hb => h b (List.mem_cons_of_mem _ hb)
    simp only [List.map_cons, lcGo, h1, h2, h3, Res.bindN_ok, if_true, ih]
theorem zcs {G : GFn} {t : TFn} {f : XFn} {ρ : zan} {S : zae} {α : Type} {enc : α → D} {q : α → D} {p : α → Bool} : ∀ (xs : List α), (∀ a ∈ xs, ∃ ρ1, G (enc a) ρ = some ρ1 ∧ t ρ1 S = .ok (p a) S ∧ (p a = true → f ρ1 S = .ok (.dat (q a)) S)) → lcGo G t f ρ (xs.map enc) S = .ok ((xs.filter p).map q) S
  | [], _ => rfl
  | a :: r, h => by
    obtain ⟨ρ1, h1, h2, h3⟩ := h a (List.mem_cons_self ..)
    have ih := zcs (G := G) (t := t) (f := f) (ρ := ρ) (S := S) (enc := enc) (q := q) (p := p) r fun b hb => h b (List.mem_cons_of_mem _ hb)
    cases hp : p a with
    | false => simp only [List.map_cons, lcGo, h1, h2, hp, Res.bindN_ok, ih, List.filter_cons, Bool.false_eq_true, if_false]
    | true => simp only [List.map_cons, lcGo, h1, h2, h3 hp, hp, Res.bindN_ok, if_true, ih, List.filter_cons]
theorem zjz {α : Type} (p : α → Bool) : ∀ xs : List α, zhq (xs.map fun a => .bl (p a)) = some (xs.map p)
  | [] => rfl
  | a :: r => by simp [zhq, zjz p r]
theorem ze2 {α : Type} (p : α → Bool) (xs : List α) : dAll (.lst (xs.map fun a => .bl (p a))) = some (.bl (xs.all p)) := by
  simp [dAll, zjz, List.all_map, Function.comp_def]
theorem dAny_map {α : Type} (p : α → Bool) (xs : List α) : dAny (.lst (xs.map fun a => .bl (p a))) = some (.bl (xs.any p)) := by
  simp [dAny, zjz, List.any_map, Function.comp_def]
/-! ## isinstance -/
def D.isI : D → Bool | .int _ => true | .bl _ => true | _ => false
def D.isB : D → Bool | .bl _ => true | _ => false
def D.isT : D → Bool | .tup _ => true | _ => false
def D.isL : D → Bool | .lst _ => true | _ => false
def D.isS : D → Bool | .str _ => true | _ => false
theorem zcg (d : D) : isiB "int" d = d.isI := by cases d <;> rfl
theorem zbh (d : D) : isiB "bool" d = d.isB := by cases d <;> rfl
theorem zav (d : D) : isiB "tuple" d = d.isT := by cases d <;> rfl
theorem zbd (d : D) : isiB "list" d = d.isL := by cases d <;> rfl
theorem zb3 (d : D) : isiB "str" d = d.isS := by cases d <;> rfl
/-! ## operators -/
theorem zgv (i j : Int) : dLt (.int i) (.int j) = some (.bl (decide (i < j))) := rfl
theorem zfj (i j : Int) : dLe (.int i) (.int j) = some (.bl (decide (i ≤ j))) := rfl
theorem zfz (i j : Int) : dGt (.int i) (.int j) = some (.bl (decide (i > j))) := rfl
theorem zgl (i j : Int) : dGe (.int i) (.int j) = some (.bl (decide (i ≥ j))) := rfl
theorem zdn (i j : Int) : dAdd (.int i) (.int j) = some (.int (i + j)) := rfl
theorem zc5 (i j : Int) : dSub (.int i) (.int j) = some (.int (i - j)) := rfl
def D.isN : D → Bool | .non => true | _ => false
theorem zcc (d : D) : dIsN d .non = some (.bl d.isN) := by cases d <;> rfl
theorem zbg (d : D) : dNotN d .non = some (.bl (!d.isN)) := by cases d <;> rfl
theorem zdb (xs : List D) : dLen (.lst xs) = some (.int xs.length) := rfl
theorem zct (xs : List D) : dLen (.tup xs) = some (.int xs.length) := rfl
theorem zfx (xs : List D) (i : Int) : dIx (.lst xs) (.int i) = atI xs i := rfl
theorem zgi (xs : List D) (i : Int) : dIx (.tup xs) (.int i) = atI xs i := rfl
theorem zcb (xs : List D) : dList (.lst xs) = some (.lst xs) := rfl
theorem zca (xs : List D) : dList (.tup xs) = some (.lst xs) := rfl
theorem zbf (xs : List D) : dTuple (.lst xs) = some (.tup xs) := rfl
theorem zbi (xs : List D) : dTuple (.tup xs) = some (.tup xs) := rfl
/-! ## == of data without zns values -/
mutual
def D.noB : D → Bool
  | .bl _ => false
  | .cas _ => false
  | .dct _ => false
  | .lst xs => D.noBs xs
  | .tup xs => D.noBs xs
  | _ => true
def D.noBs : List D → Bool
  | [] => true
  | x :: xs => D.noB x && D.noBs xs
end
mutual
theorem eqv_iff : ∀ a b : D, a.noB = true → b.noB = true → (PyData.eqv a.py b.py = true ↔ a = b)
  | .non, b, _, h2 => by cases b <;> simp_all [D.py, PyData.eqv, D.noB]
  | .bl _, _, h1, _ => by simp [D.noB] at h1
  | .cas _, _, h1, _ => by simp [D.noB] at h1
  | .dct _, _, h1, _ => by simp [D.noB] at h1
  | .int i, b, _, h2 => by cases b <;> simp_all [D.py, PyData.eqv, D.noB]
  | .str i, b, _, h2 => by cases b <;> simp_all [D.py, PyData.eqv, D.noB]
  | .lst xs, b, h1, h2 => by
    cases b with
    | lst ys => simp only [D.py, PyData.eqv, D.lst.injEq]; exact eqvs_iff xs ys (by simpa [D.noB] using h1) (by simpa [D.noB] using h2)
    | _ => simp_all [D.py, PyData.eqv, D.noB]
  | .tup xs, b, h1, h2 => by
    cases b with
    | tup ys => simp only [D.py, PyData.eqv, D.tup.injEq]; exact eqvs_iff xs ys (by simpa [D.noB] using h1) (by simpa [D.noB] using h2)
    | _ => simp_all [D.py, PyData.eqv, D.noB]
theorem eqvs_iff : ∀ a b : List D, D.noBs a = true → D.noBs b = true → (PyData.eqvAll (D.pys a) (D.pys b) = true ↔ a = b)
  | [], [], _, _ => by simp [D.pys, PyData.eqvAll]
  | [], _ :: _, _, _ => by simp [D.pys, PyData.eqvAll]
  | _ :: _, [], _, _ => by simp [D.pys, PyData.eqvAll]
  | x :: xs, y :: ys, h1, h2 => by
    have q1 : x.noB = true ∧ D.noBs xs = true := by simpa [D.noBs] using h1
    have q2 : y.noB = true ∧ D.noBs ys = true := by simpa [D.noBs] using h2
    simp only [D.pys, PyData.eqvAll, Bool.and_eq_true, eqv_iff x y q1.1 q2.1, eqvs_iff xs ys q1.2 q2.2, List.cons.injEq]
end
theorem zl9 {a b : D} (h1 : a.noB = true) (h2 : b.noB = true) : dEqB a b = true ↔ a = b := eqv_iff a b h1 h2
theorem noBs_iff : ∀ {xs : List D}, D.noBs xs = true ↔ ∀ x ∈ xs, x.noB = true
  | [] => by simp [D.noBs]
  | x :: xs => by simp [D.noBs, noBs_iff (xs := xs)]
/-! ## where == is served -/
mutual
def D.fit : Nat → D → Bool
  | _, .non => true
  | _, .bl _ => true
  | _, .int _ => true
  | _, .str x => PyData.strOk x
  | _, .cas _ => false
  | _, .dct _ => false
  | 0, .lst _ => false
  | 0, .tup _ => false
  | n + 1, .lst xs => D.fits n xs
  | n + 1, .tup xs => D.fits n xs
def D.fits : Nat → List D → Bool
  | _, [] => true
  | n, x :: xs => D.fit n x && D.fits n xs
end
theorem fits_iff {n : Nat} : ∀ {xs : List D}, D.fits n xs = true ↔ ∀ x ∈ xs, x.fit n = true
  | [] => by simp [D.fits]
  | x :: xs => by simp [D.fits, fits_iff (xs := xs)]
mutual
theorem zmo : ∀ (n : Nat) (d : D), d.fit n = true → d.py.canLay0 = true ∧ d.py.depth ≤ n
  | _, .non, _ => by simp [D.py, PyData.canLay0, PyData.depth]
  | _, .bl _, _ => by simp [D.py, PyData.canLay0, PyData.depth]
  | _, .int _, _ => by simp [D.py, PyData.canLay0, PyData.depth]
  | n, .str x, h => by cases n <;> (simp only [D.fit] at h; simp [D.py, PyData.canLay0, PyData.depth, h])
  | 0, .lst _, h => by simp [D.fit] at h
  | 0, .tup _, h => by simp [D.fit] at h
  | n, .cas _, h => by cases n <;> simp [D.fit] at h
  | n, .dct _, h => by cases n <;> simp [D.fit] at h
  | n + 1, .lst xs, h => by
    have := fits_py n xs (by simpa [D.fit] using h)
    simp only [D.py, PyData.canLay0, PyData.depth]
    exact ⟨this.1, by omega⟩
  | n + 1, .tup xs, h => by
    have := fits_py n xs (by simpa [D.fit] using h)
    simp only [D.py, PyData.canLay0, PyData.depth]
    exact ⟨this.1, by omega⟩
theorem fits_py : ∀ (n : Nat) (ds : List D), D.fits n ds = true → PyData.canLayAll0 (D.pys ds) = true ∧ PyData.depthAll (D.pys ds) ≤ n
  | _, [], _ => by simp [D.pys, PyData.canLayAll0, PyData.depthAll]
  | n, x :: xs, h => by
    have h' : x.fit n = true ∧ D.fits n xs = true := by simpa [D.fits] using h
    have a := zmo n x h'.1
    have b := fits_py n xs h'.2
    simp only [D.pys, PyData.canLayAll0, PyData.depthAll, a.1, b.1, Bool.and_self, true_and]
    omega
end
theorem zo6 {n m : Nat} {a b : D} (ha : a.fit n = true) (hb : b.fit m = true) (h : n ≤ 64 := by decide) : dEq a b = some (.bl (dEqB a b)) := by
  have p := zmo n a ha
  have q := zmo m b hb
  have : znw a b = true := by
    simp only [znw, p.1, q.1, Bool.true_and, decide_eq_true_eq]
    omega
  simp only [dEq, this, if_true]
theorem dNe_fit {n m : Nat} {a b : D} (ha : a.fit n = true) (hb : b.fit m = true) (h : n ≤ 64 := by decide) : dNe a b = some (.bl (!dEqB a b)) := by
  have p := zmo n a ha
  have q := zmo m b hb
  have : znw a b = true := by
    simp only [znw, p.1, q.1, Bool.true_and, decide_eq_true_eq]
    omega
  simp only [dNe, this, if_true]
theorem canIn_fit {n m : Nat} {a : D} {xs : List D} (ha : a.fit n = true) (hb : D.fits m xs = true) (h : n ≤ 64) : canIn a xs = true := by
  have p := zmo n a ha
  have q := fits_py m xs hb
  simp only [canIn, p.1, q.1, Bool.true_and, decide_eq_true_eq]
  omega
theorem dIn_l {n m : Nat} {a : D} {xs : List D} (ha : a.fit n = true) (hb : D.fits m xs = true) (h : n ≤ 64 := by decide) : dIn a (.lst xs) = some (.bl (dInB a xs)) := by simp only [dIn, canIn_fit ha hb h, if_true]
theorem dIn_t {n m : Nat} {a : D} {xs : List D} (ha : a.fit n = true) (hb : D.fits m xs = true) (h : n ≤ 64 := by decide) : dIn a (.tup xs) = some (.bl (dInB a xs)) := by simp only [dIn, canIn_fit ha hb h, if_true]
theorem zn9 (i j : Int) : dEq (.int i) (.int j) = some (.bl (i == j)) := zo6 (n := 0) (m := 0) rfl rfl
theorem zlp (i j : Int) : dNe (.int i) (.int j) = some (.bl (!(i == j))) := dNe_fit (n := 0) (m := 0) rfl rfl
theorem eqs_ints : ∀ a b : List Int, PyData.eqvAll (D.pys (a.map .int)) (D.pys (b.map .int)) = decide (a = b)
  | [], [] => by simp [D.pys, PyData.eqvAll]
  | [], _ :: _ => by simp [D.pys, PyData.eqvAll]
  | _ :: _, [] => by simp [D.pys, PyData.eqvAll]
  | x :: xs, y :: ys => by
    simp only [List.map_cons, D.pys, D.py, PyData.eqvAll, PyData.eqv, eqs_ints xs ys, List.cons.injEq, Bool.decide_and]
    congr 1
theorem zi3 (n : Nat) : ∀ a : List Int, D.fits n (a.map .int) = true
  | [] => rfl
  | x :: xs => by simp only [List.map_cons, D.fits, D.fit, zi3 n xs, Bool.and_self]
theorem dEq_ints (a b : List Int) : dEq (.lst (a.map .int)) (.lst (b.map .int)) = some (.bl (decide (a = b))) := by
  rw [zo6 (n := 1) (m := 1) (by simp only [D.fit, zi3]) (by simp only [D.fit, zi3])]
  simp only [dEqB, D.py, PyData.eqv, eqs_ints]
theorem zel : ∀ a : List Int, zhj (a.map .int) = some a
  | [] => rfl
  | x :: xs => by simp only [List.map_cons, zhj, zel xs, Option.map_some]
theorem sort_ints (a : List Int) (h : a.length < 64) (S : zae) : zne (.dat (.lst (a.map .int))) S = .ok ((sset a).map .int) S := by simp only [zne, rd, zel, if_pos h]
theorem sort_intsT (a : List Int) (h : a.length < 64) (S : zae) : zne (.dat (.tup (a.map .int))) S = .ok ((sset a).map .int) S := by simp only [zne, rd, zel, if_pos h]
theorem dInB_ints (i : Int) (a : List Int) : dInB (.int i) (a.map .int) = decide (i ∈ a) := by
  induction a with
  | nil => rfl
  | cons x xs ih =>
    simp only [dInB, List.map_cons, List.any_cons] at ih ⊢
    rw [ih]
    simp only [dEqB, D.py, PyData.eqv, List.mem_cons, Bool.decide_or]
    congr 1
    by_cases h : x = i
    · subst h; simp
    · have h2 : ¬ i = x := fun e => h e.symm
      simp [h, h2]
theorem lit2 : (((0 : Nat) : Int) == 2) = false ∧ (((1 : Nat) : Int) == 2) = false ∧ (((2 : Nat) : Int) == 2) = true ∧ (((3 : Nat) : Int) == 2) = false := ⟨rfl, rfl, rfl, rfl⟩
theorem lit3 : (((0 : Nat) : Int) == 3) = false ∧ (((1 : Nat) : Int) == 3) = false ∧ (((2 : Nat) : Int) == 3) = false ∧ (((3 : Nat) : Int) == 3) = true := ⟨rfl, rfl, rfl, rfl⟩
/-! ## loops -/
theorem zm7 {α : Type} {enc : α → D} {G : GFn} {f : SFn} (I : List α → zan → zae → Prop) : ∀ (post pre : List α) (ρ : zan) (S : zae), I pre ρ S →
    (∀ pre1 a post1 ρ S, pre ++ post = pre1 ++ a :: post1 → I pre1 ρ S → ∃ ρ1 ρ2 S2, G (enc a) ρ = some ρ1 ∧ (f ρ1 S = .nx ρ2 S2 ∨ f ρ1 S = .ct ρ2 S2) ∧ I (pre1 ++ [a]) ρ2 S2) →
    ∃ ρ' S', zfk G f (post.map enc) ρ S = .nx ρ' S' ∧ I (pre ++ post) ρ' S'
  | [], pre, ρ, S, h0, _ => ⟨ρ, S, rfl, by simpa using h0⟩
  | a :: post, pre, ρ, S, h0, hs => by
    obtain ⟨ρ1, ρ2, S2, e1, e2, h1⟩ := hs pre a post ρ S rfl h0
    obtain ⟨ρ', S', e3, h3⟩ := zm7 (enc := enc) (G := G) (f := f) I post (pre ++ [a]) ρ2 S2 h1 (fun pre1 b post1 ρ S e h => hs pre1 b post1 ρ S (by simpa using e) h)
    refine ⟨ρ', S', ?_, by simpa using h3⟩
    simp only [List.map_cons, zfk, e1]
    rcases e2 with e2 | e2 <;> simp only [e2, e3]
theorem zk1 {α β : Type} {enc : α → D} {eb : β → D} {q : α → List β} {G : GFn} {f : SFn} {S0 : zae} {P : zan → Prop} : ∀ (xs : List α) (ρ : zan) (ds0 : List D), ds0.length + (xs.flatMap q).length ≤ sizeLine → P ρ →
    (∀ a ∈ xs, ∀ ρ ds, P ρ → ds.length + (q a).length ≤ sizeLine → ∃ ρ1 ρ2, G (enc a) ρ = some ρ1 ∧ f ρ1 (S0 ++ [some ds]) = .nx ρ2 (S0 ++ [some (ds ++ (q a).map eb)]) ∧ P ρ2) →
    ∃ ρ', zfk G f (xs.map enc) ρ (S0 ++ [some ds0]) = .nx ρ' (S0 ++ [some (ds0 ++ (xs.flatMap q).map eb)]) ∧ P ρ'
  | [], ρ, ds0, _, h0, _ => ⟨ρ, by simp [zfk], h0⟩
  | a :: r, ρ, ds0, hb, h0, hs => by
    simp only [List.flatMap_cons, List.length_append] at hb
    obtain ⟨ρ1, ρ2, e1, e2, h1⟩ := hs a (List.mem_cons_self ..) ρ ds0 h0 (by omega)
    obtain ⟨ρ', e3, h3⟩ := zk1 (q := q) (eb := eb) (enc := enc) (G := G) (f := f) (S0 := S0) (P := P) r ρ2 (ds0 ++ (q a).map eb) (by simp only [List.length_append, List.length_map]; omega) h1 (fun b hb => hs b (List.mem_cons_of_mem _ hb))
    refine ⟨ρ', ?_, h3⟩
    simp only [List.map_cons, zfk, e1, e2, e3, List.flatMap_cons, List.map_append, List.append_assoc]
theorem zm6 (S0 : zae) (x : Option (List D)) : (S0 ++ [x])[S0.length]? = some x := by simp
theorem zbs (S0 : zae) (x y : Option (List D)) : (S0 ++ [x]).set S0.length y = S0 ++ [y] := by simp
theorem zb_ (S0 : zae) (x : Option (List D)) : (S0 ++ [x]).take S0.length = S0 := by simp
theorem app_end {i : Nat} {g : XFn} {ρ : zan} {S0 : zae} {ds : List D} {d : D} (hi : ρ[i]? = some (some (.obj S0.length))) (hg : g ρ (S0 ++ [some ds]) = .ok (.dat d) (S0 ++ [some ds])) (hl : ds.length < sizeLine) :
    sApp (xVar i) g ρ (S0 ++ [some ds]) = .nx ρ (S0 ++ [some (ds ++ [d])]) := by
  have e1 : xVar i ρ (S0 ++ [some ds]) = .ok (.obj S0.length) (S0 ++ [some ds]) := by unfold xVar; rw [hi]
  simp only [sApp, e1, Res.bindS_ok, zdv, zm6, hg, putApp, if_pos hl, zbs]
theorem ext_end {i : Nat} {g : XFn} {ρ : zan} {S0 : zae} {ds es : List D} (hi : ρ[i]? = some (some (.obj S0.length))) (hg : g ρ (S0 ++ [some ds]) = .ok (.dat (.lst es)) (S0 ++ [some ds])) (hl : ds.length + es.length ≤ sizeLine) :
    sExt (xVar i) g ρ (S0 ++ [some ds]) = .nx ρ (S0 ++ [some (ds ++ es)]) := by
  have e1 : xVar i ρ (S0 ++ [some ds]) = .ok (.obj S0.length) (S0 ++ [some ds]) := by unfold xVar; rw [hi]
  simp only [sExt, e1, Res.bindS_ok, zdv, zm6, hg, putExt, if_pos hl, zbs]
theorem range_map (n : Nat) : zld 0 n = (List.range n).map fun i => .int ((i : Nat) : Int) := by simp [zld]
theorem zkw {n : Nat} (h : n ≤ sizeLine) (S : zae) : rng1 [.dat (.int (n : Nat))] S = .ok ((List.range n).map fun i => .int ((i : Nat) : Int)) S := by
  unfold sizeLine at h
  simp only [rng1, if_pos (show -(2 ^ 62) ≤ (n : Int) ∧ (n : Int) < 2 ^ 62 by omega), Int.toNat_natCast, range_map]
theorem leave_end (S0 : zae) (ds : List D) : leave S0.length (.obj S0.length) (S0 ++ [some ds]) = .ok (.obj S0.length) (S0 ++ [some ds]) := by
  simp only [leave, Nat.lt_irrefl, if_false, zm6, zb_]
theorem atI_nat {α : Type} {xs : List α} {n : Nat} (d : α) (h : n < xs.length) : atI xs (n : Nat) = some (xs.getD n d) := by
  have h1 : (n : Int) < xs.length := by omega
  unfold atI ixN
  rw [if_pos (Int.natCast_nonneg n), if_pos h1, List.getD_eq_getElem?_getD]
  simp only [Option.bind_some, Int.toNat_natCast]
  rw [List.getElem?_eq_getElem h]
  rfl
theorem zd0 {α : Type} {xs : List α} {n : Nat} (e : α → D) (d : α) (h : n < xs.length) : atI (xs.map e) (n : Nat) = some (e (xs.getD n d)) := by
  rw [atI_nat (e d) (by simpa using h)]
  simp [List.getD_eq_getElem?_getD, List.getElem?_map, List.getElem?_eq_getElem h]
theorem zes {n : Nat} (h : n ≤ 16000000) : n ≤ sizeLine := by unfold sizeLine; omega
theorem zbw {n : Nat} (h : n ≤ 16777216) : szB n = true := szB_iff.mp (by unfold sizeLine; omega)
theorem zap (S0 : zae) (ds : List D) : zdv (S0 ++ [some ds]) (.obj S0.length) = some (S0.length, ds) := by simp only [zdv, zm6]
theorem zcz (S0 : zae) (ds : List D) : rd (S0 ++ [some ds]) (.obj S0.length) = some (.lst ds) := by simp only [rd, zm6]
theorem zcu (f : XFn) (g : AFn) (ρ : zan) (S : zae) : aStar f g ρ S = (f ρ S).bind fun x S1 => match rd S1 x with
  | some (.lst xs) => (g ρ S1).bind fun ds S2 => .ok (xs.map .dat ++ ds) S2
  | some (.tup xs) => (g ρ S1).bind fun ds S2 => .ok (xs.map .dat ++ ds) S2
  | _ => .bad := rfl
theorem za6 : ∀ xs : List D, dats (xs.map .dat) = some xs
  | [] => rfl
  | x :: xs => by simp only [List.map_cons, dats, za6 xs, Option.map_some]
theorem zal (S0 : zae) (ds : List D) : leave S0.length (.obj S0.length) (S0 ++ [some ds]) = .ok (.obj S0.length) (S0 ++ [some ds]) := leave_end S0 ds
theorem zipIdx_range {α : Type} (d : α) (xs : List α) : (xs.zipIdx.map fun p => (p.2, p.1)) = (List.range xs.length).map fun k => (k, xs.getD k d) := by
  apply List.ext_getElem
  · simp
  · intro i h1 h2
    simp only [List.length_map, List.length_zipIdx] at h1
    simp [List.getD_eq_getElem?_getD, List.getElem?_eq_getElem h1]
theorem zas (G : GFn) (f : SFn) (ρ : zan) (S : zae) : zfk G f [] ρ S = .nx ρ S := rfl
/-! ## numbers -/
theorem log2_lt {n k : Nat} (h : n < 2 ^ k) (hk : 0 < k) : n.log2 < k := by
  by_cases hn : n = 0
  · subst hn
    simpa using hk
  · exact (Nat.log2_lt hn).mpr h
theorem zlq {i j : Int} (hi : i.natAbs < 2 ^ 200) (hj : j.natAbs < 2 ^ 200) : zgc (.int i) (.int j) = some (.int (i * j)) := by
  have a := log2_lt hi (by decide)
  have b := log2_lt hj (by decide)
  have : i.natAbs.log2 + j.natAbs.log2 < 1000000 := by omega
  simp only [zgc, dMul, if_pos this]
theorem zgz {i j : Int} (h : 0 < j) : dMod (.int i) (.int j) = some (.int (i % j)) := by simp only [dMod, if_pos h]
theorem dDiv_i {i j : Int} (h : 0 < j) (h2 : j.natAbs < 2 ^ 200) : dDiv (.int i) (.int j) = some (.int (i / j)) := by
  have := log2_lt h2 (by decide)
  simp only [dDiv, if_pos (show 0 < j ∧ j.natAbs.log2 < 9000 from ⟨h, by omega⟩)]
theorem dPow_i {i : Int} {j : Nat} (h : i.natAbs < 2 ^ 64) (h2 : j ≤ 1000000) : dPow (.int i) (.int (j : Nat)) = some (.int (i ^ j)) := by
  have : (0 : Int) ≤ (j : Nat) ∧ ((j : Nat) : Int) ≤ 1000000 ∧ i.natAbs < 2 ^ 64 := ⟨by omega, by omega, h⟩
  simp only [dPow, if_pos this, Int.toNat_natCast]
theorem zde (i : Int) : dInt (.int i) = some (.int i) := rfl
theorem zdr {i : Int} (h0 : -1000000000000000000000000000000 ≤ i) (h1 : i ≤ 1000000000000000000000000000000) : i.natAbs < 2 ^ 200 := by
  have : i.natAbs ≤ 1000000000000000000000000000000 := by omega
  exact Nat.lt_of_le_of_lt this (by decide)
theorem dAdd_l (a b : List D) : dAdd (.lst a) (.lst b) = bif szB (a.length + b.length) then some (.lst (a ++ b)) else none := by
  simp only [dAdd, szB_iff]
  cases szB (a.length + b.length) <;> rfl
theorem zm5 (a b : List D) : dAdd (.tup a) (.tup b) = bif szB (a.length + b.length) then some (.tup (a ++ b)) else none := by
  simp only [dAdd, szB_iff]
  cases szB (a.length + b.length) <;> rfl
theorem zgg (f i g : XFn) (ρ : zan) (S : zae) : sPut f i g ρ S = (g ρ S).bindS ρ fun y S1 => (f ρ S1).bindS ρ fun x S2 => (i ρ S2).bindS ρ fun n S3 => zou x n y ρ S3 := rfl
/-! ## the pen: the first list of the store -/
def penL (cells : List Int) (a : Nat) (cur : Int) : List D := [.lst (cells.map .int), .int (a : Nat), .int cur]
theorem zdc (o : D → D → Option D) (ds : List D) (T : zae) (y : D) : o2 o (.obj 0) (.dat y) (some ds :: T) = res1 (o (.lst ds) y) (some ds :: T) := rfl
theorem zg_ (cells : List Int) (a : Nat) (cur : Int) : atI (penL cells a cur) 0 = some (.lst (cells.map .int)) := rfl
theorem zf7 (cells : List Int) (a : Nat) (cur : Int) : atI (penL cells a cur) 1 = some (.int (a : Nat)) := rfl
theorem zgr (cells : List Int) (a : Nat) (cur : Int) : atI (penL cells a cur) 2 = some (.int cur) := rfl
theorem zdj (cells : List Int) (a : Nat) (cur : Int) (ρ : zan) (T : zae) : zou (.obj 0) (.dat (.int 1)) (.dat (.int ((a : Nat) + 1))) ρ (some (penL cells a cur) :: T) = .nx ρ (some (penL cells (a + 1) cur) :: T) := rfl
theorem zdo (cells : List Int) (a : Nat) (cur c : Int) (ρ : zan) (T : zae) : zou (.obj 0) (.dat (.int 2)) (.dat (.int c)) ρ (some (penL cells a cur) :: T) = .nx ρ (some (penL cells a c) :: T) := rfl
theorem zat {α : Type} (x : α) (T : List α) : (x :: T).take (T.length + 1) = x :: T := by simp
def Pen (n : Nat) (T S : zae) : Prop := ∃ cells a cur, S = some (penL cells a cur) :: T ∧ a ≤ n
theorem Pen.mono {n m : Nat} {T S : zae} (h : Pen n T S) (k : n ≤ m) : Pen m T S := by
  obtain ⟨c, a, u, e, l⟩ := h
  exact ⟨c, a, u, e, Nat.le_trans l k⟩
theorem Pen.len {n : Nat} {T S : zae} (h : Pen n T S) : S.length = T.length + 1 := by
  obtain ⟨c, a, u, e, l⟩ := h
  subst e
  rfl
theorem Pen.take {n k : Nat} {T S : zae} (h : Pen n T S) (hk : k = T.length + 1) : S.take k = S := by
  rw [hk, ← h.len, List.take_length]
abbrev LIM : Nat := 2147483648
theorem lc_pen {G : GFn} {t : TFn} {f : XFn} {ρ : zan} {T : zae} {R : D → D → Prop} {c : Nat} : ∀ (ds : List D) (m : Nat) (S : zae), Pen m T S → m + c * ds.length ≤ LIM →
    (∀ d ∈ ds, ∀ m S, Pen m T S → m + c ≤ LIM → ∃ ρ1 z S1, G d ρ = some ρ1 ∧ t ρ1 S = .ok true S ∧ f ρ1 S = .ok (.dat z) S1 ∧ Pen (m + c) T S1 ∧ R d z) →
    ∃ zs S1, lcGo G t f ρ ds S = .ok zs S1 ∧ Pen (m + c * ds.length) T S1 ∧ zs.length = ds.length ∧ ∀ p ∈ ds.zip zs, R p.1 p.2
  | [], m, S, hp, _, _ => ⟨[], S, rfl, hp, rfl, fun p hp => nomatch hp⟩
  | d :: r, m, S, hp, hb, hs => by
    have hb' : m + c + c * r.length ≤ LIM := by simp only [List.length_cons, Nat.mul_succ] at hb; omega
    obtain ⟨ρ1, z, S1, h1, h2, h3, h4, h5⟩ := hs d (List.mem_cons_self ..) m S hp (by omega)
    obtain ⟨zs, S2, e, p2, l2, q2⟩ := lc_pen (G := G) (t := t) (f := f) (ρ := ρ) (R := R) (c := c) r (m + c) S1 h4 hb' fun b hb => hs b (List.mem_cons_of_mem _ hb)
    refine ⟨z :: zs, S2, ?_, ?_, by simp [l2], ?_⟩
    · simp only [lcGo, h1, h2, Res.bindN_ok, if_true, h3, e]
    · simp only [List.length_cons, Nat.mul_succ]
      exact p2.mono (by omega)
    · intro p hp
      simp only [List.zip_cons_cons, List.mem_cons] at hp
      rcases hp with rfl | hp
      · exact h5
      · exact q2 p hp
theorem zk9 {α : Type} {enc : α → D} {G : GFn} {f : SFn} {T : zae} {c : Nat} (J : List α → zan → Prop) : ∀ (post pre : List α) (m : Nat) (ρ : zan) (S : zae), J pre ρ → Pen m T S → m + c * post.length ≤ LIM →
    (∀ pre1 a post1 m ρ S, pre ++ post = pre1 ++ a :: post1 → J pre1 ρ → Pen m T S → m + c ≤ LIM → ∃ ρ1 ρ2 S2, G (enc a) ρ = some ρ1 ∧ f ρ1 S = .nx ρ2 S2 ∧ J (pre1 ++ [a]) ρ2 ∧ Pen (m + c) T S2) →
    ∃ ρ' S', zfk G f (post.map enc) ρ S = .nx ρ' S' ∧ J (pre ++ post) ρ' ∧ Pen (m + c * post.length) T S'
  | [], pre, m, ρ, S, h0, hp, _, _ => ⟨ρ, S, rfl, by simpa using h0, hp⟩
  | a :: post, pre, m, ρ, S, h0, hp, hb, hs => by
    have hb' : m + c + c * post.length ≤ LIM := by simp only [List.length_cons, Nat.mul_succ] at hb; omega
    obtain ⟨ρ1, ρ2, S2, e1, e2, h1, p1⟩ := hs pre a post m ρ S rfl h0 hp (by omega)
    obtain ⟨ρ', S', e3, h3, p3⟩ := zk9 (enc := enc) (G := G) (f := f) (c := c) J post (pre ++ [a]) (m + c) ρ2 S2 h1 p1 hb' (fun pre1 b post1 m ρ S e h => hs pre1 b post1 m ρ S (by simpa using e) h)
    refine ⟨ρ', S', ?_, by simpa using h3, ?_⟩
    · simp only [List.map_cons, zfk, e1, e2, e3]
    · simp only [List.length_cons, Nat.mul_succ]
      exact p3.mono (by omega)
theorem zpk : ∀ l : List Int, (sset l).length ≤ l.length
  | [] => Nat.le_refl _
  | n :: ns => by
    have ins : ∀ l : List Int, (insS n l).length ≤ l.length + 1 := by
      intro l
      induction l with
      | nil => simp [insS]
      | cons m r ih => simp only [insS]; split <;> (try split) <;> simp <;> omega
    have := ins (sset ns)
    have := zpk ns
    simp only [sset, List.length_cons]
    omega
theorem sset_idem (l : List Int) : sset (sset l) = sset l := zg9 (zck _) (zck _) fun k => zcl k _
theorem zny {l : List Int} (h : l.Pairwise (· < ·)) : sset l = l := zg9 (zck _) h fun k => zcl k _
theorem sset_pos {l : List Int} (h : l ≠ []) : 1 ≤ (sset l).length := by
  cases l with
  | nil => exact absurd rfl h
  | cons n ns =>
    have : n ∈ sset (n :: ns) := (zcl n _).mpr (List.mem_cons_self ..)
    exact List.length_pos_of_mem this
theorem zop {α : Type} (xs : List α) (n : Nat) : cutL xs none (some (n : Nat)) = xs.take n := by
  simp only [cutL, HT.sIx_none, HT.sIx_nat, List.drop_zero, Nat.sub_zero]
  rw [List.take_eq_take_iff]
  omega
theorem cut_from {α : Type} (xs : List α) (n : Nat) : cutL xs (some (n : Nat)) none = xs.drop n := by
  simp only [cutL, HT.sIx_none, HT.sIx_nat]
  by_cases h : n ≤ xs.length
  · rw [Nat.min_eq_left h, List.take_of_length_le (by simp)]
  · rw [Nat.min_eq_right (by omega), List.take_of_length_le (by simp), List.drop_eq_nil_of_le (Nat.le_refl _), List.drop_eq_nil_of_le (by omega)]
theorem cut_mid {α : Type} (xs : List α) (n m : Nat) (h : n ≤ m) : cutL xs (some (n : Nat)) (some (m : Nat)) = (xs.drop n).take (m - n) := by
  simp only [cutL, HT.sIx_nat]
  by_cases h1 : n ≤ xs.length
  · rw [Nat.min_eq_left h1, List.take_eq_take_iff]
    simp
    omega
  · have e1 : min n xs.length = xs.length := by omega
    rw [e1, List.drop_eq_nil_of_le (Nat.le_refl _), List.drop_eq_nil_of_le (by omega)]
    simp
theorem rng1_1 {n : Nat} (h : n ≤ 1000000) (S : zae) : rng1 [.dat (.int (1 + (n : Nat)))] S = .ok ((List.range (1 + n)).map fun i => .int ((i : Nat) : Int)) S := by
  have e : (1 + (n : Int)) = ((1 + n : Nat) : Int) := by omega
  rw [e]
  exact zkw (zes (by omega)) S
theorem cut_mid1 {α : Type} (xs : List α) (n : Nat) : cutL xs (some (n : Nat)) (some ((n : Nat) + 1)) = (xs.drop n).take 1 := by
  have := cut_mid xs n (n + 1) (by omega)
  simpa using this
theorem zmf {α : Type} (xs : List α) (n : Nat) : cutL xs (some ((n : Nat) + 1)) none = xs.drop (n + 1) := cut_from xs (n + 1)
theorem zgq (xs : List D) (lo hi : Option Int) (S : zae) : oSl (.dat (.tup xs)) lo hi S = .ok (.dat (.tup (cutL xs lo hi))) S := rfl
theorem zf9 (xs : List D) (lo hi : Option Int) (S : zae) : oSl (.dat (.lst xs)) lo hi S = .ok (.dat (.lst (cutL xs lo hi))) S := rfl
theorem zgm (ns : List Int) (lo hi : Option Int) (S : zae) : oSl (.scr ns) lo hi S = .ok (.dat (.lst ((cutL ns lo hi).map .int))) S := rfl
theorem range_at {n a : Nat} {pre post : List Nat} (h : List.range n = pre ++ a :: post) : a = pre.length ∧ a < n := by
  have h1 : pre.length < n := by
    have := congrArg List.length h
    simp at this
    omega
  have h2 : (List.range n)[pre.length]? = (pre ++ a :: post)[pre.length]? := by rw [h]
  rw [List.getElem?_range h1] at h2
  simp at h2
  omega
theorem mix_set {α : Type} (xs ys : List α) (a : Nat) (d : α) (h1 : a < xs.length) (h2 : a < ys.length) : xs.take a ++ (ys.drop a).take 1 ++ xs.drop (a + 1) = xs.set a (ys.getD a d) := by
  have e : (ys.drop a).take 1 = [ys[a]] := by rw [List.drop_eq_getElem_cons h2]; rfl
  rw [List.set_eq_take_append_cons_drop, if_pos h1, e]
  simp [List.getD_eq_getElem?_getD, List.getElem?_eq_getElem h2]
/-! ## repr -/
mutual
def D.tiny : D → Bool
  | .cas _ => false
  | .dct _ => false
  | .int i => decide (i.natAbs < 10 ^ 40)
  | .lst xs => D.tinys xs
  | .tup xs => D.tinys xs
  | _ => true
def D.tinys : List D → Bool
  | [] => true
  | x :: xs => D.tiny x && D.tinys xs
end
theorem tinys_iff : ∀ {xs : List D}, D.tinys xs = true ↔ ∀ x ∈ xs, x.tiny = true
  | [] => by simp [D.tinys]
  | x :: xs => by simp [D.tinys, tinys_iff (xs := xs)]
mutual
theorem tiny_py : ∀ (d : D), d.tiny = true → d.py.showable = true ∧ d.py.intsShort 41 = true
  | .non, _ => by simp [D.py, PyData.showable, PyData.intsShort]
  | .bl _, _ => by simp [D.py, PyData.showable, PyData.intsShort]
  | .cas _, h => by simp [D.tiny] at h
  | .dct _, h => by simp [D.tiny] at h
  | .str x, _ => by simp [D.py, PyData.showable, PyData.intsShort]
  | .int i, h => by
    simp only [D.tiny, decide_eq_true_eq] at h
    simp only [D.py, PyData.showable, PyData.intsShort, decide_eq_true_eq]
    refine ⟨Nat.lt_of_lt_of_le (log2_lt (k := 200) (Nat.lt_trans h (by decide)) (by decide)) (by decide), ?_⟩
    have e := int_text_length_le10 (k := 40) (by decide) h
    show (Str.ofString (toString i)).length ≤ 41
    rw [PySem.ofString_length]
    exact e
  | .lst xs, h => by
    have := tinys_py xs (by simpa [D.tiny] using h)
    simpa only [D.py, PyData.showable, PyData.intsShort] using this
  | .tup xs, h => by
    have := tinys_py xs (by simpa [D.tiny] using h)
    simpa only [D.py, PyData.showable, PyData.intsShort] using this
theorem tinys_py : ∀ (ds : List D), D.tinys ds = true → PyData.showableAll (D.pys ds) = true ∧ PyData.intsShortAll 41 (D.pys ds) = true
  | [], _ => by simp [D.pys, PyData.showableAll, PyData.intsShortAll]
  | x :: xs, h => by
    have h' : x.tiny = true ∧ D.tinys xs = true := by simpa [D.tinys] using h
    have a := tiny_py x h'.1
    have b := tinys_py xs h'.2
    simp only [D.pys, PyData.showableAll, PyData.intsShortAll, a.1, a.2, b.1, b.2, Bool.and_self, and_self]
end
theorem canRepr_of {n : Nat} {d : D} (h1 : d.fit n = true) (hn : n ≤ 60) (h2 : d.tiny = true) (h3 : d.py.bulk ≤ 300000) : zmh d = true := by
  have a := zmo n d h1
  have b := tiny_py d h2
  have c := PyData.shown_le_bulk 41 (by decide) d.py (PyData.leavesShort_of_canLay0 41 d.py a.1 b.2)
  have e : d.py.shown.length ≤ sizeLine := zes (by omega)
  have f : d.py.depth ≤ 60 := by omega
  simp only [zmh, a.1, b.1, decide_eq_true e, decide_eq_true f, Bool.and_self]
theorem zm_ {c : Nat} : ∀ {xs : List D}, (∀ x ∈ xs, x.py.bulk ≤ c) → PyData.bulkAll (D.pys xs) ≤ xs.length * (c + 1)
  | [], _ => by simp [D.pys, PyData.bulkAll]
  | x :: xs, h => by
    have a := h x (List.mem_cons_self ..)
    have b := zm_ (xs := xs) fun y hy => h y (List.mem_cons_of_mem _ hy)
    simp only [D.pys, PyData.bulkAll, List.length_cons, Nat.succ_mul]
    omega
theorem dRepr_of {d : D} (h : zmh d = true) : zl1 d = some (.str d.py.shown) := by simp only [zl1, h, if_true]
theorem zda (o : D → Option D) (S0 : zae) (ds : List D) : o1 o [.obj S0.length] (S0 ++ [some ds]) = res1 (o (.lst ds)) (S0 ++ [some ds]) := by simp only [o1, zcz]
end DL
set_option maxHeartbeats 4000000
namespace DL
open PySem PySem.Spec PyProof.Rows L2
/-! ## repr is one-to-one on data without texts -/
def sh (d : PyData) : List Nat := d.shown.cps.toList
def zhr : List PyData → List Nat
  | [] => []
  | [x] => sh x
  | x :: r => sh x ++ 44 :: 32 :: zhr r
theorem zhh (a b : Str) : (a ++ b).cps.toList = a.cps.toList ++ b.cps.toList := by
  show (a.cps ++ b.cps).toList = _
  simp
theorem join_cps : ∀ xs : List PyData, (Str.join ", " (PyData.shownAll xs)).cps.toList = zhr xs
  | [] => rfl
  | [x] => rfl
  | x :: y :: r => by
    have ih := join_cps (y :: r)
    show (x.shown ++ ", " ++ Str.join ", " (PyData.shownAll (y :: r))).cps.toList = sh x ++ 44 :: 32 :: zhr (y :: r)
    rw [zhh, zhh, ih]
    have : ((", " : String) : Str).cps.toList = [44, 32] := by decide +kernel
    rw [this]
    simp [sh]
def zje : List PyData → List Nat
  | [] => []
  | x :: r => 44 :: 32 :: (sh x ++ zje r)
theorem zdz (x : PyData) : ∀ r, zhr (x :: r) = sh x ++ zje r
  | [] => by simp [zhr, zje]
  | y :: r => by
    show sh x ++ 44 :: 32 :: zhr (y :: r) = _
    rw [zdz y r, zje]
theorem zkt : ∀ (xs : List PyData) (k : Nat) (acc : Str), (textFrom (k + 1) acc (PyData.shownAll xs)).cps.toList = acc.cps.toList ++ zje xs
  | [], k, acc => by simp [PyData.shownAll, textFrom, zje]
  | x :: r, k, acc => by
    rw [PyData.shownAll, textFrom, zkt r (k + 1), if_pos (Nat.succ_pos k), zhh, zhh, zje]
    have : ((", " : String) : Str).cps.toList = [44, 32] := by decide +kernel
    rw [this]
    simp [sh]
theorem sh_list (xs : List PyData) : sh (.list xs) = 91 :: (zhr xs ++ [93]) := by
  show (listText (PyData.shownAll xs)).cps.toList = _
  unfold listText
  rw [zhh]
  have e1 : (("]" : String) : Str).cps.toList = [93] := by decide +kernel
  have e2 : (("[" : String) : Str).cps.toList = [91] := by decide +kernel
  have e0 : (("" : String) : Str).cps.toList = [] := by decide +kernel
  rw [e1]
  cases xs with
  | nil => rw [PyData.shownAll, textFrom, e2]; rfl
  | cons x r =>
    rw [PyData.shownAll, textFrom, zkt, if_neg (by decide), zhh, zhh, e2, e0, zdz]
    simp [sh]
theorem zo8 (xs : List PyData) : sh (.tuple xs) = 40 :: (zhr xs ++ (if xs.length = 1 then [44, 41] else [41])) := by
  show (tupleText (PyData.shownAll xs)).cps.toList = _
  unfold tupleText
  have e2 : (("(" : String) : Str).cps.toList = [40] := by decide +kernel
  have e3 : ((",)" : String) : Str).cps.toList = [44, 41] := by decide +kernel
  have e4 : ((")" : String) : Str).cps.toList = [41] := by decide +kernel
  have el : ∀ ys : List PyData, (PyData.shownAll ys).length = ys.length := by
    intro ys
    induction ys with
    | nil => rfl
    | cons y ys ih => simp [PyData.shownAll, ih]
  rw [zhh, zhh, join_cps, e2, el]
  by_cases h : xs.length = 1
  · simp [h, e3]
  · simp [h, e4]
def isD1 (c : Nat) : Prop := c = 45 ∨ (48 ≤ c ∧ c ≤ 57)
theorem zkz (i : Int) : ∀ c ∈ sh (.int i), isD1 c := by
  intro c hc
  refine Classical.byContradiction fun h => ?_
  refine shown_int_free' (k := c) ?_ i hc
  unfold isD1 at h
  omega
theorem str_cps (s : String) : ((s : String) : Str).cps.toList = s.toList.map Char.toNat := by
  show (Str.ofString s).cps.toList = _
  rw [Str.ofString_eq_toList]
theorem map_inj {f : Char → Nat} (hf : ∀ a b, f a = f b → a = b) : ∀ {l m : List Char}, l.map f = m.map f → l = m
  | [], [], _ => rfl
  | [], _ :: _, h => by simp at h
  | _ :: _, [], h => by simp at h
  | a :: l, b :: m, h => by
    simp only [List.map_cons, List.cons.injEq] at h
    rw [hf a b h.1, map_inj hf h.2]
theorem char_inj (a b : Char) (h : a.toNat = b.toNat) : a = b := by
  apply Char.ext
  exact UInt32.toNat_inj.mp h
theorem sh_int (i : Int) : sh (.int i) = (toString i).toList.map Char.toNat := by
  show (PyData.int i).shown.cps.toList = _
  rw [PyData.shown_int]
  exact str_cps _
theorem int_str_inj {i j : Int} (h : toString i = toString j) : i = j := by
  have := congrArg String.toInt? h
  simpa using this
theorem sh_int_inj {i j : Int} (h : sh (.int i) = sh (.int j)) : i = j := by
  rw [sh_int, sh_int] at h
  exact int_str_inj (String.ext (map_inj char_inj h))
def Stop (s : List Nat) : Prop := ∀ c r, s = c :: r → c = 44 ∨ c = 41 ∨ c = 93
theorem zgk {c : Nat} {r : List Nat} (h : c = 44 ∨ c = 41 ∨ c = 93) : Stop (c :: r) := fun _ _ e => by cases e; exact h
theorem stop_nil : Stop [] := fun _ _ e => nomatch e
theorem zoj {P : Nat → Prop} (hp : ∀ c, c = 44 ∨ c = 41 ∨ c = 93 → ¬ P c) : ∀ {a b s t : List Nat}, (∀ c ∈ a, P c) → (∀ c ∈ b, P c) → Stop s → Stop t → a ++ s = b ++ t → a = b ∧ s = t
  | [], [], s, t, _, _, _, _, h => ⟨rfl, by simpa using h⟩
  | [], b :: bs, s, t, _, hb, hs, _, h => by
    have h : s = b :: (bs ++ t) := by simpa using h
    exact absurd (hb b (by simp)) (hp b (hs b _ h))
  | a :: as, [], s, t, ha, _, _, ht, h => by
    have h : t = a :: (as ++ s) := by simpa using h.symm
    exact absurd (ha a (by simp)) (hp a (ht a _ h))
  | a :: as, b :: bs, s, t, ha, hb, hs, ht, h => by
    simp only [List.cons_append, List.cons.injEq] at h
    have := zoj (P := P) hp (fun c hc => ha c (by simp [hc])) (fun c hc => hb c (by simp [hc])) hs ht h.2
    exact ⟨by rw [h.1, this.1], this.2⟩
theorem int_ne (i : Int) : sh (.int i) ≠ [] := by
  rw [sh_int]
  intro h
  have h : (toString i).toList = [] := by simpa using h
  have e : toString i = "" := String.ext (by simpa using h)
  cases i with
  | ofNat n => exact Nat.repr_ne_empty (n := n) e
  | negSucc n =>
    have e2 := congrArg String.toList e
    have : toString (Int.negSucc n) = "-" ++ Nat.repr (n + 1) := rfl
    rw [this, String.toList_append] at e2
    simp at e2
def kd : PyData → Nat
  | .none => 78 | .bool true => 84 | .bool false => 70 | .int _ => 0 | .str _ => 1 | .list _ => 91 | .tuple _ => 40 | .dict _ => 123
theorem sh_head (d : PyData) : ∃ c r, sh d = c :: r ∧ (c = kd d ∨ (kd d = 0 ∧ isD1 c) ∨ (kd d = 1 ∧ (c = 34 ∨ c = 39))) := by
  cases d with
  | none => exact ⟨78, _, by show (("None" : String) : Str).cps.toList = 78 :: [111, 110, 101]; decide +kernel, .inl rfl⟩
  | bool b =>
    cases b
    · exact ⟨70, _, by show (("False" : String) : Str).cps.toList = 70 :: [97, 108, 115, 101]; decide +kernel, .inl rfl⟩
    · exact ⟨84, _, by show (("True" : String) : Str).cps.toList = 84 :: [114, 117, 101]; decide +kernel, .inl rfl⟩
  | int i =>
    cases h : sh (.int i) with
    | nil => exact absurd h (int_ne i)
    | cons c r => exact ⟨c, r, rfl, .inr (.inl ⟨rfl, zkz i c (by rw [h]; simp)⟩)⟩
  | str x =>
    have e : sh (.str x) = reprQuote x :: (x.cps.toList.flatMap (fun c => Builtin.Str.reprChar (reprQuote x) c) ++ [reprQuote x]) := by
      show (reprText x).cps.toList = _
      unfold reprText
      have : ∀ (l : List Nat) (acc : Array Nat), (l.foldl (fun out c => out ++ (Builtin.Str.reprChar (reprQuote x) c).toArray) acc).toList = acc.toList ++ l.flatMap fun c => Builtin.Str.reprChar (reprQuote x) c := by
        intro l
        induction l with
        | nil => simp
        | cons a l ih => intro acc; simp [List.foldl_cons, ih]
      rw [← Array.foldl_toList]
      simp [this]
      first | done | (rw [List.flatMap_def]; rfl)
    refine ⟨_, _, e, .inr (.inr ⟨rfl, ?_⟩)⟩
    unfold reprQuote
    split <;> simp
  | list xs => exact ⟨91, _, sh_list xs, .inl rfl⟩
  | tuple xs => exact ⟨40, _, zo8 xs, .inl rfl⟩
  | dict kvs =>
    refine ⟨123, ((Str.join ", " (PyData.shownKv kvs)).cps.toList ++ [125]), ?_, .inl rfl⟩
    show (dictText (PyData.shownKv kvs)).cps.toList = _
    unfold dictText
    have e1 : (("{" : String) : Str).cps.toList = [123] := by decide +kernel
    have e2 : (("}" : String) : Str).cps.toList = [125] := by decide +kernel
    rw [zhh, zhh, e1, e2]
    simp
mutual
def noTx : PyData → Bool
  | .none | .bool _ | .int _ => true
  | .str _ | .dict _ => false
  | .list xs | .tuple xs => noTxs xs
def noTxs : List PyData → Bool
  | [] => true
  | x :: r => noTx x && noTxs r
end
theorem kd_eq {x y : PyData} {s t : List Nat} (h : sh x ++ s = sh y ++ t) : kd x = kd y := by
  obtain ⟨c, r, e1, h1⟩ := sh_head x
  obtain ⟨c', r', e2, h2⟩ := sh_head y
  rw [e1, e2] at h
  simp only [List.cons_append, List.cons.injEq] at h
  have hc := h.1
  subst hc
  unfold isD1 at h1 h2
  have k1 : ∀ z : PyData, kd z = 0 ∨ kd z = 1 ∨ kd z = 78 ∨ kd z = 84 ∨ kd z = 70 ∨ kd z = 91 ∨ kd z = 40 ∨ kd z = 123 := by
    intro z
    cases z with
    | bool b => cases b <;> simp [kd]
    | _ => simp [kd]
  have a := k1 x
  have b := k1 y
  omega
theorem zky (xs : List PyData) {c : Nat} {s : List Nat} (h : c = 41 ∨ c = 93) : Stop (zje xs ++ c :: s) := by
  cases xs with
  | nil => exact zgk (.inr h)
  | cons x r => exact zgk (.inl rfl)
theorem zk3 (x : PyData) {c : Nat} {r s : List Nat} (h : c = 41 ∨ c = 93) (e : sh x ++ r = c :: s) : False := by
  obtain ⟨c', r', e1, h1⟩ := sh_head x
  rw [e1] at e
  simp only [List.cons_append, List.cons.injEq] at e
  have hc := e.1
  subst hc
  unfold isD1 at h1
  have : kd x = 0 ∨ kd x = 1 ∨ kd x = 78 ∨ kd x = 84 ∨ kd x = 70 ∨ kd x = 91 ∨ kd x = 40 ∨ kd x = 123 := by
    cases x with
    | bool b => cases b <;> simp [kd]
    | _ => simp [kd]
  omega
mutual
theorem zh7 : ∀ (y x : PyData) {s t : List Nat}, noTx y = true → Stop s → Stop t → sh x ++ s = sh y ++ t → x = y ∧ s = t
  | .none, x, s, t, _, _, _, h => by
    have k := kd_eq h
    have : x = .none := by
      cases x with
      | bool b => cases b <;> simp [kd] at k
      | _ => first | rfl | simp [kd] at k
    subst this
    exact ⟨rfl, List.append_cancel_left h⟩
  | .bool b, x, s, t, _, _, _, h => by
    have k := kd_eq h
    have : x = .bool b := by
      cases x with
      | bool c => cases b <;> cases c <;> first | rfl | simp [kd] at k
      | _ => cases b <;> simp [kd] at k
    subst this
    exact ⟨rfl, List.append_cancel_left h⟩
  | .int j, x, s, t, _, hs, ht, h => by
    have k := kd_eq h
    obtain ⟨i, rfl⟩ : ∃ i, x = .int i := by
      cases x with
      | bool b => cases b <;> simp [kd] at k
      | int i => exact ⟨i, rfl⟩
      | _ => simp [kd] at k
    have := zoj (P := isD1) (by unfold isD1; omega) (zkz i) (zkz j) hs ht h
    exact ⟨by rw [sh_int_inj this.1], this.2⟩
  | .str _, _, _, _, h, _, _, _ => by simp [noTx] at h
  | .dict _, _, _, _, h, _, _, _ => by simp [noTx] at h
  | .list ys, x, s, t, hy, hs, ht, h => by
    have k := kd_eq h
    obtain ⟨xs, rfl⟩ : ∃ xs, x = .list xs := by
      cases x with
      | bool b => cases b <;> simp [kd] at k
      | list xs => exact ⟨xs, rfl⟩
      | _ => simp [kd] at k
    rw [sh_list, sh_list] at h
    simp only [List.cons_append, List.cons.injEq, true_and, List.append_assoc, List.nil_append] at h
    have := joins_cancel ys xs (by simpa [noTx] using hy) (.inr rfl) h
    exact ⟨by rw [this.1], this.2⟩
  | .tuple ys, x, s, t, hy, hs, ht, h => by
    have k := kd_eq h
    obtain ⟨xs, rfl⟩ : ∃ xs, x = .tuple xs := by
      cases x with
      | bool b => cases b <;> simp [kd] at k
      | tuple xs => exact ⟨xs, rfl⟩
      | _ => simp [kd] at k
    rw [zo8, zo8] at h
    simp only [List.cons_append, List.cons.injEq, true_and, List.append_assoc] at h
    have hy' : noTxs ys = true := by simpa [noTx] using hy
    match xs, ys, hy', h with
    | [], [], _, h => simp [zhr] at h; exact ⟨rfl, h⟩
    | [], [y], _, h =>
      simp only [zhr, List.length_nil, List.length_cons, Nat.zero_add, if_true, List.nil_append, List.cons_append] at h
      rw [if_neg (by decide)] at h
      exact (zk3 y (.inl rfl) h.symm).elim
    | [], y :: y2 :: r, _, h =>
      rw [zdz] at h
      simp only [zhr, List.length_nil, List.nil_append, List.append_assoc] at h
      rw [if_neg (by decide), if_neg (by simp)] at h
      exact (zk3 y (.inl rfl) h.symm).elim
    | [x], [], _, h =>
      simp only [zhr, List.length_nil, List.length_cons, Nat.zero_add, if_true, List.nil_append, List.cons_append] at h
      rw [if_neg (by decide)] at h
      exact (zk3 x (.inl rfl) h).elim
    | x :: x2 :: r, [], _, h =>
      rw [zdz] at h
      simp only [zhr, List.length_nil, List.nil_append, List.append_assoc] at h
      rw [if_neg (by simp), if_neg (by decide)] at h
      exact (zk3 x (.inl rfl) h).elim
    | [x], [y], hy', h =>
      simp only [zhr, List.length_nil, List.length_cons, Nat.zero_add, if_true, List.cons_append, List.nil_append] at h
      have := zh7 y x (by simpa [noTxs] using hy') (zgk (.inl rfl)) (zgk (.inl rfl)) h
      exact ⟨by rw [this.1], by simpa using this.2⟩
    | [x], y :: y2 :: r, hy', h =>
      rw [zdz y] at h
      simp only [zhr, List.length_nil, List.length_cons, Nat.zero_add, if_true, List.cons_append, List.nil_append, List.append_assoc, zje] at h
      rw [if_neg (by omega)] at h
      have := zh7 y x (by simp [noTxs] at hy'; exact hy'.1) (zgk (.inl rfl)) (zgk (.inl rfl)) h
      simp at this
    | x :: x2 :: r, [y], hy', h =>
      rw [zdz x] at h
      simp only [zhr, List.length_nil, List.length_cons, Nat.zero_add, if_true, List.cons_append, List.nil_append, List.append_assoc, zje] at h
      rw [if_neg (by omega)] at h
      have := zh7 y x (by simpa [noTxs] using hy') (zgk (.inl rfl)) (zgk (.inl rfl)) h
      simp at this
    | x :: x2 :: r, y :: y2 :: r', hy', h =>
      rw [if_neg (by simp), if_neg (by simp)] at h
      have := joins_cancel (y :: y2 :: r') (x :: x2 :: r) hy' (.inl rfl) h
      exact ⟨by rw [this.1], this.2⟩
theorem joins_cancel : ∀ (ys xs : List PyData) {c : Nat} {s t : List Nat}, noTxs ys = true → (c = 41 ∨ c = 93) → zhr xs ++ c :: s = zhr ys ++ c :: t → xs = ys ∧ s = t
  | [], [], c, s, t, _, _, h => by simp [zhr] at h; exact ⟨rfl, h⟩
  | [], x :: r, c, s, t, _, hc, h => by
    rw [zdz] at h
    simp only [zhr, List.nil_append, List.append_assoc] at h
    exact (zk3 x hc h).elim
  | y :: r, [], c, s, t, _, hc, h => by
    rw [zdz] at h
    simp only [zhr, List.nil_append, List.append_assoc] at h
    exact (zk3 y hc h.symm).elim
  | y :: ys, x :: xs, c, s, t, hy, hc, h => by
    rw [zdz, zdz] at h
    simp only [List.append_assoc] at h
    have hy : noTx y = true ∧ noTxs ys = true := by simpa [noTxs] using hy
    have h1 := zh7 y x hy.1 (zky xs hc) (zky ys hc) h
    have h2 := tails_cancel ys xs hy.2 hc h1.2
    exact ⟨by rw [h1.1, h2.1], h2.2⟩
theorem tails_cancel : ∀ (ys xs : List PyData) {c : Nat} {s t : List Nat}, noTxs ys = true → (c = 41 ∨ c = 93) → zje xs ++ c :: s = zje ys ++ c :: t → xs = ys ∧ s = t
  | [], [], c, s, t, _, _, h => by simp [zje] at h; exact ⟨rfl, h⟩
  | [], x :: r, c, s, t, _, hc, h => by simp [zje] at h; omega
  | y :: r, [], c, s, t, _, hc, h => by simp [zje] at h; omega
  | y :: ys, x :: xs, c, s, t, hy, hc, h => by
    simp only [zje, List.cons_append, List.cons.injEq, true_and, List.append_assoc] at h
    have hy : noTx y = true ∧ noTxs ys = true := by simpa [noTxs] using hy
    have h1 := zh7 y x hy.1 (zky xs hc) (zky ys hc) h
    have h2 := tails_cancel ys xs hy.2 hc h1.2
    exact ⟨by rw [h1.1, h2.1], h2.2⟩
end
theorem shown_inj {x y : PyData} (hy : noTx y = true) (h : x.shown = y.shown) : x = y := by
  have : sh x ++ [] = sh y ++ [] := by unfold sh; rw [h]
  exact (zh7 y x hy stop_nil stop_nil this).1
end DL
local macro_rules | `(tactic| simp! only [$xs,*] $[$l:location]?) => `(tactic| simp -implicitDefEqProofs only [DL.a_fn, DL.ze1, DL.zcm, DL.zc7, DL.zdf, DL.zc4, DL.zc2, DL.zbc, DL.zar, DL.c_ok, DL.zf6, DL.c_bl, DL.zfo, DL.zfe, DL.c_or, DL.zdl, DL.zfh, DL.zgh, DL.zgd, DL.zc9, DL.a_tg, DL.zdk, DL.zcf, DL.zf0, DL.Res.bind_ok, DL.Res.bind_ex, DL.Res.bindS_ok, DL.Res.bindS_ex, DL.zdm, DL.a_c, DL.a_x2, DL.a_o2, DL.zdh, DL.a_xN, DL.zdp, DL.zf8, DL.a_o1, DL.zfr, DL.zfp, DL.zgt, DL.zbe, DL.zbb, DL.zb8, DL.zb6, DL.zc3, DL.zfs, DL.zfy, DL.zga, DL.zfm, DL.zf4, DL.zbz, DL.zba, DL.za0, DL.zay, DL.za1, DL.zaz, DL.zfl, DL.a_or, DL.zcd, DL.zb4, DL.zfn, DL.zgf, DL.zfg, DL.zc0, DL.a_if, DL.zft, DL.zc1, DL.zcg, DL.zbh, DL.zav, DL.zbd, DL.zb3, DL.a_it, DL.zax, DL.zaw, DL.a_lc, DL.zb0, DL.zb7, DL.zgb, DL.zgn, DL.zff, DL.zfv, DL.zf3, DL.zfq, DL.zfw, DL.zgj, DL.zgp, DL.zc8, DL.a_rd, Option.bind_some, DL.zc_, DL.zb9, DL.zb5, DL.zau, List.map_cons, List.map_nil, List.length_cons, List.length_nil, Nat.reduceSub, Nat.reduceAdd, List.replicate_succ, List.replicate_zero, List.cons_append, List.nil_append, List.append_nil, List.getElem?_cons_zero, List.getElem?_cons_succ, List.set_cons_zero, List.set_cons_succ, List.take_length, cond_true, cond_false, Bool.not_true, Bool.not_false, DL.zgv, DL.zfj, DL.zfz, DL.zgl, DL.zdn, DL.zc5, DL.zcc, DL.zbg, DL.zdb, DL.zct, DL.zfx, DL.zgi, DL.zcb, DL.zca, DL.zbf, DL.zbi, DL.zf5, DL.zda, DL.zgq, DL.zf9, DL.zgm, DL.zcn, DL.zde, DL.zgg, DL.zdc, DL.zg_, DL.zf7, DL.zgr, DL.zdj, DL.zdo, DL.zat, DL.zas, DL.zcu, DL.za6, DL.zal, Option.map_some, DL.zap, DL.zcz, DL.zbs, DL.zb_, DL.lit2, DL.lit3, Bool.true_and, Bool.false_and, Bool.and_true, Bool.and_false, Bool.true_or, Bool.false_or, Bool.or_true, Bool.or_false, Bool.not_not, DL.a_sl, DL.zgo, DL.zgw, DL.zce, DL.zdg, DL.zgu, DL.zc6, DL.zdi, DL.zdd, DL.zb1, DL.zbv, $xs,*] $[$l:location]?)
set_option maxHeartbeats 400000
namespace T41
open PySem PySem.Spec PyProof.Rows L2 DL
theorem atI_in {α : Type} {xs : List α} {i : Int} (h0 : 0 ≤ i) (h1 : i < xs.length) : atI xs i = some (xs[i.toNat]'(by omega)) := by
  unfold atI ixN
  rw [if_pos h0, if_pos h1]
  simp only [Option.bind_some]
  rw [List.getElem?_eq_getElem]
theorem at2_0 {α : Type} (a b : α) : atI [a, b] 0 = some a := rfl
theorem at2_1 {α : Type} (a b : α) : atI [a, b] 1 = some b := rfl
theorem at3_0 {α : Type} (a b c : α) : atI [a, b, c] 0 = some a := rfl
theorem zih {α : Type} {xs : List α} {n : Nat} {d : α} (h : n < xs.length) : xs.getD n d ∈ xs := by
  rw [List.getD_eq_getElem?_getD, List.getElem?_eq_getElem h]
  exact List.getElem_mem _
theorem atI_getD {α : Type} {xs : List α} {i : Int} (d : α) (h0 : 0 ≤ i) (h1 : i < xs.length) : atI xs i = some (xs.getD i.toNat d) := by
  rw [atI_in h0 h1, List.getD_eq_getElem?_getD, List.getElem?_eq_getElem (by omega)]
  rfl
theorem zipD_map (xs ys : List D) : zipD xs ys = (xs.zip ys).map fun p => znk p.1 p.2 := by simp [zipD, List.zip, List.map_zipWith]
theorem ze9 {α β : Type} {m : Nat} {f : α → List β} : ∀ {l : List α}, (∀ x ∈ l, (f x).length ≤ m) → (l.flatMap f).length ≤ l.length * m
  | [], _ => by simp
  | x :: r, h => by
    have ih := ze9 (l := r) fun y hy => h y (List.mem_cons_of_mem _ hy)
    have := h x (List.mem_cons_self ..)
    simp only [List.flatMap_cons, List.length_append, List.length_cons, Nat.succ_mul]
    omega
theorem enum_map {α : Type} (e : α → D) (xs : List α) : zlz (xs.map e) = (xs.zipIdx.map fun p => (p.2, p.1)).map fun p => znk (.int ((p.1 : Nat) : Int)) (e p.2) := by
  unfold zlz
  rw [List.map_map]
  apply List.ext_getElem
  · simp
  · intro i h1 h2
    simp
theorem eqs_nil {xs : List D} {m : Nat} (h : D.fits m xs = true) : dEq (.lst xs) (.lst []) = some (.bl xs.isEmpty) := by
  have p := fits_py m xs h
  have q : znw (.lst xs) (.lst []) = true := by
    simp [znw, D.py, D.pys, PyData.canLay0, PyData.canLayAll0, PyData.depth, PyData.depthAll, p.1]
  simp only [dEq, q, if_true]
  cases xs <;> rfl
theorem ints_of {zs : List D} (h : ∀ z ∈ zs, ∃ v : Int, z = .int v) : ∃ r : List Int, zs = r.map .int := by
  induction zs with
  | nil => exact ⟨[], rfl⟩
  | cons z zs ih =>
    obtain ⟨v, rfl⟩ := h z (List.mem_cons_self ..)
    obtain ⟨r, rfl⟩ := ih fun y hy => h y (List.mem_cons_of_mem _ hy)
    exact ⟨v :: r, rfl⟩
theorem a_retN (l : LFn) (ρ : zan) (S : zae) : sRetN l ρ S = (l ρ S).bindS ρ fun ds S1 => .rt (.obj S1.length) (S1 ++ [some ds]) := rfl
theorem a_list (f : XFn) (ρ : zan) (S : zae) : lList f ρ S = (f ρ S).bind fun x S1 => match rd S1 x with
  | some (.lst xs) => .ok xs S1
  | some (.tup xs) => .ok xs S1
  | _ => .bad := rfl
/-! ## try, slices, equality, loops that end early -/
theorem cut_1 {α : Type} (xs : List α) : cutL xs (some 1) none = xs.drop 1 := cut_from xs 1
theorem dEq_p {n m : Nat} {a b : D} {p : Bool} (ha : a.fit n = true) (hb : b.fit m = true) (na : a.noB = true) (nb : b.noB = true) (h : p = true ↔ a = b) (hn : n ≤ 64 := by decide) : dEq a b = some (.bl p) := by
  rw [zo6 ha hb hn]
  have e : dEqB a b = p := by
    have := zl9 na nb
    cases hp : dEqB a b <;> cases q : p <;> simp_all
  rw [e]
theorem dNe_p {n m : Nat} {a b : D} {p : Bool} (ha : a.fit n = true) (hb : b.fit m = true) (na : a.noB = true) (nb : b.noB = true) (h : p = true ↔ a = b) (hn : n ≤ 64 := by decide) : dNe a b = some (.bl (!p)) := by
  rw [dNe_fit ha hb hn]
  have e : dEqB a b = p := by
    have := zl9 na nb
    cases hp : dEqB a b <;> cases q : p <;> simp_all
  rw [e]
theorem dInB_iff {d : D} {xs : List D} (nd : d.noB = true) (nx : D.noBs xs = true) : dInB d xs = true ↔ d ∈ xs := by
  unfold dInB
  rw [List.any_eq_true]
  constructor
  · rintro ⟨x, hx, h⟩
    have := (zl9 (noBs_iff.mp nx x hx) nd).mp h
    exact this ▸ hx
  · intro h
    exact ⟨d, h, (zl9 nd nd).mpr rfl⟩
theorem dIn_lp {n m : Nat} {d : D} {xs : List D} {p : Bool} (hd : d.fit n = true) (hx : D.fits m xs = true) (nd : d.noB = true) (nx : D.noBs xs = true) (h : p = true ↔ d ∈ xs) (hn : n ≤ 64 := by decide) : dIn d (.lst xs) = some (.bl p) := by
  rw [dIn_l hd hx hn]
  have := dInB_iff nd nx
  have e : dInB d xs = p := by cases hp : dInB d xs <;> cases q : p <;> simp_all
  rw [e]
theorem dIn_tp {n m : Nat} {d : D} {xs : List D} {p : Bool} (hd : d.fit n = true) (hx : D.fits m xs = true) (nd : d.noB = true) (nx : D.noBs xs = true) (h : p = true ↔ d ∈ xs) (hn : n ≤ 64 := by decide) : dIn d (.tup xs) = some (.bl p) := by
  rw [dIn_t hd hx hn]
  have := dInB_iff nd nx
  have e : dInB d xs = p := by cases hp : dInB d xs <;> cases q : p <;> simp_all
  rw [e]
theorem zj5 (d : D) (S : zae) : zgs [.dat d] S = .ok (.dat (.bl (d.isI && !d.isB))) S := by
  unfold zgs zle
  simp! only []
def zna (d : D) (a b : Int) : Bool := match d with | .int i => decide (a ≤ i) && decide (i ≤ b) | _ => false
theorem ziq (d : D) (a b : Int) (S : zae) : zd6 [.dat d, .dat (.int a), .dat (.int b)] S = .ok (.dat (.bl (zna d a b))) S := by
  unfold zd6 zlk
  simp! only [zj5]
  cases d <;> simp -implicitDefEqProofs only [D.isI, D.isB, zna, a_fn, ze1, zcm, zc7, zdf, zc4, zc2, zbc, zar, c_ok, zf6, c_bl, zfo, zfe, c_or, zdl, zfh, zgh, zgd, zc9, a_tg, zdk, zcf, zf0, Res.bind_ok, Res.bind_ex, Res.bindS_ok, Res.bindS_ex, zdm, a_c, a_x2, a_o2, zdh, a_xN, zdp, zf8, a_o1, zfr, zfp, zgt, zbe, zbb, zb8, zb6, zc3, zfs, zfy, zga, zfm, zf4, zbz, zba, za0, zay, za1, zaz, zfl, a_or, zcd, zb4, zfn, zgf, zfg, zc0, a_if, zft, zc1, zcg, zbh, zav, zbd, zb3, a_it, zax, zaw, a_lc, zb0, zb7, zgb, zgn, zff, zfv, zf3, zfq, zfw, zgj, zgp, zc8, a_rd, Option.bind_some, zc_, zb9, zb5, zau, List.map_cons, List.map_nil, List.length_cons, List.length_nil, Nat.reduceSub, Nat.reduceAdd, List.replicate_succ, List.replicate_zero, List.cons_append, List.nil_append, List.append_nil, List.getElem?_cons_zero, List.getElem?_cons_succ, List.set_cons_zero, List.set_cons_succ, List.take_length, cond_true, cond_false, Bool.not_true, Bool.not_false, zgv, zfj, zfz, zgl, zdn, zc5, zcc, zbg, zdb, zct, zfx, zgi, zcb, zca, zbf, zbi, zf5, zda, zgq, zf9, zgm, zcn, zde, zgg, zdc, zg_, zf7, zgr, zdj, zdo, zat, zas, zcu, za6, zal, Option.map_some, zap, zcz, zbs, zb_, lit2, lit3, Bool.true_and, Bool.false_and, Bool.and_true, Bool.and_false, Bool.true_or, Bool.false_or, Bool.or_true, Bool.or_false, Bool.not_not, a_sl, zgo, zgw, zce, zdg, zgu, zc6, zdi, zdd, zb1, zbv]
def zl3 : D → Bool | .int i => decide (i ≥ 0) | _ => false
theorem zmr (d : D) (S : zae) : zib [.dat d] S = .ok (.dat (.bl (zl3 d))) S := by
  unfold zib zok
  simp! only [zj5]
  cases d <;> simp -implicitDefEqProofs only [D.isI, D.isB, zl3, a_fn, ze1, zcm, zc7, zdf, zc4, zc2, zbc, zar, c_ok, zf6, c_bl, zfo, zfe, c_or, zdl, zfh, zgh, zgd, zc9, a_tg, zdk, zcf, zf0, Res.bind_ok, Res.bind_ex, Res.bindS_ok, Res.bindS_ex, zdm, a_c, a_x2, a_o2, zdh, a_xN, zdp, zf8, a_o1, zfr, zfp, zgt, zbe, zbb, zb8, zb6, zc3, zfs, zfy, zga, zfm, zf4, zbz, zba, za0, zay, za1, zaz, zfl, a_or, zcd, zb4, zfn, zgf, zfg, zc0, a_if, zft, zc1, zcg, zbh, zav, zbd, zb3, a_it, zax, zaw, a_lc, zb0, zb7, zgb, zgn, zff, zfv, zf3, zfq, zfw, zgj, zgp, zc8, a_rd, Option.bind_some, zc_, zb9, zb5, zau, List.map_cons, List.map_nil, List.length_cons, List.length_nil, Nat.reduceSub, Nat.reduceAdd, List.replicate_succ, List.replicate_zero, List.cons_append, List.nil_append, List.append_nil, List.getElem?_cons_zero, List.getElem?_cons_succ, List.set_cons_zero, List.set_cons_succ, List.take_length, cond_true, cond_false, Bool.not_true, Bool.not_false, zgv, zfj, zfz, zgl, zdn, zc5, zcc, zbg, zdb, zct, zfx, zgi, zcb, zca, zbf, zbi, zf5, zda, zgq, zf9, zgm, zcn, zde, zgg, zdc, zg_, zf7, zgr, zdj, zdo, zat, zas, zcu, za6, zal, Option.map_some, zap, zcz, zbs, zb_, lit2, lit3, Bool.true_and, Bool.false_and, Bool.and_true, Bool.and_false, Bool.true_or, Bool.false_or, Bool.or_true, Bool.or_false, Bool.not_not, a_sl, zgo, zgw, zce, zdg, zgu, zc6, zdi, zdd, zb1, zbv]
theorem vals_ints : ∀ {xs : List D}, xs.all zl3 = true → ∃ a : List Int, xs = a.map .int ∧ ∀ i ∈ a, 0 ≤ i
  | [], _ => ⟨[], rfl, by simp⟩
  | x :: xs, h => by
    simp only [List.all_cons, Bool.and_eq_true] at h
    obtain ⟨a, e, p⟩ := vals_ints h.2
    have h1 := h.1
    cases x <;> simp only [zl3, decide_eq_true_eq, Bool.false_eq_true] at h1
    rename_i i
    exact ⟨i :: a, by rw [e]; rfl, by simp only [List.mem_cons]; exact fun j q => q.elim (fun e => e ▸ h1) (p j)⟩
def colB (xs : List D) : Bool := match zhj xs with | some ns => decide (ns = sset ns) | none => false
def zhy : D → Bool
  | .non => true
  | .tup xs => (decide (1 ≤ (xs.length : Int)) && decide ((xs.length : Int) ≤ 3)) && (xs.all zl3 && colB xs)
  | _ => false
theorem is_column_ok (d : D) (S : zae) : zid [.dat d] S = .ok (.dat (.bl (zhy d))) S := by
  unfold zid zmx
  simp! only []
  cases d 
  case tup xs =>
    simp -implicitDefEqProofs only [D.isN, D.isT, zhy, a_fn, ze1, zcm, zc7, zdf, zc4, zc2, zbc, zar, c_ok, zf6, c_bl, zfo, zfe, c_or, zdl, zfh, zgh, zgd, zc9, a_tg, zdk, zcf, zf0, Res.bind_ok, Res.bind_ex, Res.bindS_ok, Res.bindS_ex, zdm, a_c, a_x2, a_o2, zdh, a_xN, zdp, zf8, a_o1, zfr, zfp, zgt, zbe, zbb, zb8, zb6, zc3, zfs, zfy, zga, zfm, zf4, zbz, zba, za0, zay, za1, zaz, zfl, a_or, zcd, zb4, zfn, zgf, zfg, zc0, a_if, zft, zc1, zcg, zbh, zav, zbd, zb3, a_it, zax, zaw, a_lc, zb0, zb7, zgb, zgn, zff, zfv, zf3, zfq, zfw, zgj, zgp, zc8, a_rd, Option.bind_some, zc_, zb9, zb5, zau, List.map_cons, List.map_nil, List.length_cons, List.length_nil, Nat.reduceSub, Nat.reduceAdd, List.replicate_succ, List.replicate_zero, List.cons_append, List.nil_append, List.append_nil, List.getElem?_cons_zero, List.getElem?_cons_succ, List.set_cons_zero, List.set_cons_succ, List.take_length, cond_true, cond_false, Bool.not_true, Bool.not_false, zgv, zfj, zfz, zgl, zdn, zc5, zcc, zbg, zdb, zct, zfx, zgi, zcb, zca, zbf, zbi, zf5, zda, zgq, zf9, zgm, zcn, zde, zgg, zdc, zg_, zf7, zgr, zdj, zdo, zat, zas, zcu, za6, zal, Option.map_some, zap, zcz, zbs, zb_, lit2, lit3, Bool.true_and, Bool.false_and, Bool.and_true, Bool.and_false, Bool.true_or, Bool.false_or, Bool.or_true, Bool.or_false, Bool.not_not, a_sl, zgo, zgw, zce, zdg, zgu, zc6, zdi, zdd, zb1, zbv]
    cases h : (decide (1 ≤ (xs.length : Int)) && decide ((xs.length : Int) ≤ 3))
    · simp! only []
    · have hl : szB xs.length = true := by
        rw [← szB_iff]
        simp only [Bool.and_eq_true, decide_eq_true_eq] at h
        unfold sizeLine
        omega
      rw [hl]
      simp! only []
      rw [zge (q := fun d => .bl (zl3 d)) xs ?h]
      case h => intro d _; exact ⟨_, rfl, rfl, by simp! only [zmr]⟩
      simp! only [ze2]
      cases hv : xs.all zl3
      · simp! only []
      · obtain ⟨a, rfl, ha⟩ := vals_ints hv
        simp! only [zcn]
        rw [sort_intsT a (by simp only [List.length_map, Bool.and_eq_true, decide_eq_true_eq] at h; omega)]
        simp! only [dEq_ints, colB, zel]
  all_goals simp -implicitDefEqProofs only [D.isN, D.isT, zhy, a_fn, ze1, zcm, zc7, zdf, zc4, zc2, zbc, zar, c_ok, zf6, c_bl, zfo, zfe, c_or, zdl, zfh, zgh, zgd, zc9, a_tg, zdk, zcf, zf0, Res.bind_ok, Res.bind_ex, Res.bindS_ok, Res.bindS_ex, zdm, a_c, a_x2, a_o2, zdh, a_xN, zdp, zf8, a_o1, zfr, zfp, zgt, zbe, zbb, zb8, zb6, zc3, zfs, zfy, zga, zfm, zf4, zbz, zba, za0, zay, za1, zaz, zfl, a_or, zcd, zb4, zfn, zgf, zfg, zc0, a_if, zft, zc1, zcg, zbh, zav, zbd, zb3, a_it, zax, zaw, a_lc, zb0, zb7, zgb, zgn, zff, zfv, zf3, zfq, zfw, zgj, zgp, zc8, a_rd, Option.bind_some, zc_, zb9, zb5, zau, List.map_cons, List.map_nil, List.length_cons, List.length_nil, Nat.reduceSub, Nat.reduceAdd, List.replicate_succ, List.replicate_zero, List.cons_append, List.nil_append, List.append_nil, List.getElem?_cons_zero, List.getElem?_cons_succ, List.set_cons_zero, List.set_cons_succ, List.take_length, cond_true, cond_false, Bool.not_true, Bool.not_false, zgv, zfj, zfz, zgl, zdn, zc5, zcc, zbg, zdb, zct, zfx, zgi, zcb, zca, zbf, zbi, zf5, zda, zgq, zf9, zgm, zcn, zde, zgg, zdc, zg_, zf7, zgr, zdj, zdo, zat, zas, zcu, za6, zal, Option.map_some, zap, zcz, zbs, zb_, lit2, lit3, Bool.true_and, Bool.false_and, Bool.and_true, Bool.and_false, Bool.true_or, Bool.false_or, Bool.or_true, Bool.or_false, Bool.not_not, a_sl, zgo, zgw, zce, zdg, zgu, zc6, zdi, zdd, zb1, zbv]
theorem zm2 {c : D} (h : zhy c = true) : c = .non ∨ ∃ ns : List Int, c = .tup (ns.map .int) ∧ 1 ≤ ns.length ∧ ns.length ≤ 3 ∧ (∀ i ∈ ns, 0 ≤ i) ∧ ns = sset ns := by
  cases c <;> simp only [zhy, Bool.false_eq_true] at h
  · exact .inl rfl
  · simp only [Bool.and_eq_true, decide_eq_true_eq] at h
    obtain ⟨⟨h1, h2⟩, h3, h4⟩ := h
    obtain ⟨a, rfl, ha⟩ := vals_ints h3
    simp only [List.length_map] at h1 h2
    simp only [colB, zel, decide_eq_true_eq] at h4
    exact .inr ⟨a, rfl, by omega, by omega, ha, h4⟩
def inC (d : D) : D → Bool | .tup xs => dInB d xs | _ => false
def ze0 (c d : D) : Bool := zl3 d && (c.isN || inC d c)
theorem zhw (c d : D) (hc : zhy c = true) (S : zae) : zea [.dat c, .dat d] S = .ok (.dat (.bl (ze0 c d))) S := by
  unfold zea zko
  simp! only [zmr]
  cases hv : zl3 d
  · simp -implicitDefEqProofs only [ze0, hv, a_fn, ze1, zcm, zc7, zdf, zc4, zc2, zbc, zar, c_ok, zf6, c_bl, zfo, zfe, c_or, zdl, zfh, zgh, zgd, zc9, a_tg, zdk, zcf, zf0, Res.bind_ok, Res.bind_ex, Res.bindS_ok, Res.bindS_ex, zdm, a_c, a_x2, a_o2, zdh, a_xN, zdp, zf8, a_o1, zfr, zfp, zgt, zbe, zbb, zb8, zb6, zc3, zfs, zfy, zga, zfm, zf4, zbz, zba, za0, zay, za1, zaz, zfl, a_or, zcd, zb4, zfn, zgf, zfg, zc0, a_if, zft, zc1, zcg, zbh, zav, zbd, zb3, a_it, zax, zaw, a_lc, zb0, zb7, zgb, zgn, zff, zfv, zf3, zfq, zfw, zgj, zgp, zc8, a_rd, Option.bind_some, zc_, zb9, zb5, zau, List.map_cons, List.map_nil, List.length_cons, List.length_nil, Nat.reduceSub, Nat.reduceAdd, List.replicate_succ, List.replicate_zero, List.cons_append, List.nil_append, List.append_nil, List.getElem?_cons_zero, List.getElem?_cons_succ, List.set_cons_zero, List.set_cons_succ, List.take_length, cond_true, cond_false, Bool.not_true, Bool.not_false, zgv, zfj, zfz, zgl, zdn, zc5, zcc, zbg, zdb, zct, zfx, zgi, zcb, zca, zbf, zbi, zf5, zda, zgq, zf9, zgm, zcn, zde, zgg, zdc, zg_, zf7, zgr, zdj, zdo, zat, zas, zcu, za6, zal, Option.map_some, zap, zcz, zbs, zb_, lit2, lit3, Bool.true_and, Bool.false_and, Bool.and_true, Bool.and_false, Bool.true_or, Bool.false_or, Bool.or_true, Bool.or_false, Bool.not_not, a_sl, zgo, zgw, zce, zdg, zgu, zc6, zdi, zdd, zb1, zbv]
  · rcases zm2 hc with rfl | ⟨ns, rfl, _⟩
    · simp -implicitDefEqProofs only [ze0, hv, a_fn, ze1, zcm, zc7, zdf, zc4, zc2, zbc, zar, c_ok, zf6, c_bl, zfo, zfe, c_or, zdl, zfh, zgh, zgd, zc9, a_tg, zdk, zcf, zf0, Res.bind_ok, Res.bind_ex, Res.bindS_ok, Res.bindS_ex, zdm, a_c, a_x2, a_o2, zdh, a_xN, zdp, zf8, a_o1, zfr, zfp, zgt, zbe, zbb, zb8, zb6, zc3, zfs, zfy, zga, zfm, zf4, zbz, zba, za0, zay, za1, zaz, zfl, a_or, zcd, zb4, zfn, zgf, zfg, zc0, a_if, zft, zc1, zcg, zbh, zav, zbd, zb3, a_it, zax, zaw, a_lc, zb0, zb7, zgb, zgn, zff, zfv, zf3, zfq, zfw, zgj, zgp, zc8, a_rd, Option.bind_some, zc_, zb9, zb5, zau, List.map_cons, List.map_nil, List.length_cons, List.length_nil, Nat.reduceSub, Nat.reduceAdd, List.replicate_succ, List.replicate_zero, List.cons_append, List.nil_append, List.append_nil, List.getElem?_cons_zero, List.getElem?_cons_succ, List.set_cons_zero, List.set_cons_succ, List.take_length, cond_true, cond_false, Bool.not_true, Bool.not_false, zgv, zfj, zfz, zgl, zdn, zc5, zcc, zbg, zdb, zct, zfx, zgi, zcb, zca, zbf, zbi, zf5, zda, zgq, zf9, zgm, zcn, zde, zgg, zdc, zg_, zf7, zgr, zdj, zdo, zat, zas, zcu, za6, zal, Option.map_some, zap, zcz, zbs, zb_, lit2, lit3, Bool.true_and, Bool.false_and, Bool.and_true, Bool.and_false, Bool.true_or, Bool.false_or, Bool.or_true, Bool.or_false, Bool.not_not, a_sl, zgo, zgw, zce, zdg, zgu, zc6, zdi, zdd, zb1, zbv, D.isN]
    · have : dIn d (.tup (ns.map .int)) = some (.bl (dInB d (ns.map .int))) := dIn_t (n := 1) (m := 0) (by cases d <;> first | rfl | cases hv) (zi3 0 ns)
      simp -implicitDefEqProofs only [ze0, hv, a_fn, ze1, zcm, zc7, zdf, zc4, zc2, zbc, zar, c_ok, zf6, c_bl, zfo, zfe, c_or, zdl, zfh, zgh, zgd, zc9, a_tg, zdk, zcf, zf0, Res.bind_ok, Res.bind_ex, Res.bindS_ok, Res.bindS_ex, zdm, a_c, a_x2, a_o2, zdh, a_xN, zdp, zf8, a_o1, zfr, zfp, zgt, zbe, zbb, zb8, zb6, zc3, zfs, zfy, zga, zfm, zf4, zbz, zba, za0, zay, za1, zaz, zfl, a_or, zcd, zb4, zfn, zgf, zfg, zc0, a_if, zft, zc1, zcg, zbh, zav, zbd, zb3, a_it, zax, zaw, a_lc, zb0, zb7, zgb, zgn, zff, zfv, zf3, zfq, zfw, zgj, zgp, zc8, a_rd, Option.bind_some, zc_, zb9, zb5, zau, List.map_cons, List.map_nil, List.length_cons, List.length_nil, Nat.reduceSub, Nat.reduceAdd, List.replicate_succ, List.replicate_zero, List.cons_append, List.nil_append, List.append_nil, List.getElem?_cons_zero, List.getElem?_cons_succ, List.set_cons_zero, List.set_cons_succ, List.take_length, cond_true, cond_false, Bool.not_true, Bool.not_false, zgv, zfj, zfz, zgl, zdn, zc5, zcc, zbg, zdb, zct, zfx, zgi, zcb, zca, zbf, zbi, zf5, zda, zgq, zf9, zgm, zcn, zde, zgg, zdc, zg_, zf7, zgr, zdj, zdo, zat, zas, zcu, za6, zal, Option.map_some, zap, zcz, zbs, zb_, lit2, lit3, Bool.true_and, Bool.false_and, Bool.and_true, Bool.and_false, Bool.true_or, Bool.false_or, Bool.or_true, Bool.or_false, Bool.not_not, a_sl, zgo, zgw, zce, zdg, zgu, zc6, zdi, zdd, zb1, zbv, D.isN, this, inC]
def ziw : D → Bool
  | .tup xs => (decide (1 ≤ (xs.length : Int)) && decide ((xs.length : Int) ≤ 4)) && (xs.all zhy && decide (((xs.filter fun c => !c.isN).length : Int) ≤ 2))
  | _ => false
theorem zor (d : D) (S : zae) : zhk [.dat d] S = .ok (.dat (.bl (ziw d))) S := by
  unfold zhk zli
  simp! only []
  cases d
  case tup xs =>
    simp -implicitDefEqProofs only [D.isT, ziw, a_fn, ze1, zcm, zc7, zdf, zc4, zc2, zbc, zar, c_ok, zf6, c_bl, zfo, zfe, c_or, zdl, zfh, zgh, zgd, zc9, a_tg, zdk, zcf, zf0, Res.bind_ok, Res.bind_ex, Res.bindS_ok, Res.bindS_ex, zdm, a_c, a_x2, a_o2, zdh, a_xN, zdp, zf8, a_o1, zfr, zfp, zgt, zbe, zbb, zb8, zb6, zc3, zfs, zfy, zga, zfm, zf4, zbz, zba, za0, zay, za1, zaz, zfl, a_or, zcd, zb4, zfn, zgf, zfg, zc0, a_if, zft, zc1, zcg, zbh, zav, zbd, zb3, a_it, zax, zaw, a_lc, zb0, zb7, zgb, zgn, zff, zfv, zf3, zfq, zfw, zgj, zgp, zc8, a_rd, Option.bind_some, zc_, zb9, zb5, zau, List.map_cons, List.map_nil, List.length_cons, List.length_nil, Nat.reduceSub, Nat.reduceAdd, List.replicate_succ, List.replicate_zero, List.cons_append, List.nil_append, List.append_nil, List.getElem?_cons_zero, List.getElem?_cons_succ, List.set_cons_zero, List.set_cons_succ, List.take_length, cond_true, cond_false, Bool.not_true, Bool.not_false, zgv, zfj, zfz, zgl, zdn, zc5, zcc, zbg, zdb, zct, zfx, zgi, zcb, zca, zbf, zbi, zf5, zda, zgq, zf9, zgm, zcn, zde, zgg, zdc, zg_, zf7, zgr, zdj, zdo, zat, zas, zcu, za6, zal, Option.map_some, zap, zcz, zbs, zb_, lit2, lit3, Bool.true_and, Bool.false_and, Bool.and_true, Bool.and_false, Bool.true_or, Bool.false_or, Bool.or_true, Bool.or_false, Bool.not_not, a_sl, zgo, zgw, zce, zdg, zgu, zc6, zdi, zdd, zb1, zbv]
    cases h : (decide (1 ≤ (xs.length : Int)) && decide ((xs.length : Int) ≤ 4))
    · simp! only []
    · have hl : szB xs.length = true := by
        rw [← szB_iff]
        simp only [Bool.and_eq_true, decide_eq_true_eq] at h
        unfold sizeLine
        omega
      rw [hl]
      simp! only []
      rw [zge (q := fun d => .bl (zhy d)) xs ?h]
      case h => intro d _; exact ⟨_, rfl, rfl, by simp! only [is_column_ok]⟩
      simp! only [ze2]
      rw [zlv (p := fun c => !c.isN) (q := id) xs ?h]
      case h => intro d _; exact ⟨_, rfl, by simp! only [], fun _ => by simp! only [id]⟩
      simp! only [List.map_id]
      cases hv : xs.all zhy <;> simp! only [hl]
  all_goals simp -implicitDefEqProofs only [D.isT, ziw, a_fn, ze1, zcm, zc7, zdf, zc4, zc2, zbc, zar, c_ok, zf6, c_bl, zfo, zfe, c_or, zdl, zfh, zgh, zgd, zc9, a_tg, zdk, zcf, zf0, Res.bind_ok, Res.bind_ex, Res.bindS_ok, Res.bindS_ex, zdm, a_c, a_x2, a_o2, zdh, a_xN, zdp, zf8, a_o1, zfr, zfp, zgt, zbe, zbb, zb8, zb6, zc3, zfs, zfy, zga, zfm, zf4, zbz, zba, za0, zay, za1, zaz, zfl, a_or, zcd, zb4, zfn, zgf, zfg, zc0, a_if, zft, zc1, zcg, zbh, zav, zbd, zb3, a_it, zax, zaw, a_lc, zb0, zb7, zgb, zgn, zff, zfv, zf3, zfq, zfw, zgj, zgp, zc8, a_rd, Option.bind_some, zc_, zb9, zb5, zau, List.map_cons, List.map_nil, List.length_cons, List.length_nil, Nat.reduceSub, Nat.reduceAdd, List.replicate_succ, List.replicate_zero, List.cons_append, List.nil_append, List.append_nil, List.getElem?_cons_zero, List.getElem?_cons_succ, List.set_cons_zero, List.set_cons_succ, List.take_length, cond_true, cond_false, Bool.not_true, Bool.not_false, zgv, zfj, zfz, zgl, zdn, zc5, zcc, zbg, zdb, zct, zfx, zgi, zcb, zca, zbf, zbi, zf5, zda, zgq, zf9, zgm, zcn, zde, zgg, zdc, zg_, zf7, zgr, zdj, zdo, zat, zas, zcu, za6, zal, Option.map_some, zap, zcz, zbs, zb_, lit2, lit3, Bool.true_and, Bool.false_and, Bool.and_true, Bool.and_false, Bool.true_or, Bool.false_or, Bool.or_true, Bool.or_false, Bool.not_not, a_sl, zgo, zgw, zce, zdg, zgu, zc6, zdi, zdd, zb1, zbv]
theorem zhp {d : D} (h : ziw d = true) : ∃ cs : List D, d = .tup cs ∧ 1 ≤ cs.length ∧ cs.length ≤ 4 ∧ ∀ c ∈ cs, zhy c = true := by
  cases d <;> simp only [ziw, Bool.false_eq_true] at h
  rename_i xs
  simp only [Bool.and_eq_true, decide_eq_true_eq, List.all_eq_true] at h
  exact ⟨xs, rfl, by omega, by omega, h.2.1⟩
theorem zco (d : D) (S : zae) : za9 [.dat d] S = bif ziw d then .ok (.dat .non) S else .ex "InvalidColumns" S := by
  unfold za9 zh9
  simp! only [zor]
  cases ziw d <;> simp! only []
theorem zmi {d : D} {a b : Int} (h : zna d a b = true) : ∃ i, d = .int i ∧ a ≤ i ∧ i ≤ b := by
  cases d <;> simp only [zna, Bool.false_eq_true, Bool.and_eq_true, decide_eq_true_eq] at h
  exact ⟨_, rfl, h.1, h.2⟩
def colAt (cs : List D) : D → D | .int i => cs.getD i.toNat .non | _ => .non
def zis (cs : List D) : D → Bool
  | .tup xs => ((xs.length : Int) == cs.length) && (cs.zip xs).all fun p => ze0 p.1 p.2
  | _ => false
theorem zlf (cs : List D) (d : D) (hc : ∀ c ∈ cs, zhy c = true) (hl : cs.length ≤ 4) (S : zae) : zhe [.dat (.tup cs), .dat d] S = .ok (.dat (.bl (zis cs d))) S := by
  unfold zhe zm0
  simp! only []
  cases d
  case tup xs =>
    simp -implicitDefEqProofs only [D.isT, zis, a_fn, ze1, zcm, zc7, zdf, zc4, zc2, zbc, zar, c_ok, zf6, c_bl, zfo, zfe, c_or, zdl, zfh, zgh, zgd, zc9, a_tg, zdk, zcf, zf0, Res.bind_ok, Res.bind_ex, Res.bindS_ok, Res.bindS_ex, zdm, a_c, a_x2, a_o2, zdh, a_xN, zdp, zf8, a_o1, zfr, zfp, zgt, zbe, zbb, zb8, zb6, zc3, zfs, zfy, zga, zfm, zf4, zbz, zba, za0, zay, za1, zaz, zfl, a_or, zcd, zb4, zfn, zgf, zfg, zc0, a_if, zft, zc1, zcg, zbh, zav, zbd, zb3, a_it, zax, zaw, a_lc, zb0, zb7, zgb, zgn, zff, zfv, zf3, zfq, zfw, zgj, zgp, zc8, a_rd, Option.bind_some, zc_, zb9, zb5, zau, List.map_cons, List.map_nil, List.length_cons, List.length_nil, Nat.reduceSub, Nat.reduceAdd, List.replicate_succ, List.replicate_zero, List.cons_append, List.nil_append, List.append_nil, List.getElem?_cons_zero, List.getElem?_cons_succ, List.set_cons_zero, List.set_cons_succ, List.take_length, cond_true, cond_false, Bool.not_true, Bool.not_false, zgv, zfj, zfz, zgl, zdn, zc5, zcc, zbg, zdb, zct, zfx, zgi, zcb, zca, zbf, zbi, zf5, zda, zgq, zf9, zgm, zcn, zde, zgg, zdc, zg_, zf7, zgr, zdj, zdo, zat, zas, zcu, za6, zal, Option.map_some, zap, zcz, zbs, zb_, lit2, lit3, Bool.true_and, Bool.false_and, Bool.and_true, Bool.and_false, Bool.true_or, Bool.false_or, Bool.or_true, Bool.or_false, Bool.not_not, a_sl, zgo, zgw, zce, zdg, zgu, zc6, zdi, zdd, zb1, zbv, zlp]
    have hz : szB (zipD cs xs).length = true := by
      rw [← szB_iff, zipD_map, List.length_map, List.length_zip]
      unfold sizeLine
      omega
    cases h : ((xs.length : Int) == cs.length)
    · simp! only []
    · rw [hz]
      simp! only []
      rw [zipD_map, zcj (q := fun p => .bl (ze0 p.1 p.2)) (cs.zip xs) ?h]
      case h => intro p hp; exact ⟨_, rfl, rfl, by simp! only [zhw _ _ (hc _ (List.of_mem_zip hp).1)]⟩
      simp! only [ze2]
  all_goals simp -implicitDefEqProofs only [D.isT, zis, a_fn, ze1, zcm, zc7, zdf, zc4, zc2, zbc, zar, c_ok, zf6, c_bl, zfo, zfe, c_or, zdl, zfh, zgh, zgd, zc9, a_tg, zdk, zcf, zf0, Res.bind_ok, Res.bind_ex, Res.bindS_ok, Res.bindS_ex, zdm, a_c, a_x2, a_o2, zdh, a_xN, zdp, zf8, a_o1, zfr, zfp, zgt, zbe, zbb, zb8, zb6, zc3, zfs, zfy, zga, zfm, zf4, zbz, zba, za0, zay, za1, zaz, zfl, a_or, zcd, zb4, zfn, zgf, zfg, zc0, a_if, zft, zc1, zcg, zbh, zav, zbd, zb3, a_it, zax, zaw, a_lc, zb0, zb7, zgb, zgn, zff, zfv, zf3, zfq, zfw, zgj, zgp, zc8, a_rd, Option.bind_some, zc_, zb9, zb5, zau, List.map_cons, List.map_nil, List.length_cons, List.length_nil, Nat.reduceSub, Nat.reduceAdd, List.replicate_succ, List.replicate_zero, List.cons_append, List.nil_append, List.append_nil, List.getElem?_cons_zero, List.getElem?_cons_succ, List.set_cons_zero, List.set_cons_succ, List.take_length, cond_true, cond_false, Bool.not_true, Bool.not_false, zgv, zfj, zfz, zgl, zdn, zc5, zcc, zbg, zdb, zct, zfx, zgi, zcb, zca, zbf, zbi, zf5, zda, zgq, zf9, zgm, zcn, zde, zgg, zdc, zg_, zf7, zgr, zdj, zdo, zat, zas, zcu, za6, zal, Option.map_some, zap, zcz, zbs, zb_, lit2, lit3, Bool.true_and, Bool.false_and, Bool.and_true, Bool.and_false, Bool.true_or, Bool.false_or, Bool.or_true, Bool.or_false, Bool.not_not, a_sl, zgo, zgw, zce, zdg, zgu, zc6, zdi, zdd, zb1, zbv]
def isTab (cs : List D) : D → Bool
  | .tup xs => !decide ((xs.length : Int) > 8) && xs.all (zis cs)
  | _ => false
theorem znp (cs : List D) (d : D) (hc : ∀ c ∈ cs, zhy c = true) (hl : cs.length ≤ 4) (S : zae) : zg6 [.dat (.tup cs), .dat d] S = .ok (.dat (.bl (isTab cs d))) S := by
  unfold zg6 zkn
  simp! only []
  cases d
  case tup xs =>
    simp -implicitDefEqProofs only [D.isT, isTab, a_fn, ze1, zcm, zc7, zdf, zc4, zc2, zbc, zar, c_ok, zf6, c_bl, zfo, zfe, c_or, zdl, zfh, zgh, zgd, zc9, a_tg, zdk, zcf, zf0, Res.bind_ok, Res.bind_ex, Res.bindS_ok, Res.bindS_ex, zdm, a_c, a_x2, a_o2, zdh, a_xN, zdp, zf8, a_o1, zfr, zfp, zgt, zbe, zbb, zb8, zb6, zc3, zfs, zfy, zga, zfm, zf4, zbz, zba, za0, zay, za1, zaz, zfl, a_or, zcd, zb4, zfn, zgf, zfg, zc0, a_if, zft, zc1, zcg, zbh, zav, zbd, zb3, a_it, zax, zaw, a_lc, zb0, zb7, zgb, zgn, zff, zfv, zf3, zfq, zfw, zgj, zgp, zc8, a_rd, Option.bind_some, zc_, zb9, zb5, zau, List.map_cons, List.map_nil, List.length_cons, List.length_nil, Nat.reduceSub, Nat.reduceAdd, List.replicate_succ, List.replicate_zero, List.cons_append, List.nil_append, List.append_nil, List.getElem?_cons_zero, List.getElem?_cons_succ, List.set_cons_zero, List.set_cons_succ, List.take_length, cond_true, cond_false, Bool.not_true, Bool.not_false, zgv, zfj, zfz, zgl, zdn, zc5, zcc, zbg, zdb, zct, zfx, zgi, zcb, zca, zbf, zbi, zf5, zda, zgq, zf9, zgm, zcn, zde, zgg, zdc, zg_, zf7, zgr, zdj, zdo, zat, zas, zcu, za6, zal, Option.map_some, zap, zcz, zbs, zb_, lit2, lit3, Bool.true_and, Bool.false_and, Bool.and_true, Bool.and_false, Bool.true_or, Bool.false_or, Bool.or_true, Bool.or_false, Bool.not_not, a_sl, zgo, zgw, zce, zdg, zgu, zc6, zdi, zdd, zb1, zbv]
    cases h : decide ((xs.length : Int) > 8)
    · have hz : szB xs.length = true := by
        rw [← szB_iff]
        simp only [decide_eq_false_iff_not] at h
        unfold sizeLine
        omega
      rw [hz]
      simp! only []
      rw [zge (q := fun p => .bl (zis cs p)) xs ?h]
      case h => intro p hp; exact ⟨_, rfl, rfl, by simp! only [zlf cs _ hc hl]⟩
      simp! only [ze2]
    · simp! only []
  all_goals simp -implicitDefEqProofs only [D.isT, isTab, a_fn, ze1, zcm, zc7, zdf, zc4, zc2, zbc, zar, c_ok, zf6, c_bl, zfo, zfe, c_or, zdl, zfh, zgh, zgd, zc9, a_tg, zdk, zcf, zf0, Res.bind_ok, Res.bind_ex, Res.bindS_ok, Res.bindS_ex, zdm, a_c, a_x2, a_o2, zdh, a_xN, zdp, zf8, a_o1, zfr, zfp, zgt, zbe, zbb, zb8, zb6, zc3, zfs, zfy, zga, zfm, zf4, zbz, zba, za0, zay, za1, zaz, zfl, a_or, zcd, zb4, zfn, zgf, zfg, zc0, a_if, zft, zc1, zcg, zbh, zav, zbd, zb3, a_it, zax, zaw, a_lc, zb0, zb7, zgb, zgn, zff, zfv, zf3, zfq, zfw, zgj, zgp, zc8, a_rd, Option.bind_some, zc_, zb9, zb5, zau, List.map_cons, List.map_nil, List.length_cons, List.length_nil, Nat.reduceSub, Nat.reduceAdd, List.replicate_succ, List.replicate_zero, List.cons_append, List.nil_append, List.append_nil, List.getElem?_cons_zero, List.getElem?_cons_succ, List.set_cons_zero, List.set_cons_succ, List.take_length, cond_true, cond_false, Bool.not_true, Bool.not_false, zgv, zfj, zfz, zgl, zdn, zc5, zcc, zbg, zdb, zct, zfx, zgi, zcb, zca, zbf, zbi, zf5, zda, zgq, zf9, zgm, zcn, zde, zgg, zdc, zg_, zf7, zgr, zdj, zdo, zat, zas, zcu, za6, zal, Option.map_some, zap, zcz, zbs, zb_, lit2, lit3, Bool.true_and, Bool.false_and, Bool.and_true, Bool.and_false, Bool.true_or, Bool.false_or, Bool.or_true, Bool.or_false, Bool.not_not, a_sl, zgo, zgw, zce, zdg, zgu, zc6, zdi, zdd, zb1, zbv]
theorem ziv (cs : List D) (d : D) (hc : ∀ c ∈ cs, zhy c = true) (hl : cs.length ≤ 4) (S : zae) : zcx [.dat (.tup cs), .dat d] S = bif isTab cs d then .ok (.dat .non) S else .ex "InvalidTable" S := by
  unfold zcx zi7
  simp! only [znp cs d hc hl]
  cases isTab cs d <;> simp! only []
def zk2 (cs : List D) : D → Bool
  | .tup [a, b] => zna a 0 (cs.length - 1) && (b.isN || ze0 (colAt cs a) b)
  | _ => false
theorem is_entry_ok (cs : List D) (d : D) (hc : ∀ c ∈ cs, zhy c = true) (S : zae) : zi9 [.dat (.tup cs), .dat d] S = .ok (.dat (.bl (zk2 cs d))) S := by
  unfold zi9 zn5
  simp! only []
  cases d
  case tup xs =>
    simp -implicitDefEqProofs only [D.isT, a_fn, ze1, zcm, zc7, zdf, zc4, zc2, zbc, zar, c_ok, zf6, c_bl, zfo, zfe, c_or, zdl, zfh, zgh, zgd, zc9, a_tg, zdk, zcf, zf0, Res.bind_ok, Res.bind_ex, Res.bindS_ok, Res.bindS_ex, zdm, a_c, a_x2, a_o2, zdh, a_xN, zdp, zf8, a_o1, zfr, zfp, zgt, zbe, zbb, zb8, zb6, zc3, zfs, zfy, zga, zfm, zf4, zbz, zba, za0, zay, za1, zaz, zfl, a_or, zcd, zb4, zfn, zgf, zfg, zc0, a_if, zft, zc1, zcg, zbh, zav, zbd, zb3, a_it, zax, zaw, a_lc, zb0, zb7, zgb, zgn, zff, zfv, zf3, zfq, zfw, zgj, zgp, zc8, a_rd, Option.bind_some, zc_, zb9, zb5, zau, List.map_cons, List.map_nil, List.length_cons, List.length_nil, Nat.reduceSub, Nat.reduceAdd, List.replicate_succ, List.replicate_zero, List.cons_append, List.nil_append, List.append_nil, List.getElem?_cons_zero, List.getElem?_cons_succ, List.set_cons_zero, List.set_cons_succ, List.take_length, cond_true, cond_false, Bool.not_true, Bool.not_false, zgv, zfj, zfz, zgl, zdn, zc5, zcc, zbg, zdb, zct, zfx, zgi, zcb, zca, zbf, zbi, zf5, zda, zgq, zf9, zgm, zcn, zde, zgg, zdc, zg_, zf7, zgr, zdj, zdo, zat, zas, zcu, za6, zal, Option.map_some, zap, zcz, zbs, zb_, lit2, lit3, Bool.true_and, Bool.false_and, Bool.and_true, Bool.and_false, Bool.true_or, Bool.false_or, Bool.or_true, Bool.or_false, Bool.not_not, a_sl, zgo, zgw, zce, zdg, zgu, zc6, zdi, zdd, zb1, zbv, zlp]
    match xs with
    | [] => simp! only [zk2]
    | [a] => simp! only [zk2]
    | a :: b :: c :: r =>
      have : (((a :: b :: c :: r).length : Int) == 2) = false := by simp only [List.length_cons, beq_eq_false_iff_ne]; omega
      simp only [List.length_cons] at this
      simp! only [zk2, this]
    | [a, b] =>
      simp! only [at2_0, at2_1, ziq, zk2]
      cases h : zna a 0 (cs.length - 1)
      · simp! only []
      · obtain ⟨i, rfl, h0, h1⟩ := zmi h
        simp! only [at2_0, at2_1]
        cases hb : b.isN
        · simp! only [at2_0, at2_1, atI_getD .non h0 (show i < cs.length by omega), zhw _ _ (hc _ (zih (n := i.toNat) (d := D.non) (by omega))), colAt]
        · simp! only []
  all_goals simp -implicitDefEqProofs only [D.isT, zk2, a_fn, ze1, zcm, zc7, zdf, zc4, zc2, zbc, zar, c_ok, zf6, c_bl, zfo, zfe, c_or, zdl, zfh, zgh, zgd, zc9, a_tg, zdk, zcf, zf0, Res.bind_ok, Res.bind_ex, Res.bindS_ok, Res.bindS_ex, zdm, a_c, a_x2, a_o2, zdh, a_xN, zdp, zf8, a_o1, zfr, zfp, zgt, zbe, zbb, zb8, zb6, zc3, zfs, zfy, zga, zfm, zf4, zbz, zba, za0, zay, za1, zaz, zfl, a_or, zcd, zb4, zfn, zgf, zfg, zc0, a_if, zft, zc1, zcg, zbh, zav, zbd, zb3, a_it, zax, zaw, a_lc, zb0, zb7, zgb, zgn, zff, zfv, zf3, zfq, zfw, zgj, zgp, zc8, a_rd, Option.bind_some, zc_, zb9, zb5, zau, List.map_cons, List.map_nil, List.length_cons, List.length_nil, Nat.reduceSub, Nat.reduceAdd, List.replicate_succ, List.replicate_zero, List.cons_append, List.nil_append, List.append_nil, List.getElem?_cons_zero, List.getElem?_cons_succ, List.set_cons_zero, List.set_cons_succ, List.take_length, cond_true, cond_false, Bool.not_true, Bool.not_false, zgv, zfj, zfz, zgl, zdn, zc5, zcc, zbg, zdb, zct, zfx, zgi, zcb, zca, zbf, zbi, zf5, zda, zgq, zf9, zgm, zcn, zde, zgg, zdc, zg_, zf7, zgr, zdj, zdo, zat, zas, zcu, za6, zal, Option.map_some, zap, zcz, zbs, zb_, lit2, lit3, Bool.true_and, Bool.false_and, Bool.and_true, Bool.and_false, Bool.true_or, Bool.false_or, Bool.or_true, Bool.or_false, Bool.not_not, a_sl, zgo, zgw, zce, zdg, zgu, zc6, zdi, zdd, zb1, zbv]
def fstI : D → Int | .tup (.int i :: _) => i | _ => 0
def zhm : D → List D | .tup xs => xs | .lst xs => xs | _ => []
def zow (cs : List D) : D → Bool
  | .tup xs => xs.all (zk2 cs) && decide (xs.map fstI = sset (xs.map fstI))
  | _ => false
theorem zjx {cs : List D} {d : D} (h : zk2 cs d = true) : ∃ i b, d = .tup [.int i, b] ∧ 0 ≤ i ∧ i < cs.length ∧ (b = .non ∨ ze0 (cs.getD i.toNat .non) b = true) := by
  unfold zk2 at h
  split at h
  · simp only [Bool.and_eq_true] at h
    obtain ⟨i, rfl, h0, h1⟩ := zmi h.1
    rename_i b
    refine ⟨i, b, rfl, h0, by omega, ?_⟩
    have h2 := h.2
    cases b <;> first | exact .inl rfl | (right; simpa [D.isN, colAt] using h2)
  · cases h
theorem is_given_ok (cs : List D) (d : D) (hc : ∀ c ∈ cs, zhy c = true) (hd : (zhm d).length < 64) (S : zae) : zjb [.dat (.tup cs), .dat d] S = .ok (.dat (.bl (zow cs d))) S := by
  unfold zjb zn3
  simp! only []
  cases d
  case tup xs =>
    have hz : szB xs.length = true := by
      rw [← szB_iff]
      simp only [zhm] at hd
      unfold sizeLine
      omega
    simp -implicitDefEqProofs only [D.isT, zow, a_fn, ze1, zcm, zc7, zdf, zc4, zc2, zbc, zar, c_ok, zf6, c_bl, zfo, zfe, c_or, zdl, zfh, zgh, zgd, zc9, a_tg, zdk, zcf, zf0, Res.bind_ok, Res.bind_ex, Res.bindS_ok, Res.bindS_ex, zdm, a_c, a_x2, a_o2, zdh, a_xN, zdp, zf8, a_o1, zfr, zfp, zgt, zbe, zbb, zb8, zb6, zc3, zfs, zfy, zga, zfm, zf4, zbz, zba, za0, zay, za1, zaz, zfl, a_or, zcd, zb4, zfn, zgf, zfg, zc0, a_if, zft, zc1, zcg, zbh, zav, zbd, zb3, a_it, zax, zaw, a_lc, zb0, zb7, zgb, zgn, zff, zfv, zf3, zfq, zfw, zgj, zgp, zc8, a_rd, Option.bind_some, zc_, zb9, zb5, zau, List.map_cons, List.map_nil, List.length_cons, List.length_nil, Nat.reduceSub, Nat.reduceAdd, List.replicate_succ, List.replicate_zero, List.cons_append, List.nil_append, List.append_nil, List.getElem?_cons_zero, List.getElem?_cons_succ, List.set_cons_zero, List.set_cons_succ, List.take_length, cond_true, cond_false, Bool.not_true, Bool.not_false, zgv, zfj, zfz, zgl, zdn, zc5, zcc, zbg, zdb, zct, zfx, zgi, zcb, zca, zbf, zbi, zf5, zda, zgq, zf9, zgm, zcn, zde, zgg, zdc, zg_, zf7, zgr, zdj, zdo, zat, zas, zcu, za6, zal, Option.map_some, zap, zcz, zbs, zb_, lit2, lit3, Bool.true_and, Bool.false_and, Bool.and_true, Bool.and_false, Bool.true_or, Bool.false_or, Bool.or_true, Bool.or_false, Bool.not_not, a_sl, zgo, zgw, zce, zdg, zgu, zc6, zdi, zdd, zb1, zbv, hz]
    rw [zge (q := fun p => .bl (zk2 cs p)) xs ?h]
    case h => intro p hp; exact ⟨_, rfl, rfl, by simp! only [is_entry_ok cs _ hc]⟩
    simp! only [ze2]
    cases h : xs.all (zk2 cs)
    · simp! only []
    · simp only [List.all_eq_true] at h
      simp! only [hz]
      rw [zge (q := fun p => .int (fstI p)) xs ?h]
      case h =>
        intro p hp
        obtain ⟨i, b, rfl, _⟩ := zjx (h p hp)
        exact ⟨_, rfl, rfl, by simp! only [at2_0, fstI]⟩
      have e : (xs.map fun p => D.int (fstI p)) = (xs.map fstI).map .int := by simp
      simp! only [zcn, e]
      rw [sort_ints _ (by simpa [zhm] using hd)]
      simp! only [dEq_ints]
  all_goals simp -implicitDefEqProofs only [D.isT, zow, a_fn, ze1, zcm, zc7, zdf, zc4, zc2, zbc, zar, c_ok, zf6, c_bl, zfo, zfe, c_or, zdl, zfh, zgh, zgd, zc9, a_tg, zdk, zcf, zf0, Res.bind_ok, Res.bind_ex, Res.bindS_ok, Res.bindS_ex, zdm, a_c, a_x2, a_o2, zdh, a_xN, zdp, zf8, a_o1, zfr, zfp, zgt, zbe, zbb, zb8, zb6, zc3, zfs, zfy, zga, zfm, zf4, zbz, zba, za0, zay, za1, zaz, zfl, a_or, zcd, zb4, zfn, zgf, zfg, zc0, a_if, zft, zc1, zcg, zbh, zav, zbd, zb3, a_it, zax, zaw, a_lc, zb0, zb7, zgb, zgn, zff, zfv, zf3, zfq, zfw, zgj, zgp, zc8, a_rd, Option.bind_some, zc_, zb9, zb5, zau, List.map_cons, List.map_nil, List.length_cons, List.length_nil, Nat.reduceSub, Nat.reduceAdd, List.replicate_succ, List.replicate_zero, List.cons_append, List.nil_append, List.append_nil, List.getElem?_cons_zero, List.getElem?_cons_succ, List.set_cons_zero, List.set_cons_succ, List.take_length, cond_true, cond_false, Bool.not_true, Bool.not_false, zgv, zfj, zfz, zgl, zdn, zc5, zcc, zbg, zdb, zct, zfx, zgi, zcb, zca, zbf, zbi, zf5, zda, zgq, zf9, zgm, zcn, zde, zgg, zdc, zg_, zf7, zgr, zdj, zdo, zat, zas, zcu, za6, zal, Option.map_some, zap, zcz, zbs, zb_, lit2, lit3, Bool.true_and, Bool.false_and, Bool.and_true, Bool.and_false, Bool.true_or, Bool.false_or, Bool.or_true, Bool.or_false, Bool.not_not, a_sl, zgo, zgw, zce, zdg, zgu, zc6, zdi, zdd, zb1, zbv]
def zl2 (cs : List D) : D → Bool
  | .tup [g, c, w] => zow cs g && ((zna c 0 (cs.length - 1) && !(inC c (.tup ((zhm g).map fun e => .int (fstI e))))) && (w.isN || (ze0 (colAt cs c) w && (zhm g).all fun e => match e with | .tup [_, b] => !b.isN | _ => false)))
  | _ => false
theorem isGiv_cases {cs : List D} {d : D} (h : zow cs d = true) : ∃ xs, d = .tup xs ∧ (∀ x ∈ xs, zk2 cs x = true) ∧ xs.map fstI = sset (xs.map fstI) := by
  cases d <;> simp only [zow, Bool.false_eq_true, Bool.and_eq_true, decide_eq_true_eq, List.all_eq_true] at h
  exact ⟨_, rfl, h.1, h.2⟩
def short (d : D) : Prop := match d with | .tup (g :: _) => (zhm g).length < 64 | _ => True
theorem zic (cs : List D) (d : D) (hc : ∀ c ∈ cs, zhy c = true) (hd : short d) (S : zae) : zeo [.dat (.tup cs), .dat d] S = .ok (.dat (.bl (zl2 cs d))) S := by
  unfold zeo zlj
  simp! only []
  cases d
  case tup xs =>
    simp -implicitDefEqProofs only [D.isT, a_fn, ze1, zcm, zc7, zdf, zc4, zc2, zbc, zar, c_ok, zf6, c_bl, zfo, zfe, c_or, zdl, zfh, zgh, zgd, zc9, a_tg, zdk, zcf, zf0, Res.bind_ok, Res.bind_ex, Res.bindS_ok, Res.bindS_ex, zdm, a_c, a_x2, a_o2, zdh, a_xN, zdp, zf8, a_o1, zfr, zfp, zgt, zbe, zbb, zb8, zb6, zc3, zfs, zfy, zga, zfm, zf4, zbz, zba, za0, zay, za1, zaz, zfl, a_or, zcd, zb4, zfn, zgf, zfg, zc0, a_if, zft, zc1, zcg, zbh, zav, zbd, zb3, a_it, zax, zaw, a_lc, zb0, zb7, zgb, zgn, zff, zfv, zf3, zfq, zfw, zgj, zgp, zc8, a_rd, Option.bind_some, zc_, zb9, zb5, zau, List.map_cons, List.map_nil, List.length_cons, List.length_nil, Nat.reduceSub, Nat.reduceAdd, List.replicate_succ, List.replicate_zero, List.cons_append, List.nil_append, List.append_nil, List.getElem?_cons_zero, List.getElem?_cons_succ, List.set_cons_zero, List.set_cons_succ, List.take_length, cond_true, cond_false, Bool.not_true, Bool.not_false, zgv, zfj, zfz, zgl, zdn, zc5, zcc, zbg, zdb, zct, zfx, zgi, zcb, zca, zbf, zbi, zf5, zda, zgq, zf9, zgm, zcn, zde, zgg, zdc, zg_, zf7, zgr, zdj, zdo, zat, zas, zcu, za6, zal, Option.map_some, zap, zcz, zbs, zb_, lit2, lit3, Bool.true_and, Bool.false_and, Bool.and_true, Bool.and_false, Bool.true_or, Bool.false_or, Bool.or_true, Bool.or_false, Bool.not_not, a_sl, zgo, zgw, zce, zdg, zgu, zc6, zdi, zdd, zb1, zbv, zlp]
    match xs, hd with
    | [], _ => simp! only [zl2]
    | [a], _ => simp! only [zl2]
    | [a, b], _ => simp! only [zl2]
    | a :: b :: c :: e :: r, _ =>
      have : (((a :: b :: c :: e :: r).length : Int) == 3) = false := by simp only [List.length_cons, beq_eq_false_iff_ne]; omega
      simp only [List.length_cons] at this
      simp! only [zl2, this]
    | [g, c, w], hd =>
      simp! only [at3_0, is_given_ok cs g hc hd, zl2]
      cases hg : zow cs g
      · simp! only []
      · obtain ⟨xs, rfl, hx, _⟩ := isGiv_cases hg
        have hz : szB xs.length = true := by
          rw [← szB_iff]
          simp only [short, zhm] at hd
          unfold sizeLine
          omega
        simp! only [ziq, zhm]
        cases hb : zna c 0 (cs.length - 1)
        · simp! only []
        · obtain ⟨i, rfl, h0, h1⟩ := zmi hb
          simp! only [hz]
          rw [zge (q := fun p => .int (fstI p)) xs ?h]
          case h =>
            intro p hp
            obtain ⟨i, b, rfl, _⟩ := zjx (hx p hp)
            exact ⟨_, rfl, rfl, by simp! only [at2_0, fstI]⟩
          have e : (xs.map fun p => D.int (fstI p)) = (xs.map fstI).map .int := by simp
          have hin : dIn (.int i) (.lst ((xs.map fstI).map .int)) = some (.bl (dInB (.int i) ((xs.map fstI).map .int))) := dIn_l (n := 0) (m := 0) rfl (zi3 0 _)
          simp! only [e, hin, inC]
          cases dInB (.int i) ((xs.map fstI).map .int)
          · simp! only []
            cases hw : w.isN
            · simp! only [atI_getD .non h0 (show i < cs.length by omega), zhw _ _ (hc _ (zih (n := i.toNat) (d := D.non) (by omega))), colAt, hz]
              cases ze0 (cs.getD i.toNat .non) w
              · simp! only []
              · simp! only []
                rw [zge (q := fun p => .bl (match p with | .tup [_, b] => !b.isN | _ => false)) xs ?h]
                case h =>
                  intro p hp
                  obtain ⟨i, b, rfl, _⟩ := zjx (hx p hp)
                  exact ⟨_, rfl, rfl, by simp! only [at2_1, fstI]⟩
                simp! only [ze2]
            · simp! only []
          · simp! only []
  all_goals simp -implicitDefEqProofs only [D.isT, zl2, a_fn, ze1, zcm, zc7, zdf, zc4, zc2, zbc, zar, c_ok, zf6, c_bl, zfo, zfe, c_or, zdl, zfh, zgh, zgd, zc9, a_tg, zdk, zcf, zf0, Res.bind_ok, Res.bind_ex, Res.bindS_ok, Res.bindS_ex, zdm, a_c, a_x2, a_o2, zdh, a_xN, zdp, zf8, a_o1, zfr, zfp, zgt, zbe, zbb, zb8, zb6, zc3, zfs, zfy, zga, zfm, zf4, zbz, zba, za0, zay, za1, zaz, zfl, a_or, zcd, zb4, zfn, zgf, zfg, zc0, a_if, zft, zc1, zcg, zbh, zav, zbd, zb3, a_it, zax, zaw, a_lc, zb0, zb7, zgb, zgn, zff, zfv, zf3, zfq, zfw, zgj, zgp, zc8, a_rd, Option.bind_some, zc_, zb9, zb5, zau, List.map_cons, List.map_nil, List.length_cons, List.length_nil, Nat.reduceSub, Nat.reduceAdd, List.replicate_succ, List.replicate_zero, List.cons_append, List.nil_append, List.append_nil, List.getElem?_cons_zero, List.getElem?_cons_succ, List.set_cons_zero, List.set_cons_succ, List.take_length, cond_true, cond_false, Bool.not_true, Bool.not_false, zgv, zfj, zfz, zgl, zdn, zc5, zcc, zbg, zdb, zct, zfx, zgi, zcb, zca, zbf, zbi, zf5, zda, zgq, zf9, zgm, zcn, zde, zgg, zdc, zg_, zf7, zgr, zdj, zdo, zat, zas, zcu, za6, zal, Option.map_some, zap, zcz, zbs, zb_, lit2, lit3, Bool.true_and, Bool.false_and, Bool.and_true, Bool.and_false, Bool.true_or, Bool.false_or, Bool.or_true, Bool.or_false, Bool.not_not, a_sl, zgo, zgw, zce, zdg, zgu, zc6, zdi, zdd, zb1, zbv]
theorem zha (cs : List D) (d : D) (hc : ∀ c ∈ cs, zhy c = true) (hd : short d) (S : zae) : zdy [.dat (.tup cs), .dat d] S = bif zl2 cs d then .ok (.dat .non) S else .ex "InvalidRule" S := by
  unfold zdy zjo
  simp! only [zic cs d hc hd]
  cases zl2 cs d <;> simp! only []
abbrev Ent := Nat × Option Int
abbrev Giv := List Ent
structure Rul where
  g : Giv
  c : Nat
  w : Option Int
abbrev Row := List Int
abbrev Tab := List Row
def oD : Option Int → D | none => .non | some i => .int i
def eD (p : Ent) : D := .tup [.int (p.1 : Nat), oD p.2]
def gD (g : Giv) : D := .tup (g.map eD)
def rowD (r : Row) : D := .tup (r.map .int)
def tabD (t : Tab) : D := .tup (t.map rowD)
def rulD (r : Rul) : D := .tup [gD r.g, .int (r.c : Nat), oD r.w]
def mEnt (r : Row) (p : Ent) : Bool := match p.2 with | none => true | some v => r.getD p.1 0 == v
def za5 (g : Giv) (r : Row) : Bool := g.all (mEnt r)
def zjf (g : Giv) (r s : Row) : Bool := g.all fun p => r.getD p.1 0 == s.getD p.1 0
def okG (n : Nat) (g : Giv) : Prop := (∀ p ∈ g, p.1 < n) ∧ g.length ≤ 64
theorem okG_sz {n : Nat} {g : Giv} (h : okG n g) : szB g.length = true := by
  rw [← szB_iff]
  have := h.2
  unfold sizeLine
  omega
theorem oD_isN (o : Option Int) : (oD o).isN = o.isNone := by cases o <;> rfl
theorem dEq_io (i : Int) (o : Option Int) : dEq (.int i) (oD o) = some (.bl (match o with | none => false | some v => i == v)) := by
  cases o with
  | none => exact zo6 (n := 0) (m := 0) rfl rfl
  | some v => exact zn9 i v
theorem dNe_io (i : Int) (o : Option Int) : dNe (.int i) (oD o) = some (.bl (match o with | none => true | some v => !(i == v))) := by
  cases o with
  | none => exact dNe_fit (n := 0) (m := 0) rfl rfl
  | some v => exact zlp i v
structure okR (n : Nat) (r : Rul) : Prop where
  g : okG n r.g
  c : r.c < n
structure okT (n : Nat) (t : Tab) : Prop where
  len : t.length ≤ 8
  row : ∀ r ∈ t, r.length = n
theorem okT.get {n i : Nat} {t : Tab} (h : okT n t) (hi : i < t.length) : (t.getD i []).length = n := h.row _ (zih hi)
def lD (l : List Nat) : D := .tup (l.map fun i => .int ((i : Nat) : Int))
structure okRs (n : Nat) (rs : List Rul) : Prop where
  len : rs.length ≤ 8
  ok : ∀ r ∈ rs, okR n r
theorem zk8 {n : Nat} {r : Rul} (h : okR n r) (h2 : r.g.length < 64) : short (rulD r) := by
  show (zhm (gD r.g)).length < 64
  simpa [zhm, gD] using h2
theorem fits_lD : ∀ l : List (List Nat), D.fits 1 (l.map lD) = true := fun l => fits_iff.mpr fun x hx => by
  obtain ⟨a, _, rfl⟩ := List.mem_map.mp hx
  show D.fits 0 (a.map fun i => .int ((i : Nat) : Int)) = true
  exact fits_iff.mpr fun y hy => by
    obtain ⟨b, _, rfl⟩ := List.mem_map.mp hy
    rfl
/-! ## rules as data: plain, small -/
theorem oD_inj {a b : Option Int} : oD a = oD b ↔ a = b := by cases a <;> cases b <;> simp [oD]
theorem eD_inj {p q : Ent} : eD p = eD q ↔ p = q := by
  obtain ⟨a, b⟩ := p; obtain ⟨c, d⟩ := q
  simp only [eD, D.tup.injEq, List.cons.injEq, D.int.injEq, oD_inj, and_true, Prod.mk.injEq]
  constructor
  · rintro ⟨h1, h2⟩; exact ⟨by omega, h2⟩
  · rintro ⟨h1, h2⟩; exact ⟨by omega, h2⟩
theorem mapE_inj : ∀ {g h : Giv}, g.map eD = h.map eD ↔ g = h
  | [], [] => by simp
  | [], _ :: _ => by simp
  | _ :: _, [] => by simp
  | p :: g, q :: h => by simp only [List.map_cons, List.cons.injEq, eD_inj, mapE_inj]
theorem gD_inj {g h : Giv} : gD g = gD h ↔ g = h := by simp only [gD, D.tup.injEq, mapE_inj]
theorem zn8 (o : Option Int) : (oD o).noB = true := by cases o <;> rfl
theorem zn6 (n : Nat) (o : Option Int) : (oD o).fit n = true := by cases o <;> cases n <;> rfl
theorem eD_noB (p : Ent) : (eD p).noB = true := by simp [eD, D.noB, D.noBs, zn8]
theorem eD_fit (n : Nat) (p : Ent) : (eD p).fit (n + 1) = true := by simp [eD, D.fit, D.fits, zn6]
theorem zpe (g : Giv) : D.noBs (g.map eD) = true := noBs_iff.mpr fun x hx => by obtain ⟨p, _, rfl⟩ := List.mem_map.mp hx; exact eD_noB p
theorem zox (n : Nat) (g : Giv) : D.fits (n + 1) (g.map eD) = true := fits_iff.mpr fun x hx => by obtain ⟨p, _, rfl⟩ := List.mem_map.mp hx; exact eD_fit n p
theorem gD_noB (g : Giv) : (gD g).noB = true := by simp only [gD, D.noB, zpe]
theorem gD_fit (n : Nat) (g : Giv) : (gD g).fit (n + 2) = true := by simp only [gD, D.fit, zox]
theorem rulD_noB (r : Rul) : (rulD r).noB = true := by simp [rulD, D.noB, D.noBs, gD_noB, zn8]
theorem zpi (n : Nat) (r : Rul) : (rulD r).fit (n + 3) = true := by simp [rulD, D.fit, D.fits, gD_fit, zn6]
theorem mem_mapE {p : Ent} {g : Giv} : eD p ∈ g.map eD ↔ p ∈ g := by
  rw [List.mem_map]
  constructor
  · rintro ⟨q, hq, e⟩; exact eD_inj.mp e ▸ hq
  · intro h; exact ⟨p, h, rfl⟩
theorem zit (g : Giv) (r : Row) (h : okG r.length g) (S : zae) : zep [.dat (gD g), .dat (rowD r)] S = .ok (.dat (.bl (za5 g r))) S := by
  unfold zep zlg
  simp! only [gD, List.length_map, okG_sz h]
  rw [zcj (q := fun p => .bl (mEnt r p)) g ?h]
  case h =>
    intro p hp
    refine ⟨_, rfl, rfl, ?_⟩
    simp! only [oD_isN]
    cases h2 : p.2 with
    | none => simp! only [Option.isNone_none, mEnt, h2]
    | some v => simp! only [Option.isNone_some, mEnt, h2, rowD, zd0 D.int 0 (h.1 p hp), dEq_io]
  simp! only [ze2, za5]
theorem are_equal_ok (g : Giv) (r s : Row) (h : okG r.length g) (h2 : s.length = r.length) (S : zae) : zig [.dat (gD g), .dat (rowD r), .dat (rowD s)] S = .ok (.dat (.bl (zjf g r s))) S := by
  unfold zig zm4
  simp! only [gD, List.length_map, okG_sz h]
  rw [zcj (q := fun p => .bl (r.getD p.1 0 == s.getD p.1 0)) g ?h]
  case h =>
    intro p hp
    refine ⟨_, rfl, rfl, ?_⟩
    simp! only [eD, at2_0, rowD, zd0 D.int 0 (h.1 p hp), zd0 D.int 0 (show p.1 < s.length by rw [h2]; exact h.1 p hp), zn9]
  simp! only [ze2, zjf]
def at_ (t : Tab) (i j : Nat) : Int := (t.getD i []).getD j 0
def hits (r : Rul) (t : Tab) : List Nat := (List.range t.length).filter fun i => za5 r.g (t.getD i [])
def zkq (r : Rul) (t : Tab) (i j : Nat) : List (List Nat) := if (decide (i < j) && (zjf r.g (t.getD i []) (t.getD j []) && !(at_ t i r.c == at_ t j r.c))) = true then [[i, j]] else []
def pairs (r : Rul) (t : Tab) : List (List Nat) := (hits r t).flatMap fun i => (hits r t).flatMap (zkq r t i)
def zhv (r : Rul) (t : Tab) : List (List Nat) := match r.w with
  | some v => ((hits r t).filter fun i => !(at_ t i r.c == v)).map fun i => [i]
  | none => pairs r t
theorem hits_lt {r : Rul} {t : Tab} {i : Nat} (h : i ∈ hits r t) : i < t.length := by simpa using (List.mem_filter.mp h).1
theorem hits_len (r : Rul) (t : Tab) : (hits r t).length ≤ t.length := by
  have := List.length_filter_le (fun i => za5 r.g (t.getD i [])) (List.range t.length)
  simpa [hits] using this
theorem stepP_len (r : Rul) (t : Tab) (i j : Nat) : (zkq r t i j).length ≤ 1 := by unfold zkq; split <;> simp
theorem pairs_len {n : Nat} (r : Rul) {t : Tab} (ht : okT n t) : (pairs r t).length ≤ 64 := by
  have a := hits_len r t
  have b := ht.len
  have h1 : ∀ i ∈ hits r t, ((hits r t).flatMap (zkq r t i)).length ≤ 8 := by
    intro i _
    have := ze9 (l := hits r t) (m := 1) (f := zkq r t i) fun j _ => stepP_len r t i j
    omega
  have := ze9 h1
  unfold pairs
  omega
abbrev frP (r : Rul) (t : Tab) (k : Nat) (o4 o8 : Option DV) : zan := [some (.dat (rulD r)), some (.dat (tabD t)), some (.dat (.lst ((hits r t).map fun i => .int ((i : Nat) : Int)))), some (.obj k), o4, some (.dat (gD r.g)), some (.dat (.int r.c)), some (.dat (oD none)), o8]
theorem frb_in (n : Nat) (r : Rul) (t : Tab) (hr : okR n r) (ht : okT n t) (S0 : zae) (i j : Nat) (hi : i < t.length) (hj : j < t.length) (ds : List D) (hb : ds.length + (zkq r t i j).length ≤ sizeLine) :
    zcw (frP r t S0.length (some (.dat (.int i))) (some (.dat (.int j)))) (S0 ++ [some ds]) = .nx (frP r t S0.length (some (.dat (.int i))) (some (.dat (.int j)))) (S0 ++ [some (ds ++ (zkq r t i j).map lD)]) := by
  unfold zcw
  have ei := ht.get hi
  have ej := ht.get hj
  have hc1 : r.c < (t.getD i []).length := by rw [ei]; exact hr.c
  have hc2 : r.c < (t.getD j []).length := by rw [ej]; exact hr.c
  have e1 : decide (((i : Nat) : Int) < (j : Nat)) = decide (i < j) := by simp
  simp! only [e1, tabD, zd0 rowD [] hi, zd0 rowD [] hj, are_equal_ok r.g (t.getD i []) (t.getD j []) (by rw [ei]; exact hr.g) (by rw [ei, ej])]
  simp -implicitDefEqProofs only [rowD, a_fn, ze1, zcm, zc7, zdf, zc4, zc2, zbc, zar, c_ok, zf6, c_bl, zfo, zfe, c_or, zdl, zfh, zgh, zgd, zc9, a_tg, zdk, zcf, zf0, Res.bind_ok, Res.bind_ex, Res.bindS_ok, Res.bindS_ex, zdm, a_c, a_x2, a_o2, zdh, a_xN, zdp, zf8, a_o1, zfr, zfp, zgt, zbe, zbb, zb8, zb6, zc3, zfs, zfy, zga, zfm, zf4, zbz, zba, za0, zay, za1, zaz, zfl, a_or, zcd, zb4, zfn, zgf, zfg, zc0, a_if, zft, zc1, zcg, zbh, zav, zbd, zb3, a_it, zax, zaw, a_lc, zb0, zb7, zgb, zgn, zff, zfv, zf3, zfq, zfw, zgj, zgp, zc8, a_rd, Option.bind_some, zc_, zb9, zb5, zau, List.map_cons, List.map_nil, List.length_cons, List.length_nil, Nat.reduceSub, Nat.reduceAdd, List.replicate_succ, List.replicate_zero, List.cons_append, List.nil_append, List.append_nil, List.getElem?_cons_zero, List.getElem?_cons_succ, List.set_cons_zero, List.set_cons_succ, List.take_length, cond_true, cond_false, Bool.not_true, Bool.not_false, zgv, zfj, zfz, zgl, zdn, zc5, zcc, zbg, zdb, zct, zfx, zgi, zcb, zca, zbf, zbi, zf5, zda, zgq, zf9, zgm, zcn, zde, zgg, zdc, zg_, zf7, zgr, zdj, zdo, zat, zas, zcu, za6, zal, Option.map_some, zap, zcz, zbs, zb_, lit2, lit3, Bool.true_and, Bool.false_and, Bool.and_true, Bool.and_false, Bool.true_or, Bool.false_or, Bool.or_true, Bool.or_false, Bool.not_not, a_sl, zgo, zgw, zce, zdg, zgu, zc6, zdi, zdd, zb1, zbv, zd0 D.int 0 hc1, zd0 D.int 0 hc2, zlp]
  have e2 : (decide (i < j) && (zjf r.g (t.getD i []) (t.getD j []) && !((t.getD i []).getD r.c 0 == (t.getD j []).getD r.c 0))) = (decide (i < j) && (zjf r.g (t.getD i []) (t.getD j []) && !(at_ t i r.c == at_ t j r.c))) := rfl
  have e3 : (bif decide (i < j) then (bif zjf r.g (t.getD i []) (t.getD j []) then Res.ok (!((t.getD i []).getD r.c 0 == (t.getD j []).getD r.c 0)) (S0 ++ [some ds]) else Res.ok false (S0 ++ [some ds])) else Res.ok false (S0 ++ [some ds])) = Res.ok (decide (i < j) && (zjf r.g (t.getD i []) (t.getD j []) && !(at_ t i r.c == at_ t j r.c))) (S0 ++ [some ds]) := by
    cases decide (i < j) <;> cases zjf r.g (t.getD i []) (t.getD j []) <;> rfl
  unfold zkq at hb ⊢
  cases hq : (decide (i < j) && (zjf r.g (t.getD i []) (t.getD j []) && !(at_ t i r.c == at_ t j r.c)))
  · simp -implicitDefEqProofs only [hq, e2, a_fn, ze1, zcm, zc7, zdf, zc4, zc2, zbc, zar, c_ok, zf6, c_bl, zfo, zfe, c_or, zdl, zfh, zgh, zgd, zc9, a_tg, zdk, zcf, zf0, Res.bind_ok, Res.bind_ex, Res.bindS_ok, Res.bindS_ex, zdm, a_c, a_x2, a_o2, zdh, a_xN, zdp, zf8, a_o1, zfr, zfp, zgt, zbe, zbb, zb8, zb6, zc3, zfs, zfy, zga, zfm, zf4, zbz, zba, za0, zay, za1, zaz, zfl, a_or, zcd, zb4, zfn, zgf, zfg, zc0, a_if, zft, zc1, zcg, zbh, zav, zbd, zb3, a_it, zax, zaw, a_lc, zb0, zb7, zgb, zgn, zff, zfv, zf3, zfq, zfw, zgj, zgp, zc8, a_rd, Option.bind_some, zc_, zb9, zb5, zau, List.map_cons, List.map_nil, List.length_cons, List.length_nil, Nat.reduceSub, Nat.reduceAdd, List.replicate_succ, List.replicate_zero, List.cons_append, List.nil_append, List.append_nil, List.getElem?_cons_zero, List.getElem?_cons_succ, List.set_cons_zero, List.set_cons_succ, List.take_length, cond_true, cond_false, Bool.not_true, Bool.not_false, zgv, zfj, zfz, zgl, zdn, zc5, zcc, zbg, zdb, zct, zfx, zgi, zcb, zca, zbf, zbi, zf5, zda, zgq, zf9, zgm, zcn, zde, zgg, zdc, zg_, zf7, zgr, zdj, zdo, zat, zas, zcu, za6, zal, Option.map_some, zap, zcz, zbs, zb_, lit2, lit3, Bool.true_and, Bool.false_and, Bool.and_true, Bool.and_false, Bool.true_or, Bool.false_or, Bool.or_true, Bool.or_false, Bool.not_not, a_sl, zgo, zgw, zce, zdg, zgu, zc6, zdi, zdd, zb1, zbv, Bool.false_eq_true, if_false]
  · rw [hq, if_pos rfl] at hb
    simp -implicitDefEqProofs only [hq, e2, a_fn, ze1, zcm, zc7, zdf, zc4, zc2, zbc, zar, c_ok, zf6, c_bl, zfo, zfe, c_or, zdl, zfh, zgh, zgd, zc9, a_tg, zdk, zcf, zf0, Res.bind_ok, Res.bind_ex, Res.bindS_ok, Res.bindS_ex, zdm, a_c, a_x2, a_o2, zdh, a_xN, zdp, zf8, a_o1, zfr, zfp, zgt, zbe, zbb, zb8, zb6, zc3, zfs, zfy, zga, zfm, zf4, zbz, zba, za0, zay, za1, zaz, zfl, a_or, zcd, zb4, zfn, zgf, zfg, zc0, a_if, zft, zc1, zcg, zbh, zav, zbd, zb3, a_it, zax, zaw, a_lc, zb0, zb7, zgb, zgn, zff, zfv, zf3, zfq, zfw, zgj, zgp, zc8, a_rd, Option.bind_some, zc_, zb9, zb5, zau, List.map_cons, List.map_nil, List.length_cons, List.length_nil, Nat.reduceSub, Nat.reduceAdd, List.replicate_succ, List.replicate_zero, List.cons_append, List.nil_append, List.append_nil, List.getElem?_cons_zero, List.getElem?_cons_succ, List.set_cons_zero, List.set_cons_succ, List.take_length, cond_true, cond_false, Bool.not_true, Bool.not_false, zgv, zfj, zfz, zgl, zdn, zc5, zcc, zbg, zdb, zct, zfx, zgi, zcb, zca, zbf, zbi, zf5, zda, zgq, zf9, zgm, zcn, zde, zgg, zdc, zg_, zf7, zgr, zdj, zdo, zat, zas, zcu, za6, zal, Option.map_some, zap, zcz, zbs, zb_, lit2, lit3, Bool.true_and, Bool.false_and, Bool.and_true, Bool.and_false, Bool.true_or, Bool.false_or, Bool.or_true, Bool.or_false, Bool.not_not, a_sl, zgo, zgw, zce, zdg, zgu, zc6, zdi, zdd, zb1, zbv, if_true]
    exact app_end rfl (by simp! only [Option.map_some]; rfl) (by simp only [List.length_cons, List.length_nil] at hb; omega)
theorem zjr (n : Nat) (r : Rul) (t : Tab) (hr : okR n r) (ht : okT n t) (S : zae) : zd2 [.dat (rulD r), .dat (tabD t)] S = .ok (.dat (.lst ((zhv r t).map lD))) S := by
  unfold zd2 zhl
  have hl : szB t.length = true := zbw (by have := ht.len; omega)
  have hs : t.length ≤ sizeLine := szB_iff.mpr hl
  have hz : szB (hits r t).length = true := zbw (by have := hits_len r t; have := ht.len; omega)
  simp! only [rulD, tabD, List.length_map, zkw hs, List.length_range, hl]
  rw [zcs (p := fun i => za5 r.g (t.getD i [])) (q := fun i => .int ((i : Nat) : Int)) (List.range t.length) ?h]
  case h =>
    intro i hi
    have hi : i < t.length := by simpa using hi
    refine ⟨_, rfl, ?_, fun _ => by simp! only []⟩
    simp! only [zd0 rowD [] hi, zit r.g (t.getD i []) (by rw [ht.get hi]; exact hr.g)]
  simp! only [oD_isN]
  cases hw : r.w with
  | some v =>
    simp! only [Option.isNone_some, List.length_map]
    rw [show ((List.range t.length).filter fun i => za5 r.g (t.getD i [])) = hits r t from rfl, hz]
    simp! only []
    rw [zcs (p := fun i => !(at_ t i r.c == v)) (q := fun i => lD [i]) (hits r t) ?h]
    case h =>
      intro i hi
      have hi := hits_lt hi
      refine ⟨_, rfl, ?_, fun _ => by simp! only [lD, Option.map_some]⟩
      simp! only [zd0 rowD [] hi, rowD, zd0 D.int 0 (show r.c < (t.getD i []).length by rw [ht.get hi]; exact hr.c), dNe_io, at_]
    simp! only [zhv, hw, List.map_map]
    rfl
  | none =>
    simp! only [Option.isNone_none]
    rw [show ((List.range t.length).filter fun i => za5 r.g (t.getD i [])) = hits r t from rfl]
    have loop : ∃ ρ', zfk (gNm 4) zeb ((hits r t).map fun i : Nat => .int ((i : Nat) : Int)) (frP r t S.length none none) (S ++ [some []]) = .nx ρ' (S ++ [some ([] ++ (pairs r t).map lD)]) ∧ ∃ o4 o8, ρ' = frP r t S.length o4 o8 := by
      refine zk1 (P := fun ρ => ∃ o4 o8, ρ = frP r t S.length o4 o8) (q := fun i => (hits r t).flatMap (zkq r t i)) (hits r t) _ [] (zes (by have := pairs_len r ht; unfold pairs at this; simp only [List.length_nil]; omega)) ⟨_, _, rfl⟩ ?_
      rintro i hi ρ ds ⟨o4, o8, rfl⟩ hb
      have hi := hits_lt hi
      have inner : ∃ ρ', zfk (gNm 8) zcw ((hits r t).map fun i : Nat => .int ((i : Nat) : Int)) (frP r t S.length (some (.dat (.int i))) o8) (S ++ [some ds]) = .nx ρ' (S ++ [some (ds ++ ((hits r t).flatMap (zkq r t i)).map lD)]) ∧ ∃ o8, ρ' = frP r t S.length (some (.dat (.int i))) o8 := by
        refine zk1 (P := fun ρ => ∃ o8, ρ = frP r t S.length (some (.dat (.int i))) o8) (q := fun j => zkq r t i j) (hits r t) _ ds hb ⟨_, rfl⟩ ?_
        rintro j hj ρ ds ⟨o8, rfl⟩ hb
        have hj := hits_lt hj
        exact ⟨_, _, rfl, frb_in n r t hr ht S i j hi hj ds hb, ⟨_, rfl⟩⟩
      obtain ⟨ρ', e, o8, rfl⟩ := inner
      refine ⟨_, frP r t S.length (some (.dat (.int i))) o8, rfl, ?_, ⟨_, _, rfl⟩⟩
      unfold zeb
      simp! only [hz]
      exact e
    obtain ⟨ρ', e, o4, o8, rfl⟩ := loop
    simp only [frP, rulD, tabD, hw] at e
    simp! only [hz, List.length_map, e]
    simp! only [zhv, hw]
theorem zlx (n : Nat) (r : Rul) (t : Tab) (hr : okR n r) (ht : okT n t) (S : zae) : zhf [.dat (rulD r), .dat (tabD t)] S = .ok (.dat (.bl (zhv r t).isEmpty)) S := by
  unfold zhf zng
  simp! only [zjr n r t hr ht, eqs_nil (fits_lD _), List.isEmpty_map]
end T41
set_option maxHeartbeats 400000
namespace T41
open PySem PySem.Spec PyProof.Rows L2 DL
/-! ## the values that come -/
abbrev BIG : Int := 10000000000000000000000000000000000000000
def POOL : List Int := [0, 1, 2, 3, 4, 5, 6, 100000000000000000000000000000, 100000000000000000000000000001]
theorem pool_lt {v : Int} (h : v ∈ POOL) : 0 ≤ v ∧ v < BIG := by
  simp only [POOL, List.mem_cons, List.not_mem_nil, or_false] at h
  unfold BIG
  rcases h with rfl | rfl | rfl | rfl | rfl | rfl | rfl | rfl | rfl <;> decide
theorem pool_small {v : Int} (h0 : 0 ≤ v) (h1 : v < 4) : v ∈ POOL := by
  have : v = 0 ∨ v = 1 ∨ v = 2 ∨ v = 3 := by omega
  rcases this with rfl | rfl | rfl | rfl <;> decide
def okC (c : D) : Prop := zhy c = true ∧ c.tiny = true ∧ ∀ ns : List Int, c = .tup (ns.map .int) → ∀ v ∈ ns, v < 4
def okV (c : D) (v : Int) : Prop := ze0 c (.int v) = true ∧ v ∈ POOL
theorem pool_tiny {v : Int} (h : v ∈ POOL) : (D.int v).tiny = true := by
  have := pool_lt h
  simp only [D.tiny, decide_eq_true_eq]
  have e : (10 : Nat) ^ 40 = 10000000000000000000000000000000000000000 := by decide
  unfold BIG at this
  omega
theorem okV.tiny {c : D} {v : Int} (h : okV c v) : (D.int v).tiny = true := pool_tiny h.2
theorem nn_tiny {n : Nat} (h : n ≤ 1000000) : (D.int (n : Nat)).tiny = true := by
  simp only [D.tiny, decide_eq_true_eq]
  have e : (10 : Nat) ^ 40 = 10000000000000000000000000000000000000000 := by decide
  omega
theorem okV.t {c : D} {v : Int} (h : okV c v) : decide (v.natAbs < 10 ^ 40) = true := h.tiny
def primes : List Int := [2147483629, 2147483587, 2147483579, 2147483563, 2147483549, 2147483543, 2147483497, 2147483489, 2147483477, 2147483423, 2147483399, 2147483353, 2147483323]
theorem zo3 (k : Int) : ∃ p : Int, atI [D.int 2147483629, D.int 2147483587, D.int 2147483579, D.int 2147483563, D.int 2147483549, D.int 2147483543, D.int 2147483497, D.int 2147483489, D.int 2147483477, D.int 2147483423, D.int 2147483399, D.int 2147483353, D.int 2147483323] (k % 13) = some (.int p) ∧ 0 < p ∧ p < 2147483648 := by
  have h0 : 0 ≤ k % 13 := Int.emod_nonneg _ (by decide)
  have h1 : k % 13 < 13 := Int.emod_lt_of_pos _ (by decide)
  have e : atI (primes.map D.int) (((k % 13).toNat : Nat) : Int) = some (D.int (primes.getD (k % 13).toNat 0)) := zd0 D.int 0 (by simp [primes]; omega)
  rw [Int.toNat_of_nonneg h0] at e
  have hm : primes.getD (k % 13).toNat 0 ∈ primes := by
    rw [List.getD_eq_getElem?_getD, List.getElem?_eq_getElem (by simp [primes]; omega)]
    exact List.getElem_mem _
  have hb : ∀ p ∈ primes, 0 < p ∧ p < 2147483648 := by decide
  exact ⟨_, e, hb _ hm⟩
theorem p10_18 : dPow (.int 10) (.int 18) = some (.int 1000000000000000000) := dPow_i (i := 10) (j := 18) (by decide) (by decide)
theorem p10_17 : dPow (.int 10) (.int 17) = some (.int 100000000000000000) := dPow_i (i := 10) (j := 17) (by decide) (by decide)
theorem p10_29 : dPow (.int 10) (.int 29) = some (.int 100000000000000000000000000000) := dPow_i (i := 10) (j := 29) (by decide) (by decide)
theorem pow_s {i : Int} (h0 : 0 ≤ i) (h1 : i < 18446744073709551616) : dPow (.int i) (.int 3) = some (.int (i ^ 3)) ∧ dPow (.int i) (.int 5) = some (.int (i ^ 5)) := by
  have : i.natAbs < 2 ^ 64 := by
    have : i.natAbs < 18446744073709551616 := by omega
    exact this
  exact ⟨dPow_i (j := 3) this (by decide), dPow_i (j := 5) this (by decide)⟩
theorem zmt (c : Int) (a : Nat) (ha : a ≤ 2147483648) (S : zae) : ∃ r : Int, zfb [.dat (.int c), .dat (.int (a : Nat))] S = .ok (.dat (.int r)) S := by
  unfold zfb zjn
  simp! only [p10_18]
  cases decide (c ≥ 1000000000000000000)
  · simp! only [dAdd_l]
    have m0 : dMod (.int c) (.int 1000000007) = some (.int (c % 1000000007)) := zgz (by decide)
    have m1 : zgc (.int 2) (.int (a : Nat)) = some (.int (2 * (a : Nat))) := zlq (zdr (by decide) (by decide)) (zdr (by omega) (by omega))
    have b0 : 0 ≤ c % 1000000007 := Int.emod_nonneg _ (by decide)
    have b1 : c % 1000000007 < 1000000007 := Int.emod_lt_of_pos _ (by decide)
    generalize c % 1000000007 = u at *
    have m2 : zgc (.int u) (.int (2 * (a : Nat) + 69069)) = some (.int (u * (2 * (a : Nat) + 69069))) := zlq (zdr (by omega) (by omega)) (zdr (by omega) (by omega))
    have m3 : zgc (.int (a : Nat)) (.int 40503) = some (.int ((a : Nat) * 40503)) := zlq (zdr (by omega) (by omega)) (zdr (by decide) (by decide))
    have b2 : 0 ≤ u * (2 * (a : Nat) + 69069) := Int.mul_nonneg b0 (by omega)
    have b3 : u * (2 * (a : Nat) + 69069) ≤ 1000000007 * 4295036365 := Int.mul_le_mul (by omega) (by omega) (by omega) (by decide)
    simp! only [m0, m1, m2, m3]
    generalize u * (2 * (a : Nat) + 69069) = x at *
    have q1 := (pow_s (i := x + (a : Nat) * 40503 + 977) (by omega) (by omega)).1
    have r0 : dMod (.int (a : Nat)) (.int 13) = some (.int (((a : Nat) : Int) % 13)) := zgz (by decide)
    obtain ⟨p, ep, p0, p1⟩ := zo3 (a : Nat)
    simp! only [q1, r0, ep, zgz p0]
    generalize (x + (a : Nat) * 40503 + 977) ^ 3 = y
    have c0 : 0 ≤ y % p := Int.emod_nonneg _ (by omega)
    have c1 : y % p < p := Int.emod_lt_of_pos _ p0
    generalize y % p = one at *
    have n0 : dMod (.int c) (.int 65537) = some (.int (c % 65537)) := zgz (by decide)
    have d0 : 0 ≤ c % 65537 := Int.emod_nonneg _ (by decide)
    have d1 : c % 65537 < 65537 := Int.emod_lt_of_pos _ (by decide)
    generalize c % 65537 = v at *
    have m4 : zgc (.int one) (.int ((a : Nat) + 3)) = some (.int (one * ((a : Nat) + 3))) := zlq (zdr (by omega) (by omega)) (zdr (by omega) (by omega))
    have b4 : 0 ≤ one * ((a : Nat) + 3) := Int.mul_nonneg c0 (by omega)
    have b5 : one * ((a : Nat) + 3) ≤ 2147483648 * 2147483651 := Int.mul_le_mul (by omega) (by omega) (by omega) (by decide)
    simp! only [n0, m4]
    generalize one * ((a : Nat) + 3) = z at *
    have q2 := (pow_s (i := z + (v + 5)) (by omega) (by omega)).2
    have r1 : dMod (.int ((a : Nat) + 5)) (.int 13) = some (.int ((((a : Nat) : Int) + 5) % 13)) := zgz (by decide)
    obtain ⟨p', ep', p0', p1'⟩ := zo3 ((a : Nat) + 5)
    simp! only [q2, r1, ep', zgz p0']
    generalize (z + (v + 5)) ^ 5 = y
    have c0' : 0 ≤ y % p' := Int.emod_nonneg _ (by omega)
    have c1' : y % p' < p' := Int.emod_lt_of_pos _ p0'
    generalize y % p' = two at *
    have n1 : dMod (.int one) (.int 1009) = some (.int (one % 1009)) := zgz (by decide)
    have e0 : 0 ≤ one % 1009 := Int.emod_nonneg _ (by decide)
    have e1 : one % 1009 < 1009 := Int.emod_lt_of_pos _ (by decide)
    simp! only [n1]
    generalize one % 1009 = w at *
    have q3 := (pow_s (i := two + w + (a : Nat)) (by omega) (by omega)).1
    have r2 : dMod (.int ((a : Nat) + 7)) (.int 13) = some (.int ((((a : Nat) : Int) + 7) % 13)) := zgz (by decide)
    obtain ⟨p2, ep2, p02, p12⟩ := zo3 ((a : Nat) + 7)
    have m5 : zgc (.int one) (.int 2147483647) = some (.int (one * 2147483647)) := zlq (zdr (by omega) (by omega)) (zdr (by decide) (by decide))
    have m6 : zgc (.int (one * 2147483647 + two)) (.int 2147483647) = some (.int ((one * 2147483647 + two) * 2147483647)) := zlq (zdr (by omega) (by omega)) (zdr (by decide) (by decide))
    simp! only [q3, r2, ep2, zgz p02, m5, m6]
    exact ⟨_, rfl⟩
  · simp! only []
    exact ⟨_, rfl⟩
theorem zgx {n : Nat} {T S : zae} (h : Pen n T S) (hn : n ≤ LIM) (m : Int) (m0 : 0 < m) (m1 : m ≤ 1000000000000) : ∃ (r : Nat) (S1 : zae), zaq [.obj 0, .dat (.int m)] S = .ok (.dat (.int (r : Nat))) S1 ∧ Pen (n + 1) T S1 ∧ (r : Int) < m := by
  have hn : n ≤ 2147483648 := hn
  obtain ⟨cells, a, cur, rfl, ha⟩ := h
  unfold zaq zlh
  simp! only []
  have fin : ∀ (cur : Int), 0 ≤ cur % m ∧ cur % m < m := fun cur => ⟨Int.emod_nonneg _ (by omega), Int.emod_lt_of_pos _ m0⟩
  have dd : ∀ cur : Int, dDiv (.int cur) (.int m) = some (.int (cur / m)) := fun cur => dDiv_i m0 (zdr (by omega) (by omega))
  cases decide (cur < m)
  · simp! only [zgz m0, dd]
    exact ⟨(cur % m).toNat, _, by rw [Int.toNat_of_nonneg (fin cur).1], ⟨_, _, _, rfl, by omega⟩, by rw [Int.toNat_of_nonneg (fin cur).1]; exact (fin cur).2⟩
  · simp! only [List.length_map]
    cases h1 : decide (((a : Nat) : Int) < (cells.length : Nat))
    · simp! only [List.length_map]
      cases h2 : decide (((cells.length : Nat) : Int) > 0)
      · simp! only []
        obtain ⟨r, e⟩ := zmt 0 a (by omega) (some (penL cells (a + 1) cur) :: T)
        simp! only [e, zgz m0, dd]
        exact ⟨(r % m).toNat, _, by rw [Int.toNat_of_nonneg (fin r).1], ⟨_, _, _, rfl, by omega⟩, by rw [Int.toNat_of_nonneg (fin r).1]; exact (fin r).2⟩
      · have h2 : (0 : Int) < cells.length := by simpa using h2
        have m5 : zgc (.int (a : Nat)) (.int 5) = some (.int ((a : Nat) * 5)) := zlq (zdr (by omega) (by omega)) (zdr (by decide) (by decide))
        have i0 : 0 ≤ ((a : Nat) * 5 + 3 : Int) % (cells.length : Nat) := Int.emod_nonneg _ (by omega)
        have i1 : ((a : Nat) * 5 + 3 : Int) % (cells.length : Nat) < (cells.length : Nat) := Int.emod_lt_of_pos _ h2
        have e1 : atI (cells.map .int) (((a : Nat) * 5 + 3 : Int) % (cells.length : Nat)) = some (D.int (cells.getD (((a : Nat) * 5 + 3 : Int) % (cells.length : Nat)).toNat 0)) := by
          have := zd0 (xs := cells) (n := (((a : Nat) * 5 + 3 : Int) % (cells.length : Nat)).toNat) D.int 0 (by omega)
          rwa [Int.toNat_of_nonneg i0] at this
        simp! only [m5, List.length_map, zgz h2, e1, p10_17, zgz (show (0 : Int) < 100000000000000000 + (a : Nat) by omega)]
        obtain ⟨r, e⟩ := zmt ((cells.getD (((a : Nat) * 5 + 3 : Int) % (cells.length : Nat)).toNat 0) % (100000000000000000 + (a : Nat))) a (by omega) (some (penL cells (a + 1) cur) :: T)
        simp! only [e, zgz m0, dd]
        exact ⟨(r % m).toNat, _, by rw [Int.toNat_of_nonneg (fin r).1], ⟨_, _, _, rfl, by omega⟩, by rw [Int.toNat_of_nonneg (fin r).1]; exact (fin r).2⟩
    · have h1 : a < cells.length := by simpa using h1
      simp! only [zd0 D.int 0 h1]
      obtain ⟨r, e⟩ := zmt (cells.getD a 0) a (by omega) (some (penL cells (a + 1) cur) :: T)
      simp! only [e, zgz m0, dd]
      exact ⟨(r % m).toNat, _, by rw [Int.toNat_of_nonneg (fin r).1], ⟨_, _, _, rfl, by omega⟩, by rw [Int.toNat_of_nonneg (fin r).1]; exact (fin r).2⟩
theorem anew_ok {n : Nat} {T S : zae} (h : Pen n T S) : ∃ S1, zfu [.obj 0] S = .ok (.obj 0) S1 ∧ Pen n T S1 := by
  obtain ⟨cells, a, cur, rfl, ha⟩ := h
  unfold zfu zlm
  simp! only [leave, Nat.zero_lt_succ, if_true]
  exact ⟨_, rfl, _, _, _, rfl, ha⟩
theorem zn1 {n : Nat} {T S : zae} (h : Pen n T S) (hn : n ≤ LIM) (xs : List D) (h0 : 1 ≤ xs.length) (h1 : xs.length ≤ 1000000) (d : D) (hd : d = .lst xs ∨ d = .tup xs) :
    ∃ x S1, zcr [.obj 0, .dat d] S = .ok (.dat x) S1 ∧ Pen (n + 1) T S1 ∧ x ∈ xs := by
  unfold zcr zm8
  obtain ⟨r, S1, e, p, hr⟩ := zgx h hn (xs.length : Nat) (by omega) (by omega)
  have hr : r < xs.length := by omega
  have hx : atI xs (r : Nat) = some (xs.getD r .non) := atI_nat .non hr
  refine ⟨xs.getD r .non, S1, ?_, p, zih hr⟩
  rcases hd with rfl | rfl <;> simp! only [e, hx, p.take h.len]
theorem value_ok {n : Nat} {T S : zae} (h : Pen n T S) (hn : n ≤ LIM) (c : D) (hc : okC c) : ∃ (v : Int) (S1 : zae), zew [.obj 0, .dat c] S = .ok (.dat (.int v)) S1 ∧ Pen (n + 1) T S1 ∧ okV c v := by
  unfold zew zkx
  rcases zm2 hc.1 with rfl | ⟨ns, rfl, l0, l1, hns, _⟩
  · simp! only [D.isN, p10_29]
    obtain ⟨x, S1, e, p, hx⟩ := zn1 h hn [D.int 0, D.int 1, D.int 2, D.int 0, D.int 1, D.int 2, D.int 3, D.int 100000000000000000000000000000, D.int (100000000000000000000000000000 + 1)] (by simp) (by simp) _ (.inl rfl)
    simp! only [e, p.take h.len]
    have : ∃ v : Int, x = .int v ∧ 0 ≤ v ∧ v ∈ POOL := by
      simp only [List.mem_cons, List.not_mem_nil, or_false] at hx
      rcases hx with rfl | rfl | rfl | rfl | rfl | rfl | rfl | rfl | rfl <;> exact ⟨_, rfl, by decide⟩
    obtain ⟨v, rfl, hv⟩ := this
    exact ⟨v, S1, rfl, p, by simp [ze0, zl3, D.isN, hv.1], hv.2⟩
  · simp! only [D.isN]
    obtain ⟨x, S1, e, p, hx⟩ := zn1 h hn (ns.map .int) (by simpa using l0) (by simp; omega) _ (.inr rfl)
    simp! only [e, p.take h.len]
    obtain ⟨v, hv, rfl⟩ := List.mem_map.mp hx
    refine ⟨v, S1, rfl, p, by simp [ze0, zl3, D.isN, inC, dInB_ints, hv, hns v hv], ?_⟩
    exact pool_small (hns v hv) (hc.2.2 ns rfl v hv)
def isC (c : D) : Bool := !c.isN
theorem columns_body {n : Nat} {T S : zae} (h : Pen n T S) (hn : n + 5 ≤ LIM) (cs : List D) (k : Nat) (o1 o2 o5 o6 : Option DV) (hcs : ∀ c ∈ cs, okC c) (hl : cs.length ≤ 8) (hk : (cs.filter isC).length = k) (hk2 : k ≤ 2) :
    ∃ (cs' : List D) (k' : Nat) (p5 p6 : Option DV) (S1 : zae), zd8 [some (.obj 0), o1, o2, some (.dat (.tup cs)), some (.dat (.int (k : Nat))), o5, o6] S = .nx [some (.obj 0), o1, o2, some (.dat (.tup cs')), some (.dat (.int (k' : Nat))), p5, p6] S1 ∧
      Pen (n + 5) T S1 ∧ cs'.length = cs.length + 1 ∧ (∀ c ∈ cs', okC c) ∧ (cs'.filter isC).length = k' ∧ k' ≤ 2 := by
  unfold zd8
  obtain ⟨r, S1, e, p, hr⟩ := zgx h (by omega) 3 (by decide) (by decide)
  simp! only [e, rng1_1 (show r ≤ 1000000 by omega), List.length_map, List.length_range, zbw (show 1 + r ≤ 16777216 by omega)]
  obtain ⟨zs, S2, e2, p2, l2, q2⟩ := lc_pen (G := gNm 6) (t := zdw) (f := xN zaq (zac (xVar 0) (zac (xC (.int 4)) aNil))) (ρ := [some (.obj 0), o1, o2, some (.dat (.tup cs)), some (.dat (.int (k : Nat))), o5, none]) (T := T) (R := fun _ z => ∃ v : Int, z = .int v ∧ 0 ≤ v ∧ v < 4) (c := 1) ((List.range (1 + r)).map fun i => .int ((i : Nat) : Int)) (n + 1) S1 p (by simp; omega) (by
    intro c hcs m S hp hm
    obtain ⟨v, S1, e, p, hv⟩ := zgx hp (by omega) 4 (by decide) (by decide)
    exact ⟨_, .int ((v : Nat) : Int), S1, rfl, rfl, by simp! only [e], p, ⟨_, rfl, by omega, by omega⟩⟩)
  simp only [List.length_map, List.length_range] at l2 p2
  have hz : ∀ z ∈ zs, ∃ v : Int, z = .int v ∧ 0 ≤ v ∧ v < 4 := fun z hz => by
    obtain ⟨i, hi, rfl⟩ := List.mem_iff_getElem.mp hz
    exact q2 (((List.range (1 + r)).map fun i => D.int ((i : Nat) : Int))[i]'(by simp; omega), zs[i]) (by rw [List.mem_iff_getElem]; exact ⟨i, by simp; omega, by simp⟩)
  obtain ⟨ns, rfl⟩ := ints_of (zs := zs) fun z h => ⟨_, (hz z h).choose_spec.1⟩
  have hpos : ∀ v ∈ ns, 0 ≤ v ∧ v < 4 := fun v hv => by
    obtain ⟨u, e, h⟩ := hz (.int v) (List.mem_map_of_mem hv)
    cases e
    exact h
  simp only [List.length_map] at l2
  simp! only [e2, zcn, sort_ints ns (by omega)]
  have good : okC (.tup ((sset ns).map .int)) := by
    refine ⟨?_, tinys_iff.mpr fun x hx => by
      obtain ⟨v, hv, rfl⟩ := List.mem_map.mp hx
      have := hpos v ((zcl v ns).mp hv)
      have e := nn_tiny (n := v.toNat) (by omega)
      rwa [Int.toNat_of_nonneg this.1] at e, fun ms e v hv => by
      have e2 : (sset ns).map D.int = ms.map D.int := by injection e
      have : D.int v ∈ (sset ns).map D.int := by rw [e2]; exact List.mem_map_of_mem hv
      obtain ⟨u, hu, e3⟩ := List.mem_map.mp this
      cases e3
      exact (hpos v ((zcl v ns).mp hu)).2⟩
    have a1 := zpk ns
    have a2 := sset_pos (l := ns) (by intro e; subst e; simp at l2; omega)
    simp only [zhy, List.length_map, colB, zel, sset_idem, decide_true, Bool.and_true, Bool.and_eq_true, decide_eq_true_eq, List.all_eq_true]
    refine ⟨by omega, fun z hz => ?_⟩
    obtain ⟨v, hv, rfl⟩ := List.mem_map.mp hz
    simp [zl3, (hpos v ((zcl v ns).mp hv)).1]
  have add1 : ∀ c : D, dAdd (.tup cs) (.tup [c]) = some (.tup (cs ++ [c])) := fun c => by
    rw [zm5]
    simp only [List.length_cons, List.length_nil, zbw (show cs.length + (0 + 1) ≤ 16777216 by omega), cond_true]
  have hnon : okC .non := ⟨rfl, rfl, fun ms e => nomatch e⟩
  have memb : ∀ c, okC c → ∀ d ∈ cs ++ [c], okC d := fun c hc d hd => by
    rcases List.mem_append.mp hd with h | h
    · exact hcs d h
    · simp at h; exact h ▸ hc
  by_cases hk3 : k < 2
  · have e3 : decide (((k : Nat) : Int) < 2) = true := by simp; omega
    obtain ⟨r3, S3, e4, p4, hr3⟩ := zgx p2 (by omega) 3 (by decide) (by decide)
    simp! only [e3, e4, zn9]
    cases h0 : (((r3 : Nat) : Int) == 0)
    · simp! only [add1]
      exact ⟨_, k, _, _, _, rfl, p4.mono (by omega), by simp, memb _ hnon, by simp [isC, D.isN, ← hk], hk2⟩
    · simp! only [add1]
      exact ⟨_, k + 1, _, _, _, rfl, p4.mono (by omega), by simp, memb _ good, by simp [isC, D.isN, ← hk], by omega⟩
  · have e3 : decide (((k : Nat) : Int) < 2) = false := by simp; omega
    simp! only [e3, add1]
    exact ⟨_, k, _, _, _, rfl, p2.mono (by omega), by simp, memb _ hnon, by simp [isC, D.isN, ← hk], hk2⟩
theorem columns_ok {n : Nat} {T S : zae} (h : Pen n T S) (hn : n + 21 ≤ LIM) (m : Nat) (m1 : 1 ≤ m) (m4 : m ≤ 4) : ∃ (cs : List D) (S1 : zae), zd5 [.obj 0, .dat (.int ((m : Nat) : Int))] S = .ok (.dat (.tup cs)) S1 ∧ Pen (n + 21) T S1 ∧ ziw (.tup cs) = true ∧ (∀ c ∈ cs, okC c) ∧ cs.length ≤ m := by
  unfold zd5 zi6
  obtain ⟨r, S1, e, p, hr⟩ := zgx h (by omega) ((m : Nat) : Int) (by omega) (by omega)
  simp! only [e, rng1_1 (show r ≤ 1000000 by omega)]
  obtain ⟨ρ', S2, e2, ⟨o2, cs, k, o5, o6, rfl, hl, hcs, hk, hk2⟩, p2⟩ := zk9 (enc := fun i : Nat => D.int ((i : Nat) : Int)) (G := gNm 2) (f := zd8) (T := T) (c := 5)
    (fun pre ρ => ∃ o2 cs k o5 o6, ρ = [some (.obj 0), some (.dat (.int ((m : Nat) : Int))), o2, some (.dat (.tup cs)), some (.dat (.int ((k : Nat) : Int))), o5, o6] ∧ cs.length = pre.length ∧ (∀ c ∈ cs, okC c) ∧ (cs.filter isC).length = k ∧ k ≤ 2)
    (List.range (1 + r)) [] (n + 1) [some (.obj 0), some (.dat (.int ((m : Nat) : Int))), none, some (.dat (.tup [])), some (.dat (.int 0)), none, none] S1 ⟨_, [], 0, _, _, rfl, rfl, by simp, rfl, by decide⟩ p (by simp; omega) (by
    rintro pre a post m' ρ S hpp ⟨o2, cs, k, o5, o6, rfl, hl, hcs, hk, hk2⟩ hp hm
    have hlen : pre.length ≤ 8 := by
      have := congrArg List.length hpp
      simp at this
      omega
    obtain ⟨cs', k', p5, p6, S1, e, p, a1, a2, a3, a4⟩ := columns_body hp hm cs k (some (.dat (.int ((m : Nat) : Int)))) (some (.dat (.int ((a : Nat) : Int)))) o5 o6 hcs (by omega) hk hk2
    exact ⟨_, _, S1, rfl, e, ⟨_, cs', k', _, _, rfl, by simp; omega, a2, a3, a4⟩, p⟩)
  simp only [List.nil_append, List.length_range] at hl p2
  simp! only [e2, p2.take h.len]
  refine ⟨cs, S2, rfl, p2.mono (by omega), ?_, hcs, by omega⟩
  simp only [ziw, Bool.and_eq_true, decide_eq_true_eq, List.all_eq_true]
  refine ⟨by omega, fun c hc => (hcs c hc).1, ?_⟩
  have : (cs.filter fun c => !c.isN).length = k := hk
  omega
theorem zeu (cs : List D) (r : Row) : zis cs (rowD r) = true ↔ r.length = cs.length ∧ ∀ i, i < cs.length → ze0 (cs.getD i .non) (.int (r.getD i 0)) = true := by
  simp only [zis, rowD, List.length_map, Bool.and_eq_true, beq_iff_eq, List.all_eq_true]
  constructor
  · rintro ⟨h1, h2⟩
    have h1 : r.length = cs.length := by omega
    refine ⟨h1, fun i hi => ?_⟩
    have := h2 (cs.getD i .non, .int (r.getD i 0)) (by
      rw [List.mem_iff_getElem]
      refine ⟨i, by simp; omega, ?_⟩
      simp [List.getD_eq_getElem?_getD, List.getElem?_eq_getElem hi, List.getElem?_eq_getElem (show i < r.length by omega)])
    exact this
  · rintro ⟨h1, h2⟩
    refine ⟨by omega, fun p hp => ?_⟩
    obtain ⟨i, hi, rfl⟩ := List.mem_iff_getElem.mp hp
    simp only [List.length_zip, List.length_map] at hi
    have := h2 i (by omega)
    simpa [List.getD_eq_getElem?_getD, List.getElem?_eq_getElem (show i < cs.length by omega), List.getElem?_eq_getElem (show i < r.length by omega)] using this
theorem row_ok {n : Nat} {T S : zae} (h : Pen n T S) (hn : n + 4 ≤ LIM) (cs : List D) (hc : ∀ c ∈ cs, okC c) (hl : cs.length ≤ 4) : ∃ (r : Row) (S1 : zae), zie [.obj 0, .dat (.tup cs)] S = .ok (.dat (rowD r)) S1 ∧ Pen (n + 4) T S1 ∧ zis cs (rowD r) = true ∧ ∀ v ∈ r, v ∈ POOL := by
  unfold zie zmg
  simp! only [zbw (show cs.length ≤ 16777216 by omega)]
  obtain ⟨zs, S1, e, p, l, q⟩ := lc_pen (G := gNm 2) (t := zdw) (f := xN zew (zac (xVar 0) (zac (xVar 2) aNil))) (ρ := [some (.obj 0), some (.dat (.tup cs)), none]) (T := T) (R := fun c z => ∃ v : Int, z = .int v ∧ okV c v) (c := 1) cs n S h (by omega) (by
    intro c hcs m S hp hm
    obtain ⟨v, S1, e, p, hv⟩ := value_ok hp (by omega) c (hc c hcs)
    exact ⟨_, _, S1, rfl, rfl, by simp! only [e], p, ⟨v, rfl, hv⟩⟩)
  obtain ⟨r, rfl⟩ := ints_of (zs := zs) fun z hz => by
    obtain ⟨i, hi, rfl⟩ := List.mem_iff_getElem.mp hz
    have := q (cs[i]'(by omega), zs[i]) (by rw [List.mem_iff_getElem]; exact ⟨i, by simp; omega, by simp⟩)
    exact ⟨_, this.choose_spec.1⟩
  simp! only [e]
  refine ⟨r, S1, ?_, p.mono (by omega), ?_, fun v hv => ?_⟩
  · rw [p.take h.len]
    rfl
  · simp only [zis, rowD, Bool.and_eq_true, beq_iff_eq, List.all_eq_true]
    refine ⟨by omega, fun p hp => ?_⟩
    obtain ⟨v, e, hv⟩ := q p hp
    rw [e]
    exact hv.1
  · obtain ⟨i, hi, rfl⟩ := List.mem_iff_getElem.mp hv
    have l' : i < cs.length := by simp at l; omega
    obtain ⟨u, e, hu⟩ := q (cs[i], .int r[i]) (by rw [List.mem_iff_getElem]; exact ⟨i, by simp; omega, by simp⟩)
    cases e
    exact hu.2
theorem isRow_set {cs : List D} {r s : Row} (a : Nat) (hr : zis cs (rowD r) = true) (hs : zis cs (rowD s) = true) (ha : a < cs.length) : zis cs (rowD (s.set a (r.getD a 0))) = true := by
  rw [zeu] at *
  refine ⟨by simpa using hs.1, fun i hi => ?_⟩
  by_cases h : a = i
  · subst h
    have : a < s.length := by rw [hs.1]; exact ha
    have e : (s.set a (r.getD a 0)).getD a 0 = r.getD a 0 := by
      rw [List.getD_eq_getElem?_getD, List.getElem?_set_self this]
      rfl
    rw [e]
    exact hr.2 a hi
  · have e : (s.set a (r.getD a 0)).getD i 0 = s.getD i 0 := by
      rw [List.getD_eq_getElem?_getD, List.getElem?_set_ne h, List.getD_eq_getElem?_getD]
    rw [e]
    exact hs.2 i hi
def RowOK (cs : List D) (r : Row) : Prop := zis cs (rowD r) = true ∧ ∀ v ∈ r, v ∈ POOL
theorem RowOK.set {cs : List D} {r s : Row} (a : Nat) (hr : RowOK cs r) (hs : RowOK cs s) (ha : a < cs.length) : RowOK cs (s.set a (r.getD a 0)) := by
  refine ⟨isRow_set a hr.1 hs.1 ha, fun v hv => ?_⟩
  rcases List.mem_or_eq_of_mem_set hv with h | h
  · exact hs.2 v h
  · rw [h]
    have l := ((zeu cs r).mp hr.1).1
    exact hr.2 _ (zih (by omega))
theorem table_body {n : Nat} {T S : zae} (h : Pen n T S) (hn : n + 7 ≤ LIM) (cs : List D) (hc : ∀ c ∈ cs, okC c) (h0 : 1 ≤ cs.length) (hl : cs.length ≤ 4) (t : Tab) (k : Nat) (hk : t.length = k) (hk8 : k ≤ 8) (ht : ∀ r ∈ t, RowOK cs r) (o2 o5 o6 o7 : Option DV) :
    ∃ (r : Row) (p5 p6 p7 : Option DV) (S1 : zae), zet [some (.obj 0), some (.dat (.tup cs)), o2, some (.dat (tabD t)), some (.dat (.int (k : Nat))), o5, o6, o7] S = .nx [some (.obj 0), some (.dat (.tup cs)), o2, some (.dat (tabD (t ++ [r]))), some (.dat (.int (k : Nat))), p5, p6, p7] S1 ∧
      Pen (n + 7) T S1 ∧ RowOK cs r := by
  unfold zet
  obtain ⟨r, S1, e, p, hr⟩ := row_ok h (by omega) cs hc hl
  have add1 : ∀ r : Row, dAdd (tabD t) (.tup [rowD r]) = some (tabD (t ++ [r])) := fun c => by
    simp only [tabD]
    rw [zm5]
    simp only [List.length_cons, List.length_nil, List.length_map, zbw (show t.length + (0 + 1) ≤ 16777216 by omega), cond_true, List.map_append, List.map_cons, List.map_nil]
  simp! only [e]
  by_cases hk0 : k = 0
  · have e3 : decide (((k : Nat) : Int) > 0) = false := by simp; omega
    simp! only [e3, add1]
    exact ⟨r, _, _, _, _, rfl, p.mono (by omega), hr⟩
  · have e3 : decide (((k : Nat) : Int) > 0) = true := by simp; omega
    obtain ⟨r3, S3, e4, p4, hr3⟩ := zgx p (by omega) 2 (by decide) (by decide)
    simp! only [e3, e4, zn9]
    cases hq : (((r3 : Nat) : Int) == 0)
    · simp! only [add1]
      exact ⟨r, _, _, _, _, rfl, p4.mono (by omega), hr⟩
    · obtain ⟨a, S4, e5, p5, ha⟩ := zgx p4 (by omega) (cs.length : Nat) (by omega) (by omega)
      have ha : a < cs.length := by omega
      obtain ⟨x, S5, e6, p6, hx⟩ := zn1 p5 (by omega) (t.map rowD) (by rw [List.length_map]; omega) (by rw [List.length_map]; omega) (tabD t) (.inr rfl)
      obtain ⟨s, hs, rfl⟩ := List.mem_map.mp hx
      have hs' := ht s hs
      have l1 := ((zeu cs s).mp hs'.1).1
      have l2 := ((zeu cs r).mp hr.1).1
      have mix : dAdd (.tup ((s.map D.int).take a)) (.tup (((r.map D.int).drop a).take 1)) = some (.tup ((s.map D.int).take a ++ ((r.map D.int).drop a).take 1)) := by
        rw [zm5]
        simp only [zbw (show ((s.map D.int).take a).length + (((r.map D.int).drop a).take 1).length ≤ 16777216 by simp; omega), cond_true]
      have mix2 : dAdd (.tup ((s.map D.int).take a ++ ((r.map D.int).drop a).take 1)) (.tup ((s.map D.int).drop (a + 1))) = some (rowD (s.set a (r.getD a 0))) := by
        rw [zm5]
        simp only [zbw (show ((s.map D.int).take a ++ ((r.map D.int).drop a).take 1).length + ((s.map D.int).drop (a + 1)).length ≤ 16777216 by simp; omega), cond_true]
        rw [mix_set (s.map D.int) (r.map D.int) a (D.int 0) (by simp; omega) (by simp; omega)]
        simp only [rowD, List.map_set]
        congr 4
        simp [List.getD_eq_getElem?_getD, List.getElem?_eq_getElem (show a < r.length by omega)]
      simp! only [e5, e6]
      simp! only [rowD, zop, cut_mid1, zmf, mix, mix2]
      have add2 := add1 (s.set a (r.getD a 0))
      simp only [rowD] at add2
      simp! only [add2]
      exact ⟨_, _, _, _, _, rfl, p6.mono (by omega), RowOK.set a hr hs' ha⟩
theorem table_ok {n : Nat} {T S : zae} (h : Pen n T S) (m : Nat) (hm : m ≤ 8) (hn : n + 56 ≤ LIM) (cs : List D) (hc : ∀ c ∈ cs, okC c) (h0 : 1 ≤ cs.length) (hl : cs.length ≤ 4) :
    ∃ (t : Tab) (S1 : zae), ze4 [.obj 0, .dat (.tup cs), .dat (.int (m : Nat))] S = .ok (.dat (tabD t)) S1 ∧ Pen (n + 56) T S1 ∧ t.length = m ∧ ∀ r ∈ t, RowOK cs r := by
  unfold ze4 zkb
  simp! only [zkw (zes (show m ≤ 16000000 by omega))]
  obtain ⟨ρ', S2, e2, ⟨t, o4, o5, o6, o7, rfl, hl', ht⟩, p2⟩ := zk9 (enc := fun i : Nat => D.int ((i : Nat) : Int)) (G := gNm 4) (f := zet) (T := T) (c := 7)
    (fun pre ρ => ∃ t o4 o5 o6 o7, ρ = [some (.obj 0), some (.dat (.tup cs)), some (.dat (.int ((m : Nat) : Int))), some (.dat (tabD t)), o4, o5, o6, o7] ∧ t.length = pre.length ∧ ∀ r ∈ t, RowOK cs r)
    (List.range m) [] n [some (.obj 0), some (.dat (.tup cs)), some (.dat (.int ((m : Nat) : Int))), some (.dat (.tup [])), none, none, none, none] S ⟨[], _, _, _, _, rfl, rfl, fun r hr => nomatch hr⟩ h (by simp; omega) (by
    rintro pre a post m' ρ S hpp ⟨t, o4, o5, o6, o7, rfl, hlt, ht⟩ hp hm'
    obtain ⟨ha, ha2⟩ := range_at (by simpa using hpp)
    obtain ⟨r, p5, p6, p7, S1, e, p, hr⟩ := table_body hp hm' cs hc h0 hl t a (by omega) (by omega) ht (some (.dat (.int ((m : Nat) : Int)))) o5 o6 o7
    refine ⟨_, _, S1, rfl, e, ⟨t ++ [r], _, _, _, _, rfl, by simp; omega, fun q hq => ?_⟩, p⟩
    rcases List.mem_append.mp hq with hq | hq
    · exact ht q hq
    · simp at hq; exact hq ▸ hr)
  simp only [List.nil_append, List.length_range] at hl' p2
  simp! only [e2, p2.take h.len]
  exact ⟨t, S2, rfl, p2.mono (by omega), hl', ht⟩
theorem tab_of {cs : List D} {t : Tab} (hl : t.length ≤ 8) (ht : ∀ r ∈ t, zis cs (rowD r) = true) : isTab cs (tabD t) = true ∧ okT cs.length t := by
  refine ⟨?_, hl, fun r hr => ((zeu cs r).mp (ht r hr)).1⟩
  simp only [isTab, tabD, List.length_map, Bool.and_eq_true, Bool.not_eq_true', decide_eq_false_iff_not, List.all_eq_true]
  refine ⟨by omega, fun x hx => ?_⟩
  obtain ⟨r, hr, rfl⟩ := List.mem_map.mp hx
  exact ht r hr
structure RG (cs : List D) (c : Nat) (w : Option Int) (m : Nat) (g : Giv) : Prop where
  lt : ∀ p ∈ g, p.1 < m ∧ p.1 ≠ c
  val : ∀ p ∈ g, ∀ v, p.2 = some v → okV (cs.getD p.1 .non) v
  want : w ≠ none → ∀ p ∈ g, p.2 ≠ none
  inc : (g.map (·.1)).Pairwise (· < ·)
  len : g.length ≤ m
theorem RG.mono {cs : List D} {c : Nat} {w : Option Int} {m m' : Nat} {g : Giv} (h : RG cs c w m g) (k : m ≤ m') : RG cs c w m' g :=
  ⟨fun p hp => ⟨Nat.lt_of_lt_of_le (h.lt p hp).1 k, (h.lt p hp).2⟩, h.val, h.want, h.inc, Nat.le_trans h.len k⟩
theorem RG.snoc {cs : List D} {c : Nat} {w : Option Int} {m : Nat} {g : Giv} (h : RG cs c w m g) (o : Option Int) (h1 : m ≠ c) (h2 : ∀ v, o = some v → okV (cs.getD m .non) v) (h3 : w ≠ none → o ≠ none) : RG cs c w (m + 1) (g ++ [(m, o)]) := by
  refine ⟨fun p hp => ?_, fun p hp => ?_, fun hw p hp => ?_, ?_, ?_⟩
  · rcases List.mem_append.mp hp with hp | hp
    · exact ⟨Nat.lt_succ_of_lt (h.lt p hp).1, (h.lt p hp).2⟩
    · simp at hp; subst hp; exact ⟨Nat.lt_succ_self _, h1⟩
  · rcases List.mem_append.mp hp with hp | hp
    · exact h.val p hp
    · simp at hp; subst hp; exact h2
  · rcases List.mem_append.mp hp with hp | hp
    · exact h.want hw p hp
    · simp at hp; subst hp; exact h3 hw
  · rw [List.map_append, List.pairwise_append]
    refine ⟨h.inc, by simp, fun x hx y hy => ?_⟩
    obtain ⟨p, hp, rfl⟩ := List.mem_map.mp hx
    simp at hy
    subst hy
    exact (h.lt p hp).1
  · have := h.len
    simp
    omega
theorem isRul_of {cs : List D} {c : Nat} {w : Option Int} {g : Giv} (hc : c < cs.length) (G : RG cs c w cs.length g) (hw : ∀ v, w = some v → okV (cs.getD c .non) v) : zl2 cs (rulD ⟨g, c, w⟩) = true := by
  have e1 : (g.map eD).map fstI = (g.map (·.1)).map fun k => ((k : Nat) : Int) := by
    simp [List.map_map, Function.comp_def, eD, fstI]
  have e2 : ((g.map (·.1)).map fun k => ((k : Nat) : Int)).Pairwise (· < ·) := by
    rw [List.pairwise_map]
    exact G.inc.imp fun h => by omega
  have a1 : zow cs (gD g) = true := by
    simp only [zow, gD, Bool.and_eq_true, decide_eq_true_eq, List.all_eq_true, e1]
    refine ⟨fun x hx => ?_, (zny e2).symm⟩
    obtain ⟨p, hp, rfl⟩ := List.mem_map.mp hx
    have l := (G.lt p hp).1
    simp only [eD, zk2, zna, colAt, Bool.and_eq_true, decide_eq_true_eq, Bool.or_eq_true]
    refine ⟨by omega, ?_⟩
    cases h2 : p.2 with
    | none => exact .inl rfl
    | some v => exact .inr (by simpa [oD] using (G.val p hp v h2).1)
  have a2 : inC (.int (c : Nat)) (.tup ((zhm (gD g)).map fun e => .int (fstI e))) = false := by
    have e3 : ((zhm (gD g)).map fun e => D.int (fstI e)) = ((g.map eD).map fstI).map .int := by simp [zhm, gD]
    rw [e3, e1]
    simp only [inC, dInB_ints, decide_eq_false_iff_not]
    intro hm
    obtain ⟨k, hk, e⟩ := List.mem_map.mp hm
    obtain ⟨p, hp, rfl⟩ := List.mem_map.mp hk
    exact (G.lt p hp).2 (by omega)
  simp only [rulD, zl2, a1, a2, Bool.true_and, Bool.not_false, Bool.and_true, zna, colAt, Bool.and_eq_true, decide_eq_true_eq, Bool.or_eq_true, List.all_eq_true]
  refine ⟨by omega, ?_⟩
  cases w with
  | none => exact .inl rfl
  | some v =>
    refine .inr ⟨by simpa [oD] using (hw v rfl).1, fun x hx => ?_⟩
    obtain ⟨p, hp, rfl⟩ := List.mem_map.mp hx
    have := G.want (by simp) p hp
    cases h2 : p.2 with
    | none => exact absurd h2 this
    | some u => simp [eD, oD, h2, D.isN]
structure GR (cs : List D) (r : Rul) : Prop where
  is : zl2 cs (rulD r) = true
  G : RG cs r.c r.w cs.length r.g
  hw : ∀ v, r.w = some v → okV (cs.getD r.c .non) v
  ok : okR cs.length r
  sh : r.g.length < 64
theorem GR.of {cs : List D} {r : Rul} (hcl : r.c < cs.length) (G : RG cs r.c r.w cs.length r.g) (hw : ∀ v, r.w = some v → okV (cs.getD r.c .non) v) (hl : cs.length ≤ 4) : GR cs r :=
  ⟨isRul_of hcl G hw, G, hw, ⟨⟨fun p hp => (G.lt p hp).1, by have := G.len; omega⟩, hcl⟩, by have := G.len; omega⟩
theorem open_body (cells : List Int) (hl : cells.length = 12) (ns : List Int) (k : Nat) (v : Int) : ∃ cells' : List Int, cells'.length = 12 ∧
    zee [some (.scr ns), some (.obj 0), some (.dat (.int (k : Nat))), some (.dat (.int v))] [some (cells.map .int)] = .nx [some (.scr ns), some (.obj 0), some (.dat (.int (k : Nat))), some (.dat (.int v))] [some (cells'.map .int)] := by
  unfold zee
  have m : dMod (.int (k : Nat)) (.int 12) = some (.int (((k % 12 : Nat) : Int))) := by rw [zgz (by decide)]; congr 1
  have hk : k % 12 < cells.length := by omega
  simp! only [m, zd0 D.int 0 hk]
  have e : ixN (cells.map D.int).length ((k % 12 : Nat) : Int) = some (k % 12) := by
    unfold ixN
    rw [if_pos (by omega), if_pos (by simp; omega), Int.toNat_natCast]
  refine ⟨cells.set (k % 12) (cells.getD (k % 12) 0 + v), by simpa using hl, ?_⟩
  simp only [zou, DL.zdv, List.getElem?_cons_zero, e, List.set_cons_zero, List.map_set]
theorem open_ok (ns : List Int) (hn : ns.length ≤ 63) : ∃ S, zhi [.scr ns] [] = .ok (.obj 0) S ∧ Pen 0 [] S := by
  unfold zhi zly
  have c1 : cutL ns none (some 12) = ns.take 12 := zop ns 12
  have c2 : cutL ns (some 12) (some 63) = (ns.drop 12).take 51 := cut_mid ns 12 63 (by decide)
  simp! only [a_retN, a_list, c1, c2, enum_map]
  have loop : ∃ ρ' S', zfk (gTp (gCo (gNm 2) (gCo (gNm 3) gNo))) zee ((((ns.drop 12).take 51).zipIdx.map fun p => (p.2, p.1)).map fun p => znk (.int ((p.1 : Nat) : Int)) (.int p.2)) [some (.scr ns), some (.obj 0), none, none] [some ((ns.take 12).map .int)] = .nx ρ' S' ∧ ∃ o2 o3, ∃ cells : List Int, ρ' = [some (.scr ns), some (.obj 0), o2, o3] ∧ S' = [some (cells.map .int)] := by
    obtain ⟨ρ', S', e, o2, o3, cells, h1, h2, _⟩ := zm7 (enc := fun p : Nat × Int => znk (.int ((p.1 : Nat) : Int)) (.int p.2)) (G := gTp (gCo (gNm 2) (gCo (gNm 3) gNo))) (f := zee) (fun _ ρ S => ∃ o2 o3, ∃ cells : List Int, ρ = [some (.scr ns), some (.obj 0), o2, o3] ∧ S = [some (cells.map .int)] ∧ (ns.length > 12 → cells.length = 12)) (((ns.drop 12).take 51).zipIdx.map fun p => (p.2, p.1)) [] [some (.scr ns), some (.obj 0), none, none] [some ((ns.take 12).map .int)] ⟨_, _, ns.take 12, rfl, rfl, fun h => by simp; omega⟩ (by
      rintro pre a post ρ S hpp ⟨o2, o3, cells, rfl, rfl, hc⟩
      have hlen : ns.length > 12 := by
        have := congrArg List.length hpp
        simp at this
        omega
      obtain ⟨cells', l', e⟩ := open_body cells (hc hlen) ns a.1 a.2
      exact ⟨_, _, _, rfl, .inl e, ⟨_, _, cells', rfl, rfl, fun _ => l'⟩⟩)
    exact ⟨ρ', S', e, o2, o3, cells, h1, h2⟩
  obtain ⟨ρ', S', e, o2, o3, cells, rfl, rfl⟩ := loop
  simp! only [e, DL.zdv, a_retN]
  exact ⟨_, rfl, cells, 0, 0, rfl, Nat.le_refl _⟩
end T41
set_option maxHeartbeats 400000
namespace T41
open PySem PySem.Spec PyProof.Rows L2 DL
/-! ## candidates -/
def zd3 (t : Tab) (j : Nat) (b : Bool) : List (Option Int) := (sset (t.map fun r => r.getD j 0)).map some ++ (bif b then [none] else [])
def zdt (t : Tab) (b : Bool) (acc : List Giv) (j : Nat) : List Giv := acc ++ acc.flatMap fun g => (zd3 t j b).map fun v => g ++ [(j, v)]
def givs (t : Tab) (js : List Nat) (b : Bool) : List Giv := js.foldl (zdt t b) [[]]
def zbj (n c : Nat) : List Nat := (List.range n).filter fun j => !decide (j = c)
def zkv (n : Nat) (t : Tab) (c : Nat) : List Rul := (givs t (zbj n c) true).map (fun g => ⟨g, c, none⟩) ++ (sset (t.map fun r => r.getD c 0)).flatMap fun w => (givs t (zbj n c) false).map fun g => ⟨g, c, some w⟩
def zek (n : Nat) (t : Tab) : List Rul := (List.range n).flatMap (zkv n t)
def ze3 (t : Tab) (m : Nat) (r : Rul) : Bool := decide (m ≤ (t.filter fun o => za5 r.g o).length) && (zhv r t).isEmpty
def zh6 (g : Giv) (k : Nat) : Giv := g.take k ++ g.drop (k + 1)
def zd7 (g : Giv) (k : Nat) : Giv := g.take k ++ ((g.getD k (0, none)).1, none) :: g.drop (k + 1)
def canB (r : Rul) (k : Nat) : Bool := r.w.isNone && (r.g.getD k (0, none)).2.isSome
def gens (r : Rul) : List Rul := (List.range r.g.length).map (fun k => ⟨zh6 r.g k, r.c, r.w⟩) ++ ((List.range r.g.length).filter (canB r)).map fun k => ⟨zd7 r.g k, r.c, r.w⟩
def zbt (n : Nat) (t : Tab) (m : Nat) : List Rul := ((zek n t).filter (ze3 t m)).filter fun r => !(gens r).any (ze3 t m)
structure GI (cs : List D) (b : Bool) (js : List Nat) (g : Giv) : Prop where
  mem : ∀ p ∈ g, p.1 ∈ js
  val : ∀ p ∈ g, ∀ v, p.2 = some v → okV (cs.getD p.1 .non) v
  some_ : b = false → ∀ p ∈ g, p.2 ≠ none
  inc : (g.map (·.1)).Pairwise (· < ·)
  len : g.length ≤ js.length
theorem valsC_ok {cs : List D} {t : Tab} (ht : ∀ r ∈ t, RowOK cs r) {j : Nat} (hj : j < cs.length) {b : Bool} {v : Option Int} (h : v ∈ zd3 t j b) : (∀ u, v = some u → okV (cs.getD j .non) u) ∧ (b = false → v ≠ none) := by
  rcases List.mem_append.mp h with h | h
  · obtain ⟨u, hu, rfl⟩ := List.mem_map.mp h
    refine ⟨fun w e => ?_, fun _ => by simp⟩
    cases e
    obtain ⟨r, hr, rfl⟩ := List.mem_map.mp ((zcl _ _).mp hu)
    exact ⟨((zeu cs r).mp (ht r hr).1).2 j hj, (ht r hr).2 _ (zih (by rw [((zeu cs r).mp (ht r hr).1).1]; exact hj))⟩
  · cases b
    · cases h
    · simp only [cond_true, List.mem_cons, List.not_mem_nil, or_false] at h
      subst h
      exact ⟨(fun u e => nomatch e), (fun e => nomatch e)⟩
theorem givs_GI {cs : List D} {t : Tab} (ht : ∀ r ∈ t, RowOK cs r) (b : Bool) : ∀ (js pre : List Nat) (acc : List Giv), (∀ g ∈ acc, GI cs b pre g) → (pre ++ js).Pairwise (· < ·) → (∀ j ∈ js, j < cs.length) → ∀ g ∈ js.foldl (zdt t b) acc, GI cs b (pre ++ js) g
  | [], pre, acc, h, _, _ => by simpa using h
  | j :: js, pre, acc, h, hp, hj => by
    have := givs_GI ht b js (pre ++ [j]) (zdt t b acc j) (fun g hg => by
      rcases List.mem_append.mp hg with hg | hg
      · have k := h g hg
        exact ⟨fun p hp => List.mem_append_left _ (k.mem p hp), k.val, k.some_, k.inc, by have := k.len; simp; omega⟩
      · obtain ⟨g0, hg0, hg⟩ := List.mem_flatMap.mp hg
        obtain ⟨v, hv, rfl⟩ := List.mem_map.mp hg
        have k := h g0 hg0
        have v2 := valsC_ok ht (hj j List.mem_cons_self) hv
        refine ⟨fun p hp => ?_, fun p hp => ?_, fun hb p hp => ?_, ?_, by have := k.len; simp; omega⟩
        · rcases List.mem_append.mp hp with hp | hp
          · exact List.mem_append_left _ (k.mem p hp)
          · simp only [List.mem_cons, List.not_mem_nil, or_false] at hp; subst hp; simp
        · rcases List.mem_append.mp hp with hp | hp
          · exact k.val p hp
          · simp only [List.mem_cons, List.not_mem_nil, or_false] at hp; subst hp; exact v2.1
        · rcases List.mem_append.mp hp with hp | hp
          · exact k.some_ hb p hp
          · simp only [List.mem_cons, List.not_mem_nil, or_false] at hp; subst hp; exact v2.2 hb
        · rw [List.map_append, List.pairwise_append]
          refine ⟨k.inc, by simp, fun x hx y hy => ?_⟩
          simp only [List.map_cons, List.map_nil, List.mem_cons, List.not_mem_nil, or_false] at hy
          subst hy
          obtain ⟨p, hp', rfl⟩ := List.mem_map.mp hx
          exact (List.pairwise_append.mp hp).2.2 _ (k.mem p hp') _ List.mem_cons_self) (by simpa using hp) (fun i hi => hj i (List.mem_cons_of_mem _ hi))
    intro g hg
    have := this g hg
    simpa using this
theorem zh3 {n c j : Nat} (h : j ∈ zbj n c) : j < n ∧ j ≠ c := by
  have := List.mem_filter.mp h
  exact ⟨List.mem_range.mp this.1, by simpa using this.2⟩
theorem zi8 (n c : Nat) : (zbj n c).Pairwise (· < ·) := List.Pairwise.sublist List.filter_sublist List.pairwise_lt_range
theorem zh_ {n c : Nat} (hc : c < n) : (zbj n c).length + 1 ≤ n := by
  have h := PySem.DLSetT.few_of (c :: zbj n c) (List.range n) (by
    rw [List.nodup_cons]
    exact ⟨fun h => (zh3 h).2 rfl, (zi8 n c).imp fun h => by omega⟩) fun x hx => by
      rcases List.mem_cons.mp hx with rfl | hx
      · exact List.mem_range.mpr hc
      · exact List.mem_range.mpr (zh3 hx).1
  simpa using h
theorem zov {cs : List D} {t : Tab} (hl : cs.length ≤ 4) (ht : ∀ r ∈ t, RowOK cs r) : ∀ r ∈ zek cs.length t, GR cs r := by
  intro r hr
  obtain ⟨c, hc, hr⟩ := List.mem_flatMap.mp hr
  have hc : c < cs.length := by simpa using hc
  have gi : ∀ b, ∀ g ∈ givs t (zbj cs.length c) b, GI cs b (zbj cs.length c) g := fun b g hg => by
    have := givs_GI (cs := cs) ht b (zbj cs.length c) [] [[]] (fun g hg => by
      simp only [List.mem_cons, List.not_mem_nil, or_false] at hg
      subst hg
      exact ⟨(fun p hp => nomatch hp), (fun p hp => nomatch hp), (fun _ p hp => nomatch hp), .nil, Nat.le_refl _⟩) (by simpa using zi8 _ _) (fun j hj => (zh3 hj).1) g hg
    simpa using this
  have rg : ∀ b (w : Option Int), (w ≠ none → b = false) → ∀ g ∈ givs t (zbj cs.length c) b, RG cs c w cs.length g := fun b w hw g hg => by
    have k := gi b g hg
    have := zh_ hc
    exact ⟨fun p hp => zh3 (k.mem p hp), k.val, fun h => k.some_ (hw h), k.inc, by have := k.len; omega⟩
  rcases List.mem_append.mp hr with hr | hr
  · obtain ⟨g, hg, rfl⟩ := List.mem_map.mp hr
    exact GR.of hc (rg true none (fun h => absurd rfl h) g hg) (fun v e => nomatch e) hl
  · obtain ⟨w, hw, hr⟩ := List.mem_flatMap.mp hr
    obtain ⟨g, hg, rfl⟩ := List.mem_map.mp hr
    refine GR.of hc (rg false (some w) (fun _ => rfl) g hg) (fun v e => ?_) hl
    cases e
    exact (valsC_ok (b := false) ht hc (List.mem_append_left _ (List.mem_map_of_mem hw))).1 w rfl
theorem sset_le (l : List Int) : (sset l).length ≤ l.length := (zpk l)
theorem valsC_len (t : Tab) (j : Nat) (b : Bool) : (zd3 t j b).length ≤ t.length + 1 := by
  have := sset_le (t.map fun r => r.getD j 0)
  unfold zd3
  cases b <;> simp at * <;> omega
theorem givStep_len (t : Tab) (b : Bool) (acc : List Giv) (j : Nat) : (zdt t b acc j).length ≤ acc.length * (t.length + 2) := by
  have h := ze9 (l := acc) (m := t.length + 1) (f := fun g => (zd3 t j b).map fun v => g ++ [(j, v)]) (fun g _ => by rw [List.length_map]; exact valsC_len t j b)
  unfold zdt
  rw [List.length_append, Nat.mul_succ]
  omega
theorem givs_len (t : Tab) (b : Bool) : ∀ (js : List Nat) (acc : List Giv), (js.foldl (zdt t b) acc).length ≤ acc.length * (t.length + 2) ^ js.length
  | [], acc => by simp
  | j :: js, acc => by
    have h1 := givs_len t b js (zdt t b acc j)
    have h2 := givStep_len t b acc j
    simp only [List.foldl_cons, List.length_cons, Nat.pow_succ]
    calc _ ≤ _ := h1
      _ ≤ acc.length * (t.length + 2) * (t.length + 2) ^ js.length := Nat.mul_le_mul_right _ h2
      _ = _ := by rw [Nat.mul_assoc, Nat.mul_comm (t.length + 2)]
theorem zmz {t : Tab} {b : Bool} {js : List Nat} {N k : Nat} (hk : js.length ≤ k) (hN : (t.length + 2) ^ k ≤ N) : (givs t js b).length ≤ N := by
  have := givs_len t b js [[]]
  have h2 : (t.length + 2) ^ js.length ≤ (t.length + 2) ^ k := Nat.pow_le_pow_right (by omega) hk
  simp only [List.length_cons, List.length_nil, Nat.zero_add, Nat.one_mul] at this
  unfold givs
  omega
theorem candC_len {n : Nat} {t : Tab} {c N k : Nat} (hc : c < n) (hk : n ≤ k + 1) (hN : (t.length + 2) ^ k ≤ N) : (zkv n t c).length ≤ N * (t.length + 1) := by
  have ol := zh_ hc
  have h0 := zmz (t := t) (b := true) (js := zbj n c) (N := N) (k := k) (by omega) hN
  have h1 := ze9 (l := sset (t.map fun r => r.getD c 0)) (m := N) (f := fun w => (givs t (zbj n c) false).map fun g => (⟨g, c, some w⟩ : Rul)) (fun w _ => by rw [List.length_map]; exact zmz (by omega) hN)
  have h2 := sset_le (t.map fun r => r.getD c 0)
  simp only [List.length_map] at h2
  have h3 : (sset (t.map fun r => r.getD c 0)).length * N ≤ t.length * N := Nat.mul_le_mul_right _ h2
  unfold zkv
  rw [List.length_append, List.length_map, Nat.mul_succ, Nat.mul_comm N]
  rw [Nat.mul_comm] at h1
  have : N * (sset (t.map fun r => r.getD c 0)).length = (sset (t.map fun r => r.getD c 0)).length * N := Nat.mul_comm _ _
  omega
theorem cands_len {n : Nat} {t : Tab} {N k : Nat} (hk : n ≤ k + 1) (hN : (t.length + 2) ^ k ≤ N) : (zek n t).length ≤ N * (t.length + 1) * n := by
  have := ze9 (l := List.range n) (m := N * (t.length + 1)) (f := zkv n t) (fun c hc => candC_len (by simpa using hc) hk hN)
  rw [List.length_range, Nat.mul_comm n] at this
  exact this
end T41
set_option maxHeartbeats 400000
namespace T41
open PySem PySem.Spec PyProof.Rows L2 DL
theorem lc2Go_map {α β : Type} {enc : α → D} {eb : β → D} {q : α → β → D} {ys : α → List β} {g g1 : GFn} {t t1 : TFn} {l1 : LFn} {v1 : List Nat} {f : XFn} {ρ : zan} {S : zae} : ∀ (xs : List α), (∀ a ∈ xs, ∃ ρ1, g (enc a) ρ = some ρ1 ∧ t ρ1 S = .ok true S ∧ l1 ρ1 S = .ok ((ys a).map eb) S ∧ ∀ b ∈ ys a, ∃ ρ2, g1 (eb b) (zh2 ρ1 v1) = some ρ2 ∧ t1 ρ2 S = .ok true S ∧ f ρ2 S = .ok (.dat (q a b)) S) →
    lc2Go g t l1 v1 g1 t1 f ρ (xs.map enc) S = .ok (xs.flatMap fun a => (ys a).map (q a)) S
  | [], _ => rfl
  | a :: r, h => by
    obtain ⟨ρ1, h1, h2, h3, h4⟩ := h a (List.mem_cons_self ..)
    have ih := lc2Go_map (g := g) (t := t) (l1 := l1) (v1 := v1) (g1 := g1) (t1 := t1) (f := f) (ρ := ρ) (S := S) (enc := enc) (eb := eb) (q := q) (ys := ys) r fun b hb => h b (List.mem_cons_of_mem _ hb)
    simp only [List.map_cons, lc2Go, h1, h2, Res.bindN_ok, if_true, h3, zcj (q := q a) (ys a) h4, ih, List.flatMap_cons]
theorem a_lc2 (l : LFn) (own : List Nat) (g : GFn) (t : TFn) (l1 : LFn) (v1 : List Nat) (g1 : GFn) (t1 : TFn) (f : XFn) (ρ : zan) (S : zae) : lLc2 l own g t l1 v1 g1 t1 f ρ S = (l ρ S).bind fun ds S1 => (lc2Go g t l1 v1 g1 t1 f (zh2 ρ own) ds S1).bindN fun zs S2 => if zs.length ≤ sizeLine then .ok zs S2 else .bad := rfl
def natL (js : List Nat) : D := .lst (js.map fun i => .int ((i : Nat) : Int))
theorem gD_eq (g : Giv) : gD g = .tup (g.map eD) := rfl
theorem sortS_col (t : Tab) (ht : t.length ≤ 8) (j : Nat) (S : zae) : zne (.dat (.lst (t.map fun r => .int (r.getD j 0)))) S = .ok ((sset (t.map fun r => r.getD j 0)).map .int) S := by
  have e : (t.map fun r => D.int (r.getD j 0)) = (t.map fun r => r.getD j 0).map .int := by simp
  have hl : t.length < 64 := by omega
  simp only [zne, rd, e, zel, List.length_map, hl, if_true]
theorem valsC_D (t : Tab) (j : Nat) (b : Bool) : (zd3 t j b).map oD = (sset (t.map fun r => r.getD j 0)).map .int ++ (bif b then [.non] else []) := by
  unfold zd3
  cases b <;> simp [oD]
theorem givStep_D (t : Tab) (b : Bool) (acc : List Giv) (j : Nat) : (zdt t b acc j).map gD = acc.map gD ++ acc.flatMap fun g => ((zd3 t j b).map fun v => gD (g ++ [(j, v)])) := by
  unfold zdt
  simp only [List.map_append, List.map_flatMap, List.map_map]
  rfl
theorem zjl (cs : List D) (t : Tab) (ht : t.length ≤ 8) (hr : ∀ r ∈ t, r.length = cs.length) (hc4 : cs.length ≤ 4) (js : List Nat) (hj : ∀ j ∈ js, j < cs.length) (hk : js.length ≤ 3) (b : Bool) (S : zae) : ze6 [.dat (tabD t), .dat (natL js), .dat (.bl b)] S = .ok (.dat (.lst ((givs t js b).map gD))) S := by
  unfold ze6 zj1
  have st : ∀ (pre : List Nat) (j : Nat) (post : List Nat) (o5 o6 o7 o8 : Option DV), pre ++ j :: post = js → zeq [some (.dat (tabD t)), some (.dat (natL js)), some (.dat (.bl b)), some (.dat (.lst ((givs t pre b).map gD))), some (.dat (.int ((j : Nat) : Int))), o5, o6, o7, o8] S = .nx [some (.dat (tabD t)), some (.dat (natL js)), some (.dat (.bl b)), some (.dat (.lst ((givs t (pre ++ [j]) b).map gD))), some (.dat (.int ((j : Nat) : Int))), some (.dat (.lst ((zd3 t j b).map oD))), o6, o7, o8] S := by
    intro pre j post o5 o6 o7 o8 hp
    have hj' : j < cs.length := hj j (by rw [← hp]; simp)
    have hpre : pre.length ≤ 2 := by rw [← hp] at hk; simp at hk; omega
    have gl : (givs t pre b).length ≤ 100 := zmz (k := 2) hpre (by
      have : t.length + 2 ≤ 10 := by omega
      calc (t.length + 2) ^ 2 ≤ 10 ^ 2 := Nat.pow_le_pow_left this 2
        _ = 100 := rfl)
    have vl : (zd3 t j b).length ≤ 9 := by have := valsC_len t j b; omega
    have e5 : ∀ o5, sSet 5 (x2 (o2 dAdd) (xN1 (zg1 (xN1 (lLc (lIt (xVar 0)) [8] (gNm 8) zdw (x2 (o2 dIx) (xVar 8) (xVar 4)))))) (x2 (o2 zgc) (xLst (zac (xC .non) aNil)) (xN (o1 dInt) (zac (xVar 2) aNil)))) [some (.dat (tabD t)), some (.dat (natL js)), some (.dat (.bl b)), some (.dat (.lst ((givs t pre b).map gD))), some (.dat (.int ((j : Nat) : Int))), o5, o6, o7, o8] S = .nx [some (.dat (tabD t)), some (.dat (natL js)), some (.dat (.bl b)), some (.dat (.lst ((givs t pre b).map gD))), some (.dat (.int ((j : Nat) : Int))), some (.dat (.lst ((zd3 t j b).map oD))), o6, o7, o8] S := fun o5 => by
      have m1 : dInt (.bl b) = some (.int (if b then 1 else 0)) := rfl
      have m2 : zgc (.lst [.non]) (.int (if b then 1 else 0)) = some (.lst (bif b then [.non] else [])) := by cases b <;> rfl
      have m3 : dAdd (.lst ((sset (t.map fun r => r.getD j 0)).map .int)) (.lst (bif b then [.non] else [])) = some (.lst ((zd3 t j b).map oD)) := by
        rw [dAdd_l, valsC_D, zbw]
        · rfl
        · have := sset_le (t.map fun r => r.getD j 0)
          simp only [List.length_map] at this ⊢
          cases b
          · simp only [cond_false, List.length_nil]; omega
          · simp only [cond_true, List.length_cons, List.length_nil]; omega
      have a_ss : ∀ (f : XFn) (ρ : zan) (S : zae), zg1 f ρ S = (f ρ S).bind zne := fun _ _ _ => rfl
      simp! only [tabD, List.length_map, zbw (show t.length ≤ 16777216 by omega)]
      rw [zcj (q := fun r => .int (r.getD j 0)) t ?h]
      case h =>
        intro r hr'
        exact ⟨_, rfl, rfl, by simp! only [rowD, zd0 D.int 0 (show j < r.length by rw [hr r hr']; exact hj')]⟩
      simp! only [sortS_col t ht, m1, m2, m3]
    unfold zeq
    rw [ze1, e5, zcm]
    have lc : ∀ _ : Option DV, lLc2 (lIt (xVar 3)) [6, 7] (gNm 6) zdw (lIt (xVar 5)) [7] (gNm 7) zdw (xTup (aStar (xVar 6) (zac (xTup (zac (xVar 4) (zac (xVar 7) aNil))) aNil))) [some (.dat (tabD t)), some (.dat (natL js)), some (.dat (.bl b)), some (.dat (.lst ((givs t pre b).map gD))), some (.dat (.int ((j : Nat) : Int))), some (.dat (.lst ((zd3 t j b).map oD))), o6, o7, o8] S = .ok ((givs t pre b).flatMap fun g => (zd3 t j b).map fun v => gD (g ++ [(j, v)])) S := fun _ => by
      rw [a_lc2]
      have fl := ze9 (l := givs t pre b) (m := 9) (f := fun g => (zd3 t j b).map fun v => gD (g ++ [(j, v)])) (fun g _ => by rw [List.length_map]; exact vl)
      have it : ∀ ds S, zg0 (.dat (.lst ds)) S = .ok ds S := fun _ _ => rfl
      simp only [lIt, xVar, List.getElem?_cons_zero, List.getElem?_cons_succ, Res.bind_ok, it]
      rw [lc2Go_map (ys := fun _ => zd3 t j b) (eb := oD) (q := fun g v => gD (g ++ [(j, v)])) (givs t pre b) ?h, Res.bindN_ok, if_pos (zes (by omega))]
      case h =>
        intro g hg
        refine ⟨[some (.dat (tabD t)), some (.dat (natL js)), some (.dat (.bl b)), some (.dat (.lst ((givs t pre b).map gD))), some (.dat (.int ((j : Nat) : Int))), some (.dat (.lst ((zd3 t j b).map oD))), some (.dat (gD g)), none, o8], rfl, rfl, rfl, fun v hv => ⟨[some (.dat (tabD t)), some (.dat (natL js)), some (.dat (.bl b)), some (.dat (.lst ((givs t pre b).map gD))), some (.dat (.int ((j : Nat) : Int))), some (.dat (.lst ((zd3 t j b).map oD))), some (.dat (gD g)), some (.dat (oD v)), o8], rfl, rfl, ?_⟩⟩
        have gm : g.length ≤ 2 := by
          have := givs_GI (cs := []) (t := []) (fun r hr => nomatch hr) b [] [] [] (fun g hg => nomatch hg) (by simp) (fun j hj => nomatch hj)
          have gg : ∀ (js pre : List Nat) (acc : List Giv), (∀ g ∈ acc, g.length ≤ pre.length) → ∀ g ∈ js.foldl (zdt t b) acc, g.length ≤ (pre ++ js).length := by
            intro js
            induction js with
            | nil => intro pre acc h; simpa using h
            | cons j js ih =>
              intro pre acc h g hg
              have := ih (pre ++ [j]) (zdt t b acc j) (fun g hg => by
                rcases List.mem_append.mp hg with hg | hg
                · have := h g hg; simp; omega
                · obtain ⟨g0, hg0, hg⟩ := List.mem_flatMap.mp hg
                  obtain ⟨v, _, rfl⟩ := List.mem_map.mp hg
                  have := h g0 hg0
                  simp; omega) g hg
              simpa using this
          have := gg pre [] [[]] (by simp) g hg
          simp at this
          omega
        have d1 : dats ((g.map eD).map DV.dat ++ [DV.dat (.tup [.int ((j : Nat) : Int), oD v])]) = some ((g ++ [(j, v)]).map eD) := by
          have : (g.map eD).map DV.dat ++ [DV.dat (.tup [.int ((j : Nat) : Int), oD v])] = ((g ++ [(j, v)]).map eD).map DV.dat := by simp [eD]
          rw [this]
          exact za6 _
        have z1 : szB ((g ++ [(j, v)]).map eD).length = true := zbw (by simp; omega)
        simp! only [gD_eq, zcu, rd, d1, z1]
    have ad : dAdd (.lst ((givs t pre b).map gD)) (.lst ((givs t pre b).flatMap fun g => (zd3 t j b).map fun v => gD (g ++ [(j, v)]))) = some (.lst ((givs t (pre ++ [j]) b).map gD)) := by
      have e : givs t (pre ++ [j]) b = zdt t b (givs t pre b) j := by simp [givs, List.foldl_append]
      have fl := ze9 (l := givs t pre b) (m := 9) (f := fun g => (zd3 t j b).map fun v => gD (g ++ [(j, v)])) (fun g _ => by rw [List.length_map]; exact vl)
      rw [e, givStep_D, dAdd_l, zbw (by rw [List.length_map]; omega)]
      rfl
    simp! only [lc none, ad]
  obtain ⟨ρ', S', e, o5, o6, o7, o8, o4, rfl, rfl⟩ := zm7 (enc := fun i : Nat => D.int ((i : Nat) : Int)) (G := gNm 4) (f := zeq) (fun pre ρ S' => ∃ o5 o6 o7 o8 o4, ρ = [some (.dat (tabD t)), some (.dat (natL js)), some (.dat (.bl b)), some (.dat (.lst ((givs t pre b).map gD))), o4, o5, o6, o7, o8] ∧ S' = S) js [] [some (.dat (tabD t)), some (.dat (natL js)), some (.dat (.bl b)), some (.dat (.lst [.tup []])), none, none, none, none, none] S ⟨_, _, _, _, _, rfl, rfl⟩ (by
    rintro pre j post ρ S' hp ⟨o5, o6, o7, o8, o4, rfl, rfl⟩
    have hp : pre ++ j :: post = js := by simpa using hp.symm
    exact ⟨_, _, _, rfl, .inl (st pre j post o5 o6 o7 o8 hp), _, _, _, _, _, rfl, rfl⟩)
  have it : ∀ S, zg0 (.dat (natL js)) S = .ok (js.map fun i => .int ((i : Nat) : Int)) S := fun _ => rfl
  simp! only [it, e, List.nil_append]
end T41
set_option maxHeartbeats 400000
namespace T41
open PySem PySem.Spec PyProof.Rows L2 DL
theorem zki {t : Tab} {n c : Nat} {b : Bool} (ht : t.length ≤ 8) (hc : c < n) (hn : n ≤ 4) : (givs t (zbj n c) b).length ≤ 1000 := by
  have ol := zh_ hc
  exact zmz (k := 3) (by omega) (by
    have : t.length + 2 ≤ 10 := by omega
    calc (t.length + 2) ^ 3 ≤ 10 ^ 3 := Nat.pow_le_pow_left this 3
      _ = 1000 := rfl)
theorem fc_want {t : Tab} {n : Nat} (ht : t.length ≤ 8) (hr : ∀ r ∈ t, r.length = n) (cs : List D) (hcs : cs.length = n) (hn : n ≤ 4) (c : Nat) (hc : c < n) (S0 : zae) (o6 o7 o8 : Option DV) (w : Int) (ds : List D) (hb : ds.length + ((givs t (zbj n c) false).map fun g => (⟨g, c, some w⟩ : Rul)).length ≤ sizeLine) :
    zds [some (.dat (.tup cs)), some (.dat (tabD t)), some (.obj S0.length), some (.dat (.int ((c : Nat) : Int))), some (.dat (natL (zbj n c))), some (.dat (.int w)), o6, o7, o8] (S0 ++ [some ds]) = .nx [some (.dat (.tup cs)), some (.dat (tabD t)), some (.obj S0.length), some (.dat (.int ((c : Nat) : Int))), some (.dat (natL (zbj n c))), some (.dat (.int w)), o6, o7, o8] (S0 ++ [some (ds ++ ((givs t (zbj n c) false).map fun g => (⟨g, c, some w⟩ : Rul)).map rulD)]) := by
  unfold zds
  have gl := zki (b := false) ht hc hn
  have ol := zh_ hc
  refine ext_end rfl ?_ (by simpa using hb)
  simp! only [zjl cs t ht (by rw [hcs]; exact hr) (by omega) (zbj n c) (fun j hj => by rw [hcs]; exact (zh3 hj).1) (by omega), List.length_map, zbw (show (givs t (zbj n c) false).length ≤ 16777216 by omega)]
  rw [zcj (q := fun g : Giv => rulD ⟨g, c, some w⟩) (givs t (zbj n c) false) ?h]
  case h => intro g hg; exact ⟨_, rfl, rfl, by simp! only [rulD, oD]⟩
  simp! only [List.map_map]
  rfl
theorem fc_col {t : Tab} {n : Nat} (ht : t.length ≤ 8) (hr : ∀ r ∈ t, r.length = n) (cs : List D) (hcs : cs.length = n) (hn : n ≤ 4) (c : Nat) (hc : c < n) (S0 : zae) (o4 o5 o6 o7 o8 : Option DV) (ds : List D) (hb : ds.length + (zkv n t c).length ≤ sizeLine) :
    ∃ o5', zdu [some (.dat (.tup cs)), some (.dat (tabD t)), some (.obj S0.length), some (.dat (.int ((c : Nat) : Int))), o4, o5, o6, o7, o8] (S0 ++ [some ds]) = .nx [some (.dat (.tup cs)), some (.dat (tabD t)), some (.obj S0.length), some (.dat (.int ((c : Nat) : Int))), some (.dat (natL (zbj n c))), o5', o6, o7, o8] (S0 ++ [some (ds ++ (zkv n t c).map rulD)]) := by
  unfold zdu
  have gl := zki (b := true) ht hc hn
  have ol := zh_ hc
  have e4 : sSet 4 (xN1 (lLc (lRg1 (zac (xN (o1 dLen) (zac (xVar 0) aNil)) aNil)) [6] (gNm 6) (tBl (x2 (o2 dNe) (xVar 6) (xVar 3))) (xVar 6))) [some (.dat (.tup cs)), some (.dat (tabD t)), some (.obj S0.length), some (.dat (.int ((c : Nat) : Int))), o4, o5, o6, o7, o8] (S0 ++ [some ds]) = .nx [some (.dat (.tup cs)), some (.dat (tabD t)), some (.obj S0.length), some (.dat (.int ((c : Nat) : Int))), some (.dat (natL (zbj n c))), o5, o6, o7, o8] (S0 ++ [some ds]) := by
    simp! only [zkw (zes (show cs.length ≤ 16000000 by omega)), List.length_map, List.length_range, zbw (show cs.length ≤ 16777216 by omega)]
    rw [zcs (enc := fun i : Nat => D.int ((i : Nat) : Int)) (p := fun j => !decide (j = c)) (q := fun i : Nat => D.int ((i : Nat) : Int)) (List.range cs.length) ?h]
    case h =>
      intro j hj
      have : (((j : Nat) : Int) == ((c : Nat) : Int)) = decide (j = c) := by
        rw [Bool.eq_iff_iff, beq_iff_eq, decide_eq_true_eq]; omega
      exact ⟨_, rfl, by simp! only [zlp, this], fun _ => by simp! only []⟩
    simp! only [natL, zbj, hcs]
  rw [ze1, e4, zcm, ze1]
  have hb' := hb
  unfold zkv at hb'
  simp only [List.length_append, List.length_map] at hb'
  rw [ext_end (S0 := S0) (ds := ds) (es := ((givs t (zbj n c) true).map fun g => (⟨g, c, none⟩ : Rul)).map rulD) rfl ?h1 (by simp only [List.length_map]; omega), zcm]
  case h1 =>
    simp! only [zjl cs t ht (by rw [hcs]; exact hr) (by omega) (zbj n c) (fun j hj => by rw [hcs]; exact (zh3 hj).1) (by omega), List.length_map, zbw (show (givs t (zbj n c) true).length ≤ 16777216 by omega)]
    rw [zcj (q := fun g : Giv => rulD ⟨g, c, none⟩) (givs t (zbj n c) true) ?h]
    case h => intro g hg; exact ⟨_, rfl, rfl, by simp! only [rulD, oD]⟩
    simp! only [List.map_map]
    rfl
  obtain ⟨ρ', e, o5', rfl⟩ := zk1 (enc := D.int) (eb := rulD) (q := fun w => (givs t (zbj n c) false).map fun g => (⟨g, c, some w⟩ : Rul)) (G := gNm 5) (f := zds) (S0 := S0) (P := fun ρ => ∃ o5, ρ = [some (.dat (.tup cs)), some (.dat (tabD t)), some (.obj S0.length), some (.dat (.int ((c : Nat) : Int))), some (.dat (natL (zbj n c))), o5, o6, o7, o8])
    (sset (t.map fun r => r.getD c 0)) [some (.dat (.tup cs)), some (.dat (tabD t)), some (.obj S0.length), some (.dat (.int ((c : Nat) : Int))), some (.dat (natL (zbj n c))), o5, o6, o7, o8] (ds ++ ((givs t (zbj n c) true).map fun g => (⟨g, c, none⟩ : Rul)).map rulD) (by simp only [List.length_append, List.length_map]; omega) ⟨_, rfl⟩ (by
    rintro w hw ρ ds ⟨o5, rfl⟩ hb
    exact ⟨_, _, rfl, fc_want ht hr cs hcs hn c hc S0 o6 o7 o8 w ds hb, _, rfl⟩)
  refine ⟨o5', ?_⟩
  have tl : szB t.length = true := zbw (by omega)
  simp! only [tabD, List.length_map, tl]
  rw [zcj (q := fun r => .int (r.getD c 0)) t ?h2]
  case h2 =>
    intro r hr'
    exact ⟨_, rfl, rfl, by simp! only [rowD, zd0 D.int 0 (show c < r.length by rw [hr r hr']; exact hc)]⟩
  have it : ∀ ds S, zg0 (.dat (.lst ds)) S = .ok ds S := fun _ _ => rfl
  simp! only [sortS_col t ht, it]
  simp only [tabD] at e
  rw [e]
  simp only [zkv, List.map_append, List.append_assoc]
theorem zj3 {t : Tab} (ht : t.length ≤ 8) (cs : List D) (hr : ∀ r ∈ t, r.length = cs.length) (hn : cs.length ≤ 4) (S : zae) : ze_ [.dat (.tup cs), .dat (tabD t)] S = .ok (.dat (.lst ((zek cs.length t).map rulD))) S := by
  unfold ze_ zh0
  have cl := cands_len (n := cs.length) (t := t) (N := 1000) (k := 3) (by omega) (by
    have : t.length + 2 ≤ 10 := by omega
    calc (t.length + 2) ^ 3 ≤ 10 ^ 3 := Nat.pow_le_pow_left this 3
      _ = 1000 := rfl)
  have cl2 : (zek cs.length t).length ≤ 36000 := by
    have : 1000 * (t.length + 1) * cs.length ≤ 1000 * 9 * 4 := Nat.mul_le_mul (Nat.mul_le_mul_left _ (by omega)) hn
    omega
  obtain ⟨ρ', e, o3, o4, o5, o6, o7, o8, rfl⟩ := zk1 (enc := fun i : Nat => D.int ((i : Nat) : Int)) (eb := rulD) (q := zkv cs.length t) (G := gNm 3) (f := zdu) (S0 := S) (P := fun ρ => ∃ o3 o4 o5 o6 o7 o8, ρ = [some (.dat (.tup cs)), some (.dat (tabD t)), some (.obj S.length), o3, o4, o5, o6, o7, o8])
    (List.range cs.length) [some (.dat (.tup cs)), some (.dat (tabD t)), some (.obj S.length), none, none, none, none, none, none] [] (by
      show _ + (zek cs.length t).length ≤ _
      exact zes (by simp only [List.length_nil]; omega)) ⟨_, _, _, _, _, _, rfl⟩ (by
    rintro c hc ρ ds ⟨o3, o4, o5, o6, o7, o8, rfl⟩ hb
    obtain ⟨o5', e⟩ := fc_col ht hr cs rfl hn c (by simpa using hc) S o4 o5 o6 o7 o8 ds hb
    exact ⟨_, _, rfl, e, _, _, _, _, _, _, rfl⟩)
  simp only [List.nil_append] at e
  simp! only [zkw (zes (show cs.length ≤ 16000000 by omega)), e]
  rfl
theorem eD_at0 (e : Ent) : dIx (eD e) (.int 0) = some (.int (e.1 : Nat)) := rfl
theorem eD_at1 (e : Ent) : dIx (eD e) (.int 1) = some (oD e.2) := rfl
theorem gens_len (r : Rul) : (gens r).length ≤ 2 * r.g.length := by
  have := List.length_filter_le (canB r) (List.range r.g.length)
  unfold gens
  simp only [List.length_append, List.length_map, List.length_range] at *
  omega
theorem gens_okR {n : Nat} {r : Rul} (h : okR n r) : ∀ x ∈ gens r, okR n x := by
  intro x hx
  have dm : ∀ k, ∀ p ∈ r.g.take k ++ r.g.drop (k + 1), p ∈ r.g := fun k p hp => by
    rcases List.mem_append.mp hp with hp | hp
    · exact List.mem_of_mem_take hp
    · exact List.mem_of_mem_drop hp
  rcases List.mem_append.mp hx with hx | hx
  · obtain ⟨k, hk, rfl⟩ := List.mem_map.mp hx
    refine ⟨⟨fun p hp => h.g.1 p (dm k p hp), ?_⟩, h.c⟩
    have := h.g.2
    simp only [zh6, List.length_append, List.length_take, List.length_drop]
    omega
  · obtain ⟨k, hk, rfl⟩ := List.mem_map.mp hx
    have hk := List.mem_range.mp (List.mem_filter.mp hk).1
    refine ⟨⟨fun p hp => ?_, ?_⟩, h.c⟩
    · simp only [zd7, List.mem_append, List.mem_cons] at hp
      rcases hp with hp | rfl | hp
      · exact h.g.1 p (List.mem_of_mem_take hp)
      · have := h.g.1 (r.g.getD k (0, none)) (zih hk)
        exact this
      · exact h.g.1 p (List.mem_of_mem_drop hp)
    · have := h.g.2
      simp only [zd7, List.length_append, List.length_take, List.length_drop, List.length_cons]
      omega
theorem zo1 (g : Giv) (k : Nat) : (g.map eD).take k ++ (g.map eD).drop (k + 1) = (zh6 g k).map eD := by simp [zh6, List.map_take, List.map_drop]
theorem zjd {n : Nat} (r : Rul) (h : okR n r) (S : zae) : zdq [.dat (rulD r)] S = .ok (.dat (.lst ((gens r).map rulD))) S := by
  unfold zdq zhg
  have g64 := h.g.2
  have e1 : ∀ ρ, gTp (gCo (gNm 2) (gCo (gNm 3) (gCo (gNm 4) gNo))) (rulD r) ρ = some (((ρ.set 2 (some (.dat (gD r.g)))).set 3 (some (.dat (.int (r.c : Nat))))).set 4 (some (.dat (oD r.w)))) := fun _ => rfl
  have z0 : szB r.g.length = true := zbw (by omega)
  have lc : lcGo (gNm 5) zdw (xTup (zac (x2 (o2 dAdd) (xSl (xVar 2) pNo (pEx (xVar 5))) (xSl (xVar 2) (pEx (x2 (o2 dAdd) (xVar 5) (xC (.int 1)))) pNo)) (zac (xVar 3) (zac (xVar 4) aNil)))) [some (.dat (rulD r)), none, some (.dat (gD r.g)), some (.dat (.int (r.c : Nat))), some (.dat (oD r.w)), none, none] ((List.range r.g.length).map fun i => .int ((i : Nat) : Int)) S = .ok (((List.range r.g.length).map fun k => (⟨zh6 r.g k, r.c, r.w⟩ : Rul)).map rulD) S := by
    rw [zcj (enc := fun i : Nat => D.int ((i : Nat) : Int)) (q := fun k : Nat => rulD ⟨zh6 r.g k, r.c, r.w⟩) (List.range r.g.length) ?h, List.map_map]
    · rfl
    case h =>
      intro k hk
      have ad : dAdd (.tup ((r.g.map eD).take k)) (.tup ((r.g.map eD).drop (k + 1))) = some (gD (zh6 r.g k)) := by
        rw [zm5, zbw (by simp; omega), zo1]; rfl
      exact ⟨_, rfl, rfl, by simp! only [gD_eq, zop, zmf, ad, rulD]⟩
  have zl : (((List.range r.g.length).map fun k => (⟨zh6 r.g k, r.c, r.w⟩ : Rul)).map rulD).length ≤ sizeLine := zes (by simp; omega)
  have loop : ∀ o5 o6, ∃ ρ', zfk (gTp (gCo (gNm 5) (gCo (gNm 6) gNo))) zd4 ((r.g.zipIdx.map fun p => (p.2, p.1)).map fun p => znk (.int ((p.1 : Nat) : Int)) (eD p.2)) [some (.dat (rulD r)), some (.obj S.length), some (.dat (gD r.g)), some (.dat (.int (r.c : Nat))), some (.dat .non), o5, o6] (S ++ [some (((List.range r.g.length).map fun k => (⟨zh6 r.g k, r.c, r.w⟩ : Rul)).map rulD)]) = .nx ρ' (S ++ [some (((List.range r.g.length).map fun k => (⟨zh6 r.g k, r.c, r.w⟩ : Rul)).map rulD ++ ((r.g.zipIdx.map fun p => (p.2, p.1)).flatMap fun p => if p.2.2.isSome then [(⟨zd7 r.g p.1, r.c, none⟩ : Rul)] else []).map rulD)]) ∧ ∃ o5 o6, ρ' = [some (.dat (rulD r)), some (.obj S.length), some (.dat (gD r.g)), some (.dat (.int (r.c : Nat))), some (.dat .non), o5, o6] := by
    intro o5 o6
    have fl := ze9 (l := r.g.zipIdx.map fun p => (p.2, p.1)) (m := 1) (f := fun p => if p.2.2.isSome then [(⟨zd7 r.g p.1, r.c, none⟩ : Rul)] else []) (fun p _ => by split <;> simp)
    simp only [List.length_map, List.length_zipIdx] at fl
    refine zk1 (P := fun ρ => ∃ o5 o6, ρ = [some (.dat (rulD r)), some (.obj S.length), some (.dat (gD r.g)), some (.dat (.int (r.c : Nat))), some (.dat .non), o5, o6]) _ _ _ (zes (by simp only [List.length_map, List.length_range]; omega)) ⟨_, _, rfl⟩ ?_
    rintro p hp ρ ds ⟨o5, o6, rfl⟩ hb
    obtain ⟨q, hq, rfl⟩ := List.mem_map.mp hp
    have hq2 := List.mem_zipIdx' hq
    refine ⟨[some (.dat (rulD r)), some (.obj S.length), some (.dat (gD r.g)), some (.dat (.int (r.c : Nat))), some (.dat .non), some (.dat (.int ((q.2 : Nat) : Int))), some (.dat (eD q.1))], [some (.dat (rulD r)), some (.obj S.length), some (.dat (gD r.g)), some (.dat (.int (r.c : Nat))), some (.dat .non), some (.dat (.int ((q.2 : Nat) : Int))), some (.dat (eD q.1))], rfl, ?_, _, _, rfl⟩
    unfold zd4
    have nn : dNotN (oD q.1.2) .non = some (.bl q.1.2.isSome) := by cases q.1.2 <;> rfl
    simp! only [eD_at1, nn]
    dsimp only at hb ⊢
    cases hs : q.1.2.isSome
    · simp -implicitDefEqProofs only [hs, a_fn, ze1, zcm, zc7, zdf, zc4, zc2, zbc, zar, c_ok, zf6, c_bl, zfo, zfe, c_or, zdl, zfh, zgh, zgd, zc9, a_tg, zdk, zcf, zf0, Res.bind_ok, Res.bind_ex, Res.bindS_ok, Res.bindS_ex, zdm, a_c, a_x2, a_o2, zdh, a_xN, zdp, zf8, a_o1, zfr, zfp, zgt, zbe, zbb, zb8, zb6, zc3, zfs, zfy, zga, zfm, zf4, zbz, zba, za0, zay, za1, zaz, zfl, a_or, zcd, zb4, zfn, zgf, zfg, zc0, a_if, zft, zc1, zcg, zbh, zav, zbd, zb3, a_it, zax, zaw, a_lc, zb0, zb7, zgb, zgn, zff, zfv, zf3, zfq, zfw, zgj, zgp, zc8, a_rd, Option.bind_some, zc_, zb9, zb5, zau, List.map_cons, List.map_nil, List.length_cons, List.length_nil, Nat.reduceSub, Nat.reduceAdd, List.replicate_succ, List.replicate_zero, List.cons_append, List.nil_append, List.append_nil, List.getElem?_cons_zero, List.getElem?_cons_succ, List.set_cons_zero, List.set_cons_succ, List.take_length, cond_true, cond_false, Bool.not_true, Bool.not_false, zgv, zfj, zfz, zgl, zdn, zc5, zcc, zbg, zdb, zct, zfx, zgi, zcb, zca, zbf, zbi, zf5, zda, zgq, zf9, zgm, zcn, zde, zgg, zdc, zg_, zf7, zgr, zdj, zdo, zat, zas, zcu, za6, zal, Option.map_some, zap, zcz, zbs, zb_, lit2, lit3, Bool.true_and, Bool.false_and, Bool.and_true, Bool.and_false, Bool.true_or, Bool.false_or, Bool.or_true, Bool.or_false, Bool.not_not, a_sl, zgo, zgw, zce, zdg, zgu, zc6, zdi, zdd, zb1, zbv, Bool.false_eq_true, if_false, List.map_nil, List.append_nil]
    · simp -implicitDefEqProofs only [hs, a_fn, ze1, zcm, zc7, zdf, zc4, zc2, zbc, zar, c_ok, zf6, c_bl, zfo, zfe, c_or, zdl, zfh, zgh, zgd, zc9, a_tg, zdk, zcf, zf0, Res.bind_ok, Res.bind_ex, Res.bindS_ok, Res.bindS_ex, zdm, a_c, a_x2, a_o2, zdh, a_xN, zdp, zf8, a_o1, zfr, zfp, zgt, zbe, zbb, zb8, zb6, zc3, zfs, zfy, zga, zfm, zf4, zbz, zba, za0, zay, za1, zaz, zfl, a_or, zcd, zb4, zfn, zgf, zfg, zc0, a_if, zft, zc1, zcg, zbh, zav, zbd, zb3, a_it, zax, zaw, a_lc, zb0, zb7, zgb, zgn, zff, zfv, zf3, zfq, zfw, zgj, zgp, zc8, a_rd, Option.bind_some, zc_, zb9, zb5, zau, List.map_cons, List.map_nil, List.length_cons, List.length_nil, Nat.reduceSub, Nat.reduceAdd, List.replicate_succ, List.replicate_zero, List.cons_append, List.nil_append, List.append_nil, List.getElem?_cons_zero, List.getElem?_cons_succ, List.set_cons_zero, List.set_cons_succ, List.take_length, cond_true, cond_false, Bool.not_true, Bool.not_false, zgv, zfj, zfz, zgl, zdn, zc5, zcc, zbg, zdb, zct, zfx, zgi, zcb, zca, zbf, zbi, zf5, zda, zgq, zf9, zgm, zcn, zde, zgg, zdc, zg_, zf7, zgr, zdj, zdo, zat, zas, zcu, za6, zal, Option.map_some, zap, zcz, zbs, zb_, lit2, lit3, Bool.true_and, Bool.false_and, Bool.and_true, Bool.and_false, Bool.true_or, Bool.false_or, Bool.or_true, Bool.or_false, Bool.not_not, a_sl, zgo, zgw, zce, zdg, zgu, zc6, zdi, zdd, zb1, zbv, if_true]
      have qe : r.g.getD q.2 (0, none) = q.1 := by
        rw [List.getD_eq_getElem?_getD, List.getElem?_eq_getElem hq2.1, ← hq2.2]
        rfl
      have d1 : dats (((r.g.map eD).take q.2).map DV.dat ++ DV.dat (.tup [.int (q.1.1 : Nat), .non]) :: ((r.g.map eD).drop (q.2 + 1)).map DV.dat) = some ((zd7 r.g q.2).map eD) := by
        have : ((r.g.map eD).take q.2).map DV.dat ++ DV.dat (.tup [.int (q.1.1 : Nat), .non]) :: ((r.g.map eD).drop (q.2 + 1)).map DV.dat = ((zd7 r.g q.2).map eD).map DV.dat := by
          rw [zd7, qe]
          simp [List.map_take, List.map_drop, eD, oD]
        rw [this]
        exact za6 _
      have z1 : szB ((zd7 r.g q.2).map eD).length = true := zbw (by simp [zd7]; omega)
      rw [hs, if_pos rfl] at hb
      rw [app_end (S0 := S) (ds := ds) (d := rulD ⟨zd7 r.g q.2, r.c, none⟩) rfl ?h2 (by simp at hb; omega)]
      simp! only [gD_eq, eD_at0, zcu, rd, zop, zmf]
      simp! only [d1, z1, rulD, gD_eq, oD]
  have en : ∀ S, enum1 (.dat (gD r.g)) S = .ok ((r.g.zipIdx.map fun p => (p.2, p.1)).map fun p => znk (.int ((p.1 : Nat) : Int)) (eD p.2)) S := fun S => by
    rw [gD_eq, zbv, enum_map]
  have gl : dLen (gD r.g) = some (.int ((r.g.length : Nat) : Int)) := by rw [gD_eq, zct, List.length_map]
  simp! only [e1, gl, zkw (zes (show r.g.length ≤ 16000000 by omega)), List.length_map, List.length_range, z0]
  rw [lc]
  simp! only [oD_isN]
  cases hw : r.w with
  | some w =>
    simp! only [Option.isNone_some]
    have : gens r = (List.range r.g.length).map fun k => (⟨zh6 r.g k, r.c, r.w⟩ : Rul) := by
      unfold gens
      have : (List.range r.g.length).filter (canB r) = [] := List.filter_eq_nil_iff.mpr fun k _ => by simp [canB, hw]
      rw [this]; simp
    rw [this, hw]
  | none =>
    obtain ⟨ρ', e, o5, o6, rfl⟩ := loop none none
    rw [hw] at e
    simp! only [Option.isNone_none, oD, en, e]
    have : ((List.range r.g.length).map fun k => (⟨zh6 r.g k, r.c, none⟩ : Rul)).map rulD ++ ((r.g.zipIdx.map fun p => (p.2, p.1)).flatMap fun p => if p.2.2.isSome then [(⟨zd7 r.g p.1, r.c, none⟩ : Rul)] else []).map rulD = (gens r).map rulD := by
      unfold gens
      rw [List.map_append, hw]
      congr 2
      have e : (r.g.zipIdx.map fun p => (p.2, p.1)).flatMap (fun p => if p.2.2.isSome then [(⟨zd7 r.g p.1, r.c, none⟩ : Rul)] else []) = (List.range r.g.length).flatMap fun k => if (r.g.getD k (0, none)).2.isSome then [(⟨zd7 r.g k, r.c, none⟩ : Rul)] else [] := by
        rw [zipIdx_range (0, none), List.flatMap_map]
      rw [e]
      generalize List.range r.g.length = l
      induction l with
      | nil => rfl
      | cons a l ih =>
        simp only [List.flatMap_cons, List.filter_cons, canB, hw, Option.isNone_none, Bool.true_and]
        rw [ih]
        split <;> simp [canB, hw]
    rw [this]
end T41
set_option maxHeartbeats 400000
namespace T41
open PySem PySem.Spec PyProof.Rows L2 DL
theorem at_rul0 (r : Rul) : dIx (rulD r) (.int 0) = some (gD r.g) := rfl
theorem zoh {n : Nat} (t : Tab) (ht : okT n t) (m : Nat) (r : Rul) (hr : okR n r) (S : zae) : ziy [.dat (tabD t), .dat (.int ((m : Nat) : Int)), .dat (rulD r)] S = .ok (.dat (.bl (ze3 t m r))) S := by
  unfold ziy s_is_good
  have tl : szB t.length = true := zbw (by have := ht.len; omega)
  have it : ∀ S, zg0 (.dat (tabD t)) S = .ok (t.map rowD) S := fun _ => rfl
  simp! only [it, List.length_map, tl]
  rw [zcs (p := fun o => za5 r.g o) (q := rowD) t ?h]
  case h =>
    intro o ho
    have hok : okG o.length r.g := by rw [ht.row o ho]; exact hr.g
    exact ⟨_, rfl, by simp! only [at_rul0, zit r.g o hok], fun _ => by simp! only []⟩
  have ge : decide ((((t.filter fun o => za5 r.g o).length : Nat) : Int) ≥ ((m : Nat) : Int)) = decide (m ≤ (t.filter fun o => za5 r.g o).length) := by
    rw [decide_eq_decide]; omega
  simp! only [List.length_map, zlx n r t hr ht, ge, ze3]
theorem cands_le {t : Tab} {n : Nat} (ht : t.length ≤ 8) (hn : n ≤ 4) : (zek n t).length ≤ 36000 := by
  have cl := cands_len (n := n) (t := t) (N := 1000) (k := 3) (by omega) (by
    have : t.length + 2 ≤ 10 := by omega
    calc (t.length + 2) ^ 3 ≤ 10 ^ 3 := Nat.pow_le_pow_left this 3
      _ = 1000 := rfl)
  have : 1000 * (t.length + 1) * n ≤ 1000 * 9 * 4 := Nat.mul_le_mul (Nat.mul_le_mul_left _ (by omega)) hn
  omega
structure TabOK (cs : List D) (t : Tab) : Prop where
  hc : ziw (.tup cs) = true
  tl : t.length ≤ 8
  tr : ∀ r ∈ t, RowOK cs r
theorem TabOK.c4 {cs t} (F : TabOK cs t) : 1 ≤ cs.length ∧ cs.length ≤ 4 ∧ ∀ c ∈ cs, zhy c = true := by
  obtain ⟨_, e, a, b, c⟩ := zhp F.hc
  cases e
  exact ⟨a, b, c⟩
theorem TabOK.okT {cs t} (F : TabOK cs t) : okT cs.length t := ⟨F.tl, fun r hr => ((zeu cs r).mp (F.tr r hr).1).1⟩
theorem zo5 {cs t} (F : TabOK cs t) (m : Nat) (S : zae) : zho [.dat (.tup cs), .dat (tabD t), .dat (.int ((m : Nat) : Int))] S = .ok (.dat (.lst ((zbt cs.length t m).map rulD))) S := by
  unfold zho zls
  have c4 := F.c4.2.1
  have cl := cands_le (n := cs.length) F.tl c4
  have fl := List.length_filter_le (ze3 t m) (zek cs.length t)
  have gr := zov c4 F.tr
  have z1 : szB (zek cs.length t).length = true := zbw (by omega)
  have z2 : szB ((zek cs.length t).filter (ze3 t m)).length = true := zbw (by omega)
  have a_retN : ∀ (l : LFn) (ρ : zan) (S : zae), sRetN l ρ S = (l ρ S).bindS ρ fun ds S1 => .rt (.obj S1.length) (S1 ++ [some ds]) := fun _ _ _ => rfl
  have it : ∀ ds S, zg0 (.dat (.lst ds)) S = .ok ds S := fun _ _ => rfl
  simp! only [zj3 F.tl cs F.okT.row c4, it, List.length_map, z1]
  rw [zcs (p := ze3 t m) (q := rulD) (zek cs.length t) ?h]
  case h => intro r hr; exact ⟨_, rfl, by simp! only [zoh t F.okT m r (gr r hr).ok], fun _ => by simp! only []⟩
  simp! only [it, List.length_map, z2, a_retN]
  rw [zcs (p := fun r => !(gens r).any (ze3 t m)) (q := rulD) ((zek cs.length t).filter (ze3 t m)) ?h2]
  case h2 =>
    intro r hr
    have hr := (gr r (List.mem_filter.mp hr).1).ok
    have gl := gens_len r
    have g64 := hr.g.2
    have z3 : szB (gens r).length = true := zbw (by omega)
    refine ⟨_, rfl, ?_, fun _ => by simp! only []⟩
    simp! only [zjd r hr, it, List.length_map, z3]
    rw [zcj (q := fun x => .bl (ze3 t m x)) (gens r) ?h3]
    case h3 => intro x hx; exact ⟨_, rfl, rfl, by simp! only [zoh t F.okT m x (gens_okR hr x hx)]⟩
    have da : dAny (.lst ((gens r).map fun x => .bl (ze3 t m x))) = some (.bl ((gens r).any (ze3 t m))) := by
      first | exact dAny_map _ _ | (rw [dAny_map]; done)
    simp! only [da]
  simp! only []
  rfl
theorem zef {cs t} (F : TabOK cs t) (m : Nat) (m1 : 1 ≤ m) (m8 : m ≤ 8) (S : zae) : zbn [.dat (.tup cs), .dat (tabD t), .dat (.int ((m : Nat) : Int))] S = .ok (.dat (.lst ((zbt cs.length t m).map rulD))) S := by
  unfold zbn zkj
  have c4 := F.c4
  have tab := (tab_of F.tl fun r hr => (F.tr r hr).1).1
  have rc : za9 [.dat (.tup cs)] S = .ok (.dat .non) S := by rw [zco, F.hc]; rfl
  have rt : zcx [.dat (.tup cs), .dat (tabD t)] S = .ok (.dat .non) S := by rw [ziv cs _ c4.2.2 c4.2.1, tab]; rfl
  have bt : zd6 [.dat (.int ((m : Nat) : Int)), .dat (.int 1), .dat (.int 8)] S = .ok (.dat (.bl true)) S := by
    rw [ziq]
    have : (decide ((1 : Int) ≤ ((m : Nat) : Int)) && decide (((m : Nat) : Int) ≤ 8)) = true := by simp; omega
    simp [zna, this]
  simp! only [rc, rt, bt, zo5 F]
end T41
set_option maxHeartbeats 400000
namespace T41
open PySem PySem.Spec PyProof.Rows L2 DL
/-! ## what holds, and how often -/
def Hld (r : Rul) (t : Tab) : Prop := ∀ o ∈ t, za5 r.g o = true → match r.w with
  | some v => o.getD r.c 0 = v
  | none => ∀ o' ∈ t, za5 r.g o' = true → zjf r.g o o' = true → o.getD r.c 0 = o'.getD r.c 0
theorem agree_symm (g : Giv) (o o' : Row) : zjf g o o' = zjf g o' o := by
  unfold zjf
  congr 1
  funext p
  exact Bool.beq_comm
theorem getD_of {t : Tab} {i : Nat} (h : i < t.length) : t.getD i [] ∈ t := by
  rw [List.getD_eq_getElem?_getD, List.getElem?_eq_getElem h]
  exact List.getElem_mem h
theorem ix_of {t : Tab} {o : Row} (h : o ∈ t) : ∃ i, i < t.length ∧ t.getD i [] = o := by
  obtain ⟨i, hi, rfl⟩ := List.getElem_of_mem h
  exact ⟨i, hi, by rw [List.getD_eq_getElem?_getD, List.getElem?_eq_getElem hi]; rfl⟩
theorem hits_iff {r : Rul} {t : Tab} {i : Nat} : i ∈ hits r t ↔ i < t.length ∧ za5 r.g (t.getD i []) = true := by
  unfold hits
  rw [List.mem_filter, List.mem_range]
theorem zms (r : Rul) (t : Tab) : (zhv r t).isEmpty = true ↔ Hld r t := by
  unfold zhv Hld
  rw [List.isEmpty_iff]
  cases hw : r.w with
  | some v =>
    simp only [List.map_eq_nil_iff, List.filter_eq_nil_iff]
    constructor
    · intro h o ho hm
      obtain ⟨i, hi, rfl⟩ := ix_of ho
      have := h i (hits_iff.mpr ⟨hi, hm⟩)
      unfold at_ at this
      simpa using this
    · intro h i hi
      obtain ⟨a, b⟩ := hits_iff.mp hi
      have := h _ (getD_of a) b
      unfold at_
      simpa using this
  | none =>
    simp only [pairs, List.flatMap_eq_nil_iff]
    constructor
    · intro h o ho hm o' ho' hm' ag
      obtain ⟨i, hi, rfl⟩ := ix_of ho
      obtain ⟨j, hj, rfl⟩ := ix_of ho'
      rcases Nat.lt_trichotomy i j with q | q | q
      · have := h i (hits_iff.mpr ⟨hi, hm⟩) j (hits_iff.mpr ⟨hj, hm'⟩)
        unfold zkq at this
        have e := ag
        simp only [q, decide_true, e, Bool.true_and] at this
        unfold at_ at this
        simpa using this
      · rw [q]
      · have := h j (hits_iff.mpr ⟨hj, hm'⟩) i (hits_iff.mpr ⟨hi, hm⟩)
        unfold zkq at this
        have e := ag
        rw [agree_symm] at e
        simp only [q, decide_true, e, Bool.true_and] at this
        unfold at_ at this
        have this : (t.getD j []).getD r.c 0 = (t.getD i []).getD r.c 0 := by simpa using this
        exact this.symm
    · intro h i hi j hj
      obtain ⟨a, b⟩ := hits_iff.mp hi
      obtain ⟨a', b'⟩ := hits_iff.mp hj
      unfold zkq
      rw [if_neg]
      intro q
      simp only [Bool.and_eq_true, decide_eq_true_eq, Bool.not_eq_true', beq_eq_false_iff_ne] at q
      exact q.2.2 (h _ (getD_of a) b _ (getD_of a') b' q.2.1)
theorem zim (t : Tab) (m : Nat) (r : Rul) : ze3 t m r = true ↔ m ≤ (t.filter (za5 r.g)).length ∧ Hld r t := by
  unfold ze3
  rw [Bool.and_eq_true, decide_eq_true_eq, zms]
/-! ## all rows twice -/
theorem hld_twice (r : Rul) (t : Tab) : Hld r (t ++ t) ↔ Hld r t := by
  unfold Hld
  simp only [List.mem_append, or_self]
theorem good_twice (t : Tab) (m : Nat) (r : Rul) : ze3 (t ++ t) (2 * m) r = ze3 t m r := by
  rw [Bool.eq_iff_iff, zim, zim, hld_twice, List.filter_append, List.length_append]
  constructor
  · rintro ⟨a, b⟩; exact ⟨by omega, b⟩
  · rintro ⟨a, b⟩; exact ⟨by omega, b⟩
theorem sset_same {a b : List Int} (h : ∀ k, k ∈ a ↔ k ∈ b) : sset a = sset b := zg9 (zck a) (zck b) fun k => by rw [zcl, zcl, h]
theorem zoe (t : Tab) (j : Nat) : sset ((t ++ t).map fun r => r.getD j 0) = sset (t.map fun r => r.getD j 0) := sset_same fun k => by simp
theorem valsC_twice (t : Tab) (j : Nat) (b : Bool) : zd3 (t ++ t) j b = zd3 t j b := by unfold zd3; rw [zoe]
theorem zog (t : Tab) (js : List Nat) (b : Bool) : givs (t ++ t) js b = givs t js b := by
  unfold givs
  congr 1
  funext acc j
  unfold zdt
  rw [valsC_twice]
theorem cands_twice (n : Nat) (t : Tab) : zek n (t ++ t) = zek n t := by
  unfold zek
  congr 1
  funext c
  unfold zkv
  rw [zog, zog, zoe]
theorem foundR_twice (n : Nat) (t : Tab) (m : Nat) : zbt n (t ++ t) (2 * m) = zbt n t m := by
  unfold zbt
  rw [cands_twice]
  have e : ze3 (t ++ t) (2 * m) = ze3 t m := funext fun r => good_twice t m r
  rw [e]
theorem good_less {t : Tab} {m : Nat} {r : Rul} (h : ze3 t (m + 1) r = true) : ze3 t m r = true := by
  rw [zim] at h ⊢
  exact ⟨by omega, h.2⟩
end T41
set_option maxHeartbeats 400000
namespace T41
open PySem PySem.Spec PyProof.Rows L2 DL
/-! ## more general -/
def zd1 (a b : Rul) : Bool := bif !(decide (a.c = b.c) && decide (a.w = b.w)) || decide (a.g = b.g) then false else a.g.all fun e => decide (e ∈ b.g) || (a.w.isNone && b.g.any fun p => decide (e = (p.1, none)))
theorem tail_eq (a b : Rul) : (decide (a.c = b.c) && decide (a.w = b.w)) = true ↔ D.tup [.int (a.c : Nat), oD a.w] = .tup [.int (b.c : Nat), oD b.w] := by
  simp only [Bool.and_eq_true, decide_eq_true_eq, D.tup.injEq, List.cons.injEq, D.int.injEq, oD_inj, and_true]
  constructor
  · rintro ⟨h1, h2⟩; exact ⟨by omega, h2⟩
  · rintro ⟨h1, h2⟩; exact ⟨by omega, h2⟩
theorem dNe_tail (a b : Rul) : dNe (.tup [.int (a.c : Nat), oD a.w]) (.tup [.int (b.c : Nat), oD b.w]) = some (.bl (!(decide (a.c = b.c) && decide (a.w = b.w)))) :=
  dNe_p (n := 1) (m := 1) (by simp [D.fit, D.fits, zn6]) (by simp [D.fit, D.fits, zn6]) (by simp [D.noB, D.noBs, zn8]) (by simp [D.noB, D.noBs, zn8]) (tail_eq a b)
theorem dEq_gD (g h : Giv) : dEq (gD g) (gD h) = some (.bl (decide (g = h))) := dEq_p (gD_fit 0 g) (gD_fit 0 h) (gD_noB g) (gD_noB h) (by simp [gD_inj])
theorem blanks_mem (e : Ent) (g : Giv) : eD e ∈ (g.map fun p => D.tup [.int (p.1 : Nat), .non]) ↔ (g.any fun p => decide (e = (p.1, none))) = true := by
  rw [List.mem_map, List.any_eq_true]
  constructor
  · rintro ⟨p, hp, h⟩
    exact ⟨p, hp, by rw [decide_eq_true_eq]; exact eD_inj.mp (show eD e = eD (p.1, none) from h.symm)⟩
  · rintro ⟨p, hp, h⟩
    rw [decide_eq_true_eq] at h
    exact ⟨p, hp, by rw [h]; rfl⟩
theorem zj2 (a b : Rul) (ha : a.g.length ≤ 64) (hb : b.g.length ≤ 64) (S : zae) : zd9 [.dat (rulD a), .dat (rulD b)] S = .ok (.dat (.bl (zd1 a b))) S := by
  unfold zd9 zh4
  have la : szB a.g.length = true := zbw (by omega)
  have lb : szB b.g.length = true := zbw (by omega)
  simp! only [rulD, cut_1, List.drop_succ_cons, List.drop_zero, at3_0, dNe_tail, dEq_gD]
  unfold zd1
  cases h1 : (!(decide (a.c = b.c) && decide (a.w = b.w)))
  · cases h2 : decide (a.g = b.g)
    · have at3_2 : ∀ x y z : D, atI [x, y, z] 2 = some z := fun _ _ _ => rfl
      simp! only [at3_2, oD_isN, Bool.false_or]
      cases hw : a.w with
      | none =>
        simp! only [Option.isNone_none, at3_0, gD, List.length_map, lb]
        rw [zcj (q := fun p : Ent => D.tup [.int (p.1 : Nat), .non]) b.g ?h]
        case h => intro p hp; exact ⟨_, rfl, rfl, by simp! only []⟩
        simp! only [at3_0, List.length_map, la]
        rw [zcj (q := fun e : Ent => .bl (decide (e ∈ b.g) || (b.g.any fun p => decide (e = (p.1, none))))) a.g ?h2]
        case h2 =>
          intro e he
          refine ⟨_, rfl, rfl, ?_⟩
          have i1 := dIn_tp (p := decide (e ∈ b.g)) (eD_fit 0 e) (zox 0 b.g) (eD_noB e) (zpe b.g) (by rw [decide_eq_true_eq, mem_mapE])
          have i2 := dIn_lp (p := b.g.any fun p => decide (e = (p.1, none))) (m := 1) (eD_fit 0 e) (fits_iff.mpr fun x hx => by obtain ⟨p, _, rfl⟩ := List.mem_map.mp hx; rfl) (eD_noB e) (noBs_iff.mpr fun x hx => by obtain ⟨p, _, rfl⟩ := List.mem_map.mp hx; rfl) (blanks_mem e b.g).symm
          simp! only [at3_0, i1, i2]
        simp! only [ze2]
      | some v =>
        simp! only [Option.isNone_some, at3_0, gD, List.length_map, la]
        rw [zcj (q := fun e : Ent => .bl (decide (e ∈ b.g))) a.g ?h2]
        case h2 =>
          intro e he
          refine ⟨_, rfl, rfl, ?_⟩
          have i1 := dIn_tp (p := decide (e ∈ b.g)) (eD_fit 0 e) (zox 0 b.g) (eD_noB e) (zpe b.g) (by rw [decide_eq_true_eq, mem_mapE])
          have i2 := dIn_lp (d := eD e) (xs := []) (p := false) (m := 0) (eD_fit 0 e) rfl (eD_noB e) rfl (by simp)
          simp! only [at3_0, i1, i2]
        simp! only [ze2]
    · simp! only []
  · simp! only []
/-! ## more general, as an order -/
def Gle (a b : Rul) : Prop := a.c = b.c ∧ a.w = b.w ∧ ∀ e ∈ a.g, e ∈ b.g ∨ (a.w = none ∧ ∃ p ∈ b.g, e = (p.1, none))
theorem Gle.refl (a : Rul) : Gle a a := ⟨rfl, rfl, fun _ h => .inl h⟩
theorem Gle.trans {a b c : Rul} (h : Gle a b) (k : Gle b c) : Gle a c := by
  refine ⟨h.1.trans k.1, h.2.1.trans k.2.1, fun e he => ?_⟩
  rcases h.2.2 e he with q | ⟨hw, p, hp, rfl⟩
  · rcases k.2.2 e q with z | ⟨kw, z⟩
    · exact .inl z
    · exact .inr ⟨h.2.1.trans kw, z⟩
  · rcases k.2.2 p hp with z | ⟨_, p', hp', z⟩
    · exact .inr ⟨hw, p, z, rfl⟩
    · exact .inr ⟨hw, p', hp', by rw [z]⟩
theorem zjv (a b : Rul) : zd1 a b = true ↔ Gle a b ∧ a.g ≠ b.g := by
  unfold zd1 Gle
  by_cases h1 : a.c = b.c <;> by_cases h2 : a.w = b.w <;> by_cases h3 : a.g = b.g <;> simp [h1, h2, h3]
theorem Gle.mat {a b : Rul} (h : Gle a b) {o : Row} (m : za5 b.g o = true) : za5 a.g o = true := by
  unfold za5 at *
  rw [List.all_eq_true] at *
  intro e he
  rcases h.2.2 e he with q | ⟨_, p, _, rfl⟩
  · exact m e q
  · rfl
theorem Gle.agr {a b : Rul} (h : Gle a b) {o o' : Row} (m : zjf b.g o o' = true) : zjf a.g o o' = true := by
  unfold zjf at *
  rw [List.all_eq_true] at *
  intro e he
  rcases h.2.2 e he with q | ⟨_, p, hp, rfl⟩
  · exact m e q
  · exact m p hp
theorem Gle.hld {a b : Rul} (h : Gle a b) {t : Tab} (k : Hld a t) : Hld b t := by
  intro o ho hm
  have q := k o ho (h.mat hm)
  have ew := h.2.1
  have ec := h.1
  cases hw : b.w with
  | some v =>
    rw [ew, hw] at q
    rw [← ec]
    exact q
  | none =>
    rw [ew, hw] at q
    intro o' ho' hm' ag
    rw [← ec]
    exact q o' ho' (h.mat hm') (h.agr ag)
theorem Gle.many {a b : Rul} (h : Gle a b) (t : Tab) : (t.filter (za5 b.g)).length ≤ (t.filter (za5 a.g)).length := by
  rw [← List.countP_eq_length_filter, ← List.countP_eq_length_filter]
  exact List.countP_mono_left fun o _ hm => h.mat hm
theorem Gle.good {y x r : Rul} {t : Tab} {m : Nat} (h : Gle y x) (k : Gle x r) (gy : ze3 t m y = true) (gr : ze3 t m r = true) : ze3 t m x = true := by
  rw [zim] at *
  exact ⟨Nat.le_trans gr.1 (k.many t), h.hld gy.2⟩
/-! ## the steps to a more general one -/
def mu (g : Giv) : Nat := (g.map fun p => 1 + p.2.isSome.toNat).sum
theorem mu_app (a b : Giv) : mu (a ++ b) = mu a + mu b := by unfold mu; rw [List.map_append, List.sum_append]
theorem zkl {g : Giv} {k : Nat} (h : k < g.length) : g = g.take k ++ g.getD k (0, none) :: g.drop (k + 1) := by
  rw [List.getD_eq_getElem?_getD, List.getElem?_eq_getElem h]
  show g = g.take k ++ g[k] :: g.drop (k + 1)
  rw [List.getElem_cons_drop, List.take_append_drop]
theorem dropE_mu {g : Giv} {k : Nat} (h : k < g.length) : mu (zh6 g k) < mu g := by
  have e := congrArg mu (zkl h)
  rw [mu_app] at e
  unfold zh6
  rw [mu_app, e]
  unfold mu
  rw [List.map_cons, List.sum_cons]
  omega
theorem blankE_mu {r : Rul} {k : Nat} (h : k < r.g.length) (hb : canB r k = true) : mu (zd7 r.g k) < mu r.g := by
  have e := congrArg mu (zkl h)
  rw [mu_app] at e
  unfold zd7
  rw [mu_app, e]
  unfold canB at hb
  rw [Bool.and_eq_true] at hb
  unfold mu
  rw [List.map_cons, List.sum_cons, List.map_cons, List.sum_cons, hb.2]
  simp
theorem zl_ {r x : Rul} (h : x ∈ gens r) : ∃ k, k < r.g.length ∧ (x = ⟨zh6 r.g k, r.c, r.w⟩ ∨ (canB r k = true ∧ x = ⟨zd7 r.g k, r.c, r.w⟩)) := by
  unfold gens at h
  rcases List.mem_append.mp h with h | h
  · obtain ⟨k, hk, rfl⟩ := List.mem_map.mp h
    exact ⟨k, List.mem_range.mp hk, .inl rfl⟩
  · obtain ⟨k, hk, rfl⟩ := List.mem_map.mp h
    obtain ⟨a, b⟩ := List.mem_filter.mp hk
    exact ⟨k, List.mem_range.mp a, .inr ⟨b, rfl⟩⟩
theorem gens_mu {r x : Rul} (h : x ∈ gens r) : mu x.g < mu r.g := by
  obtain ⟨k, hk, rfl | ⟨hb, rfl⟩⟩ := zl_ h
  · exact dropE_mu hk
  · exact blankE_mu hk hb
theorem gens_le {r x : Rul} (h : x ∈ gens r) : Gle x r := by
  obtain ⟨k, hk, rfl | ⟨hb, rfl⟩⟩ := zl_ h
  · refine ⟨rfl, rfl, fun e he => .inl ?_⟩
    rcases List.mem_append.mp he with q | q
    · exact List.mem_of_mem_take q
    · exact List.mem_of_mem_drop q
  · unfold canB at hb
    rw [Bool.and_eq_true, Option.isNone_iff_eq_none] at hb
    refine ⟨rfl, rfl, fun e he => ?_⟩
    rcases List.mem_append.mp he with q | q
    · exact .inl (List.mem_of_mem_take q)
    · rcases List.mem_cons.mp q with rfl | q
      · refine .inr ⟨hb.1, r.g.getD k (0, none), ?_, rfl⟩
        rw [List.getD_eq_getElem?_getD, List.getElem?_eq_getElem hk]
        exact List.getElem_mem hk
      · exact .inl (List.mem_of_mem_drop q)
theorem climb {n : Nat} {t : Tab} {m : Nat} (cl : ∀ r ∈ zek n t, ∀ x ∈ gens r, x ∈ zek n t) : ∀ (N : Nat) (r : Rul), mu r.g ≤ N → r ∈ zek n t → ze3 t m r = true → ∃ y ∈ zbt n t m, Gle y r
  | N, r, hN, hc, hg => by
    cases q : (gens r).any (ze3 t m) with
    | false =>
      refine ⟨r, ?_, .refl r⟩
      unfold zbt
      exact List.mem_filter.mpr ⟨List.mem_filter.mpr ⟨hc, hg⟩, by rw [q]; rfl⟩
    | true =>
      obtain ⟨x, hx, gx⟩ := List.any_eq_true.mp q
      have hm := gens_mu hx
      match N, hN with
      | 0, hN => omega
      | N + 1, hN =>
        obtain ⟨y, hy, l⟩ := climb cl N x (by omega) (cl r hc x hx) gx
        exact ⟨y, hy, l.trans (gens_le hx)⟩
end T41
set_option maxHeartbeats 400000
namespace T41
open PySem PySem.Spec PyProof.Rows L2 DL
/-! ## the candidates, by what is in them -/
theorem givStep_mem {t : Tab} {b : Bool} {acc : List Giv} {j : Nat} {g : Giv} : g ∈ zdt t b acc j ↔ g ∈ acc ∨ ∃ g0 ∈ acc, ∃ v ∈ zd3 t j b, g = g0 ++ [(j, v)] := by
  unfold zdt
  simp only [List.mem_append, List.mem_flatMap, List.mem_map]
  constructor
  · rintro (h | ⟨g0, h0, v, hv, rfl⟩)
    · exact .inl h
    · exact .inr ⟨g0, h0, v, hv, rfl⟩
  · rintro (h | ⟨g0, h0, v, hv, rfl⟩)
    · exact .inl h
    · exact .inr ⟨g0, h0, v, hv, rfl⟩
theorem givs_fold {t : Tab} {b : Bool} : ∀ (js : List Nat) (acc : List Giv) (g : Giv), g ∈ js.foldl (zdt t b) acc ↔ ∃ g0 ∈ acc, ∃ g1 : Giv, g = g0 ++ g1 ∧ (g1.map (·.1)).Sublist js ∧ ∀ p ∈ g1, p.2 ∈ zd3 t p.1 b
  | [], acc, g => by
    rw [List.foldl_nil]
    constructor
    · intro h; exact ⟨g, h, [], by simp, by simp, by simp⟩
    · rintro ⟨g0, h0, g1, rfl, hs, _⟩
      have : g1 = [] := by
        have := List.sublist_nil.mp hs
        simpa using this
      rw [this, List.append_nil]
      exact h0
  | j :: js, acc, g => by
    rw [List.foldl_cons, givs_fold js]
    constructor
    · rintro ⟨g0, h0, g1, rfl, hs, hv⟩
      rcases givStep_mem.mp h0 with h | ⟨ga, ha, v, hv', rfl⟩
      · exact ⟨g0, h, g1, rfl, hs.cons j, hv⟩
      · refine ⟨ga, ha, (j, v) :: g1, by simp, by rw [List.map_cons]; exact hs.cons_cons j, fun p hp => ?_⟩
        rcases List.mem_cons.mp hp with rfl | hp
        · exact hv'
        · exact hv p hp
    · rintro ⟨g0, h0, g1, rfl, hs, hv⟩
      cases g1 with
      | nil => exact ⟨g0, givStep_mem.mpr (.inl h0), [], rfl, by simp, by simp⟩
      | cons p g1 =>
        rw [List.map_cons] at hs
        cases hs with
        | cons _ hs => exact ⟨g0, givStep_mem.mpr (.inl h0), p :: g1, rfl, by rw [List.map_cons]; exact hs, hv⟩
        | cons_cons _ hs => exact ⟨g0 ++ [(p.1, p.2)], givStep_mem.mpr (.inr ⟨g0, h0, p.2, hv p (by simp), rfl⟩), g1, by simp, hs, fun q hq => hv q (by simp [hq])⟩
theorem givs_mem {t : Tab} {b : Bool} {js : List Nat} {g : Giv} : g ∈ givs t js b ↔ (g.map (·.1)).Sublist js ∧ ∀ p ∈ g, p.2 ∈ zd3 t p.1 b := by
  unfold givs
  rw [givs_fold]
  constructor
  · rintro ⟨g0, h0, g1, rfl, hs, hv⟩
    rw [List.mem_singleton] at h0
    subst h0
    exact ⟨hs, hv⟩
  · rintro ⟨hs, hv⟩
    exact ⟨[], by simp, g, rfl, hs, hv⟩
theorem cands_mem {n : Nat} {t : Tab} {r : Rul} : r ∈ zek n t ↔ r.c < n ∧ r.g ∈ givs t (zbj n r.c) r.w.isNone ∧ ∀ v, r.w = some v → v ∈ t.map fun o => o.getD r.c 0 := by
  unfold zek zkv
  simp only [List.mem_flatMap, List.mem_range, List.mem_append, List.mem_map]
  constructor
  · rintro ⟨c, hc, ⟨g, hg, rfl⟩ | ⟨w, hw, g, hg, rfl⟩⟩
    · exact ⟨hc, hg, fun v e => by cases e⟩
    · refine ⟨hc, hg, fun v e => ?_⟩
      cases e
      exact List.mem_map.mp ((zcl _ _).mp hw)
  · obtain ⟨g, c, w⟩ := r
    rintro ⟨hc, hg, hw⟩
    refine ⟨c, hc, ?_⟩
    cases w with
    | none => exact .inl ⟨g, hg, rfl⟩
    | some w => exact .inr ⟨w, (zcl _ _).mpr (List.mem_map.mpr (hw w rfl)), g, hg, rfl⟩
theorem zn4 (t : Tab) (j : Nat) : none ∈ zd3 t j true := by
  unfold zd3
  simp
theorem gens_cands {n : Nat} {t : Tab} : ∀ r ∈ zek n t, ∀ x ∈ gens r, x ∈ zek n t := by
  intro r hr x hx
  obtain ⟨hc, hg, hw⟩ := cands_mem.mp hr
  obtain ⟨hs, hv⟩ := givs_mem.mp hg
  obtain ⟨k, hk, rfl | ⟨hb, rfl⟩⟩ := zl_ hx
  · refine cands_mem.mpr ⟨hc, givs_mem.mpr ⟨?_, fun p hp => hv p ?_⟩, hw⟩
    · refine List.Sublist.trans ?_ hs
      refine List.Sublist.map _ ?_
      conv => rhs; rw [zkl hk]
      exact List.Sublist.append (.refl _) (.cons _ (.refl _))
    · rcases List.mem_append.mp hp with q | q
      · exact List.mem_of_mem_take q
      · exact List.mem_of_mem_drop q
  · unfold canB at hb
    rw [Bool.and_eq_true] at hb
    refine cands_mem.mpr ⟨hc, givs_mem.mpr ⟨?_, fun p hp => ?_⟩, hw⟩
    · refine List.Sublist.trans ?_ hs
      have e := congrArg (List.map (·.1)) (zkl hk)
      rw [e]
      unfold zd7
      rw [List.map_append, List.map_append, List.map_cons, List.map_cons]
      exact .refl _
    · rcases List.mem_append.mp hp with q | q
      · exact hv p (List.mem_of_mem_take q)
      · rcases List.mem_cons.mp q with rfl | q
        · show none ∈ zd3 t _ r.w.isNone
          rw [hb.1]
          exact zn4 t _
        · exact hv p (List.mem_of_mem_drop q)
theorem zm9 {n : Nat} {t : Tab} {m : Nat} {r : Rul} (hc : r ∈ zek n t) (hg : ze3 t m r = true) : ∃ y ∈ zbt n t m, y = r ∨ zd1 y r = true := by
  obtain ⟨y, hy, l⟩ := climb gens_cands _ r (Nat.le_refl _) hc hg
  refine ⟨y, hy, ?_⟩
  by_cases e : y.g = r.g
  · left
    obtain ⟨a, b, c⟩ := y
    obtain ⟨a', b', c'⟩ := r
    obtain ⟨h1, h2, _⟩ := l
    simp only at e h1 h2
    rw [e, h1, h2]
  · exact .inr ((zjv y r).mpr ⟨l, e⟩)
theorem foundR_mem {n : Nat} {t : Tab} {m : Nat} {r : Rul} : r ∈ zbt n t m ↔ r ∈ zek n t ∧ ze3 t m r = true ∧ ∀ x ∈ gens r, ze3 t m x = false := by
  unfold zbt
  rw [List.mem_filter, List.mem_filter, Bool.not_eq_true', List.any_eq_false]
  simp only [Bool.not_eq_true, and_assoc]
end T41
set_option maxHeartbeats 400000
namespace T41
open PySem PySem.Spec PyProof.Rows L2 DL
/-! ## no found rule is more general than another one -/
theorem cand_inc {n : Nat} {t : Tab} {r : Rul} (h : r ∈ zek n t) : r.g.Pairwise fun p q => p.1 < q.1 := by
  have := (zi8 n r.c).sublist (givs_mem.mp (cands_mem.mp h).2.1).1
  exact List.pairwise_map.mp this
theorem inc_one {g : Giv} (h : g.Pairwise fun p q => p.1 < q.1) {p q : Ent} (hp : p ∈ g) (hq : q ∈ g) (e : p.1 = q.1) : p = q := by
  induction g with
  | nil => cases hp
  | cons a g ih =>
    rw [List.pairwise_cons] at h
    rcases List.mem_cons.mp hp with hp1 | hp1 <;> rcases List.mem_cons.mp hq with hq1 | hq1
    · rw [hp1, hq1]
    · have := h.1 q hq1; rw [hp1] at e; omega
    · have := h.1 p hp1; rw [hq1] at e; omega
    · exact ih h.2 hp1 hq1
theorem inc_nodup {g : Giv} (h : g.Pairwise fun p q => p.1 < q.1) : g.Nodup := h.imp fun q e => by rw [e] at q; omega
theorem inc_eq {g g' : Giv} (h : g.Pairwise fun p q => p.1 < q.1) (h' : g'.Pairwise fun p q => p.1 < q.1) (e : ∀ p, p ∈ g ↔ p ∈ g') : g = g' :=
  List.Perm.eq_of_pairwise (le := fun p q : Ent => p.1 < q.1) (fun x y _ _ h1 h2 => by omega) h h' ((List.perm_ext_iff_of_nodup (inc_nodup h) (inc_nodup h')).mpr e)
theorem gens_drop {r : Rul} {k : Nat} (h : k < r.g.length) : (⟨zh6 r.g k, r.c, r.w⟩ : Rul) ∈ gens r := by
  unfold gens
  exact List.mem_append_left _ (List.mem_map.mpr ⟨k, List.mem_range.mpr h, rfl⟩)
theorem gens_blank {r : Rul} {k : Nat} (h : k < r.g.length) (hb : canB r k = true) : (⟨zd7 r.g k, r.c, r.w⟩ : Rul) ∈ gens r := by
  unfold gens
  exact List.mem_append_right _ (List.mem_map.mpr ⟨k, List.mem_filter.mpr ⟨List.mem_range.mpr h, hb⟩, rfl⟩)
theorem zku {g : Giv} {k : Nat} (h : k < g.length) {p : Ent} (hp : p ∈ g) : p = g.getD k (0, none) ∨ p ∈ zh6 g k := by
  rw [zkl h] at hp
  unfold zh6
  rcases List.mem_append.mp hp with q | q
  · exact .inr (List.mem_append_left _ q)
  · rcases List.mem_cons.mp q with q | q
    · exact .inl q
    · exact .inr (List.mem_append_right _ q)
theorem zn7 {g : Giv} {k : Nat} {p : Ent} (h : p ∈ zh6 g k) : p ∈ zd7 g k := by
  unfold zh6 at h
  unfold zd7
  rcases List.mem_append.mp h with q | q
  · exact List.mem_append_left _ q
  · exact List.mem_append_right _ (List.mem_cons_of_mem _ q)
theorem between {n : Nat} {t : Tab} {y r : Rul} (hy : y ∈ zek n t) (hr : r ∈ zek n t) (l : Gle y r) (ne : y.g ≠ r.g) : ∃ x ∈ gens r, Gle y x := by
  have iy := cand_inc hy
  have ir := cand_inc hr
  have ex : ∃ p ∈ r.g, p ∉ y.g := by
    refine Classical.byContradiction fun no => ne (inc_eq iy ir fun e => ?_)
    have sub : ∀ p ∈ r.g, p ∈ y.g := fun p hp => Classical.byContradiction fun q => no ⟨p, hp, q⟩
    refine ⟨fun he => ?_, sub e⟩
    rcases l.2.2 e he with q | ⟨_, p, hp, rfl⟩
    · exact q
    · rw [inc_one iy he (sub p hp) rfl]
      exact hp
  obtain ⟨p, hp, np⟩ := ex
  obtain ⟨k, hk, ek⟩ := List.getElem_of_mem hp
  have ek : r.g.getD k (0, none) = p := by rw [List.getD_eq_getElem?_getD, List.getElem?_eq_getElem hk]; exact ek
  by_cases hc : ∃ e ∈ y.g, e.1 = p.1
  · obtain ⟨e, he, e1⟩ := hc
    have bl : y.w = none ∧ e = (p.1, none) := by
      rcases l.2.2 e he with q | ⟨hw, p', hp', rfl⟩
      · rw [inc_one ir q hp e1] at he
        exact absurd he np
      · exact ⟨hw, by rw [inc_one ir hp' hp e1]⟩
    obtain ⟨hw, rfl⟩ := bl
    have some_ : p.2.isSome = true := by
      cases q : p.2 with
      | none => exact absurd (by obtain ⟨a, b⟩ := p; simp only at q; subst q; exact he) np
      | some _ => rfl
    have cb : canB r k = true := by
      unfold canB
      rw [ek, some_, ← l.2.1, hw]
      rfl
    refine ⟨_, gens_blank hk cb, l.1, l.2.1, fun e' he' => ?_⟩
    have inB : (p.1, none) ∈ zd7 r.g k := by
      unfold zd7
      rw [ek]
      exact List.mem_append_right _ (List.mem_cons_self ..)
    rcases l.2.2 e' he' with q | ⟨_, p', hp', rfl⟩
    · rcases zku hk q with z | z
      · rw [ek] at z
        exact absurd (z ▸ he') np
      · exact .inl (zn7 z)
    · rcases zku hk hp' with z | z
      · rw [ek] at z
        rw [z]
        exact .inl inB
      · exact .inr ⟨hw, p', zn7 z, rfl⟩
  · have nc : ∀ e ∈ y.g, e.1 ≠ p.1 := fun e he q => hc ⟨e, he, q⟩
    refine ⟨_, gens_drop hk, l.1, l.2.1, fun e he => ?_⟩
    rcases l.2.2 e he with q | ⟨hw, p', hp', rfl⟩
    · rcases zku hk q with z | z
      · rw [ek] at z
        exact absurd (by rw [z]) (nc e he)
      · exact .inl z
    · rcases zku hk hp' with z | z
      · rw [ek] at z
        exact absurd (by rw [z]) (nc _ he)
      · exact .inr ⟨hw, p', z, rfl⟩
theorem found_apart {n : Nat} {t : Tab} {m : Nat} {y r : Rul} (hy : y ∈ zbt n t m) (hr : r ∈ zbt n t m) : zd1 y r = false := by
  cases q : zd1 y r with
  | false => rfl
  | true =>
    obtain ⟨l, ne⟩ := (zjv y r).mp q
    obtain ⟨cy, gy, _⟩ := foundR_mem.mp hy
    obtain ⟨cr, gr, no⟩ := foundR_mem.mp hr
    obtain ⟨x, hx, k⟩ := between cy cr l ne
    cases (Gle.good k (gens_le hx) gy gr).symm.trans (no x hx)
end T41
set_option maxHeartbeats 400000
namespace T41
open PySem PySem.Spec PyProof.Rows L2 DL
/-! ## each rule is found once -/
theorem zix {α β : Type} {f : α → β} (hf : ∀ a b, f a = f b → a = b) {l : List α} (h : l.Nodup) : (l.map f).Nodup := List.pairwise_map.mpr (h.imp fun q e => q (hf _ _ e))
theorem valsC_nodup (t : Tab) (j : Nat) (b : Bool) : (zd3 t j b).Nodup := by
  unfold zd3
  refine List.nodup_append.mpr ⟨zix (fun a b h => by injection h) (zn0 _), by cases b <;> simp, fun a ha c hc => ?_⟩
  obtain ⟨v, _, rfl⟩ := List.mem_map.mp ha
  cases b
  · cases hc
  · simp only [cond_true, List.mem_singleton] at hc
    rw [hc]
    simp
theorem zoz {t : Tab} {b : Bool} {acc : List Giv} {j : Nat} (h : acc.Nodup) (hj : ∀ g ∈ acc, ∀ p ∈ g, p.1 ≠ j) : (zdt t b acc j).Nodup := by
  unfold zdt
  refine List.nodup_append.mpr ⟨h, ?_, fun a ha c hc e => ?_⟩
  · unfold List.Nodup
    rw [List.pairwise_flatMap]
    refine ⟨fun g _ => zix (fun v v' q => ?_) (valsC_nodup t j b), h.imp fun {g g'} ne x hx y hy e => ?_⟩
    · have := List.append_cancel_left q
      simpa using this
    · obtain ⟨v, _, rfl⟩ := List.mem_map.mp hx
      obtain ⟨v', _, rfl⟩ := List.mem_map.mp hy
      exact ne (List.append_inj_left' e rfl)
  · obtain ⟨g, _, hx⟩ := List.mem_flatMap.mp hc
    obtain ⟨v, _, rfl⟩ := List.mem_map.mp hx
    exact hj a ha (j, v) (by rw [e]; simp) rfl
theorem zob {t : Tab} {b : Bool} : ∀ (js : List Nat) (acc : List Giv), acc.Nodup → js.Nodup → (∀ g ∈ acc, ∀ p ∈ g, p.1 ∉ js) → (js.foldl (zdt t b) acc).Nodup
  | [], acc, h, _, _ => h
  | j :: js, acc, h, nj, hj => by
    rw [List.foldl_cons]
    have nd := List.nodup_cons.mp nj
    refine zob js _ (zoz h fun g hg p hp e => hj g hg p hp (by rw [e]; simp)) nd.2 fun g hg p hp q => ?_
    rcases givStep_mem.mp hg with hg | ⟨g0, h0, v, _, rfl⟩
    · exact hj g hg p hp (by simp [q])
    · rcases List.mem_append.mp hp with hp | hp
      · exact hj g0 h0 p hp (by simp [q])
      · rw [List.mem_singleton] at hp
        rw [hp] at q
        exact nd.1 q
theorem ziz (t : Tab) (n c : Nat) (b : Bool) : (givs t (zbj n c) b).Nodup := by
  unfold givs
  exact zob _ _ (by simp) ((zi8 n c).imp fun h => by omega) (by simp)
theorem cands_nodup (n : Nat) (t : Tab) : (zek n t).Nodup := by
  have inG : ∀ c w, ∀ a b : Giv, (⟨a, c, w⟩ : Rul) = ⟨b, c, w⟩ → a = b := fun c w a b h => by injection h
  unfold zek List.Nodup
  rw [List.pairwise_flatMap]
  refine ⟨fun c _ => ?_, List.nodup_range.imp fun {c c'} ne x hx y hy e => ne ?_⟩
  · unfold zkv
    refine List.nodup_append.mpr ⟨zix (inG c none) (ziz t n c true), ?_, fun a ha d hd e => ?_⟩
    · unfold List.Nodup
      rw [List.pairwise_flatMap]
      refine ⟨fun w _ => zix (inG c (some w)) (ziz t n c false), (zn0 _).imp fun {w w'} ne x hx y hy e => ?_⟩
      obtain ⟨g, _, rfl⟩ := List.mem_map.mp hx
      obtain ⟨g', _, rfl⟩ := List.mem_map.mp hy
      injection e with _ _ e3
      injection e3 with e4
      exact ne e4
    · obtain ⟨g, _, rfl⟩ := List.mem_map.mp ha
      obtain ⟨w, _, hx⟩ := List.mem_flatMap.mp hd
      obtain ⟨g', _, rfl⟩ := List.mem_map.mp hx
      injection e with _ _ e3
      cases e3
  · have cc : ∀ c, ∀ z ∈ zkv n t c, z.c = c := fun c z hz => by
      unfold zkv at hz
      rcases List.mem_append.mp hz with hz | hz
      · obtain ⟨g, _, rfl⟩ := List.mem_map.mp hz
        rfl
      · obtain ⟨w, _, hz⟩ := List.mem_flatMap.mp hz
        obtain ⟨g, _, rfl⟩ := List.mem_map.mp hz
        rfl
    rw [← cc c x hx, ← cc c' y hy, e]
theorem zlu (n : Nat) (t : Tab) (m : Nat) : (zbt n t m).Nodup := ((cands_nodup n t).filter _).filter _
end T41
set_option maxHeartbeats 400000
namespace T41
open PySem PySem.Spec PyProof.Rows L2 DL
/-! ## at most 1728 rules are found -/
def bigR (n : Nat) (t : Tab) : List Rul := (List.range n).flatMap fun c => t.flatMap fun o => [none, some (o.getD c 0)].flatMap fun w => (givs [o] (zbj n c) true).map fun g => ⟨g, c, w⟩
theorem bigR_len {n : Nat} {t : Tab} (hn : n ≤ 4) (ht : t.length ≤ 8) : (bigR n t).length ≤ 1728 := by
  have h1 : ∀ c ∈ List.range n, (t.flatMap fun o => [none, some (o.getD c 0)].flatMap fun w => (givs [o] (zbj n c) true).map fun g => (⟨g, c, w⟩ : Rul)).length ≤ 432 := by
    intro c hc
    have h2 : ∀ o ∈ t, ([none, some (o.getD c 0)].flatMap fun w => (givs [o] (zbj n c) true).map fun g => (⟨g, c, w⟩ : Rul)).length ≤ 54 := by
      intro o _
      have h3 : (givs [o] (zbj n c) true).length ≤ 27 := by
        refine zmz (k := 3) ?_ (by simp)
        unfold zbj
        have e := List.length_eq_countP_add_countP (fun j => decide (j = c)) (l := List.range n)
        have e2 : 0 < (List.range n).countP fun j => decide (j = c) := List.countP_pos_iff.mpr ⟨c, hc, by simp⟩
        rw [List.length_range] at e
        rw [← List.countP_eq_length_filter]
        have e3 : (List.range n).countP (fun j => !decide (j = c)) = (List.range n).countP (fun a => decide ¬decide (a = c) = true) := List.countP_congr fun j _ => by simp
        omega
      simp only [List.flatMap_cons, List.flatMap_nil, List.append_nil, List.length_append, List.length_map]
      omega
    have := ze9 h2
    omega
  have := ze9 h1
  rw [List.length_range] at this
  unfold bigR
  omega
theorem found_big {n : Nat} {t : Tab} {m : Nat} (m1 : 1 ≤ m) {r : Rul} (h : r ∈ zbt n t m) : r ∈ bigR n t := by
  obtain ⟨hc, hg, _⟩ := foundR_mem.mp h
  obtain ⟨lt, gv, _⟩ := cands_mem.mp hc
  obtain ⟨sub, _⟩ := givs_mem.mp gv
  obtain ⟨many, hl⟩ := (zim t m r).mp hg
  cases hf : t.filter (za5 r.g) with
  | nil => rw [hf] at many; simp at many; omega
  | cons o rest =>
    have ho : o ∈ t.filter (za5 r.g) := by rw [hf]; simp
    obtain ⟨ot, om⟩ := List.mem_filter.mp ho
    unfold bigR
    refine List.mem_flatMap.mpr ⟨r.c, List.mem_range.mpr lt, List.mem_flatMap.mpr ⟨o, ot, List.mem_flatMap.mpr ⟨r.w, ?_, List.mem_map.mpr ⟨r.g, givs_mem.mpr ⟨sub, fun p hp => ?_⟩, rfl⟩⟩⟩⟩
    · have := hl o ot om
      cases hw : r.w with
      | none => simp
      | some v =>
        rw [hw] at this
        have this : o.getD r.c 0 = v := this
        rw [this]
        exact List.mem_cons_of_mem _ (List.mem_cons_self ..)
    · unfold za5 at om
      rw [List.all_eq_true] at om
      have := om p hp
      unfold mEnt at this
      unfold zd3
      cases hp2 : p.2 with
      | none => simp
      | some v =>
        rw [hp2] at this
        have this : o.getD p.1 0 = v := by simpa using this
        refine List.mem_append_left _ (List.mem_map.mpr ⟨v, (zcl _ _).mpr (List.mem_map.mpr ⟨o, by simp, this⟩), rfl⟩)
theorem zg7 {n : Nat} {t : Tab} {m : Nat} (hn : n ≤ 4) (ht : t.length ≤ 8) (m1 : 1 ≤ m) : (zbt n t m).length ≤ 1728 := by
  haveI : DecidableEq Rul := fun a b => Classical.propDecidable (a = b)
  exact Nat.le_trans (PySem.DLSetT.few_of _ _ (zlu n t m) fun r hr => found_big m1 hr) (bigR_len hn ht)
end T41
set_option maxHeartbeats 400000
namespace DL
open PySem PySem.Spec PyProof PyProof.Rows L2
theorem zg3 (s : String) : PyData.strOk (Str.ofString s) = true := by
  rw [Str.ofString_eq_toList]
  unfold PyData.strOk
  simp only [Array.all_toList, List.all_eq_true, Array.all_eq_true_iff_forall_mem, List.mem_toArray, List.mem_map]
  rintro n ⟨c, _, rfl⟩
  have := c.valid
  simp only [decide_eq_true_eq]
  unfold UInt32.isValidChar Nat.isValidChar at this
  show c.val.toNat < _
  omega
theorem zhd (a b : Str) : PyData.strOk (a ++ b) = (PyData.strOk a && PyData.strOk b) := by
  show (a.cps ++ b.cps).all _ = _
  rw [Array.all_append]
  rfl
theorem zof : ∀ (ts : List Str) (k : Nat) (acc : Str), PyData.strOk acc = true → (∀ t ∈ ts, PyData.strOk t = true) → PyData.strOk (textFrom k acc ts) = true
  | [], k, acc, h, _ => h
  | t :: r, k, acc, h, hs => by
    refine zof r (k + 1) _ ?_ fun u hu => hs u (List.mem_cons_of_mem _ hu)
    rw [zhd, zhd, h, hs t (List.mem_cons_self ..), zg3]
    rfl
theorem zon : ∀ ts : List Str, (∀ t ∈ ts, PyData.strOk t = true) → PyData.strOk (Str.join ", " ts) = true
  | [], _ => by decide +kernel
  | [x], h => h x (List.mem_cons_self ..)
  | x :: y :: r, h => by
    have := zon (y :: r) fun t ht => h t (List.mem_cons_of_mem _ ht)
    show PyData.strOk (x ++ ", " ++ Str.join ", " (y :: r)) = true
    rw [zhd, zhd, this, h x (List.mem_cons_self ..)]
    simp [zg3]
mutual
def D.noS : D → Bool
  | .str _ => false
  | .cas _ => false
  | .dct _ => false
  | .lst xs => D.noSs xs
  | .tup xs => D.noSs xs
  | _ => true
def D.noSs : List D → Bool
  | [] => true
  | x :: xs => D.noS x && D.noSs xs
end
theorem noSs_iff : ∀ {xs : List D}, D.noSs xs = true ↔ ∀ x ∈ xs, x.noS = true
  | [] => by simp [D.noSs]
  | x :: xs => by simp [D.noSs, noSs_iff (xs := xs)]
mutual
theorem znd : ∀ d : D, d.noS = true → PyData.strOk d.py.shown = true
  | .non, _ => by show PyData.strOk (Str.ofString "None") = true; exact zg3 _
  | .bl b, _ => by
    show PyData.strOk (if b then "True" else "False") = true
    split <;> exact zg3 _
  | .int i, _ => zg3 _
  | .str x, h => nomatch h
  | .cas x, h => nomatch h
  | .dct x, h => nomatch h
  | .lst xs, h => by
    show PyData.strOk (listText (PyData.shownAll (D.pys xs))) = true
    unfold listText
    rw [zhd, zof _ _ _ (zg3 _) (strOk_shownAll xs h)]
    simp [zg3]
  | .tup xs, h => by
    show PyData.strOk (tupleText (PyData.shownAll (D.pys xs))) = true
    unfold tupleText
    rw [zhd, zhd, zon _ (strOk_shownAll xs h), zg3]
    split <;> simp [zg3]
theorem strOk_shownAll : ∀ xs : List D, D.noSs xs = true → ∀ t ∈ PyData.shownAll (D.pys xs), PyData.strOk t = true
  | [], _ => fun t ht => nomatch ht
  | x :: xs, h => fun t ht => by
    simp only [D.noSs, Bool.and_eq_true] at h
    simp only [D.pys, PyData.shownAll, List.mem_cons] at ht
    rcases ht with rfl | ht
    · exact znd x h.1
    · exact strOk_shownAll xs h.2 t ht
end
end DL
set_option maxHeartbeats 400000
namespace T41
open PySem PySem.Spec PyProof.Rows L2 DL
def txt (r : Rul) : Str := (rulD r).py.shown
theorem rul_bulk {r : Rul} (hg : r.g.length ≤ 3) : (rulD r).py.bulk ≤ 75 := by
  have b1 : ∀ o : Option Int, (oD o).py.bulk = 0 := fun o => by cases o <;> rfl
  have b2 : ∀ e : Ent, (eD e).py.bulk ≤ 5 := fun e => by
    have := zm_ (xs := [D.int (e.1 : Nat), oD e.2]) (c := 0) fun x hx => by
      simp only [List.mem_cons, List.not_mem_nil, or_false] at hx
      rcases hx with rfl | rfl
      · simp [D.py, PyData.bulk]
      · rw [b1]; omega
    simp only [List.length_cons, List.length_nil] at this
    simp only [eD, D.py, PyData.bulk]
    omega
  have b3 : (gD r.g).py.bulk ≤ 21 := by
    have := zm_ (xs := r.g.map eD) (c := 5) fun x hx => by
      obtain ⟨e, _, rfl⟩ := List.mem_map.mp hx
      exact b2 e
    rw [List.length_map] at this
    simp only [gD, D.py, PyData.bulk]
    omega
  have := zm_ (xs := [gD r.g, D.int (r.c : Nat), oD r.w]) (c := 21) fun x hx => by
    simp only [List.mem_cons, List.not_mem_nil, or_false] at hx
    rcases hx with rfl | rfl | rfl
    · exact b3
    · simp [D.py, PyData.bulk]
    · rw [b1]; omega
  simp only [List.length_cons, List.length_nil] at this
  simp only [rulD, D.py, PyData.bulk]
  omega
theorem rul_tiny {cs : List D} {r : Rul} (hr : GR cs r) (hl : cs.length ≤ 4) : (rulD r).tiny = true := by
  have h1 : (D.int (r.c : Nat)).tiny = true := nn_tiny (by have := hr.ok.c; omega)
  have ho : ∀ o : Option Int, (∀ v, o = some v → (D.int v).tiny = true) → (oD o).tiny = true := fun o h => by
    cases o with
    | none => rfl
    | some v => exact h v rfl
  have h2 := ho r.w fun v hv => (hr.hw v hv).tiny
  have h3 : (gD r.g).tiny = true := by
    simp only [gD, D.tiny]
    refine tinys_iff.mpr fun x hx => ?_
    obtain ⟨e, he, rfl⟩ := List.mem_map.mp hx
    have a1 : (D.int (e.1 : Nat)).tiny = true := nn_tiny (by have := (hr.G.lt e he).1; omega)
    have a2 := ho e.2 fun v hv => (hr.G.val e he v hv).tiny
    show ((D.int (e.1 : Nat)).tiny && ((oD e.2).tiny && true)) = true
    rw [a1, a2]; rfl
  show ((gD r.g).tiny && ((D.int (r.c : Nat)).tiny && ((oD r.w).tiny && true))) = true
  rw [h1, h2, h3]; rfl
theorem rul_repr {cs : List D} {r : Rul} (hr : GR cs r) (hl : cs.length ≤ 4) (hg : r.g.length ≤ 3) : zl1 (rulD r) = some (.str (txt r)) :=
  dRepr_of (canRepr_of (n := 3) (zpi 0 r) (by decide) (rul_tiny hr hl) (by have := rul_bulk hg; omega))
theorem strs_fit (n : Nat) (l : List D) (h : ∀ x ∈ l, ∃ s, x = .str s ∧ PyData.strOk s = true) : D.fits n l = true := fits_iff.mpr fun x hx => by
  obtain ⟨s, rfl, hs⟩ := h x hx
  cases n <;> exact hs
theorem strs_noB (l : List D) (h : ∀ x ∈ l, ∃ s, x = .str s) : D.noBs l = true := noBs_iff.mpr fun x hx => by
  obtain ⟨s, rfl⟩ := h x hx
  rfl
theorem strs_sort {l : List D} (h : ∀ x ∈ l, ∃ s, x = .str s) : zm3 l = true := by
  unfold zm3
  simp only [Bool.and_eq_true, Bool.or_eq_true, List.all_eq_true, decide_eq_true_eq]
  refine ⟨⟨fun x hx y hy => ?_, .inr fun x hx => ?_⟩, fun x hx => ?_⟩
  · obtain ⟨s, rfl⟩ := h x hx
    obtain ⟨s2, rfl⟩ := h y hy
    rfl
  · obtain ⟨s, rfl⟩ := h x hx
    rfl
  · obtain ⟨s, rfl⟩ := h x hx
    simp [D.py, PyData.depth]
theorem strs_ne {l : List D} (h : ∀ x ∈ l, ∃ s, x = .str s ∧ PyData.strOk s = true) : dNe (.lst l) (.lst l) = some (.bl false) := by
  have := dNe_p (n := 1) (m := 1) (a := .lst l) (b := .lst l) (p := true) (by simp only [D.fit]; exact strs_fit 0 l h) (by simp only [D.fit]; exact strs_fit 0 l h) (by simp only [D.noB]; exact strs_noB l fun x hx => let ⟨s, e, _⟩ := h x hx; ⟨s, e⟩) (by simp only [D.noB]; exact strs_noB l fun x hx => let ⟨s, e, _⟩ := h x hx; ⟨s, e⟩) (by simp)
  exact this
theorem rul_noS (r : Rul) : (rulD r).noS = true := by
  have ho : ∀ o : Option Int, (oD o).noS = true := fun o => by cases o <;> rfl
  have hg : (gD r.g).noS = true := by
    show D.noSs (r.g.map eD) = true
    refine noSs_iff.mpr fun x hx => ?_
    obtain ⟨e, _, rfl⟩ := List.mem_map.mp hx
    show (true && ((oD e.2).noS && true)) = true
    rw [ho]; rfl
  show ((gD r.g).noS && (true && ((oD r.w).noS && true))) = true
  rw [hg, ho]; rfl
theorem txt_ok (r : Rul) : PyData.strOk (txt r) = true := znd _ (rul_noS r)
/-! ## the texts of unlike rules are unlike -/
theorem oD_py {a b : Option Int} (h : (oD a).py = (oD b).py) : a = b := by
  cases a <;> cases b <;> simp only [oD, D.py] at h
  · rfl
  · cases h
  · cases h
  · injection h with h; rw [h]
theorem gD_py : ∀ {g g' : Giv}, D.pys (g.map eD) = D.pys (g'.map eD) → g = g'
  | [], [], _ => rfl
  | [], _ :: _, h => by simp [D.pys] at h
  | _ :: _, [], h => by simp [D.pys] at h
  | p :: g, q :: g', h => by
    simp only [List.map_cons, D.pys, List.cons.injEq] at h
    obtain ⟨h1, h2⟩ := h
    simp only [eD, D.py, D.pys, PyData.tuple.injEq, List.cons.injEq, PyData.int.injEq, and_true] at h1
    have e2 := oD_py h1.2
    obtain ⟨a, b⟩ := p
    obtain ⟨a', b'⟩ := q
    simp only at h1 e2
    rw [gD_py h2, e2, show a = a' by omega]
theorem rulD_py {r r' : Rul} (h : (rulD r).py = (rulD r').py) : r = r' := by
  simp only [rulD, gD, D.py, D.pys, PyData.tuple.injEq, List.cons.injEq, PyData.int.injEq, and_true] at h
  obtain ⟨h1, h2, h3⟩ := h
  have e1 := gD_py h1
  have e3 := oD_py h3
  obtain ⟨g, c, w⟩ := r
  obtain ⟨g', c', w'⟩ := r'
  simp only at e1 h2 e3
  rw [e1, e3, show c = c' by omega]
theorem noTx_oD (o : Option Int) : noTx (oD o).py = true := by cases o <;> rfl
theorem noTxs_giv : ∀ g : Giv, noTxs (D.pys (g.map eD)) = true
  | [] => rfl
  | p :: g => by
    simp only [List.map_cons, D.pys, noTxs, Bool.and_eq_true]
    refine ⟨?_, noTxs_giv g⟩
    simp only [eD, D.py, D.pys, noTx, noTxs, Bool.and_true, Bool.true_and]
    exact noTx_oD p.2
theorem noTx_rul (r : Rul) : noTx (rulD r).py = true := by
  simp only [rulD, gD, D.py, D.pys, noTx, noTxs, Bool.and_true, Bool.true_and, Bool.and_eq_true]
  exact ⟨noTxs_giv r.g, noTx_oD r.w⟩
theorem txt_inj {r r' : Rul} (h : txt r = txt r') : r = r' := rulD_py (shown_inj (noTx_rul r') h)
theorem txts_nodup {L : List Rul} (h : L.Nodup) : (L.map txt).Nodup := zix (fun _ _ e => txt_inj e) h
theorem txts_len {L : List Rul} (h : L.Nodup) : (zk5 (L.map txt)).length = L.length := by rw [zod (txts_nodup h), List.length_map]
end T41
set_option maxHeartbeats 400000
namespace T41
open PySem PySem.Spec PyProof.Rows L2 DL
theorem shortR {r : Rul} (h : r.g.length < 64) : short (rulD r) := by simp only [short, rulD, gD, zhm, List.length_map]; exact h
theorem mg_ok (cs : List D) (a b : Rul) (hc : ziw (.tup cs) = true) (ha : GR cs a) (hb : GR cs b) (S : zae) : zeg [.dat (.tup cs), .dat (rulD a), .dat (rulD b)] S = .ok (.dat (.bl (zd1 a b))) S := by
  unfold zeg zjp
  obtain ⟨_, e, _, _, hcs⟩ := zhp hc
  cases e
  simp! only [zco, hc, zha cs _ hcs (shortR ha.sh), ha.is, zic cs _ hcs (shortR hb.sh), hb.is, zj2 a b (Nat.le_of_lt ha.sh) (Nat.le_of_lt hb.sh)]
theorem znx (cs : List D) (d : D) (hc : ∀ c ∈ cs, zhy c = true) (hl : cs.length ≤ 4) (S : zae) : zg4 [.dat (.tup cs), .dat d] S = bif zis cs d then .ok (.dat .non) S else .ex "InvalidRow" S := by
  unfold zg4 zke
  simp! only [zlf cs d hc hl]
  cases zis cs d <;> simp! only []
theorem matches_ok (cs : List D) (hc : ziw (.tup cs) = true) (r : Rul) (hr : GR cs r) (row : Row) (hw : zis cs (rowD row) = true) (S : zae) : zkk [.dat (.tup cs), .dat (rulD r), .dat (rowD row)] S = .ok (.dat (.bl (za5 r.g row))) S := by
  obtain ⟨cs', e, h1, h2, h3⟩ := zhp hc
  cases e
  have rl : row.length = cs.length := by
    have := hw
    simp only [zis, rowD, Bool.and_eq_true, beq_iff_eq, List.length_map] at this
    omega
  unfold zkk s_matches
  simp! only [zco, hc, zha cs _ h3 (zk8 hr.ok hr.sh), znx cs _ h3 h2, hr.is, hw]
  simp -implicitDefEqProofs only [rulD, a_fn, ze1, zcm, zc7, zdf, zc4, zc2, zbc, zar, c_ok, zf6, c_bl, zfo, zfe, c_or, zdl, zfh, zgh, zgd, zc9, a_tg, zdk, zcf, zf0, Res.bind_ok, Res.bind_ex, Res.bindS_ok, Res.bindS_ex, zdm, a_c, a_x2, a_o2, zdh, a_xN, zdp, zf8, a_o1, zfr, zfp, zgt, zbe, zbb, zb8, zb6, zc3, zfs, zfy, zga, zfm, zf4, zbz, zba, za0, zay, za1, zaz, zfl, a_or, zcd, zb4, zfn, zgf, zfg, zc0, a_if, zft, zc1, zcg, zbh, zav, zbd, zb3, a_it, zax, zaw, a_lc, zb0, zb7, zgb, zgn, zff, zfv, zf3, zfq, zfw, zgj, zgp, zc8, a_rd, Option.bind_some, zc_, zb9, zb5, zau, List.map_cons, List.map_nil, List.length_cons, List.length_nil, Nat.reduceSub, Nat.reduceAdd, List.replicate_succ, List.replicate_zero, List.cons_append, List.nil_append, List.append_nil, List.getElem?_cons_zero, List.getElem?_cons_succ, List.set_cons_zero, List.set_cons_succ, List.take_length, cond_true, cond_false, Bool.not_true, Bool.not_false, zgv, zfj, zfz, zgl, zdn, zc5, zcc, zbg, zdb, zct, zfx, zgi, zcb, zca, zbf, zbi, zf5, zda, zgq, zf9, zgm, zcn, zde, zgg, zdc, zg_, zf7, zgr, zdj, zdo, zat, zas, zcu, za6, zal, Option.map_some, zap, zcz, zbs, zb_, lit2, lit3, Bool.true_and, Bool.false_and, Bool.and_true, Bool.and_false, Bool.true_or, Bool.false_or, Bool.or_true, Bool.or_false, Bool.not_not, a_sl, zgo, zgw, zce, zdg, zgu, zc6, zdi, zdd, zb1, zbv, at3_0, zit r.g row (by rw [rl]; exact hr.ok.g)]
/-! ## the law's calls of the program -/
theorem TabOK.tab {cs t} (F : TabOK cs t) : isTab cs (tabD t) = true := (tab_of F.tl fun r hr => (F.tr r hr).1).1
theorem holds_c {cs t} (F : TabOK cs t) {r : Rul} (g : GR cs r) (S : zae) : zmy [.dat (.tup cs), .dat (rulD r), .dat (tabD t)] S = .ok (.dat (.bl (zhv r t).isEmpty)) S := by
  unfold zmy s_holds
  have c4 := F.c4
  simp! only [zco, F.hc, zha cs _ c4.2.2 (zk8 g.ok g.sh), g.is, ziv cs _ c4.2.2 c4.2.1, F.tab, zlx cs.length r t g.ok F.okT]
theorem is_rule_c {cs t} (F : TabOK cs t) {r : Rul} (g : GR cs r) (S : zae) : zj4 [.dat (.tup cs), .dat (rulD r)] S = .ok (.dat (.bl true)) S := by
  unfold zj4 s_is_rule
  have c4 := F.c4
  simp! only [zco, F.hc, zic cs _ c4.2.2 (zk8 g.ok g.sh), g.is]
theorem many_ok {cs t} (F : TabOK cs t) {r : Rul} (g : GR cs r) (S : zae) : zfi [.dat (.tup cs), .dat (rulD r), .dat (tabD t)] S = .ok (.dat (.int (((t.filter (za5 r.g)).length : Nat) : Int))) S := by
  unfold zfi zlo
  have z : szB t.length = true := zbw (by have := F.tl; omega)
  have z2 : szB (t.filter (za5 r.g)).length = true := zbw (by have := F.tl; have := List.length_filter_le (za5 r.g) t; omega)
  have it : ∀ ds S, zg0 (.dat (.tup ds)) S = .ok ds S := fun _ _ => rfl
  simp! only [tabD, it, List.length_map, z]
  rw [zcs (p := za5 r.g) (q := rowD) t ?h]
  case h => intro o ho; exact ⟨_, rfl, by simp! only [matches_ok cs F.hc r g o (F.tr o ho).1], fun _ => by simp! only []⟩
  simp! only [List.length_map, z2]
end T41
set_option maxHeartbeats 400000
namespace T41
open PySem PySem.Spec PyProof.Rows L2 DL
theorem dInB_tr {α : Type} (p : α → Bool) : ∀ xs : List α, dInB (.bl true) (xs.map fun a => D.bl (p a)) = xs.any p
  | [] => rfl
  | a :: xs => by
    have ih := dInB_tr p xs
    rw [List.map_cons, List.any_cons, ← ih]
    cases h : p a <;> rfl
theorem dIn_tr {α : Type} (p : α → Bool) (xs : List α) : dIn (.bl true) (.lst (xs.map fun a => .bl (p a))) = some (.bl (xs.any p)) := by
  rw [dIn_l (n := 0) (m := 0) rfl (fits_iff.mpr fun x hx => by obtain ⟨a, _, rfl⟩ := List.mem_map.mp hx; rfl), dInB_tr]
theorem ruls_fits : ∀ L : List Rul, D.fits 3 (L.map rulD) = true
  | [] => rfl
  | r :: L => by simp only [List.map_cons, D.fits, zpi 0 r, ruls_fits L, Bool.and_self]
theorem ruls_noBs : ∀ L : List Rul, D.noBs (L.map rulD) = true
  | [] => rfl
  | r :: L => by simp only [List.map_cons, D.noBs, rulD_noB r, ruls_noBs L, Bool.and_self]
theorem rulD_one {a b : Rul} (h : rulD a = rulD b) : a = b := rulD_py (by rw [h])
theorem dIn_rul (r : Rul) (L : List Rul) {p : Bool} (hp : p = true ↔ r ∈ L) : dIn (rulD r) (.lst (L.map rulD)) = some (.bl p) := dIn_lp (n := 3) (m := 3) (zpi 0 r) (ruls_fits L) (rulD_noB r) (ruls_noBs L) (by
  rw [hp, List.mem_map]
  constructor
  · intro h; exact ⟨r, h, rfl⟩
  · rintro ⟨y, hy, e⟩; rw [← rulD_one e]; exact hy)
def zbr (a b : Rul) : Bool := decide (a.c = b.c) && decide (a.w = b.w)
theorem dEq_tail (a b : Rul) : dEq (.tup [.int (a.c : Nat), oD a.w]) (.tup [.int (b.c : Nat), oD b.w]) = some (.bl (zbr a b)) :=
  dEq_p (n := 1) (m := 1) (by simp [D.fit, D.fits, zn6]) (by simp [D.fit, D.fits, zn6]) (by simp [D.noB, D.noBs, zn8]) (by simp [D.noB, D.noBs, zn8]) (tail_eq a b)
theorem taken_ok {cs t} (F : TabOK cs t) {L : List Rul} (gL : ∀ y ∈ L, GR cs y) (hl : L.length ≤ 3000) {r : Rul} (gr : GR cs r) (h : ∃ y ∈ L, y = r ∨ zd1 y r = true) (S : zae) : ze8 [.dat (.tup cs), .dat (.lst (L.map rulD)), .dat (rulD r)] S = .ok (.dat (.bl true)) S := by
  unfold ze8 zkf
  have it : ∀ ds S, zg0 (.dat (.lst ds)) S = .ok ds S := fun _ _ => rfl
  have z1 : szB L.length = true := zbw (by omega)
  have z2 : szB (L.filter fun y => zbr y r).length = true := zbw (by have := List.length_filter_le (fun y => zbr y r) L; omega)
  by_cases hm : r ∈ L
  · simp! only [dIn_rul r L (p := true) (by simp [hm])]
  · simp! only [dIn_rul r L (p := false) (by simp [hm]), it, List.length_map, z1]
    rw [zcs (p := fun y => zbr y r) (q := rulD) L ?h]
    case h => intro y hy; exact ⟨_, rfl, by simp! only [rulD, cut_1, List.drop_succ_cons, List.drop_zero, dEq_tail], fun _ => by simp! only []⟩
    simp! only [it, List.length_map, z2]
    rw [zcj (q := fun y => .bl (zd1 y r)) (L.filter fun y => zbr y r) ?h3]
    case h3 => intro y hy; exact ⟨_, rfl, rfl, by simp! only [mg_ok cs y r F.hc (gL y (List.mem_filter.mp hy).1) gr]⟩
    have da : dIn (.bl true) (.lst ((L.filter fun y => zbr y r).map fun y => .bl (zd1 y r))) = some (.bl ((L.filter fun y => zbr y r).any fun y => zd1 y r)) := dIn_tr _ _
    have an : ((L.filter fun y => zbr y r).any fun y => zd1 y r) = true := by
      obtain ⟨y, hy, rfl | hg⟩ := h
      · exact absurd hy hm
      · refine List.any_eq_true.mpr ⟨y, List.mem_filter.mpr ⟨hy, ?_⟩, hg⟩
        obtain ⟨l, _⟩ := (zjv y r).mp hg
        simp [zbr, l.1, l.2.1]
    simp! only [da, an]
end T41
set_option maxHeartbeats 400000
namespace T41
open PySem PySem.Spec PyProof.Rows L2 DL
def RS.thn (r : RS) (k : zan → zae → RS) : RS := match r with
  | .nx ρ S => k ρ S
  | .ct ρ S => k ρ S
  | .bk ρ S => .nx ρ S
  | r => r
theorem forGo_step {G : GFn} {f : SFn} {d : D} {ds : List D} {ρ ρ1 : zan} {S : zae} (h : G d ρ = some ρ1) : zfk G f (d :: ds) ρ S = RS.thn (f ρ1 S) (zfk G f ds) := by
  rw [zfk]
  simp only [h]
  all_goals (cases f ρ1 S <;> rfl)
theorem thn_nx (ρ : zan) (S : zae) (k : zan → zae → RS) : RS.thn (.nx ρ S) k = k ρ S := rfl
/-! ## each found rule is asked -/
theorem zka {cs t} (F : TabOK cs t) (m : Nat) : ∀ y ∈ zbt cs.length t m, GR cs y := fun y hy => zov F.c4.2.1 F.tr y (foundR_mem.mp hy).1
abbrev frR (cs : List D) (t : Tab) (m : Nat) (L : List Rul) (p o5 o6 o7 o8 o9 : Option DV) : zan := [p, some (.dat (.tup cs)), some (.dat (tabD t)), some (.dat (.int ((m : Nat) : Int))), some (.dat (.lst (L.map rulD))), o5, o6, o7, o8, o9]
theorem right_step {cs t} (F : TabOK cs t) {m : Nat} (m1 : 1 ≤ m) {L : List Rul} (eL : L = zbt cs.length t m) {r : Rul} (hr : r ∈ L) (p o6 o7 o8 o9 : Option DV) (S : zae) :
    zey (frR cs t m L p (some (.dat (rulD r))) o6 o7 o8 o9) S = .nx (frR cs t m L p (some (.dat (rulD r))) o6 o7 (some (.dat (.lst ((L.filter fun y => zbr y r).map rulD)))) o9) S := by
  have hf : r ∈ zbt cs.length t m := eL ▸ hr
  have gL : ∀ y ∈ L, GR cs y := fun y hy => zka F m y (eL ▸ hy)
  have hl : L.length ≤ 1728 := by rw [eL]; exact zg7 F.c4.2.1 F.tl m1
  have gr := gL r hr
  have gd := (zim t m r).mp (foundR_mem.mp hf).2.1
  have hb : (zhv r t).isEmpty = true := (zms r t).mpr gd.2
  have lt : decide ((((t.filter (za5 r.g)).length : Nat) : Int) < ((m : Nat) : Int)) = false := by
    rw [decide_eq_false_iff_not]
    have := gd.1
    omega
  have it : ∀ ds S, zg0 (.dat (.lst ds)) S = .ok ds S := fun _ _ => rfl
  have z1 : szB L.length = true := zbw (by omega)
  have z2 : szB (L.filter fun y => zbr y r).length = true := zbw (by have := List.length_filter_le (fun y => zbr y r) L; omega)
  unfold zey
  simp! only [is_rule_c F gr, holds_c F gr, hb, many_ok F gr, lt, it, List.length_map, z1]
  rw [zcs (p := fun y => zbr y r) (q := rulD) L ?h]
  case h => intro y hy; exact ⟨_, rfl, by simp! only [rulD, cut_1, List.drop_succ_cons, List.drop_zero, dEq_tail], fun _ => by simp! only []⟩
  simp! only [it, List.length_map, z2]
  rw [zcj (q := fun y => .bl (zd1 y r)) (L.filter fun y => zbr y r) ?h3]
  case h3 => intro y hy; exact ⟨_, rfl, rfl, by simp! only [mg_ok cs y r F.hc (gL y (List.mem_filter.mp hy).1) gr]⟩
  have da : dIn (.bl true) (.lst ((L.filter fun y => zbr y r).map fun y => .bl (zd1 y r))) = some (.bl ((L.filter fun y => zbr y r).any fun y => zd1 y r)) := dIn_tr _ _
  have an : ((L.filter fun y => zbr y r).any fun y => zd1 y r) = false := by
    rw [List.any_eq_false]
    intro y hy
    rw [found_apart (eL ▸ (List.mem_filter.mp hy).1) hf]
    simp
  simp! only [da, an]
theorem zom {cs t} (F : TabOK cs t) {m : Nat} (m1 : 1 ≤ m) {L : List Rul} (eL : L = zbt cs.length t m) (p o6 o7 o9 : Option DV) (S : zae) : ∀ (os : List Rul), (∀ r ∈ os, r ∈ L) → ∀ (o5 o8 : Option DV), ∃ (p5 p8 : Option DV), zfk (gNm 5) zey (os.map rulD) (frR cs t m L p o5 o6 o7 o8 o9) S = .nx (frR cs t m L p p5 o6 o7 p8 o9) S
  | [], _, o5, o8 => ⟨o5, o8, by simp [zfk]⟩
  | r :: os, h, o5, o8 => by
    obtain ⟨p5, p8, e⟩ := zom F m1 eL p o6 o7 o9 S os (fun x hx => h x (by simp [hx])) (some (.dat (rulD r))) (some (.dat (.lst ((L.filter fun y => zbr y r).map rulD))))
    refine ⟨p5, p8, ?_⟩
    rw [List.map_cons, forGo_step (ρ1 := frR cs t m L p (some (.dat (rulD r))) o6 o7 o8 o9) rfl, right_step F m1 eL (h r (by simp)), thn_nx, e]
end T41
set_option maxHeartbeats 400000
namespace T41
open PySem PySem.Spec PyProof.Rows L2 DL
/-! ## a drawn rule is a candidate of the table -/
structure DG (t : Tab) (c : Nat) (w : Option Int) (k : Nat) (g : Giv) : Prop where
  sub : (g.map (·.1)).Sublist (zbj k c)
  val : ∀ p ∈ g, p.2 ∈ zd3 t p.1 w.isNone
theorem zmw (k c : Nat) : zbj (k + 1) c = zbj k c ++ (if k = c then [] else [k]) := by
  unfold zbj
  rw [List.range_succ, List.filter_append]
  by_cases h : k = c <;> simp [h]
theorem DG.skip {t : Tab} {c : Nat} {w : Option Int} {k : Nat} {g : Giv} (h : DG t c w k g) : DG t c w (k + 1) g :=
  ⟨by rw [zmw]; exact h.sub.trans (List.sublist_append_left _ _), h.val⟩
theorem DG.snoc {t : Tab} {c : Nat} {w : Option Int} {k : Nat} {g : Giv} (h : DG t c w k g) (o : Option Int) (hk : k ≠ c) (ho : o ∈ zd3 t k w.isNone) : DG t c w (k + 1) (g ++ [(k, o)]) := by
  refine ⟨?_, fun p hp => ?_⟩
  · rw [zmw, if_neg hk, List.map_append]
    exact h.sub.append (List.Sublist.refl _)
  · rcases List.mem_append.mp hp with hp | hp
    · exact h.val p hp
    · rw [List.mem_singleton] at hp
      subst hp
      exact ho
theorem DG.len {t : Tab} {c : Nat} {w : Option Int} {k : Nat} {g : Giv} (h : DG t c w k g) : g.length ≤ k := by
  have h1 := h.sub.length_le
  have h2 := List.length_filter_le (fun j => !decide (j = c)) (List.range k)
  rw [List.length_map] at h1
  rw [List.length_range] at h2
  unfold zbj at h1
  omega
theorem row_vals {t : Tab} {o : Row} (ho : o ∈ t) (k : Nat) (b : Bool) : some (o.getD k 0) ∈ zd3 t k b := by
  unfold zd3
  rw [List.mem_append]
  exact .inl (List.mem_map.mpr ⟨_, (zcl _ _).mpr (List.mem_map.mpr ⟨o, ho, rfl⟩), rfl⟩)
abbrev frD (cs : List D) (t : Tab) (o : Row) (c : Nat) (w : Option Int) (g : Giv) (o7 o8 : Option DV) : zan := [some (.obj 0), some (.dat (.tup cs)), some (.dat (tabD t)), some (.dat (rowD o)), some (.dat (.int ((c : Nat) : Int))), some (.dat (oD w)), some (.dat (gD g)), o7, o8]
theorem drawn_body {n : Nat} {T S : zae} (h : Pen n T S) (hn : n + 2 ≤ LIM) (cs : List D) {t : Tab} {o : Row} (ho : o ∈ t) (hl : o.length ≤ 4) (c : Nat) (w : Option Int) (g : Giv) (k : Nat) (hk : k < o.length) (G : DG t c w k g) (o8 : Option DV) :
    ∃ (g' : Giv) (p8 : Option DV) (S1 : zae), zev (frD cs t o c w g (some (.dat (.int (k : Nat)))) o8) S = .nx (frD cs t o c w g' (some (.dat (.int (k : Nat)))) p8) S1 ∧ Pen (n + 2) T S1 ∧ DG t c w (k + 1) g' := by
  unfold zev
  have add1 : ∀ v : Option Int, dAdd (gD g) (.tup [.tup [.int (k : Nat), oD v]]) = some (gD (g ++ [(k, v)])) := fun v => by
    have := G.len
    simp only [gD]
    rw [zm5]
    simp only [List.length_cons, List.length_nil, List.length_map, zbw (show g.length + (0 + 1) ≤ 16777216 by omega), cond_true, List.map_append, List.map_cons, List.map_nil, eD]
  have addS : ∀ v : Int, dAdd (gD g) (.tup [.tup [.int (k : Nat), .int v]]) = some (gD (g ++ [(k, some v)])) := fun v => add1 (some v)
  have addN : dAdd (gD g) (.tup [.tup [.int (k : Nat), .non]]) = some (gD (g ++ [(k, none)])) := add1 none
  have ix : dIx (rowD o) (.int (k : Nat)) = some (.int (o.getD k 0)) := zd0 D.int 0 hk
  simp! only [zlp]
  cases h1 : (((k : Nat) : Int) == ((c : Nat) : Int))
  · have hkc : k ≠ c := by
      have := (beq_eq_false_iff_ne).mp h1
      omega
    obtain ⟨r, S1, e, p, hr⟩ := zgx h (by omega) 2 (by decide) (by decide)
    simp! only [e, zn9]
    cases h2 : (((r : Nat) : Int) == 0)
    · simp! only []
      exact ⟨g, _, _, rfl, p.mono (by omega), G.skip⟩
    · cases w with
      | some v =>
        simp! only [oD, D.isN, ix, addS]
        exact ⟨_, _, _, rfl, p.mono (by omega), G.snoc _ hkc (row_vals ho k _)⟩
      | none =>
        obtain ⟨r2, S2, e2, p2, hr2⟩ := zgx p (by omega) 2 (by decide) (by decide)
        simp! only [oD, D.isN, e2, zn9]
        cases h3 : (((r2 : Nat) : Int) == 0)
        · simp! only [ix, addS]
          exact ⟨_, _, _, rfl, p2.mono (by omega), G.snoc _ hkc (row_vals ho k _)⟩
        · simp! only [addN]
          exact ⟨_, _, _, rfl, p2.mono (by omega), G.snoc none hkc (zn4 t k)⟩
  · simp! only []
    exact ⟨g, _, _, rfl, h.mono (by omega), G.skip⟩
theorem drawn41_ok {n : Nat} {T S : zae} (h : Pen n T S) (hn : n + 11 ≤ LIM) {cs : List D} {t : Tab} (F : TabOK cs t) (h0 : 1 ≤ t.length) :
    ∃ (r : Rul) (S1 : zae), zg5 [.obj 0, .dat (.tup cs), .dat (tabD t)] S = .ok (.dat (rulD r)) S1 ∧ Pen (n + 11) T S1 ∧ r ∈ zek cs.length t := by
  have hn : n + 11 ≤ 2147483648 := hn
  unfold zg5 zj6
  have c4 := F.c4
  have tl := F.tl
  obtain ⟨x, S1, e1, p1, hx⟩ := zn1 h (by show _ ≤ 2147483648; omega) (t.map rowD) (by rw [List.length_map]; omega) (by rw [List.length_map]; omega) (tabD t) (.inr rfl)
  obtain ⟨o, ho, rfl⟩ := List.mem_map.mp hx
  have ol : o.length = cs.length := ((zeu cs o).mp (F.tr o ho).1).1
  obtain ⟨c, S2, e2, p2, hcl⟩ := zgx p1 (by show _ ≤ 2147483648; omega) (cs.length : Nat) (by omega) (by omega)
  have hcl : c < cs.length := by omega
  have ixc : dIx (rowD o) (.int (c : Nat)) = some (.int (o.getD c 0)) := zd0 D.int 0 (by omega)
  obtain ⟨y, S3, e3, p3, hy⟩ := zn1 p2 (by show _ ≤ 2147483648; omega) [D.non, D.int (o.getD c 0)] (by simp) (by simp) _ (.inl rfl)
  have hw : ∃ w : Option Int, y = oD w ∧ ∀ v, w = some v → v ∈ t.map fun o => o.getD c 0 := by
    simp only [List.mem_cons, List.not_mem_nil, or_false] at hy
    rcases hy with rfl | rfl
    · exact ⟨none, rfl, fun u hu => nomatch hu⟩
    · exact ⟨some (o.getD c 0), rfl, fun u hu => by cases hu; exact List.mem_map.mpr ⟨o, ho, rfl⟩⟩
  obtain ⟨w, rfl, hw⟩ := hw
  simp! only [e1, e2, ixc, e3, zkw (zes (show cs.length ≤ 16000000 by omega))]
  obtain ⟨ρ', S4, e4, ⟨g, o7, o8, rfl, G⟩, p4⟩ := zk9 (enc := fun i : Nat => D.int ((i : Nat) : Int)) (G := gNm 7) (f := zev) (T := T) (c := 2)
    (fun pre ρ => ∃ g o7 o8, ρ = frD cs t o c w g o7 o8 ∧ DG t c w pre.length g)
    (List.range cs.length) [] (n + 1 + 1 + 1) (frD cs t o c w [] none none) S3 ⟨[], _, _, rfl, ⟨by simp, fun p hp => nomatch hp⟩⟩ p3 (by simp; omega) (by
    rintro pre a post m' ρ S hpp ⟨g, o7, o8, rfl, G⟩ hp hm'
    obtain ⟨ha, ha2⟩ := range_at (by simpa using hpp)
    obtain ⟨g', p8, S1, e, p, G'⟩ := drawn_body hp hm' cs ho (by omega) c w g a (by omega) (by rw [ha]; exact G) o8
    exact ⟨_, _, S1, rfl, e, ⟨g', _, _, rfl, by rw [List.length_append, ← ha]; exact G'⟩, p⟩)
  simp only [List.nil_append, List.length_range] at G p4
  simp only [frD] at e4
  simp! only [show (D.tup []) = gD [] from rfl, e4, p4.take h.len]
  exact ⟨⟨g, c, w⟩, S4, rfl, p4.mono (by omega), cands_mem.mpr ⟨hcl, givs_mem.mpr ⟨G.sub, G.val⟩, hw⟩⟩
end T41
set_option maxHeartbeats 400000
namespace T41
open PySem PySem.Spec PyProof.Rows L2 DL
/-! ## `_law_right` -/
theorem cands_g41 {cs t} (F : TabOK cs t) : ∀ r ∈ zek cs.length t, r.g.length ≤ 3 := by
  intro r hr
  obtain ⟨hc, hg, _⟩ := cands_mem.mp hr
  have h1 := (givs_mem.mp hg).1.length_le
  have h2 := zh_ hc
  have h3 := F.c4.2.1
  rw [List.length_map] at h1
  omega
theorem zol : ∀ l : List Str, zlt (l.map .str) = some l
  | [] => rfl
  | x :: l => by simp [zlt, zol l]
theorem lensS_found {cs t} (F : TabOK cs t) {m : Nat} (m1 : 1 ≤ m) (S : zae) : lenSS (.dat (.lst ((zbt cs.length t m).map fun r => D.str (txt r)))) S = .ok (.dat (.int (((zbt cs.length t m).length : Nat) : Int))) S := by
  have hl := zg7 (m := m) F.c4.2.1 F.tl m1
  have e : ((zbt cs.length t m).map fun r => D.str (txt r)) = ((zbt cs.length t m).map txt).map D.str := by rw [List.map_map]; rfl
  unfold lenSS
  rw [e]
  simp only [rd, zol]
  rw [if_pos (by rw [List.length_map]; omega), txts_len (zlu _ _ _)]
theorem a_lenSS (f : XFn) (ρ : zan) (S : zae) : zo2 f ρ S = (f ρ S).bind lenSS := rfl
theorem right_turn {n : Nat} {T S : zae} (h : Pen n T S) (hn : n + 11 ≤ LIM) {cs t} (F : TabOK cs t) (h0 : 1 ≤ t.length) {m : Nat} (m1 : 1 ≤ m) {L : List Rul} (eL : L = zbt cs.length t m) (o5 o6 o7 o8 o9 : Option DV) :
    ∃ (p5 : Option DV) (S1 : zae), ze5 (frR cs t m L (some (.obj 0)) o5 o6 o7 o8 o9) S = .nx (frR cs t m L (some (.obj 0)) p5 o6 o7 o8 o9) S1 ∧ Pen (n + 11) T S1 := by
  obtain ⟨r, S1, e, p, hr⟩ := drawn41_ok h hn F h0
  have gr : GR cs r := zov F.c4.2.1 F.tr r hr
  have gL : ∀ y ∈ L, GR cs y := fun y hy => zka F m y (eL ▸ hy)
  have hl : L.length ≤ 1728 := by rw [eL]; exact zg7 F.c4.2.1 F.tl m1
  unfold ze5
  simp! only [e, holds_c F gr]
  cases hb : (zhv r t).isEmpty
  · simp! only []
    exact ⟨_, _, rfl, p⟩
  · simp! only [many_ok F gr]
    cases hm : decide ((((t.filter (za5 r.g)).length : Nat) : Int) ≥ ((m : Nat) : Int))
    · simp! only []
      exact ⟨_, _, rfl, p⟩
    · have hm := of_decide_eq_true hm
      have gd : ze3 t m r = true := (zim t m r).mpr ⟨by omega, (zms r t).mp hb⟩
      have tk := fun S => taken_ok F gL (by omega) gr (eL ▸ zm9 hr gd) S
      simp! only [tk]
      exact ⟨_, _, rfl, p⟩
theorem right41_ok {n : Nat} {T S : zae} (h : Pen n T S) (hn : n + 100 ≤ LIM) {cs t} (F : TabOK cs t) (h0 : 1 ≤ t.length) {m : Nat} (m1 : 1 ≤ m) (m8 : m + 1 ≤ 8) :
    ∃ S1 : zae, zez [.obj 0, .dat (.tup cs), .dat (tabD t), .dat (.int ((m : Nat) : Int))] S = .ok (.dat (.bl true)) S1 ∧ Pen (n + 100) T S1 := by
  have hn : n + 100 ≤ 2147483648 := hn
  unfold zez zkm
  have c4 := F.c4.2.1
  have fr := fun S => zef F m m1 (by omega) S
  have fr1 := fun S => zef F (m + 1) (by omega) m8 S
  have hL := zg7 (m := m) c4 F.tl m1
  have hL1 := zg7 (m := m + 1) c4 F.tl (by omega)
  have ls := fun S => lensS_found F m1 S
  have gL := zka F m
  have gL1 := zka F (m + 1)
  have ab : ∀ r ∈ zbt cs.length t (m + 1), ∃ y ∈ zbt cs.length t m, y = r ∨ zd1 y r = true := fun r hr => by
    have := foundR_mem.mp hr
    exact zm9 this.1 (good_less this.2.1)
  have rp : ∀ r ∈ zbt cs.length t m, zl1 (rulD r) = some (.str (txt r)) := fun r hr => rul_repr (gL r hr) c4 (cands_g41 F r (foundR_mem.mp hr).1)
  have lp := zom F m1 (L := zbt cs.length t m) rfl (some (.obj 0))
  have tn := fun {n : Nat} {T S : zae} (h : Pen n T S) (hn : n + 11 ≤ LIM) => right_turn h hn F h0 m1 (L := zbt cs.length t m) rfl
  have tk := fun r hr => taken_ok F gL (show _ ≤ 3000 by omega) (gL1 r hr) (ab r hr)
  have it : ∀ ds S, zg0 (.dat (.lst ds)) S = .ok ds S := fun _ _ => rfl
  have z1 : szB (zbt cs.length t m).length = true := zbw (by omega)
  generalize zbt cs.length t m = L at *
  generalize zbt cs.length t (m + 1) = L1 at *
  simp! only [fr, a_lenSS, it, List.length_map, z1]
  rw [zcj (q := fun r => .str (txt r)) L ?h]
  case h => intro y hy; exact ⟨_, rfl, rfl, by simp! only [rp y hy]⟩
  have c12 : cutL (L.map rulD) none (some 12) = (L.take 12).map rulD := by rw [zo7]; exact congrArg _ (zop L 12)
  have c121 : cutL (L1.map rulD) none (some 12) = (L1.take 12).map rulD := by rw [zo7]; exact congrArg _ (zop L1 12)
  have z2 : szB (L1.take 12).length = true := zbw (by rw [List.length_take]; omega)
  simp! only [List.length_map, z1, ls, zlp, beq_self_eq_true, c12, it]
  obtain ⟨p5, p8, e1⟩ := lp none none none S (L.take 12) (fun r hr => List.mem_of_mem_take hr) none none
  simp only [frR] at e1
  have r8 : ∀ S', rng1 [.dat (.int 8)] S' = .ok ((List.range 8).map fun i => .int ((i : Nat) : Int)) S' := fun S' => zkw (n := 8) (zes (by decide)) S'
  simp! only [e1, r8]
  obtain ⟨ρ', S2, e2, ⟨o5, o6, rfl⟩, p2⟩ := zk9 (enc := fun i : Nat => D.int ((i : Nat) : Int)) (G := gNm 6) (f := ze5) (T := T) (c := 11)
    (fun pre ρ => ∃ o5 o6, ρ = frR cs t m L (some (.obj 0)) o5 o6 none p8 none)
    (List.range 8) [] n (frR cs t m L (some (.obj 0)) p5 none none p8 none) S ⟨_, _, rfl⟩ h (by show _ ≤ 2147483648; simp; omega) (by
    rintro pre a post m' ρ S hpp ⟨o5, o6, rfl⟩ hp hm'
    obtain ⟨q5, S1, e, p⟩ := tn hp hm' o5 (some (.dat (.int ((a : Nat) : Int)))) none p8 none
    exact ⟨_, _, S1, rfl, e, ⟨_, _, rfl⟩, p⟩)
  simp only [frR] at e2
  have ad : ((m : Nat) : Int) + 1 = ((m + 1 : Nat) : Int) := by omega
  simp! only [e2, ad, fr1, c121, it, List.length_map, z2]
  rw [zcj (q := fun _ => .bl ((fun _ => true) ())) (L1.take 12) ?h]
  case h => intro y hy; exact ⟨_, rfl, rfl, by simp! only [tk y (List.mem_of_mem_take hy)]⟩
  have al : dAll (.lst ((L1.take 12).map fun _ => .bl true)) = some (.bl true) := by
    rw [ze2 (fun _ => true)]
    simp
  simp! only [List.length_map, z2, al, p2.take h.len]
  exact ⟨_, rfl, p2.mono (by simp)⟩
end T41
set_option maxHeartbeats 400000
namespace T41
open PySem PySem.Spec PyProof.Rows L2 DL
abbrev fr41 (o0 o2 o3 o4 o5 o6 o7 o8 : Option DV) : zan := [o0, some (.obj 0), o2, o3, o4, o5, o6, o7, o8]
def tl_c : SFn := (sIf (tBl (x2 (o2 dLt) (xN (o1 dLen) (zac (xVar 4) aNil)) (xC (.int 5)))) (sSeq (sSet 6 (xN zbn (zac (xVar 3) (zac (x2 (o2 dAdd) (xVar 4) (xVar 4)) (zac (x2 (o2 zgc) (xC (.int 2)) (xVar 5)) aNil))))) (sSeq (sSet 7 (xN1 (zk6 (xN1 (lLc (lIt (xN zbn (zac (xVar 3) (zac (xVar 4) (zac (xVar 5) aNil))))) [8] (gNm 8) zdw (xN (o1 zl1) (zac (xVar 8) aNil))))))) (sIf (tBl (x2 (o2 dNe) (xN1 (zk6 (xN1 (lLc (lIt (xVar 6)) [8] (gNm 8) zdw (xN (o1 zl1) (zac (xVar 8) aNil)))))) (xVar 7))) (sRet (xC (.bl false))) sNil))) sNil)
theorem tl_c_eq : zot = (sSeq (sSet 3 (xN zd5 (zac (xN zfu (zac (xVar 1) aNil)) (zac (xN zcr (zac (xVar 1) (zac (xLst (zac (xC (.int 3)) (zac (xC (.int 3)) (zac (xC (.int 4)) aNil)))) aNil))) aNil)))) (sSeq (sSet 4 (xN ze4 (zac (xVar 1) (zac (xVar 3) (zac (x2 (o2 dAdd) (xC (.int 1)) (xN zaq (zac (xVar 1) (zac (xC (.int 5)) aNil)))) aNil))))) (sSeq (sSet 5 (x2 (o2 dAdd) (xC (.int 1)) (xN zaq (zac (xVar 1) (zac (xC (.int 3)) aNil))))) (sSeq (sIf (tNo (tTr (xN zez (zac (xVar 1) (zac (xVar 3) (zac (xVar 4) (zac (xVar 5) aNil))))))) (sRet (xC (.bl false))) sNil) tl_c)))) := rfl
theorem txts (L : List Rul) : ∀ x ∈ L.map fun r => D.str (txt r), ∃ s, x = .str s ∧ PyData.strOk s = true := fun x hx => by
  obtain ⟨r, _, rfl⟩ := List.mem_map.mp hx
  exact ⟨_, rfl, txt_ok r⟩
theorem zn_ (L : List Rul) (S : zae) : zlb (.dat (.lst (L.map fun r => D.str (txt r)))) S = .ok ((L.map fun r => D.str (txt r)).mergeSort dOrd) S := by
  unfold zlb
  simp only [rd, strs_sort fun x hx => let ⟨s, e, _⟩ := txts L x hx; ⟨s, e⟩, if_true]
theorem twice_F {cs t} (F : TabOK cs t) (h : t.length < 5) : TabOK cs (t ++ t) := ⟨F.hc, by rw [List.length_append]; omega, fun r hr => F.tr r (by simpa using hr)⟩
theorem rest41 {cs t} (F : TabOK cs t) {m : Nat} (m1 : 1 ≤ m) (m3 : m ≤ 3) (o0 o2 o6 o7 o8 : Option DV) (S : zae) : ∃ (p6 p7 p8 : Option DV), tl_c (fr41 o0 o2 (some (.dat (.tup cs))) (some (.dat (tabD t))) (some (.dat (.int ((m : Nat) : Int)))) o6 o7 o8) S = .nx (fr41 o0 o2 (some (.dat (.tup cs))) (some (.dat (tabD t))) (some (.dat (.int ((m : Nat) : Int)))) p6 p7 p8) S := by
  unfold tl_c
  have c4 := F.c4.2.1
  have tl := F.tl
  have ln : dLen (tabD t) = some (.int ((t.length : Nat) : Int)) := by unfold tabD; rw [zct, List.length_map]
  simp! only [ln]
  cases hd : decide (((t.length : Nat) : Int) < 5)
  · simp! only []
    exact ⟨_, _, _, rfl⟩
  · have hd := of_decide_eq_true hd
    have F2 := twice_F F (by omega)
    have fr := fun S => zef F m m1 (by omega) S
    have fr2 := fun S => zef F2 (2 * m) (by omega) (by omega) S
    rw [foundR_twice] at fr2
    have gr := zka F m
    have rp : ∀ r ∈ zbt cs.length t m, zl1 (rulD r) = some (.str (txt r)) := fun r hr => rul_repr (gr r hr) c4 (cands_g41 F r (foundR_mem.mp hr).1)
    have hL := zg7 (m := m) c4 F.tl m1
    generalize zbt cs.length t m = L at *
    have it : ∀ ds S, zg0 (.dat (.lst ds)) S = .ok ds S := fun _ _ => rfl
    have z1 : szB L.length = true := zbw (by omega)
    have ad : dAdd (tabD t) (tabD t) = some (tabD (t ++ t)) := by
      simp only [tabD]
      rw [zm5]
      simp only [List.length_map, zbw (show t.length + t.length ≤ 16777216 by omega), cond_true, List.map_append]
    have mu : zgc (.int 2) (.int ((m : Nat) : Int)) = some (.int ((2 * m : Nat) : Int)) := by
      rw [zlq (by decide) (Nat.lt_of_le_of_lt (m := 1000) (by omega) (by decide))]
      congr 2
    have a_srt : ∀ (f : XFn) (ρ : zan) (S : zae), zk6 f ρ S = (f ρ S).bind zlb := fun _ _ _ => rfl
    have sn : dNe (.lst ((L.map fun r => D.str (txt r)).mergeSort dOrd)) (.lst ((L.map fun r => D.str (txt r)).mergeSort dOrd)) = some (.bl false) := strs_ne fun x hx => txts L x ((List.mergeSort_perm _ dOrd).mem_iff.mp hx)
    simp! only [ad, mu, fr2, fr, a_srt, it, List.length_map, z1]
    rw [zcj (q := fun r => .str (txt r)) L ?h]
    case h => intro y hy; exact ⟨_, rfl, rfl, by simp! only [rp y hy]⟩
    simp! only [List.length_map, z1, zn_, it, a_srt]
    rw [zcj (q := fun r => .str (txt r)) L ?h2]
    case h2 => intro y hy; exact ⟨_, rfl, rfl, by simp! only [rp y hy]⟩
    simp! only [List.length_map, z1, zn_, sn]
    exact ⟨_, _, _, rfl⟩
theorem turn41 {n : Nat} {T S : zae} (h : Pen n T S) (hn : n + 200 ≤ LIM) (k : Nat) (o0 o3 o4 o5 o6 o7 o8 : Option DV) : ∃ (ρ' : zan) (S' : zae), zot (fr41 o0 (some (.dat (.int (k : Nat)))) o3 o4 o5 o6 o7 o8) S = .nx ρ' S' ∧ Pen (n + 200) T S' ∧ ∃ o3 o4 o5 o6 o7 o8, ρ' = fr41 o0 (some (.dat (.int (k : Nat)))) o3 o4 o5 o6 o7 o8 := by
  rw [tl_c_eq]
  have hn : n + 200 ≤ 2147483648 := hn
  obtain ⟨S1, e1, p1⟩ := anew_ok h
  obtain ⟨x, S2, e2, p2, hx⟩ := zn1 p1 (by show _ ≤ 2147483648; omega) [D.int 3, D.int 3, D.int 4] (by simp) (by simp) _ (.inl rfl)
  obtain ⟨c, rfl, c1, c4⟩ : ∃ c : Nat, x = .int ((c : Nat) : Int) ∧ 1 ≤ c ∧ c ≤ 4 := by
    simp only [List.mem_cons, List.not_mem_nil, or_false] at hx
    rcases hx with rfl | rfl | rfl
    · exact ⟨3, rfl, by decide, by decide⟩
    · exact ⟨3, rfl, by decide, by decide⟩
    · exact ⟨4, rfl, by decide, by decide⟩
  obtain ⟨cs, S3, e3, p3, hcs, oc, hl⟩ := columns_ok p2 (by show _ ≤ 2147483648; omega) c c1 c4
  obtain ⟨_, ec, k1, k2, k3⟩ := zhp hcs
  cases ec
  obtain ⟨q, S4, e4, p4, hq⟩ := zgx p3 (by show _ ≤ 2147483648; omega) 5 (by decide) (by decide)
  obtain ⟨t, S5, e5, p5, htl, ht⟩ := table_ok p4 (1 + q) (by omega) (by show _ ≤ 2147483648; omega) cs oc k1 k2
  obtain ⟨u, S6, e6, p6, hu⟩ := zgx p5 (by show _ ≤ 2147483648; omega) 3 (by decide) (by decide)
  have F : TabOK cs t := ⟨hcs, by omega, ht⟩
  obtain ⟨S7, e7, p7⟩ := right41_ok p6 (by show _ ≤ 2147483648; omega) F (by omega) (m := 1 + u) (by omega) (by omega)
  obtain ⟨q6, q7, q8, e8⟩ := rest41 F (m := 1 + u) (by omega) (by omega) o0 (some (.dat (.int (k : Nat)))) o6 o7 o8 S7
  have a1 : (1 : Int) + ((q : Nat) : Int) = ((1 + q : Nat) : Int) := by omega
  have a2 : (1 : Int) + ((u : Nat) : Int) = ((1 + u : Nat) : Int) := by omega
  simp only [fr41] at e8 ⊢
  simp! only [e1, e2, e3, e4, a1, e5, e6, a2, e7, e8]
  exact ⟨_, S7, rfl, p7.mono (by omega), _, _, _, _, _, _, rfl⟩
def t8 : Tab := List.replicate 8 [5]
theorem F8 : TabOK [.non] t8 := ⟨by decide, by decide, by
  have : ∀ r ∈ t8, zis [.non] (rowD r) = true ∧ ∀ v ∈ r, v ∈ POOL := by decide
  exact this⟩
theorem len8 : (zbt 1 t8 8).length = 2 := by decide +kernel
theorem answers (ns : List Int) (h : ns.length ≤ 63) : ∃ S, g_law [.scr ns] [] = .ok (.dat (.bl true)) S := by
  unfold g_law s_law
  obtain ⟨S, e, p⟩ := open_ok ns h
  simp! only [e, show rng1 [.dat (.int 3)] S = .ok ((List.range 3).map fun i => .int ((i : Nat) : Int)) S from zkw (n := 3) (zes (by decide)) S]
  obtain ⟨ρ', S', e2, ⟨o2, o3, o4, o5, o6, o7, o8, rfl⟩, p2⟩ := zk9 (enc := fun i : Nat => D.int ((i : Nat) : Int)) (G := gNm 2) (f := zot) (T := []) (c := 200)
    (fun pre ρ => ∃ o2 o3 o4 o5 o6 o7 o8, ρ = fr41 (some (.scr ns)) o2 o3 o4 o5 o6 o7 o8)
    (List.range 3) [] 0 (fr41 (some (.scr ns)) none none none none none none none) S ⟨_, _, _, _, _, _, _, rfl⟩ p (by show _ ≤ 2147483648; simp) (by
    rintro pre a post m' ρ S hpp ⟨o2, o3, o4, o5, o6, o7, o8, rfl⟩ hp hm'
    obtain ⟨ρ', S', e, p, q3, q4, q5, q6, q7, q8, rfl⟩ := turn41 hp hm' a (some (.scr ns)) o3 o4 o5 o6 o7 o8
    exact ⟨_, _, S', rfl, e, ⟨_, _, _, _, _, _, _, rfl⟩, p⟩)
  simp only [fr41] at e2
  have m8 : zgc (.tup [.tup [.int 5]]) (.int 8) = some (tabD t8) := rfl
  have f8 : ∀ S, zbn [.dat (.tup [.non]), .dat (tabD t8), .dat (.int 8)] S = .ok (.dat (.lst ((zbt 1 t8 8).map rulD))) S := fun S => zef F8 8 (by omega) (by omega) S
  have l8 := len8
  generalize zbt 1 t8 8 = L8 at f8 l8
  simp! only [e2, m8, f8, List.length_map, l8]
  exact ⟨_, rfl⟩
end T41
set_option maxHeartbeats 0
open PySem PySem.W PySem.Calls PyProof.Rows
theorem PySem.Challenge.cw_whererules_k41_whole_finding_holds : PySem.Challenge.rw_whererules_k41_whole_finding.Holds := by
  w_on; o_law
  refine HandSHeadRun.head_any (r := OpenLaw.row PySem.Challenge.rw_whererules_k41_whole_finding) (q := view (OpenLaw.row PySem.Challenge.rw_whererules_k41_whole_finding).prog [60]) (H := T41.hk) (ob := T41.ob) (M := 20000) (loose := T41.loose) (d := HandSHeadRun.topDef (OpenLaw.row PySem.Challenge.rw_whererules_k41_whole_finding).prog 60) (kwd := []) T41.ob_eq
    (by kernel_rfl) (fun s => by kernel_rfl) T41.run (by kernel_rfl) (by kernel_rfl) (by kernel_rfl) (by rfl) (by first | assumption | decide +kernel) (by decide +kernel) ⟨rfl, rfl, rfl, rfl, rfl, by decide +kernel⟩ ?hw ?hc
  case hw => w_witness2
  case hc =>
    refine DL.walkD (l := PySem.Challenge.rw_whererules_k41_whole_finding) (n := 63) (k := 11) (x := "_law_script") (g := T41.g_law) rfl (by decide) (by kernel_rfl) ⟨rfl, by decide, by decide⟩ ?F T41.answers
    intro w mg fa h Y G hmg0
    obtain ⟨K, KX, c⟩ := Y
    have T := T41.txt_of KX G c
    obtain ⟨f, fd, Fd, hm⟩ := T.d_law
    have e : (HandSHeadRun.topDef (OpenLaw.row PySem.Challenge.rw_whererules_k41_whole_finding).prog 60).name = ("law" : PySem.Str) := by kernel_rfl
    rw [e, hm] at hmg0
    cases hmg0
    exact ⟨K, fd, KX, fun s u => L2.FunD.bindsA (ps := ["_law_script"]) Fd (fun _ _ _ _ _ _ us hl => match us, hl with | [_], _ => rfl) s [u] rfl, fun base _ _ => DL.fn_D Fd T41.sc_law rfl rfl (T41.bd_law T fa)⟩
