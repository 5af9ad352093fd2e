import PyProof.Rows.All
import Wide.All
import OpenK.AllK
import HandS.ForMost
import HandS.SetFor
import Wide.FinOn
import HandS.ForExc
import HandS.More
import HandS.TupAny
import HandS.Conv
import HandS.Strs
import HandS.Zip
import HandS.Star
import HandS.IsInst
import HandS.TupMul
import HandS.Wide
import HandS.WideMore
import HandS.Flow
import HandS.Deep
import HandS.Exc
import HandS.HeadHook1
import HandS.Lambda
import KE.KDictKeyed
import HandS.WideBits
import HandS.TupLe
import HandS.Walk
import HandS.Defaults
import HandS.HeadHook2
import KE.GoesEnum
import KE.GoesMore
import HandS.HeadEnd
import HandS.TryMany
import KE.SortData
import HandS.TupSets
import HandS.SortInts
import KE.KExcIs
import HandS.ExcIs
import HandS.ExcValue
import KE.DataFind
import HandS.Spec
import PyProof.SetRoads
import KE.DataMinMax
import HandS.DictTup
import KE.KDictOf
import KE.KDictCopyH
import HandS.DictComp
import KE.KDictSum
import HandS.WordsDict
import HandS.Style
import KE.KDictZip
import KE.KTabLook
import HandS.NoneIn
import HandS.ExcInit
import HandS.ExcField
import HandS.Codes
import HandS.Dict
import KE.KStateDown
import HandS.Base
import HandS.Call
import HandS.Ends
import HandS.Words
import HandS.WordsExc
import HandS.Head0
import HandS.Head1
import HandS.Head2
import PySem.Challenge.RW_whererules_k18_refusals
set_option Elab.async false
set_option linter.all false
set_option maxRecDepth 100000
set_option maxHeartbeats 8000000
namespace PySem
namespace DLSet
open L2 PyProof.Rows
abbrev emp (w : World) : Obj := { cls := .type "set", dict := none, data := .set #[] 0 (.fresh 0 0 (!w.params.followText "set-order")) }
section
variable {P : Program} {w : World} {A : Around} {E : Value → Shared → Prop} {s : Shared}
theorem set_of_list {l : Addr} {items : Array Value} (ns : List Int) {Q : Value → Shared → Prop} (hh : A.handled = none) (hl : s.heap.IsList l items) (hit : IntsAre items.toList ns) (hb : ns.length + 1 < scanBound)
    (h : ∀ (h' : Heap) (tk c : Nat), SetR w h' s.heap.objs.size (fun j => decide (j ∈ ns)) c → c ≤ ns.length → (∀ b o, s.heap.get? b = some o → h'.get? b = some o) → Q (.ref s.heap.objs.size) { s with heap := h', toks := tk }) :
    wpAny (model P w) A (call (.type "set") [.ref l]) Q E s := by
  have size_eq : items.size = ns.length := by simpa using IntsAre.length hit
  obtain ⟨c, tl, hmro⟩ := F.called_set.mro
  have hmade := F.called_set.made
  have hsub := F.called_set.sub
  apply wpAny_call
  apply codeAny_of_tree
  show wpAny _ _ (callAny (.type "set") _) _ _ _
  apply wpAny_pure
  refine ⟨Code.quiet_builtin _ (by decide +kernel), ?_⟩
  apply codeAny_builtin F.entry_type_call
  rw [Around.under_plain (weight_type_call_type "set" [.ref l] []) rfl]
  have h1 := F.called_set.notType
  have h2 := F.called_set.canCreate
  have hct := F.typeCall_set_1 (.ref l)
  repeat (any_goals (first | assumption | wp_step))
  refine codeAny_mono (code_set_led1 (.ref l) (E := E) (Q₁ := fun ob s1 => ob = .ref s.heap.objs.size ∧ s1 = { s with heap := s.heap.push (emp w) }) ⟨rfl, rfl⟩) ?_
  intro r s1 hr
  cases r with
  | error e => exact hr
  | ok fl =>
    cases fl with
    | ret ob =>
      obtain ⟨rfl, rfl⟩ := hr
      have hS : (s.heap.push (emp w)).get? s.heap.objs.size = some (emp w) := Heap.get?_push_size _ rfl
      have hT : Shared.TypeIs { s with heap := s.heap.push (emp w) } (.ref s.heap.objs.size) "set" := ⟨_, hS, rfl⟩
      have hli := F.called_set.init.lookup
      have hbi := F.called_set.init.bind (.ref s.heap.objs.size)
      repeat (any_goals (first | assumption | wp_step))
      refine codeAny_mono (codeAny_call_builtin (R := wants (fun r s2 => r = .none ∧ ∃ h' tk c, s2 = { s with heap := h', toks := tk } ∧ SetR w h' s.heap.objs.size (fun j => decide (j ∈ ns)) c ∧ c ≤ ns.length ∧
          (∀ b o, s.heap.get? b = some o → h'.get? b = some o)) E) F.called_set.init.plain F.entry_set_init (check_set_init_1 hT ?_)) ?_
      · obtain ⟨ol, hol, hcl, nl, hdl⟩ := hl
        obtain ⟨ocls, odict, odata, oslots⟩ := ol
        simp only at hcl hdl
        subst hcl
        subst hdl
        have hol1 : (s.heap.push (emp w)).get? l = some { cls := .type "list", dict := odict, data := .seq items nl, slots := oslots } := Heap.get?_push_of_some _ hol
        have hsls := F.sub_list_set
        have hslf := F.sub_list_frozenset
        have hne : (Value.type "list" == Value.type "dict") = false := by decide
        have hl1 : (s.heap.push (emp w)).IsList l items := ⟨_, hol1, rfl, nl, rfl⟩
        unfold Builtin.«set.__init__» noKeywords Builtin.Frozenset.updateFrom
        generalize hPI : pyIter = PI
        wp_walk
        subst hPI
        refine wpAny_pyIter_list hl1 ?_
        refine wpAny_bind (wpAny_runValue ?_)
        have lt : l < s.heap.objs.size := Heap.lt_size hol
        have calm3 : A.in1.in1.in1.handled = none := by simp [hh]
        have sz : (s.heap.push (emp w)).objs.size = s.heap.objs.size + 1 := Heap.size_push ..
        have apart : l ≠ (s.heap.push (emp w)).objs.size := by rw [sz]; exact Nat.ne_of_lt (Nat.lt_succ_of_lt lt)
        have free : s.heap.objs.size ∉ [(s.heap.push (emp w)).objs.size, l] := by
          rw [sz]
          simp only [List.mem_cons, List.not_mem_nil, or_false, not_or]
          exact ⟨Nat.ne_of_lt (Nat.lt_succ_self _), Nat.ne_of_gt lt⟩
        have val : ∀ (i : Nat) (v : Value), items[i]? = some v → ∃ k t, ns[i]? = some k ∧ v = .int k t := by
          intro i v hv
          have hi : i < ns.length := by rw [← size_eq]; exact (Array.getElem?_eq_some_iff.mp hv).1
          obtain ⟨t, e⟩ := PyProof.Rows.IntsAre.int_at hit i v (by rw [Array.getElem?_toList]; exact hv)
          refine ⟨ns[i], t, List.getElem?_eq_getElem hi, ?_⟩
          rw [e, List.getD_eq_getElem?_getD, List.getElem?_eq_getElem hi]
          rfl
        refine set_update_ints ((Walks.list calm3 _ l apart items).toS) s.heap.objs.size free ns size_eq hb val (items.size - 0) 0 _ (by omega) (Nat.zero_le _)
          ⟨⟨_, Heap.get?_push_size _ rfl, rfl, rfl⟩, (hl1.push _)⟩ ?hA ?hB
        case hA => exact ⟨0, Nat.le_refl 0, setR_new_at (Heap.get?_push_of_some _ hS)⟩
        case hB =>
          intro s' c' mv hc' hS'
          obtain ⟨h', g2, d', tk', os'⟩ := s'
          obtain rfl : g2 = s.gens := mv.gens
          obtain rfl : d' = s.drawn := mv.drawn
          obtain rfl : os' = s.os := mv.os
          show wpAny _ _ _ _ _ _
          apply wpAny_pure
          show wpAny _ _ (ret Value.none) _ _ _
          rw [size_eq] at hc'
          refine wpAny_pure ⟨rfl, h', tk', c', rfl, hS', hc', fun b o e => ?_⟩
          have hb0 : b < s.heap.objs.size := Heap.lt_size e
          refine mv.heap b o ?_ (Heap.get?_push_of_some _ (Heap.get?_push_of_some _ e))
          rw [sz]
          simp only [List.mem_cons, List.not_mem_nil, or_false, not_or]
          exact ⟨Nat.ne_of_lt hb0, Nat.ne_of_lt (Nat.lt_succ_of_lt hb0)⟩
      · intro r2 s2 hr2
        cases r2 with
        | error e => exact hr2
        | ok fl2 =>
          cases fl2 with
          | ret v2 =>
            obtain ⟨rfl, h', tk, c, rfl, hS', hc', hk⟩ := hr2
            repeat (any_goals (first | assumption | wp_step))
            exact h h' tk c hS' hc' hk
          | _ => exact hr2.elim
    | _ => exact hr.elim
end
end DLSet
end PySem
set_option maxHeartbeats 4000000
namespace DL
open PySem PySem.Spec PyProof.Rows L2
/-! ## data by value -/
structure Cas where
  cols : List (Option (List Int))
  n : Nat
  lab : List Nat
  facts : List (List Int)
inductive D where
  | non | bl (b : Bool) | int (i : Int) | str (x : Str) | lst (xs : List D) | tup (xs : List D) | cas (c : Cas) | dct (m : List (Key × Int)) | ptr (k : Nat)
inductive DV where
  | dat (d : D) | obj (k : Nat) | scr (ns : List Int) | exn (c : Str) (p : Option (Str × D)) | fn (x : Str) | spc (k : Nat)
abbrev zae := List (Option (List D))
abbrev zar := List (Option DV)
structure XC where
  cls : Str
  pay : Option (Str × D)
instance : Coe Str XC := ⟨fun c => ⟨c, none⟩⟩
inductive Res (α : Type) where
  | ok (a : α) (S : zae) | ex (c : XC) (S : zae) | bad
def Res.bind {α β : Type} (r : Res α) (f : α → zae → Res β) : Res β := match r with
  | .ok a S => f a S
  | .ex c S => .ex c S
  | .bad => .bad
@[simp] theorem Res.bind_ok {α β : Type} (a : α) (S : zae) (f : α → zae → Res β) : (Res.ok a S).bind f = f a S := rfl
@[simp] theorem Res.bind_ex {α β : Type} (c : XC) (S : zae) (f : α → zae → Res β) : (Res.ex c S : Res α).bind f = .ex c S := rfl
@[simp] theorem Res.bind_bad {α β : Type} (f : α → zae → Res β) : (Res.bad : Res α).bind f = .bad := rfl
def ColV (K : PySem.W.Frag) (F : Hp) : V → Option (List Int) → Prop
  | v, none => v = .non
  | v, some ns => ∃ a, v = .ref a ∧ SqT K F a (ns.map V.int)
def ColVs (K : PySem.W.Frag) (F : Hp) : List V → List (Option (List Int)) → Prop
  | [], [] => True
  | v :: vs, c :: cs => ColV K F v c ∧ ColVs K F vs cs
  | _, _ => False
def zbp (n m : Nat) : List (List Key) := (List.range n).flatMap fun r => (List.range m).map fun c => [Sum.inl ((r : Nat) : Int), Sum.inl ((c : Nat) : Int)]
structure CasK (K : PySem.W.Frag) : Prop where
  cl : Cls K (He.ga K "Case")
  na : ∀ f : Str, f ∈ (["columns", "count", "labels", "facts"] : List Str) → NoAttr K (He.ga K "Case") f
  ha : PySem.W.findIn K (.ref (He.ga K "Case")) "__class__" = some (some (.builtin "object.__class__"))
  hn : PySem.W.specialIn K (.builtin "object.__class__") "__get__" = some (some (.builtin "getset_descriptor.__get__"))
  htk : PySem.W.takesIn K (.builtin "object.__class__") = some true
  hm : PySem.W.mroIn K (He.ga K "Case") (.type "object") = some true
  kit : ∀ T : String, T ∈ ["int", "bool", "tuple", "list", "str"] → PySem.W.kitOne K (.ref (He.ga K "Case")) (.type T) = some false
structure CasAt (K : PySem.W.Frag) (F : Hp) (a : Addr) (c : Cas) : Prop where
  kit : CasK K
  of : ∃ (dx ca la fa : Addr) (fs : Nat → Addr) (cv : List V) (lo fo : Obj),
    F a = some (.ins (He.ga K "Case") dx [("columns", .ref ca), ("count", .int (c.n : Nat)), ("labels", .ref la), ("facts", .ref fa)]) ∧ F dx = some (.own a) ∧
    SqT K F ca cv ∧ ColVs K F cv c.cols ∧ c.lab.length = c.n * c.cols.length ∧ c.facts.length = c.n * c.cols.length ∧ (∀ l ∈ c.lab, l < c.facts.length) ∧
    F la = some (.frz lo (.dT ((zbp c.n c.cols.length).zip (c.lab.map fun l => V.int (l : Nat))))) ∧
    F fa = some (.frz fo (.dK ((List.range c.facts.length).map fun i => (Sum.inl ((i : Nat) : Int), V.ref (fs i))))) ∧
    ∀ i, i < c.facts.length → F (fs i) = some (.lst ((c.facts.getD i []).map V.int))
mutual
inductive Wd (K : PySem.W.Frag) (F : Hp) : V → D → Prop
  | non : Wd K F .non .non
  | bl (b : Bool) : Wd K F (.bl b) (.bl b)
  | int (i : Int) : Wd K F (.int i) (.int i)
  | str (x : Str) : Wd K F (.str x) (.str x)
  | lst {a : Addr} {vs : List V} {ds : List D} : F a = some (.lst vs) → WdA K F vs ds → Wd K F (.ref a) (.lst ds)
  | tup {a : Addr} {vs : List V} {ds : List D} : SqT K F a vs → WdA K F vs ds → Wd K F (.ref a) (.tup ds)
  | cas {a : Addr} {c : Cas} : CasAt K F a c → Wd K F (.ref a) (.cas c)
  | dct {a : Addr} {m : List (Key × Int)} {o : Obj} : F a = some (.frz o (.dK (m.map fun p => (p.1, V.int p.2)))) → Wd K F (.ref a) (.dct m)
inductive WdA (K : PySem.W.Frag) (F : Hp) : List V → List D → Prop
  | nil : WdA K F [] []
  | cons {v : V} {vs : List V} {d : D} {ds : List D} : Wd K F v d → WdA K F vs ds → WdA K F (v :: vs) (d :: ds)
end
section
variable {K : PySem.W.Frag} {F F' : Hp}
theorem zcj (e : Same F F') {a : Addr} {xs : List V} (h : SqT K F a xs) : SqT K F' a xs := by
  rcases h with (h | ⟨o, h⟩) | h
  · exact .inl (.inl (e _ _ h))
  · exact .inl (.inr ⟨o, e _ _ h⟩)
  · exact .inr h
theorem ColV.mono (e : Same F F') {v : V} : ∀ {c : Option (List Int)}, ColV K F v c → ColV K F' v c
  | none, h => h
  | some _, ⟨a, h1, h2⟩ => ⟨a, h1, zcj e h2⟩
theorem ColVs.mono (e : Same F F') : ∀ {vs : List V} {cs : List (Option (List Int))}, ColVs K F vs cs → ColVs K F' vs cs
  | [], [], _ => trivial
  | _ :: _, _ :: _, ⟨h1, h2⟩ => ⟨h1.mono e, ColVs.mono e h2⟩
theorem CasAt.mono (e : Same F F') {a : Addr} {c : Cas} (h : CasAt K F a c) : CasAt K F' a c := by
  obtain ⟨dx, ca, la, fa, fs, cv, lo, fo, h1, h2, h3, h4, h5, h6, h7, h8, h9, h10⟩ := h.of
  exact ⟨h.kit, dx, ca, la, fa, fs, cv, lo, fo, e _ _ h1, e _ _ h2, zcj e h3, h4.mono e, h5, h6, h7, e _ _ h8, e _ _ h9, fun i hi => e _ _ (h10 i hi)⟩
mutual
theorem Wd.mono (e : Same F F') : ∀ {d : D} {v : V}, Wd K F v d → Wd K F' v d
  | .non, _, h => by cases h; exact .non
  | .bl _, _, h => by cases h; exact .bl _
  | .int _, _, h => by cases h; exact .int _
  | .str _, _, h => by cases h; exact .str _
  | .lst ds, _, h => by
    cases h with
    | lst s a => exact .lst (e _ _ s) (WdA.mono e a)
  | .tup ds, _, h => by
    cases h with
    | tup s a => exact .tup (zcj e s) (WdA.mono e a)
  | .cas _, _, h => by
    cases h with
    | cas h => exact .cas (h.mono e)
  | .dct _, _, h => by
    cases h with
    | dct h => exact .dct (e _ _ h)
  | .ptr _, _, h => by cases h
theorem WdA.mono (e : Same F F') : ∀ {ds : List D} {vs : List V}, WdA K F vs ds → WdA K F' vs ds
  | [], _, h => by cases h; exact .nil
  | d :: ds, _, h => by
    cases h with
    | cons a b => exact .cons (Wd.mono e a) (WdA.mono e b)
end
theorem WdA.length : ∀ {ds : List D} {vs : List V}, WdA K F vs ds → vs.length = ds.length
  | [], _, h => by cases h; rfl
  | d :: ds, _, h => by
    cases h with
    | cons a b => simp [WdA.length b]
theorem WdA.get : ∀ {ds : List D} {vs : List V} {i : Nat} {v : V}, WdA K F vs ds → vs[i]? = some v → ∃ d, ds[i]? = some d ∧ Wd K F v d
  | [], _, i, v, h, e => by cases h; simp at e
  | d :: ds, _, 0, v, h, e => by
    cases h with
    | cons a b => simp at e; subst e; exact ⟨d, rfl, a⟩
  | d :: ds, _, i + 1, v, h, e => by
    cases h with
    | cons a b => simp at e; obtain ⟨q, h1, h2⟩ := WdA.get b e; exact ⟨q, by simpa using h1, h2⟩
theorem WdA.get' : ∀ {ds : List D} {vs : List V} {i : Nat} {d : D}, WdA K F vs ds → ds[i]? = some d → ∃ v, vs[i]? = some v ∧ Wd K F v d
  | [], _, i, v, h, e => by simp at e
  | d :: ds, _, 0, v, h, e => by
    cases h with
    | cons a b => simp at e; subst e; exact ⟨_, rfl, a⟩
  | d :: ds, _, i + 1, v, h, e => by
    cases h with
    | cons a b => simp at e; obtain ⟨q, h1, h2⟩ := WdA.get' b e; exact ⟨q, by simpa using h1, h2⟩
theorem WdA.append : ∀ {ds es : List D} {vs us : List V}, WdA K F vs ds → WdA K F us es → WdA K F (vs ++ us) (ds ++ es)
  | [], _, _, _, h, g => by cases h; exact g
  | d :: ds, _, _, _, h, g => by
    cases h with
    | cons a b => exact .cons a (WdA.append b g)
theorem WdA.take : ∀ {ds : List D} {vs : List V} (n : Nat), WdA K F vs ds → WdA K F (vs.take n) (ds.take n)
  | _, _, 0, _ => by simp; exact .nil
  | [], _, n + 1, h => by cases h; exact .nil
  | d :: ds, _, n + 1, h => by
    cases h with
    | cons a b => exact .cons a (WdA.take n b)
theorem WdA.drop : ∀ {ds : List D} {vs : List V} (n : Nat), WdA K F vs ds → WdA K F (vs.drop n) (ds.drop n)
  | _, _, 0, h => by simpa using h
  | [], _, n + 1, h => by cases h; exact .nil
  | d :: ds, _, n + 1, h => by
    cases h with
    | cons a b => simpa using WdA.drop n b
theorem WdA.set : ∀ {ds : List D} {vs : List V} (n : Nat) {v : V} {d : D}, WdA K F vs ds → Wd K F v d → WdA K F (vs.set n v) (ds.set n d)
  | [], _, _, _, _, h, _ => by cases h; exact .nil
  | d :: ds, _, 0, _, _, h, g => by
    cases h with
    | cons a b => exact .cons g b
  | d :: ds, _, n + 1, _, _, h, g => by
    cases h with
    | cons a b => exact .cons a (WdA.set n b g)
end
/-! ## how a state of the layer L2 is worth slots and a store -/
def ExK (K : PySem.W.Frag) (c : Str) (d : Option Addr) (a : Addr) : HO := .ext fun h => ∃ (oe : Obj) (vs : Array Value), h.get? a = some oe ∧ Zc (.ref (He.ga K c)) d oe ∧ oe.data = .fields vs
def WExn (K : PySem.W.Frag) (F : Hp) (a : Addr) (c : Str) : Option (Str × D) → Prop
  | none => F a = some (ExK K c none a)
  | some (f, y) => ∃ (dx : Addr) (v : V), F a = some (ExK K c (some dx) a) ∧ F dx = some (.xd [(f, v)]) ∧ Wd K F v y
theorem WExn.mono {K : PySem.W.Frag} {F F' : Hp} {a : Addr} {c : Str} {p : Option (Str × D)} (sm : Same F F') (h : WExn K F a c p) : WExn K F' a c p := by
  cases p with
  | none => exact sm _ _ h
  | some q =>
    obtain ⟨f, y⟩ := q
    obtain ⟨dx, v, h1, h2, h3⟩ := h
    exact ⟨dx, v, sm _ _ h1, sm _ _ h2, h3.mono sm⟩
def XPay (K : PySem.W.Frag) (F : Hp) (d : Option Addr) : Option (Str × D) → Prop
  | none => d = none
  | some (f, y) => ∃ (dx : Addr) (v : V), d = some dx ∧ F dx = some (.xd [(f, v)]) ∧ Wd K F v y
def XIs (K : PySem.W.Frag) (mg : Str → Option Value) (F : Hp) (c : XC) (C : Addr × Option Addr) : Prop := mg c.cls = some (.ref C.1) ∧ XPay K F C.2 c.pay
class Mode where
  plain : Bool
def IsFst (ι : List Addr) (k : Nat) : Prop := ∀ j, j < k → ι[j]? ≠ ι[k]?
def IsSnd (ι : List Addr) (k : Nat) : Prop := ∃ j, k = j + 1 ∧ ι[j]? = ι[k]? ∧ IsFst ι j
theorem IsFst.pre {ι ι' : List Addr} (p : ι <+: ι') {k : Nat} (h : k < ι.length) : IsFst ι' k ↔ IsFst ι k := by
  obtain ⟨t, rfl⟩ := p
  have e : ∀ j, j ≤ k → (ι ++ t)[j]? = ι[j]? := fun j hj => List.getElem?_append_left (by omega)
  exact ⟨fun f j hj => by rw [← e j (by omega), ← e k (by omega)]; exact f j hj, fun f j hj => by rw [e j (by omega), e k (by omega)]; exact f j hj⟩
theorem IsSnd.pre {ι ι' : List Addr} (p : ι <+: ι') {k : Nat} (h : k < ι.length) : IsSnd ι' k ↔ IsSnd ι k := by
  have e : ∀ j, j ≤ k → ι'[j]? = ι[j]? := fun j hj => by
    obtain ⟨t, rfl⟩ := p
    exact List.getElem?_append_left (by omega)
  constructor
  · rintro ⟨j, rfl, h1, h2⟩
    exact ⟨j, rfl, by rw [← e j (by omega), ← e (j + 1) (by omega)]; exact h1, (IsFst.pre p (by omega)).mp h2⟩
  · rintro ⟨j, rfl, h1, h2⟩
    exact ⟨j, rfl, by rw [e j (by omega), e (j + 1) (by omega)]; exact h1, (IsFst.pre p (by omega)).mpr h2⟩
theorem IsFst.one {ι : List Addr} {i j : Nat} {a : Addr} (fi : IsFst ι i) (fj : IsFst ι j) (hi : ι[i]? = some a) (hj : ι[j]? = some a) : i = j := by
  rcases Nat.lt_trichotomy i j with h | h | h
  · exact absurd (hi.trans hj.symm) (fj i h)
  · exact h
  · exact absurd (hj.trans hi.symm) (fi j h)
theorem IsSnd.one {ι : List Addr} {i j : Nat} {a : Addr} (si : IsSnd ι i) (sj : IsSnd ι j) (hi : ι[i]? = some a) (hj : ι[j]? = some a) : i = j := by
  obtain ⟨i', rfl, h1, h2⟩ := si
  obtain ⟨j', rfl, h3, h4⟩ := sj
  have := IsFst.one h2 h4 (h1.trans hi) (h3.trans hj)
  omega
theorem IsFst.new {ι t : List Addr} {a : Addr} (h : a ∉ ι) : IsFst (ι ++ a :: t) ι.length := fun j hj e => by
  rw [List.getElem?_append_left hj, List.getElem?_append_right (Nat.le_refl _), Nat.sub_self] at e
  exact h (List.mem_of_getElem? e)
theorem IsFst.nd {ι : List Addr} (n : ι.Nodup) {k : Nat} (h : k < ι.length) : IsFst ι k := fun j hj e => by
  have hj' : j < ι.length := by omega
  rw [List.getElem?_eq_getElem hj', List.getElem?_eq_getElem h] at e
  have := (List.getElem_inj n).mp (Option.some.inj e)
  omega
def WV (K : PySem.W.Frag) (ι : List Addr) (F : Hp) (v : V) : DV → Prop
  | .dat d => Wd K F v d
  | .obj k => ∃ a, ι[k]? = some a ∧ v = .ref a ∧ IsFst ι k
  | .scr ns => ∃ a, v = .ref a ∧ SqL K F a (ns.map V.int)
  | .exn c p => ∃ a, v = .ref a ∧ WExn K F a c p
  | .fn x => v = .ref (He.ga K x)
  | .spc k => ∃ a, ι[k]? = some a ∧ v = .ref a ∧ ¬ IsFst ι k
inductive WVs (K : PySem.W.Frag) (ι : List Addr) (F : Hp) : List V → List DV → Prop
  | nil : WVs K ι F [] []
  | cons {v : V} {vs : List V} {d : DV} {ds : List DV} : WV K ι F v d → WVs K ι F vs ds → WVs K ι F (v :: vs) (d :: ds)
def NoT2 (o : HO) : Prop := (∀ xs, o ≠ .tup xs) ∧ ∀ ps, o ≠ .tbl ps
def NoTb (o : HO) : Prop := ∀ ps, o ≠ .tbl ps
def lamNs : List Str := ["_law_sets", "find_cheapest", "find_tree", "_law_other_rule"]
def lamQ (x : Str) : Str := (x ++ ".<locals>.") ++ "<lambda>"
def tabOf (K : PySem.W.Frag) (x : Str) : List Addr := match K.lookup (He.ga K x) with
  | some ⟨_, _, .func fd, _⟩ => (match (fd.code : Value) with
    | .ref c => (match K.lookup c with
      | some ⟨_, _, .fields vs, _⟩ => (match (vs.toList[11]? : Option Value) with
        | some (.ref P) => [P]
        | _ => [])
      | _ => [])
    | _ => [])
  | _ => []
def tabsP (K : PySem.W.Frag) : List (Addr × Str) := lamNs.flatMap fun x => (tabOf K x).map fun P => (P, lamQ x)
def zb4 (K : PySem.W.Frag) : List Addr := (tabsP K).map (·.1)
def TbsOk (K : PySem.W.Frag) (H : Hp) : Prop := ∀ p ∈ tabsP K, LamX.TabS H p.1 p.2
theorem TbsOk.at_ {K : PySem.W.Frag} {H : Hp} (t : TbsOk K H) {P : Addr} (h : P ∈ zb4 K) : ∃ ps, H P = some (.tbl ps) := by
  obtain ⟨p, hp, rfl⟩ := List.mem_map.mp h
  obtain ⟨ps, h1, _⟩ := t p hp
  exact ⟨ps, h1⟩
theorem TbsOk.ext {K : PySem.W.Frag} {H H' : Hp} (t : TbsOk K H) (e : ∀ b o, H b = some o → ((∃ ps, o = .tbl ps) ∨ ∃ φ, o = .ext φ) → H' b = some o) : TbsOk K H' := fun P hP => by
  obtain ⟨ps, h1, h2, h3⟩ := t P hP
  refine ⟨ps, e _ _ h1 (.inl ⟨_, rfl⟩), h2, fun pos cv hc => ?_⟩
  obtain ⟨c, e1, e2⟩ := h3 pos cv hc
  exact ⟨c, e1, e _ _ e2 (.inr ⟨_, rfl⟩)⟩
theorem TbsOk.upd {K : PySem.W.Frag} {H : Hp} (t : TbsOk K H) {p : Addr} (n : ∀ o, H p = some o → (∀ ps, o ≠ .tbl ps) ∧ ∀ φ, o ≠ .ext φ) (u : HO) : TbsOk K (upd H p u) := t.ext fun b o e h => by
  rw [upd_ne (fun z => by
    rw [z] at e
    obtain ⟨n1, n2⟩ := n o e
    rcases h with ⟨ps, h⟩ | ⟨φ, h⟩
    · exact n1 ps h
    · exact n2 φ h)]
  exact e
theorem TbsOk.new {K : PySem.W.Frag} {H : Hp} (t : TbsOk K H) {p : Addr} (n : H p = none) (u : HO) : TbsOk K (L2.upd H p u) := t.upd (fun o e => by rw [n] at e; cases e) u
theorem TbsOk.lst {K : PySem.W.Frag} {H : Hp} (t : TbsOk K H) {p : Addr} {xs : List V} (n : H p = some (.lst xs)) (u : HO) : TbsOk K (L2.upd H p u) := t.upd (fun o e => by rw [n] at e; cases e; exact ⟨fun _ z => (by cases z), fun _ z => (by cases z)⟩) u
theorem TbsOk.off {K : PySem.W.Frag} {F H : Hp} (t : TbsOk K H) (tf : ∀ P ∈ zb4 K, F P = none) {p : Addr} (n : ∀ ps, H p ≠ some (.tbl ps)) (u : HO) : ∀ P ∈ zb4 K, L2.upd F p u P = none := fun P hP => by
  obtain ⟨ps, h1⟩ := t.at_ hP
  rw [upd_ne (fun z => n ps (by rw [← z]; exact h1))]
  exact tf P hP
/-! ### special cells: instances, dicts -/
def fldNm (c : Str) : List Str :=
  if c = "Desk" then ["columns", "held", "held_keys", "kept", "kept_keys", "next_row", "next_rule", "seen", "papers", "marks"]
  else if c = "Mender" then ["columns", "kept_costs", "held", "held_keys", "kept", "kept_keys", "next_row", "next_rule", "held_pins", "seen", "papers", "marks"]
  else []
inductive SpV (K : PySem.W.Frag) (ι : List Addr) (F : Hp) : V → D → Prop
  | dat {v : V} {d : D} : Wd K F v d → SpV K ι F v d
  | ptr {j : Nat} {b : Addr} : ι[j]? = some b → IsFst ι j → SpV K ι F (.ref b) (.ptr j)
inductive SpVs (K : PySem.W.Frag) (ι : List Addr) (F : Hp) : List V → List D → Prop
  | nil : SpVs K ι F [] []
  | cons {v : V} {vs : List V} {d : D} {ds : List D} : SpV K ι F v d → SpVs K ι F vs ds → SpVs K ι F (v :: vs) (d :: ds)
mutual
def nkyD : D → Option NestedKey
  | .non => some .none
  | .int i => some (.num i)
  | .tup ds => (nkyDs ds).map .tup
  | _ => none
def nkyDs : List D → Option (List NestedKey)
  | [] => some []
  | d :: ds => (nkyD d).bind fun k => (nkyDs ds).map (k :: ·)
end
def DicN (a : Addr) (xs : List (NestedKey × Addr × Value)) : HO := .ext fun h => (a == sysModules) = false ∧ ∃ (o : Obj) (es : Array DictEntry) (ep : Nat) (w0 : World), h.get? a = some o ∧ o.ExactDict ∧ o.data = .dict es ep ∧
  es.toList = xs.map (fun x => (⟨x.1.hash w0, .ref x.2.1, x.2.2⟩ : DictEntry)) ∧ (xs.map (·.1)).Nodup
inductive PairN (K : PySem.W.Frag) (ι : List Addr) (F : Hp) : List (NestedKey × Addr × Value) → List D → Prop
  | nil : PairN K ι F [] []
  | cons {k : NestedKey} {b : Addr} {u : Value} {v : V} {kd vd : D} {xs : List (NestedKey × Addr × Value)} {ds : List D} : nkyD kd = some k ∧ k.depth ≤ 8 → Wd K F (.ref b) kd → RelV v u → SpV K ι F v vd → PairN K ι F xs ds → PairN K ι F ((k, b, u) :: xs) (.tup [kd, vd] :: ds)
def kyD : Key → D
  | .inl i => .int i
  | .inr x => .str x
inductive SpO (K : PySem.W.Frag) (ι : List Addr) (F : Hp) (a : Addr) : HO → List D → Prop
  | ins {c : Str} {dx : Addr} {vs : List V} {ds : List D} : F dx = some (.own a) → fldNm c ≠ [] → vs.length ≤ (fldNm c).length → SpVs K ι F vs ds → SpO K ι F a (.ins (He.ga K c) dx ((fldNm c).zip vs)) (.str c :: ds)
  | dic {ks : List Key} {vs : List V} {ds : List D} : ks.length = vs.length → SpVs K ι F vs ds → SpO K ι F a (.dK (ks.zip vs)) (.str "{}" :: (ks.zip ds).map fun p => .tup [kyD p.1, p.2])
  | dnk {xs : List (NestedKey × Addr × Value)} {ds : List D} : PairN K ι F xs ds → SpO K ι F a (DicN a xs) (.str "{}n" :: ds)
def SpAt (K : PySem.W.Frag) (ι : List Addr) (F H : Hp) (a : Addr) (ds : List D) : Prop := F a = none ∧ ∃ o, H a = some o ∧ SpO K ι F a o ds
section
variable {K : PySem.W.Frag} {ι ι' : List Addr} {F F' H H' : Hp} {a : Addr} {o : HO} {ds : List D}
theorem SpV.mono (p : ι <+: ι') (sm : Same F F') {v : V} {d : D} (h : SpV K ι F v d) : SpV K ι' F' v d := by
  cases h with
  | dat h => exact .dat (h.mono sm)
  | ptr h f =>
    have hl := (List.getElem?_eq_some_iff.mp h).1
    refine .ptr ?_ ((IsFst.pre p hl).mpr f)
    obtain ⟨t, rfl⟩ := p
    rw [List.getElem?_append_left hl]; exact h
theorem SpVs.mono (p : ι <+: ι') (sm : Same F F') {vs : List V} {ds : List D} (h : SpVs K ι F vs ds) : SpVs K ι' F' vs ds := by
  induction h with
  | nil => exact .nil
  | cons a _ ih => exact .cons (a.mono p sm) ih
theorem SpVs.length {vs : List V} {ds : List D} (h : SpVs K ι F vs ds) : vs.length = ds.length := by
  induction h with
  | nil => rfl
  | cons _ _ ih => simp [ih]
theorem PairN.mono (p : ι <+: ι') (sm : Same F F') {xs : List (NestedKey × Addr × Value)} (h : PairN K ι F xs ds) : PairN K ι' F' xs ds := by
  induction h with
  | nil => exact .nil
  | cons h1 h2 h3 h4 _ ih => exact .cons h1 (h2.mono sm) h3 (h4.mono p sm) ih
theorem SpO.mono (p : ι <+: ι') (sm : Same F F') (h : SpO K ι F a o ds) : SpO K ι' F' a o ds := by
  cases h with
  | ins h1 h0 h2 h3 => exact .ins (sm _ _ h1) h0 h2 (h3.mono p sm)
  | dic h1 h2 => exact .dic h1 (h2.mono p sm)
  | dnk h => exact .dnk (h.mono p sm)
theorem SpO.nl (h : SpO K ι F a o ds) : (∀ xs, o ≠ .lst xs) ∧ NoT2 o := by
  cases h with
  | ins _ _ _ _ => exact ⟨fun _ z => (nomatch z), fun _ z => (nomatch z), fun _ z => (nomatch z)⟩
  | dic _ _ => exact ⟨fun _ z => (nomatch z), fun _ z => (nomatch z), fun _ z => (nomatch z)⟩
  | dnk h => exact ⟨fun _ z => (nomatch z), fun _ z => (nomatch z), fun _ z => (nomatch z)⟩
theorem SpAt.move (h : SpAt K ι F H a ds) (p : ι <+: ι') (sm : Same F F') (hh : ∀ o, H a = some o → (∀ xs, o ≠ .lst xs) → NoT2 o → H' a = some o ∧ (F a = none → F' a = none)) : SpAt K ι' F' H' a ds := by
  obtain ⟨h1, o, h2, h3⟩ := h
  obtain ⟨k1, k2⟩ := hh o h2 h3.nl.1 h3.nl.2
  exact ⟨k2 h1, o, k1, h3.mono p sm⟩
end
structure StR [Mode] (K : PySem.W.Frag) (ι : List Addr) (F : Hp) (S : zae) (H : Hp) : Prop where
  sub : Same F H
  len : ι.length = S.length
  nd : Mode.plain = true → ι.Nodup
  full : ∀ b ∈ ι, H b ≠ none
  cell : ∀ (k : Nat) (ds : List D), S[k]? = some (some ds) → IsFst ι k → ∃ a vs, ι[k]? = some a ∧ H a = some (.lst vs) ∧ F a = none ∧ WdA K F vs ds
  spec : ∀ (k : Nat) (ds : List D), S[k]? = some (some ds) → ¬ IsFst ι k → ∃ a, ι[k]? = some a ∧ SpAt K ι F H a ds
  tb : TbsOk K H
  tf : ∀ P ∈ zb4 K, F P = none
  snd : ∀ (k : Nat) (ds : List D), S[k]? = some (some ds) → ¬ IsFst ι k → IsSnd ι k
structure RR [Mode] (K : PySem.W.Frag) (ι : List Addr) (F : Hp) (ρ : zar) (S : zae) (σ : L2.St) (H : Hp) : Prop where
  st : StR K ι F S H
  len : ρ.length = σ.length
  slot : ∀ (i : Nat) (dv : DV), ρ[i]? = some (some dv) → ∃ v, σ[i]? = some (some v) ∧ WV K ι F v dv
def NoT (o : HO) : Prop := ∀ xs, o ≠ .tup xs
structure Grow (ι : List Addr) (F H : Hp) (ι' : List Addr) (F' H' : Hp) : Prop where
  pre : ι <+: ι'
  sf : Same F F'
  keep : ∀ b o, H b = some o → NoTb o → b ∉ ι → H' b = some o
  new : ∀ b o, H b = some o → NoT o → NoTb o → F b = none → b ∉ ι → F' b = none
  nio : ∀ b ∈ ι', b ∈ ι ∨ H b = none
  dom : ∀ b, H' b = none → H b = none
theorem Grow.refl {ι : List Addr} {F H : Hp} : Grow ι F H ι F H := ⟨List.prefix_rfl, Same.refl _, fun _ _ h _ _ => h, fun _ _ _ _ _ h _ => h, fun _ h => .inl h, fun _ h => h⟩
theorem zbu {H : Hp} {p b : Addr} {o : HO} (h : upd H p o b = none) : H b = none := by
  by_cases e : b = p
  · subst e; rw [upd_same] at h; cases h
  · rw [upd_ne e] at h; exact h
theorem zfy {H : Hp} {p b : Addr} {o : HO} (h : H b ≠ none) : upd H p o b ≠ none := fun z => h (zbu z)
theorem Grow.trans {ι ι1 ι2 : List Addr} {F F1 F2 H H1 H2 : Hp} (a : Grow ι F H ι1 F1 H1) (b : Grow ι1 F1 H1 ι2 F2 H2) : Grow ι F H ι2 F2 H2 := by
  have out : ∀ c o, H c = some o → c ∉ ι → c ∉ ι1 := fun c o h n m => by
    rcases a.nio c m with q | q
    · exact n q
    · rw [h] at q; cases q
  refine ⟨a.pre.trans b.pre, a.sf.trans b.sf, fun c o h t n => b.keep c o (a.keep c o h t n) t (out c o h n), fun c o h t t2 f n => b.new c o (a.keep c o h t2 n) t t2 (a.new c o h t t2 f n) (out c o h n), fun c m => ?_, fun c h => a.dom c (b.dom c h)⟩
  rcases b.nio c m with q | q
  · exact a.nio c q
  · by_cases n : c ∈ ι
    · exact .inl n
    · cases e : H c with
      | none => exact .inr rfl
      | some o => rw [a.dom c q] at e; cases e
theorem WV.grow {K : PySem.W.Frag} {ι ι' : List Addr} {F F' H H' : Hp} (g : Grow ι F H ι' F' H') {v : V} {dv : DV} (h : WV K ι F v dv) : WV K ι' F' v dv := by
  cases dv with
  | dat d => exact Wd.mono g.sf h
  | obj k =>
    obtain ⟨a, h1, h2, h3⟩ := h
    have hl := (List.getElem?_eq_some_iff.mp h1).1
    refine ⟨a, ?_, h2, (IsFst.pre g.pre hl).mpr h3⟩
    obtain ⟨t, rfl⟩ := g.pre
    rw [List.getElem?_append_left hl]; exact h1
  | scr ns =>
    obtain ⟨a, h1, h2⟩ := h
    exact ⟨a, h1, g.sf.seq h2⟩
  | exn c p =>
    obtain ⟨a, h1, h2⟩ := h
    exact ⟨a, h1, h2.mono g.sf⟩
  | fn x => exact h
  | spc k =>
    obtain ⟨a, h1, h2, h3⟩ := h
    have hl := (List.getElem?_eq_some_iff.mp h1).1
    refine ⟨a, ?_, h2, fun z => h3 ((IsFst.pre g.pre hl).mp z)⟩
    obtain ⟨t, rfl⟩ := g.pre
    rw [List.getElem?_append_left hl]; exact h1
theorem WVs.grow {K : PySem.W.Frag} {ι ι' : List Addr} {F F' H H' : Hp} (g : Grow ι F H ι' F' H') {vs : List V} {ds : List DV} (h : WVs K ι F vs ds) : WVs K ι' F' vs ds := by
  induction h with
  | nil => exact .nil
  | cons a _ ih => exact .cons (a.grow g) ih
theorem WVs.length {K : PySem.W.Frag} {ι : List Addr} {F : Hp} {vs : List V} {ds : List DV} (h : WVs K ι F vs ds) : vs.length = ds.length := by
  induction h with
  | nil => rfl
  | cons _ _ ih => simp [ih]
theorem StR.push [Mode] {K : PySem.W.Frag} {ι : List Addr} {F H : Hp} {S : zae} (r : StR K ι F S H) {p : Addr} (hp : H p = none) (o : HO) : StR K ι (upd F p o) S (upd H p o) := by
  refine ⟨fun b u e => ?_, r.len, r.nd, fun b hb => zfy (r.full b hb), fun k ds e fi => ?_, fun k ds e nf => ?_, r.tb.new hp o, r.tb.off r.tf (fun ps z => by rw [hp] at z; cases z) o, r.snd⟩
  · by_cases h : b = p
    · subst h; rw [upd_same] at e ⊢; exact e
    · rw [upd_ne h] at e ⊢; exact r.sub b u e
  rotate_left
  · obtain ⟨a, h1, h2⟩ := r.spec k ds e nf
    refine ⟨a, h1, h2.move List.prefix_rfl (fun b u e => ?_) fun o e _ _ => ?_⟩
    · rw [upd_ne (fun z => by rw [z] at e; rw [r.sub p u e] at hp; cases hp)]; exact e
    · have n : a ≠ p := fun z => by rw [z, hp] at e; cases e
      exact ⟨by rw [upd_ne n]; exact e, fun f => by rw [upd_ne n]; exact f⟩
  · obtain ⟨a, vs, h1, h2, h3, h4⟩ := r.cell k ds e fi
    have n : a ≠ p := fun z => by rw [z, hp] at h2; cases h2
    refine ⟨a, vs, h1, by rw [upd_ne n]; exact h2, by rw [upd_ne n]; exact h3, WdA.mono (fun b u e => ?_) h4⟩
    rw [upd_ne (fun z => by rw [z] at e; rw [r.sub p u e] at hp; cases hp)]; exact e
theorem zdk {F H : Hp} (s : Same F H) {p : Addr} (hp : H p = none) (o : HO) : Same F (upd F p o) := fun b u e => by
  rw [upd_ne (fun z => by rw [z] at e; rw [s p u e] at hp; cases hp)]; exact e
theorem zd1 {ι : List Addr} {F H : Hp} (s : Same F H) {p : Addr} (hp : H p = none) (o : HO) : Grow ι F H ι (upd F p o) (upd H p o) := by
  have n : ∀ b u, H b = some u → b ≠ p := fun b u e z => by rw [z, hp] at e; cases e
  exact ⟨List.prefix_rfl, zdk s hp o, fun b u e _ _ => by rw [upd_ne (n b u e)]; exact e, fun b u e _ _ f _ => by rw [upd_ne (n b u e)]; exact f, fun b h => .inl h, fun b h => zbu h⟩
theorem zda {ι : List Addr} {F H : Hp} {p : Addr} (hp : H p = none) (o : HO) : Grow ι F H ι F (upd H p o) := by
  have n : ∀ b u, H b = some u → b ≠ p := fun b u e z => by rw [z, hp] at e; cases e
  exact ⟨List.prefix_rfl, Same.refl _, fun b u e _ _ => by rw [upd_ne (n b u e)]; exact e, fun b u e _ _ f _ => f, fun b h => .inl h, fun b h => zbu h⟩
theorem StR.alone [Mode] {K : PySem.W.Frag} {ι : List Addr} {F H : Hp} {S : zae} (r : StR K ι F S H) {p : Addr} (hp : H p = none) (o : HO) : StR K ι F S (upd H p o) := by
  have n : ∀ b u, H b = some u → b ≠ p := fun b u e z => by rw [z, hp] at e; cases e
  exact ⟨fun b u e => by rw [upd_ne (n b u (r.sub b u e))]; exact r.sub b u e, r.len, r.nd, fun b hb => zfy (r.full b hb), fun k ds e fi =>
    let ⟨a, vs, h1, h2, h3, h4⟩ := r.cell k ds e fi
    ⟨a, vs, h1, by rw [upd_ne (n a _ h2)]; exact h2, h3, h4⟩, fun k ds e nf =>
    let ⟨a, h1, h2⟩ := r.spec k ds e nf
    ⟨a, h1, h2.move List.prefix_rfl (Same.refl _) fun o e _ _ => ⟨by rw [upd_ne (n a _ e)]; exact e, fun f => f⟩⟩, r.tb.new hp o, r.tf, r.snd⟩
theorem StR.re [Mode] {K : PySem.W.Frag} {ι : List Addr} {F F' H H' : Hp} {S : zae} (st : StR K ι F S H) (sub' : Same F' H') (sm : Same F F') (full' : ∀ b ∈ ι, H' b ≠ none)
    (kp : ∀ b o, b ∈ ι → H b = some o → (∀ xs, o ≠ .tup xs) → (∀ ps, o ≠ .tbl ps) → F b = none → H' b = some o ∧ F' b = none) (tb' : TbsOk K H') (tf' : ∀ P ∈ zb4 K, F' P = none) : StR K ι F' S H' :=
  ⟨sub', st.len, st.nd, full', fun k ds e fi =>
    let ⟨a, vs, h1, h2, h3, h4⟩ := st.cell k ds e fi
    let q := kp a _ (List.mem_of_getElem? h1) h2 (fun _ z => (nomatch z)) (fun _ z => (nomatch z)) h3
    ⟨a, vs, h1, q.1, q.2, h4.mono sm⟩, fun k ds e nf =>
    let ⟨a, h1, h2⟩ := st.spec k ds e nf
    ⟨a, h1, h2.move List.prefix_rfl sm fun o e _ nt =>
      let q := kp a o (List.mem_of_getElem? h1) e nt.1 nt.2 h2.1
      ⟨q.1, fun _ => q.2⟩⟩, tb', tf', st.snd⟩
theorem RR.slots [Mode] {K : PySem.W.Frag} {ι ι' : List Addr} {F F' H H' : Hp} {ρ : zar} {S S' : zae} {σ : L2.St} (r : RR K ι F ρ S σ H) (g : Grow ι F H ι' F' H') (st : StR K ι' F' S' H') : RR K ι' F' ρ S' σ H' :=
  ⟨st, r.len, fun i dv e => let ⟨v, h1, h2⟩ := r.slot i dv e; ⟨v, h1, h2.grow g⟩⟩
theorem RR.push [Mode] {K : PySem.W.Frag} {ι : List Addr} {F H : Hp} {ρ : zar} {S : zae} {σ : L2.St} (r : RR K ι F ρ S σ H) {p : Addr} (hp : H p = none) (o : HO) : RR K ι (upd F p o) ρ S σ (upd H p o) :=
  r.slots (zd1 r.st.sub hp o) (r.st.push hp o)
instance (priority := low) plainMode : Mode := ⟨true⟩
end DL
set_option maxHeartbeats 4000000
namespace DL
open PySem PySem.Spec PyProof.Rows L2
variable [Mode]
/-! ## judgements -/
abbrev XFn := zar → zae → Res DV
abbrev TFn := zar → zae → Res Bool
abbrev AFn := zar → zae → Res (List DV)
def Post {α : Type} (K : PySem.W.Frag) (mg : Str → Option Value) (E : XK) (ι : List Addr) (F H : Hp) (r : Res α) (Q : α → List Addr → Hp → Hp → Prop) : Prop :=
  match r with
  | .ok a S' => ∀ ι' F' H', Grow ι F H ι' F' H' → StR K ι' F' S' H' → Q a ι' F' H'
  | .ex c S' => ∀ (C : Addr × Option Addr) ι' F' H', Grow ι F H ι' F' H' → StR K ι' F' S' H' → XIs K mg F' c C → E (.ref C.1) C.2 H'
  | .bad => False
section
variable {α β : Type} {K : PySem.W.Frag} {mg : Str → Option Value} {E : XK} {ι : List Addr} {F H : Hp}
theorem Post.mono {r : Res α} {Q Q' : α → List Addr → Hp → Hp → Prop} (h : Post K mg E ι F H r Q) (k : ∀ a ι' F' H', Grow ι F H ι' F' H' → Q a ι' F' H' → Q' a ι' F' H') : Post K mg E ι F H r Q' := by
  cases r with
  | ok a S' => exact fun ι' F' H' g st => k a ι' F' H' g (h ι' F' H' g st)
  | ex c S' => exact h
  | bad => exact h
theorem Post.grow {r : Res α} {ι1 : List Addr} {F1 H1 : Hp} {Q : α → List Addr → Hp → Hp → Prop} (h : Post K mg E ι F H r Q) (g : Grow ι F H ι1 F1 H1) : Post K mg E ι1 F1 H1 r Q := by
  cases r with
  | ok a S' => exact fun ι' F' H' g' st => h ι' F' H' (g.trans g') st
  | ex c S' => exact fun C ι' F' H' g' st m => h C ι' F' H' (g.trans g') st m
  | bad => exact h
end
def tD (X : Cx) (W : WX) (f : XFn) : TE := fun σ H Q => ∃ ι F ρ S, RR X.K ι F ρ S σ H ∧ Post X.K X.mg (fun c d H' => W c d σ H') ι F H (f ρ S) fun dv ι' F' H' => ∀ v, WV X.K ι' F' v dv → Q v H'
def tT (X : Cx) (W : WX) (f : TFn) : TT := fun σ H Q => ∃ ι F ρ S, RR X.K ι F ρ S σ H ∧ Post X.K X.mg (fun c d H' => W c d σ H') ι F H (f ρ S) fun b ι' F' H' => Q b H'
def tA (X : Cx) (W : WX) (f : AFn) : TA := fun σ H Q => ∃ ι F ρ S, RR X.K ι F ρ S σ H ∧ Post X.K X.mg (fun c d H' => W c d σ H') ι F H (f ρ S) fun ds ι' F' H' => ∀ vs, WVs X.K ι' F' vs ds → Q vs H'
structure DE (X : Cx) (W : WX) (e : Expr) (f : XFn) : Prop where
  pe : PE X e (tD X W f)
structure DT (X : Cx) (W : WX) (e : Expr) (f : TFn) : Prop where
  pt : PT X e (tT X W f)
structure DW (X : Cx) (W : WX) (e : Expr) (f : TFn) : Prop where
  pw : PW X e (tT X W f)
structure DA (X : Cx) (W : WX) (es : List Expr) (f : AFn) : Prop where
  pa : PA X es (tA X W f)
section
variable {X : Cx} {W : WX} {e a b c : Expr} {es : List Expr} {pos p : Pos}
theorem PE.weak {te te' : TE} (h : PE X e te) (k : ∀ σ H Q, te' σ H Q → te σ H Q) : PE X e te' := ⟨fun pins s σ H Q I q => h.run pins s σ H Q I (k σ H Q q)⟩
theorem PT.weak {te te' : TT} (h : PT X e te) (k : ∀ σ H Q, te' σ H Q → te σ H Q) : PT X e te' := ⟨fun pins s σ H Q I q => h.run pins s σ H Q I (k σ H Q q)⟩
theorem PW.weak {te te' : TT} (h : PW X e te) (k : ∀ σ H Q, te' σ H Q → te σ H Q) : PW X e te' := ⟨fun whole pins s σ H Q I q => h.run whole pins s σ H Q I (k σ H Q q)⟩
theorem PA.weak {te te' : TA} (h : PA X es te) (k : ∀ σ H Q, te' σ H Q → te σ H Q) : PA X es te' := ⟨fun pos pins s σ H Q I q => h.run pos pins s σ H Q I (k σ H Q q)⟩
theorem tD.bind {α : Type} {f : XFn} {g : zar → DV → zae → Res α} {σ : L2.St} {H : Hp} {R : VK} {Q : α → List Addr → Hp → Hp → Prop} {ι : List Addr} {F : Hp} {ρ : zar} {S : zae} (r : RR X.K ι F ρ S σ H)
    (h : Post X.K X.mg (fun c d H' => W c d σ H') ι F H ((f ρ S).bind (g ρ)) Q)
    (k : ∀ v dv ι1 F1 S1 H1, RR X.K ι1 F1 ρ S1 σ H1 → WV X.K ι1 F1 v dv → Grow ι F H ι1 F1 H1 → Post X.K X.mg (fun c d H' => W c d σ H') ι1 F1 H1 (g ρ dv S1) Q → R v H1) : tD X W f σ H R := by
  refine ⟨ι, F, ρ, S, r, ?_⟩
  cases q : f ρ S with
  | ok dv S1 =>
    rw [q] at h
    exact fun ι1 F1 H1 g1 st v wv => k v dv ι1 F1 S1 H1 (r.slots g1 st) wv g1 (Post.grow (r := g ρ dv S1) h g1)
  | ex c S1 => rw [q] at h; exact h
  | bad => rw [q] at h; exact h
theorem tT.bind {α : Type} {f : TFn} {g : zar → Bool → zae → Res α} {σ : L2.St} {H : Hp} {R : Bool → Hp → Prop} {Q : α → List Addr → Hp → Hp → Prop} {ι : List Addr} {F : Hp} {ρ : zar} {S : zae} (r : RR X.K ι F ρ S σ H)
    (h : Post X.K X.mg (fun c d H' => W c d σ H') ι F H ((f ρ S).bind (g ρ)) Q)
    (k : ∀ b ι1 F1 S1 H1, RR X.K ι1 F1 ρ S1 σ H1 → Grow ι F H ι1 F1 H1 → Post X.K X.mg (fun c d H' => W c d σ H') ι1 F1 H1 (g ρ b S1) Q → R b H1) : tT X W f σ H R := by
  refine ⟨ι, F, ρ, S, r, ?_⟩
  cases q : f ρ S with
  | ok b S1 =>
    rw [q] at h
    exact fun ι1 F1 H1 g1 st => k b ι1 F1 S1 H1 (r.slots g1 st) g1 (Post.grow (r := g ρ b S1) h g1)
  | ex c S1 => rw [q] at h; exact h
  | bad => rw [q] at h; exact h
theorem tA.bind {α : Type} {f : AFn} {g : zar → List DV → zae → Res α} {σ : L2.St} {H : Hp} {R : List V → Hp → Prop} {Q : α → List Addr → Hp → Hp → Prop} {ι : List Addr} {F : Hp} {ρ : zar} {S : zae} (r : RR X.K ι F ρ S σ H)
    (h : Post X.K X.mg (fun c d H' => W c d σ H') ι F H ((f ρ S).bind (g ρ)) Q)
    (k : ∀ vs ds ι1 F1 S1 H1, RR X.K ι1 F1 ρ S1 σ H1 → WVs X.K ι1 F1 vs ds → Grow ι F H ι1 F1 H1 → Post X.K X.mg (fun c d H' => W c d σ H') ι1 F1 H1 (g ρ ds S1) Q → R vs H1) : tA X W f σ H R := by
  refine ⟨ι, F, ρ, S, r, ?_⟩
  cases q : f ρ S with
  | ok ds S1 =>
    rw [q] at h
    exact fun ι1 F1 H1 g1 st vs wv => k vs ds ι1 F1 S1 H1 (r.slots g1 st) wv g1 (Post.grow (r := g ρ ds S1) h g1)
  | ex c S1 => rw [q] at h; exact h
  | bad => rw [q] at h; exact h
/-! ## names, constants -/
def xVar (i : Nat) : XFn := fun ρ S => match ρ[i]? with
  | some (some dv) => .ok dv S
  | _ => .bad
def xC (d : D) : XFn := fun _ S => .ok (.dat d) S
theorem zab {i : Nat} {x : Str} (hN : X.N[i]? = some x := by rfl) (hv : Vis X.env.scope x := by first | exact .inl rfl | exact .inr (.inl rfl) | exact .inr (.inr rfl)) (hd : (x == ("__debug__" : Str)) = false := by decide) (hcd : (x == ("__classdict__" : Str)) = false := by decide) : DE X W (.Name x pos) (xVar i) := by
  refine ⟨PE.weak (pe_var hN hv hd hcd) fun σ H Q ⟨ι, F, ρ, S, r, h⟩ => ?_⟩
  unfold xVar at h
  cases q : ρ[i]? with
  | none => rw [q] at h; exact h.elim
  | some o =>
    cases o with
    | none => rw [q] at h; exact h.elim
    | some dv =>
      rw [q] at h
      obtain ⟨v, h1, h2⟩ := r.slot i dv q
      exact ⟨v, h1, h ι F H .refl r.st v h2⟩
theorem zgx {d : D} {v : V} (h : PE X e (tC v)) (w : ∀ K F, Wd K F v d) : DE X W e (xC d) :=
  ⟨PE.weak h fun σ H Q ⟨ι, F, ρ, S, r, h⟩ => h ι F H .refl r.st v (w _ _)⟩
theorem zag {i : Int} {j : Nat} : DE X W (.Constant (.int i) j pos) (xC (.int i)) := zgx pe_int fun _ _ => .int i
theorem zea {i : Bool} {j : Nat} : DE X W (.Constant (.bool i) j pos) (xC (.bl i)) := zgx pe_bl fun _ _ => .bl i
theorem za7 {j : Nat} : DE X W (.Constant .none j pos) (xC .non) := zgx pe_non fun _ _ => .non
theorem za3 {i : Str} {j : Nat} : DE X W (.Constant (.str i) j pos) (xC (.str i)) := zgx pe_str fun _ _ => .str i
theorem zer {x : Str} {i : Int} (hg : Gl X x) (hm : ∃ t, X.mg x = some (.int i t)) (hd : (x == ("__debug__" : Str)) = false := by decide) : DE X W (.Name x pos) (xC (.int i)) := by
  obtain ⟨t, hm⟩ := hm
  exact zgx (v := .int i) (pe_glob hg hm ⟨_, rfl⟩ hd) fun _ _ => .int i
/-! ## argument lists -/
def aNil : AFn := fun _ S => .ok [] S
def zaa (f : XFn) (g : AFn) : AFn := fun ρ S => (f ρ S).bind fun d S1 => (g ρ S1).bind fun ds S2 => .ok (d :: ds) S2
theorem zac : DA X W [] aNil := ⟨PA.weak pa_nil fun σ H Q ⟨ι, F, ρ, S, r, h⟩ => h ι F H .refl r.st [] .nil⟩
theorem za_ {f : XFn} {g : AFn} (he : DE X W e f) (hs : DA X W es g) (hse : starEach (e :: es) X.env = (false, eval e X.env) :: starEach es X.env := by rfl) : DA X W (e :: es) (zaa f g) := by
  refine ⟨PA.weak (pa_cons he.pe hs.pa hse) fun σ H Q ⟨ι, F, ρ, S, r, h⟩ => ?_⟩
  refine tD.bind (g := fun ρ d S1 => (g ρ S1).bind fun ds S2 => .ok (d :: ds) S2) r h fun v dv ι1 F1 S1 H1 r1 w1 g1 h1 => ?_
  refine tA.bind (g := fun ρ ds S2 => .ok (dv :: ds) S2) r1 h1 fun vs ds ι2 F2 S2 H2 r2 w2 g2 h2 => ?_
  exact h2 ι2 F2 H2 .refl r2.st (v :: vs) (.cons (w1.grow g2) w2)
/-! ## reading data -/
def rd (S : zae) : DV → Option D
  | .dat d => some d
  | .obj k => match S[k]? with
    | some (some xs) => some (.lst xs)
    | _ => none
  | .scr _ => none
  | .exn _ _ => none
  | .fn _ => none
  | .spc _ => none
inductive Vw (K : PySem.W.Frag) (F H : Hp) : V → D → Prop
  | non : Vw K F H .non .non
  | bl (b : Bool) : Vw K F H (.bl b) (.bl b)
  | int (i : Int) : Vw K F H (.int i) (.int i)
  | str (x : Str) : Vw K F H (.str x) (.str x)
  | lst {a : Addr} {vs : List V} {ds : List D} : H a = some (.lst vs) → WdA K F vs ds → Vw K F H (.ref a) (.lst ds)
  | tup {a : Addr} {vs : List V} {ds : List D} : SqT K F a vs → WdA K F vs ds → Vw K F H (.ref a) (.tup ds)
  | cas {a : Addr} {c : Cas} : CasAt K F a c → Vw K F H (.ref a) (.cas c)
  | dct {a : Addr} {m : List (Key × Int)} {o : Obj} : F a = some (.frz o (.dK (m.map fun p => (p.1, V.int p.2)))) → Vw K F H (.ref a) (.dct m)
theorem Wd.vw {K : PySem.W.Frag} {F H : Hp} (s : Same F H) {v : V} {d : D} (h : Wd K F v d) : Vw K F H v d := by
  cases h with
  | non => exact .non
  | bl b => exact .bl b
  | int b => exact .int b
  | str b => exact .str b
  | lst q w => exact .lst (s _ _ q) w
  | tup q w => exact .tup q w
  | cas h => exact .cas h
  | dct h => exact .dct h
theorem Vw.wd {K : PySem.W.Frag} {F H : Hp} (s : Same F H) {v : V} {d : D} (h : Vw K F H v d) : Wd K H v d := by
  cases h with
  | non => exact .non
  | bl b => exact .bl b
  | int b => exact .int b
  | str b => exact .str b
  | lst q w => exact .lst q (w.mono s)
  | tup q w => exact .tup (zcj s q) (w.mono s)
  | cas h => exact .cas (h.mono s)
  | dct h => exact .dct (s _ _ h)
theorem StR.vw {K : PySem.W.Frag} {ι : List Addr} {F H : Hp} {S : zae} (st : StR K ι F S H) {v : V} {dv : DV} {d : D} (w : WV K ι F v dv) (e : rd S dv = some d) : Vw K F H v d := by
  cases dv with
  | dat d' => cases e; exact Wd.vw st.sub w
  | obj k =>
    obtain ⟨a, h1, h2, h0⟩ := w
    simp only [rd] at e
    cases q : S[k]? with
    | none => simp [q] at e
    | some o =>
      cases o with
      | none => simp [q] at e
      | some xs =>
        simp [q] at e
        subst e
        obtain ⟨a', vs, h3, h4, h5, h6⟩ := st.cell k xs q h0
        rw [h1] at h3
        cases h3
        subst h2
        exact .lst h4 h6
  | scr ns => cases e
  | exn c p => cases e
  | fn x => cases e
  | spc x => cases e
/-! ## tuples, lists -/
def dats : List DV → Option (List D)
  | [] => some []
  | .dat d :: r => (dats r).map (d :: ·)
  | _ :: _ => none
theorem WVs.dats {K : PySem.W.Frag} {ι : List Addr} {F : Hp} {vs : List V} {ds : List DV} (h : WVs K ι F vs ds) : ∀ {xs : List D}, DL.dats ds = some xs → WdA K F vs xs := by
  induction h with
  | nil => intro xs e; cases e; exact .nil
  | @cons v vs d ds a _ ih =>
    intro xs e
    cases d with
    | obj k => cases e
    | scr ns => cases e
    | exn c p => cases e
    | fn x => cases e
    | spc x => cases e
    | dat d =>
      unfold DL.dats at e
      cases q : DL.dats ds with
      | none => rw [q] at e; cases e
      | some ys => rw [q] at e; cases e; exact .cons a (ih q)
def mkTup (ds : List DV) (S : zae) : Res DV := match dats ds with
  | some xs => if xs.length ≤ sizeLine then .ok (.dat (.tup xs)) S else .bad
  | none => .bad
def mkLst (ds : List DV) (S : zae) : Res DV := match dats ds with
  | some xs => if xs.length ≤ sizeLine then .ok (.dat (.lst xs)) S else .bad
  | none => .bad
def xTup (f : AFn) : XFn := fun ρ S => (f ρ S).bind mkTup
def xLst (f : AFn) : XFn := fun ρ S => (f ρ S).bind mkLst
theorem zam {f : AFn} {k : Nat} (h : DA X W es f) : DE X W (.Tuple es k pos) (xTup f) := by
  refine ⟨PE.weak (pe_tup h.pa) fun σ H Q ⟨ι, F, ρ, S, r, h⟩ => ?_⟩
  refine tA.bind (g := fun _ => mkTup) r h fun vs ds ι1 F1 S1 H1 r1 w1 g1 h1 => ?_
  unfold mkTup at h1
  cases q : dats ds with
  | none => rw [q] at h1; exact h1.elim
  | some xs =>
    rw [q] at h1
    have wx := w1.dats q
    by_cases hl : xs.length ≤ sizeLine
    · simp only [hl, if_true] at h1
      refine ⟨by rw [wx.length]; exact hl, fun p hp => ?_⟩
      exact h1 ι1 _ _ (zd1 r1.st.sub hp _) (r1.st.push hp _) _ (.tup (.of upd_same) (wx.mono (zdk r1.st.sub hp _)))
    · simp only [hl, if_false] at h1; exact h1.elim
theorem za5 {f : AFn} (h : DA X W es f) : DE X W (.List es pos) (xLst f) := by
  refine ⟨PE.weak (pe_lst h.pa) fun σ H Q ⟨ι, F, ρ, S, r, h⟩ => ?_⟩
  refine tA.bind (g := fun _ => mkLst) r h fun vs ds ι1 F1 S1 H1 r1 w1 g1 h1 => ?_
  unfold mkLst at h1
  cases q : dats ds with
  | none => rw [q] at h1; exact h1.elim
  | some xs =>
    rw [q] at h1
    have wx := w1.dats q
    by_cases hl : xs.length ≤ sizeLine
    · simp only [hl, if_true] at h1
      refine ⟨by rw [wx.length]; exact hl, fun p hp => ?_⟩
      exact h1 ι1 _ _ (zd1 r1.st.sub hp _) (r1.st.push hp _) _ (.lst upd_same (wx.mono (zdk r1.st.sub hp _)))
    · simp only [hl, if_false] at h1; exact h1.elim
end
end DL
set_option maxHeartbeats 4000000
namespace DL
open PySem PySem.Spec PyProof.Rows L2
variable [Mode]
/-! ## operators on data -/
abbrev Op2 := DV → DV → zae → Res DV
def res1 (o : Option D) (S : zae) : Res DV := match o with
  | some c => .ok (.dat c) S
  | none => .bad
def o2 (f : D → D → Option D) : Op2 := fun x y S => match rd S x, rd S y with
  | some a, some b => res1 (f a b) S
  | _, _ => .bad
def x2 (o : Op2) (f g : XFn) : XFn := fun ρ S => (f ρ S).bind fun x S1 => (g ρ S1).bind fun y S2 => o x y S2
def Ret (K : PySem.W.Frag) (ι : List Addr) (F H : Hp) (S : zae) (c : D) (Q : VK) : Prop :=
  ∀ z F' H', Grow ι F H ι F' H' → StR K ι F' S H' → Wd K F' z c → Q z H'
def OpOk (K : PySem.W.Frag) (r : R2) (o : Op2) : Prop := ∀ (mg : Str → Option Value) (E : XK) (ι : List Addr) (F H : Hp) (S : zae) (v u : V) (x y : DV) (Q : VK), StR K ι F S H → WV K ι F v x → WV K ι F u y →
  Post K mg E ι F H (o x y S) (fun dv ι' F' H' => ∀ z, WV K ι' F' z dv → Q z H') → r v u H Q
section
variable {X : Cx} {W : WX} {e a b c : Expr} {es : List Expr} {pos p : Pos} {K : PySem.W.Frag} {ι : List Addr} {F H : Hp} {S : zae}
theorem Ret.same {c : D} {Q : VK} (h : Ret K ι F H S c Q) (st : StR K ι F S H) {z : V} (w : Wd K F z c) : Q z H := h z F H .refl st w
theorem Ret.tup {ds : List D} {vs : List V} {Q : VK} (h : Ret K ι F H S (.tup ds) Q) (st : StR K ι F S H) (w : WdA K F vs ds) {p : Addr} (hp : H p = none) : Q (.ref p) (upd H p (.tup vs)) :=
  h _ _ _ (zd1 st.sub hp _) (st.push hp _) (.tup (.of upd_same) (w.mono (zdk st.sub hp _)))
theorem Ret.lst {ds : List D} {vs : List V} {Q : VK} (h : Ret K ι F H S (.lst ds) Q) (st : StR K ι F S H) (w : WdA K F vs ds) {p : Addr} (hp : H p = none) : Q (.ref p) (upd H p (.lst vs)) :=
  h _ _ _ (zd1 st.sub hp _) (st.push hp _) (.lst upd_same (w.mono (zdk st.sub hp _)))
theorem zh0 {r : R2} {f : D → D → Option D} (h : ∀ (ι : List Addr) (F H : Hp) (S : zae) (v u : V) (a b c : D) (Q : VK), StR K ι F S H → Vw K F H v a → Vw K F H u b → f a b = some c → Ret K ι F H S c Q → r v u H Q) : OpOk K r (o2 f) := by
  intro mg E ι F H S v u x y Q st wx wy q
  unfold o2 at q
  cases ex : rd S x with
  | none => rw [ex] at q; exact q.elim
  | some a =>
    cases ey : rd S y with
    | none => rw [ex, ey] at q; exact q.elim
    | some b =>
      rw [ex, ey] at q
      cases ec : f a b with
      | none => simp only [ec, res1] at q; exact q.elim
      | some c =>
        simp only [ec, res1] at q
        exact h ι F H S v u a b c Q st (st.vw wx ex) (st.vw wy ey) ec fun z F' H' g st' w => q ι F' H' g st' z w
theorem zau {op : Operator} {r : R2} {o : Op2} {f g : XFn} (ho : OpR X (binaryOp op) r) (k : OpOk X.K r o) (ha : DE X W a f) (hb : DE X W b g) : DE X W (.BinOp a op b pos) (x2 o f g) := by
  refine ⟨PE.weak (pe_op ho ha.pe hb.pe) fun σ H Q ⟨ι, F, ρ, S, r0, h⟩ => ?_⟩
  refine tD.bind (g := fun ρ x S1 => (g ρ S1).bind fun y S2 => o x y S2) r0 h fun v dv ι1 F1 S1 H1 r1 w1 g1 h1 => ?_
  refine tD.bind (g := fun ρ y S2 => o dv y S2) r1 h1 fun u du ι2 F2 S2 H2 r2 w2 g2 h2 => ?_
  exact k _ _ ι2 F2 H2 S2 v u dv du Q r2.st (w1.grow g2) w2 h2
theorem zgq {op : CmpOp} {r : R2} {o : Op2} {f g : XFn} (ho : OpR X (compareOp op) r) (k : OpOk X.K r o) (ha : DE X W a f) (hb : DE X W b g) (hm : behindInMarks op b = false := by rfl) : DE X W (.Compare a [op] [b] pos) (x2 o f g) := by
  refine ⟨PE.weak (pe_cmpR ho ha.pe hb.pe hm) fun σ H Q ⟨ι, F, ρ, S, r0, h⟩ => ?_⟩
  refine tD.bind (g := fun ρ x S1 => (g ρ S1).bind fun y S2 => o x y S2) r0 h fun v dv ι1 F1 S1 H1 r1 w1 g1 h1 => ?_
  refine tD.bind (g := fun ρ y S2 => o dv y S2) r1 h1 fun u du ι2 F2 S2 H2 r2 w2 g2 h2 => ?_
  exact k _ _ ι2 F2 H2 S2 v u dv du Q r2.st (w1.grow g2) w2 h2
def zhx (o o' : Op2) (f g k : XFn) : XFn := fun ρ S => (f ρ S).bind fun x S1 => (g ρ S1).bind fun y S2 => (o x y S2).bind fun z S3 => match z with
  | .dat (.bl true) => (k ρ S3).bind fun w S4 => o' y w S4
  | .dat (.bl false) => .ok (.dat (.bl false)) S3
  | _ => .bad
def dAdd : D → D → Option D
  | .int i, .int j => some (.int (i + j))
  | .tup a, .tup b => if a.length + b.length ≤ sizeLine then some (.tup (a ++ b)) else none
  | .lst a, .lst b => if a.length + b.length ≤ sizeLine then some (.lst (a ++ b)) else none
  | .str a, .str b => if a.length + b.length ≤ sizeLine then some (.str (a ++ b)) else none
  | _, _ => none
abbrev rAddD (K : PySem.W.Frag) : R2 := fun x y H Q => (((rI0 fun i j => .int (i + j)) x y H Q ∨ rCatA K x y H Q) ∨ rCat x y H Q) ∨ (∃ i j, x = .str i ∧ y = .str j ∧ i.length + j.length ≤ sizeLine ∧ Q (.str (i ++ j)) H)
theorem zat : OpR X (binaryOp .Add) (rAddD X.K) := ((op_add.or op_catA).or op_cat).or op_add_str
theorem wda_nil {vs : List V} {ds : List D} (w : WdA K F vs ds) (h : vs = []) : ds = [] := by
  subst h; cases w; rfl
theorem zas : OpOk K (rAddD K) (o2 dAdd) := zh0 fun ι F H S v u a b c Q st va vb e q => by
  cases va with
  | int i =>
    cases vb <;> try cases e
    exact .inl (.inl (.inl ⟨_, _, rfl, rfl, q.same st (.int _)⟩))
  | str i =>
    cases vb with
    | str j =>
      simp only [dAdd] at e
      split at e
      · cases e; exact .inr ⟨_, _, rfl, rfl, by assumption, q.same st (.str _)⟩
      · cases e
    | _ => cases e
  | tup s w =>
    cases vb with
    | tup s' w' =>
      simp only [dAdd] at e
      split at e
      · rename_i hl
        cases e
        refine .inl (.inl (.inr ⟨_, _, _, _, rfl, rfl, zcj st.sub s, zcj st.sub s', by rw [w.length, w'.length]; exact hl, fun z => ?_, fun _ z => ?_, fun _ _ p hp => q.tup st (w.append w') hp⟩))
        · have := wda_nil w z; subst this
          exact q.same st (.tup s' w')
        · have := wda_nil w' z; subst this
          rw [List.append_nil] at q
          exact q.same st (.tup s w)
      · cases e
    | _ => cases e
  | lst s w =>
    cases vb with
    | lst s' w' =>
      simp only [dAdd] at e
      split at e
      · rename_i hl
        cases e
        exact .inl (.inr ⟨_, _, _, _, rfl, rfl, s, s', by rw [w.length, w'.length]; exact hl, fun p hp => q.lst st (w.append w') hp⟩)
      · cases e
    | _ => cases e
  | _ => cases vb <;> cases e
/-! ### ints -/
theorem i2_ok {g : Int → Int → D} {g' : Int → Int → V} {C : Int → Int → Prop} {f : D → D → Option D} (hg : ∀ i j K F, Wd K F (g' i j) (g i j))
    (hf : ∀ a b c, f a b = some c → ∃ i j, a = .int i ∧ b = .int j ∧ C i j ∧ c = g i j) : OpOk K (rI C g') (o2 f) := zh0 fun ι F H S v u a b c Q st va vb e q => by
  obtain ⟨i, j, rfl, rfl, hc, rfl⟩ := hf a b c e
  cases va; cases vb
  exact ⟨i, j, rfl, rfl, hc, q.same st (hg i j _ _)⟩
theorem i20_ok {g : Int → Int → D} {g' : Int → Int → V} {f : D → D → Option D} (hg : ∀ i j K F, Wd K F (g' i j) (g i j))
    (hf : ∀ a b c, f a b = some c → ∃ i j, a = .int i ∧ b = .int j ∧ c = g i j) : OpOk K (rI0 g') (o2 f) := zh0 fun ι F H S v u a b c Q st va vb e q => by
  obtain ⟨i, j, rfl, rfl, rfl⟩ := hf a b c e
  cases va; cases vb
  exact ⟨i, j, rfl, rfl, q.same st (hg i j _ _)⟩
def dSub : D → D → Option D
  | .int i, .int j => some (.int (i - j))
  | _, _ => none
def dMod : D → D → Option D
  | .int i, .int j => if 0 < j then some (.int (i % j)) else none
  | _, _ => none
def dDiv : D → D → Option D
  | .int i, .int j => if 0 < j ∧ j.natAbs.log2 < 9000 then some (.int (i / j)) else none
  | _, _ => none
def dPow : D → D → Option D
  | .int i, .int j => if 0 ≤ j ∧ j ≤ 1000000 ∧ i.natAbs < 2 ^ 64 then some (.int (i ^ j.toNat)) else none
  | _, _ => none
def dLt : D → D → Option D
  | .int i, .int j => some (.bl (decide (i < j)))
  | _, _ => none
def dLe : D → D → Option D
  | .int i, .int j => some (.bl (decide (i ≤ j)))
  | _, _ => none
def dGt : D → D → Option D
  | .int i, .int j => some (.bl (decide (i > j)))
  | _, _ => none
def dGe : D → D → Option D
  | .int i, .int j => some (.bl (decide (i ≥ j)))
  | _, _ => none
theorem dSub_ok : OpOk K (rI0 fun i j => .int (i - j)) (o2 dSub) := i20_ok (g := fun i j => .int (i - j)) (fun _ _ _ _ => .int _) (by
  intro a b c e
  cases a <;> cases b <;> simp only [dSub] at e <;> first | (cases e; done) | (cases e; exact ⟨_, _, rfl, rfl, rfl⟩) | (split at e <;> first | (cases e; done) | (cases e; exact ⟨_, _, rfl, rfl, by assumption, rfl⟩)))
theorem zc5 : OpOk K (rI (fun _ j => 0 < j) fun i j => .int (i % j)) (o2 dMod) := i2_ok (g := fun i j => .int (i % j)) (fun _ _ _ _ => .int _) (by
  intro a b c e
  cases a <;> cases b <;> simp only [dMod] at e <;> first | (cases e; done) | (cases e; exact ⟨_, _, rfl, rfl, rfl⟩) | (split at e <;> first | (cases e; done) | (cases e; exact ⟨_, _, rfl, rfl, by assumption, rfl⟩)))
theorem dDiv_ok : OpOk K (rI CDivW fun i j => .int (i / j)) (o2 dDiv) := i2_ok (g := fun i j => .int (i / j)) (fun _ _ _ _ => .int _) (by
  intro a b c e
  cases a <;> cases b <;> simp only [dDiv] at e <;> first | (cases e; done) | (cases e; exact ⟨_, _, rfl, rfl, rfl⟩) | (split at e <;> first | (cases e; done) | (cases e; exact ⟨_, _, rfl, rfl, by assumption, rfl⟩)))
theorem ze1 : OpOk K (rI CPow fun i j => .int (i ^ j.toNat)) (o2 dPow) := i2_ok (g := fun i j => .int (i ^ j.toNat)) (fun _ _ _ _ => .int _) (by
  intro a b c e
  cases a <;> cases b <;> simp only [dPow] at e <;> first | (cases e; done) | (cases e; exact ⟨_, _, rfl, rfl, rfl⟩) | (split at e <;> first | (cases e; done) | (cases e; exact ⟨_, _, rfl, rfl, by assumption, rfl⟩)))
theorem dLt_ok : OpOk K (rI0 fun i j => .bl (decide (i < j))) (o2 dLt) := i20_ok (g := fun i j => .bl (decide (i < j))) (fun _ _ _ _ => .bl _) (by
  intro a b c e
  cases a <;> cases b <;> simp only [dLt] at e <;> first | (cases e; done) | (cases e; exact ⟨_, _, rfl, rfl, rfl⟩) | (split at e <;> first | (cases e; done) | (cases e; exact ⟨_, _, rfl, rfl, by assumption, rfl⟩)))
theorem zje : OpOk K (rI0 fun i j => .bl (decide (i ≤ j))) (o2 dLe) := i20_ok (g := fun i j => .bl (decide (i ≤ j))) (fun _ _ _ _ => .bl _) (by
  intro a b c e
  cases a <;> cases b <;> simp only [dLe] at e <;> first | (cases e; done) | (cases e; exact ⟨_, _, rfl, rfl, rfl⟩) | (split at e <;> first | (cases e; done) | (cases e; exact ⟨_, _, rfl, rfl, by assumption, rfl⟩)))
theorem dGt_ok : OpOk K (rI0 fun i j => .bl (decide (i > j))) (o2 dGt) := i20_ok (g := fun i j => .bl (decide (i > j))) (fun _ _ _ _ => .bl _) (by
  intro a b c e
  cases a <;> cases b <;> simp only [dGt] at e <;> first | (cases e; done) | (cases e; exact ⟨_, _, rfl, rfl, rfl⟩) | (split at e <;> first | (cases e; done) | (cases e; exact ⟨_, _, rfl, rfl, by assumption, rfl⟩)))
theorem dGe_ok : OpOk K (rI0 fun i j => .bl (decide (i ≥ j))) (o2 dGe) := i20_ok (g := fun i j => .bl (decide (i ≥ j))) (fun _ _ _ _ => .bl _) (by
  intro a b c e
  cases a <;> cases b <;> simp only [dGe] at e <;> first | (cases e; done) | (cases e; exact ⟨_, _, rfl, rfl, rfl⟩) | (split at e <;> first | (cases e; done) | (cases e; exact ⟨_, _, rfl, rfl, by assumption, rfl⟩)))
def dMul : D → D → Option D
  | .int i, .int j => if i.natAbs.log2 + j.natAbs.log2 < 1000000 then some (.int (i * j)) else none
  | .lst a, .int k => if k ≤ 1000 ∧ -1000 ≤ k ∧ a.length * k.toNat ≤ sizeLine then some (.lst (List.replicate k.toNat a).flatten) else none
  | .tup a, .int k => if a ≠ [] ∧ 2 ≤ k ∧ k ≤ 1000 ∧ a.length ≤ 1000 then some (.tup (List.replicate k.toNat a).flatten) else none
  | _, _ => none
abbrev rMulD (K : PySem.W.Frag) : R2 := fun x y H Q => ((rI CMulW fun i j => .int (i * j)) x y H Q ∨ rRep x y H Q) ∨ rRepT K x y H Q
theorem op_mulD : OpR X (binaryOp .Mult) (rMulD X.K) := (op_mulW.or op_rep).or op_repT
theorem wda_rep {F : Hp} {vs : List V} {ds : List D} (w : WdA K F vs ds) : ∀ n : Nat, WdA K F (List.replicate n vs).flatten (List.replicate n ds).flatten
  | 0 => .nil
  | n + 1 => by
    rw [List.replicate_succ, List.replicate_succ, List.flatten_cons, List.flatten_cons]
    exact w.append (wda_rep w n)
theorem dMul_core {v u : V} {a b c : D} {Q : VK} (st : StR K ι F S H) (va : Vw K F H v a) (vb : Vw K F H u b) (e : dMul a b = some c) (q : Ret K ι F H S c Q) : rMulD K v u H Q := by
  cases va with
  | int i =>
    cases vb <;> try cases e
    simp only [dMul] at e
    split at e
    · cases e; exact .inl (.inl ⟨_, _, rfl, rfl, by assumption, q.same st (.int _)⟩)
    · cases e
  | lst s w =>
    cases vb <;> try cases e
    simp only [dMul] at e
    split at e
    · rename_i hl
      cases e
      refine .inl (.inr ⟨_, _, _, rfl, rfl, s, by omega, by omega, by rw [w.length]; exact hl.2.2, fun p hp => q.lst st (wda_rep w _) hp⟩)
    · cases e
  | tup s w =>
    cases vb <;> try cases e
    simp only [dMul] at e
    split at e
    · rename_i hl
      cases e
      refine .inr ⟨_, _, _, rfl, rfl, zcj st.sub s, fun z => hl.1 (wda_nil w z), hl.2.1, hl.2.2.1, by rw [w.length]; exact hl.2.2.2, fun p hp => q.tup st (wda_rep w _) hp⟩
    · cases e
  | _ => cases vb <;> cases e
/-! ### is None -/
def dIsN : D → D → Option D
  | a, .non => some (.bl (match a with | .non => true | _ => false))
  | _, _ => none
def zkc : D → D → Option D
  | a, .non => some (.bl (match a with | .non => false | _ => true))
  | _, _ => none
theorem zfm : OpOk K (fun x y H Q => y = .non ∧ Q (.bl (decide (x = .non))) H) (o2 dIsN) := zh0 fun ι F H S v u a b c Q st va vb e q => by
  cases vb <;> simp only [dIsN] at e <;> cases e
  refine ⟨rfl, ?_⟩
  cases va <;> exact q.same st (.bl _)
theorem zib : OpOk K (fun x y H Q => y = .non ∧ Q (.bl (!decide (x = .non))) H) (o2 zkc) := zh0 fun ι F H S v u a b c Q st va vb e q => by
  cases vb <;> simp only [zkc] at e <;> cases e
  refine ⟨rfl, ?_⟩
  cases va <;> exact q.same st (.bl _)
/-! ### == and in -/
mutual
def D.py : D → PyData
  | .non => .none
  | .bl b => .bool b
  | .int i => .int i
  | .str x => .str x
  | .lst xs => .list (D.pys xs)
  | .tup xs => .tuple (D.pys xs)
  | .cas _ => .dict []
  | .dct _ => .dict []
  | .ptr _ => .dict []
def D.pys : List D → List PyData
  | [] => []
  | x :: xs => D.py x :: D.pys xs
end
mutual
theorem Wd.dp {F : Hp} : ∀ {d : D} {v : V}, Wd K F v d → d.py.canLay0 = true → Dp K F v d.py
  | .non, _, h, _ => by cases h; exact .non
  | .bl _, _, h, _ => by cases h; exact .bl _
  | .int _, _, h, _ => by cases h; exact .int _
  | .str _, _, h, _ => by cases h; exact .str _
  | .lst ds, _, h, c => by
    cases h with
    | lst s a => exact .lst (.of s) (WdA.dp a c)
  | .tup ds, _, h, c => by
    cases h with
    | tup s a => exact .tup s (WdA.dp a c)
  | .cas _, _, _, c => by cases c
  | .dct _, _, _, c => by cases c
  | .ptr _, _, _, c => by cases c
theorem WdA.dp {F : Hp} : ∀ {ds : List D} {vs : List V}, WdA K F vs ds → PyData.canLayAll0 (D.pys ds) = true → DpAll K F vs (D.pys ds)
  | [], _, h, _ => by cases h; exact .nil
  | d :: ds, _, h, c => by
    simp only [D.pys, PyData.canLayAll0, Bool.and_eq_true] at c
    cases h with
    | cons a b => exact .cons (Wd.dp a c.1) (WdA.dp b c.2)
end
def dEqB (a b : D) : Bool := PyData.eqv a.py b.py
def canEq (a b : D) : Bool := a.py.canLay0 && b.py.canLay0 && decide (min a.py.depth b.py.depth ≤ 64)
def dEq (a b : D) : Option D := if canEq a b = true then some (.bl (dEqB a b)) else none
def dNe (a b : D) : Option D := if canEq a b = true then some (.bl (!dEqB a b)) else none
def rEqDD (K : PySem.W.Frag) : R2 := fun x y H Q => ∃ d e, Dp K H x d ∧ Dp K H y e ∧ d.canLay0 = true ∧ e.canLay0 = true ∧ min d.depth e.depth ≤ 64 ∧ Q (.bl (PyData.eqv d e)) H
def rNeDD (K : PySem.W.Frag) : R2 := fun x y H Q => ∃ d e, Dp K H x d ∧ Dp K H y e ∧ d.canLay0 = true ∧ e.canLay0 = true ∧ min d.depth e.depth ≤ 64 ∧ Q (.bl (!PyData.eqv d e)) H
theorem zbs (hu : X.A.units + 64 < cLine) : OpR X (compareOp .Eq) (rEqDD X.K) := by
  intro pins s σ H x y v u Q I rx ry ⟨d, e, hd, he, cd, ce, dp, q⟩
  obtain ⟨as, r1⟩ := Dp.reads I d x v hd rx
  obtain ⟨bs, r2⟩ := Dp.reads I e y u he ry
  exact SeqAt.compareEq_reads r1 r2 cd ce (by omega) ⟨.bl _, H, I, rfl, q⟩
theorem zfn (hu : X.A.units + 64 < cLine) : OpR X (compareOp .NotEq) (rNeDD X.K) := by
  intro pins s σ H x y v u Q I rx ry ⟨d, e, hd, he, cd, ce, dp, q⟩
  obtain ⟨as, r1⟩ := Dp.reads I d x v hd rx
  obtain ⟨bs, r2⟩ := Dp.reads I e y u he ry
  exact SeqAt.compareNe_reads r1 r2 cd ce (by omega) ⟨.bl _, H, I, rfl, q⟩
theorem zkn {a b : D} (h : canEq a b = true) : a.py.canLay0 = true ∧ b.py.canLay0 = true ∧ min a.py.depth b.py.depth ≤ 64 := by
  unfold canEq at h
  simp only [Bool.and_eq_true, decide_eq_true_eq] at h
  exact ⟨h.1.1, h.1.2, h.2⟩
theorem zce : OpOk K (rEqDD K) (o2 dEq) := zh0 fun ι F H S v u a b c Q st va vb e q => by
  unfold dEq at e
  split at e
  · rename_i h
    cases e
    obtain ⟨h1, h2, h3⟩ := zkn h
    exact ⟨_, _, (va.wd st.sub).dp h1, (vb.wd st.sub).dp h2, h1, h2, h3, q.same st (.bl _)⟩
  · cases e
theorem zih : OpOk K (rNeDD K) (o2 dNe) := zh0 fun ι F H S v u a b c Q st va vb e q => by
  unfold dNe at e
  split at e
  · rename_i h
    cases e
    obtain ⟨h1, h2, h3⟩ := zkn h
    exact ⟨_, _, (va.wd st.sub).dp h1, (vb.wd st.sub).dp h2, h1, h2, h3, q.same st (.bl _)⟩
  · cases e
end
end DL
set_option maxHeartbeats 4000000
namespace DL
open PySem PySem.Spec PyProof.Rows L2
variable [Mode]
section
variable {X : Cx} {W : WX} {e a b c : Expr} {es : List Expr} {pos p : Pos} {K : PySem.W.Frag} {ι : List Addr} {F H : Hp} {S : zae}
/-! ## in -/
def canIn (d : D) (xs : List D) : Bool := d.py.canLay0 && PyData.canLayAll0 (D.pys xs) && decide (min (PyData.depthAll (D.pys xs)) d.py.depth ≤ 64)
def dInB (d : D) (xs : List D) : Bool := xs.any fun z => dEqB z d
def dIn (d : D) : D → Option D
  | .lst xs => if canIn d xs = true then some (.bl (dInB d xs)) else none
  | .tup xs => if canIn d xs = true then some (.bl (dInB d xs)) else none
  | _ => none
def dNin (d : D) : D → Option D
  | .lst xs => if canIn d xs = true then some (.bl (!dInB d xs)) else none
  | .tup xs => if canIn d xs = true then some (.bl (!dInB d xs)) else none
  | _ => none
def rInDD (K : PySem.W.Frag) (neg : Bool) : R2 := fun x y H Q => ∃ d ds, Dp K H x d ∧ (Dp K H y (.list ds) ∨ Dp K H y (.tuple ds)) ∧ d.canLay0 = true ∧ PyData.canLayAll0 ds = true ∧ min (PyData.depthAll ds) d.depth ≤ 64 ∧ Q (.bl (if neg then !(ds.any fun z => PyData.eqv z d) else ds.any fun z => PyData.eqv z d)) H
theorem op_inDD (hu : X.A.units + 65 < cLine) : OpR X (compareOp .In) (rInDD X.K false) := by
  intro pins s σ H x y v u Q I rx ry ⟨d, ds, hd, he, cd, ce, dp, q⟩
  obtain ⟨as, r1⟩ := Dp.reads I d x v hd rx
  rcases he with he | he
  · obtain ⟨bs, r2⟩ := Dp.reads I (.list ds) y u he ry
    exact SeqAt.in_list_reads r2 r1 ce cd (by omega) ⟨.bl _, H, I, rfl, q⟩
  · obtain ⟨bs, r2⟩ := Dp.reads I (.tuple ds) y u he ry
    exact SeqAt.in_tuple_reads r2 r1 ce cd (by omega) ⟨.bl _, H, I, rfl, q⟩
theorem op_ninDD (hu : X.A.units + 65 < cLine) : OpR X (compareOp .NotIn) (rInDD X.K true) := by
  intro pins s σ H x y v u Q I rx ry ⟨d, ds, hd, he, cd, ce, dp, q⟩
  obtain ⟨as, r1⟩ := Dp.reads I d x v hd rx
  rcases he with he | he
  · obtain ⟨bs, r2⟩ := Dp.reads I (.list ds) y u he ry
    exact SeqAt.notIn_list_reads r2 r1 ce cd (by omega) ⟨.bl _, H, I, rfl, q⟩
  · obtain ⟨bs, r2⟩ := Dp.reads I (.tuple ds) y u he ry
    exact SeqAt.notIn_tuple_reads r2 r1 ce cd (by omega) ⟨.bl _, H, I, rfl, q⟩
theorem any_pys (d : D) : ∀ xs : List D, ((D.pys xs).any fun z => PyData.eqv z d.py) = dInB d xs
  | [] => rfl
  | x :: xs => by
    have h := any_pys d xs
    show (PyData.eqv x.py d.py || (D.pys xs).any fun z => PyData.eqv z d.py) = (dEqB x d || dInB d xs)
    rw [h]; rfl
theorem canIn_of {d : D} {xs : List D} (h : canIn d xs = true) : d.py.canLay0 = true ∧ PyData.canLayAll0 (D.pys xs) = true ∧ min (PyData.depthAll (D.pys xs)) d.py.depth ≤ 64 := by
  unfold canIn at h
  simp only [Bool.and_eq_true, decide_eq_true_eq] at h
  exact ⟨h.1.1, h.1.2, h.2⟩
theorem dIn_ok : OpOk K (rInDD K false) (o2 dIn) := zh0 fun ι F H S v u a b c Q st va vb e q => by
  have wb := (vb.wd st.sub).dp
  cases b <;> simp only [dIn] at e <;> first | (cases e; done) | skip
  all_goals
    split at e
    · rename_i h
      cases e
      obtain ⟨h1, h2, h3⟩ := canIn_of h
      refine ⟨_, _, (va.wd st.sub).dp h1, by first | exact .inl (wb h2) | exact .inr (wb h2), h1, h2, h3, ?_⟩
      rw [any_pys]
      exact q.same st (.bl _)
    · cases e
theorem dNin_ok : OpOk K (rInDD K true) (o2 dNin) := zh0 fun ι F H S v u a b c Q st va vb e q => by
  have wb := (vb.wd st.sub).dp
  cases b <;> simp only [dNin] at e <;> first | (cases e; done) | skip
  all_goals
    split at e
    · rename_i h
      cases e
      obtain ⟨h1, h2, h3⟩ := canIn_of h
      refine ⟨_, _, (va.wd st.sub).dp h1, by first | exact .inl (wb h2) | exact .inr (wb h2), h1, h2, h3, ?_⟩
      rw [any_pys]
      exact q.same st (.bl _)
    · cases e
/-! ## items, slices -/
def dIx : D → D → Option D
  | .lst xs, .int i => atI xs i
  | .tup xs, .int i => atI xs i
  | _, _ => none
theorem WdA.atI {vs : List V} {ds : List D} {i : Int} {d : D} (w : WdA K F vs ds) (h : L2.atI ds i = some d) : ∃ v, L2.atI vs i = some v ∧ Wd K F v d := by
  unfold L2.atI at h ⊢
  rw [w.length]
  cases q : ixN ds.length i with
  | none => rw [q] at h; cases h
  | some j => rw [q] at h; exact w.get' h
theorem za8 {f g : XFn} (ha : DE X W a f) (hb : DE X W b g) (hs : PlainIx b := by exact fun _ _ => rfl) : DE X W (.Subscript a b pos) (x2 (o2 dIx) f g) := by
  refine ⟨PE.weak (pe_ix (ix_list.or ix_tup) ha.pe hb.pe hs) fun σ H Q ⟨ι, F, ρ, S, r0, h⟩ => ?_⟩
  have k : OpOk X.K (fun x y H Q => rIxL X.K x y H Q ∨ rIxT X.K x y H Q) (o2 dIx) := zh0 fun ι F H S v u a b c Q st va vb e q => by
    cases va with
    | lst s w =>
      cases vb <;> try cases e
      obtain ⟨z, h1, h2⟩ := w.atI e
      exact .inl ⟨_, _, _, z, rfl, rfl, .of s, h1, q.same st h2⟩
    | tup s w =>
      cases vb <;> try cases e
      obtain ⟨z, h1, h2⟩ := w.atI e
      exact .inr ⟨_, _, _, z, rfl, rfl, zcj st.sub s, h1, q.same st h2⟩
    | _ => cases vb <;> cases e
  refine tD.bind (g := fun ρ x S1 => (g ρ S1).bind fun y S2 => o2 dIx x y S2) r0 h fun v dv ι1 F1 S1 H1 r1 w1 g1 h1 => ?_
  refine tD.bind (g := fun ρ y S2 => o2 dIx dv y S2) r1 h1 fun u du ι2 F2 S2 H2 r2 w2 g2 h2 => ?_
  exact k _ _ ι2 F2 H2 S2 v u dv du Q r2.st (w1.grow g2) w2 h2
abbrev PFn := zar → zae → Res (Option Int)
def tP (X : Cx) (W : WX) (f : PFn) : TO := fun σ H Q => ∃ ι F ρ S, RR X.K ι F ρ S σ H ∧ Post X.K X.mg (fun c d H' => W c d σ H') ι F H (f ρ S) fun o ι' F' H' => Q o H'
structure DP (X : Cx) (W : WX) (e : Option Expr) (f : PFn) : Prop where
  po : ∃ t, PO X e t ∧ ∀ σ H Q, tP X W f σ H Q → t σ H Q
def pNo : PFn := fun _ S => .ok none S
def asInt (x : DV) (S : zae) : Res (Option Int) := match x with
  | .dat (.int i) => .ok (some i) S
  | _ => .bad
def pEx (f : XFn) : PFn := fun ρ S => (f ρ S).bind asInt
theorem dp_no : DP X W none pNo := ⟨_, po_none, fun σ H Q ⟨ι, F, ρ, S, r, h⟩ => h ι F H .refl r.st⟩
theorem dp_ex {f : XFn} (h : DE X W e f) : DP X W (some e) (pEx f) := by
  refine ⟨_, po_some h.pe, fun σ H Q ⟨ι, F, ρ, S, r, h⟩ => ?_⟩
  refine tD.bind (g := fun _ => asInt) r h fun v dv ι1 F1 S1 H1 r1 w1 g1 h1 => ?_
  unfold asInt at h1
  split at h1
  · rename_i i
    have w1' : Wd X.K F1 v (.int i) := w1
    cases w1'
    exact ⟨i, rfl, h1 ι1 F1 H1 .refl r1.st⟩
  · exact h1.elim
theorem tP.bind {α : Type} {f : PFn} {g : zar → Option Int → zae → Res α} {σ : L2.St} {H : Hp} {R : Option Int → Hp → Prop} {Q : α → List Addr → Hp → Hp → Prop} {ι : List Addr} {F : Hp} {ρ : zar} {S : zae} (r : RR X.K ι F ρ S σ H)
    (h : Post X.K X.mg (fun c d H' => W c d σ H') ι F H ((f ρ S).bind (g ρ)) Q)
    (k : ∀ b ι1 F1 S1 H1, RR X.K ι1 F1 ρ S1 σ H1 → Grow ι F H ι1 F1 H1 → Post X.K X.mg (fun c d H' => W c d σ H') ι1 F1 H1 (g ρ b S1) Q → R b H1) : tP X W f σ H R := by
  refine ⟨ι, F, ρ, S, r, ?_⟩
  cases q : f ρ S with
  | ok b S1 =>
    rw [q] at h
    exact fun ι1 F1 H1 g1 st => k b ι1 F1 S1 H1 (r.slots g1 st) g1 (Post.grow (r := g ρ b S1) h g1)
  | ex c S1 => rw [q] at h; exact h
  | bad => rw [q] at h; exact h
def cutL {α : Type} (xs : List α) (lo hi : Option Int) : List α := (xs.drop (HT.sIx xs.length 0 lo)).take (HT.sIx xs.length xs.length hi - HT.sIx xs.length 0 lo)
theorem WdA.cut {vs : List V} {ds : List D} (w : WdA K F vs ds) (lo hi : Option Int) : WdA K F (cutV vs lo hi) (cutL ds lo hi) := by
  unfold cutV cutL
  rw [w.length]
  exact (w.drop _).take _
theorem cutL_map {α β : Type} (f : α → β) (xs : List α) (lo hi : Option Int) : cutL (xs.map f) lo hi = (cutL xs lo hi).map f := by
  unfold cutL
  rw [List.length_map, List.map_take, List.map_drop]
theorem zku : ∀ ns : List Int, WdA K F (ns.map V.int) (ns.map D.int)
  | [] => .nil
  | n :: ns => .cons (.int n) (zku ns)
def oSl (x : DV) (lo hi : Option Int) (S : zae) : Res DV := match x with
  | .scr ns => .ok (.dat (.lst ((cutL ns lo hi).map .int))) S
  | _ => match rd S x with
    | some (.lst xs) => .ok (.dat (.lst (cutL xs lo hi))) S
    | some (.tup xs) => .ok (.dat (.tup (cutL xs lo hi))) S
    | _ => .bad
def xSl (f : XFn) (l h : PFn) : XFn := fun ρ S => (f ρ S).bind fun x S1 => (l ρ S1).bind fun lo S2 => (h ρ S2).bind fun hi S3 => oSl x lo hi S3
theorem cutV_all (vs : List V) (lo hi : Option Int) (h : HT.sIx vs.length 0 lo = 0 ∧ HT.sIx vs.length vs.length hi = vs.length) : cutV vs lo hi = vs := by
  unfold cutV
  rw [h.1, h.2]
  simp
theorem de_sl {f : XFn} {l h : PFn} {lo hi : Option Expr} {p2 : Pos} (ha : DE X W e f) (hl : DP X W lo l) (hh : DP X W hi h) : DE X W (.Subscript e (.Slice lo hi none p2) pos) (xSl f l h) := by
  obtain ⟨tl, pl, kl⟩ := hl.po
  obtain ⟨th, ph, kh⟩ := hh.po
  refine ⟨PE.weak (pe_slice (sl_list.or sl_tupA) ha.pe pl ph) fun σ H Q ⟨ι, F, ρ, S, r, h0⟩ => ?_⟩
  refine tD.bind (g := fun ρ x S1 => (l ρ S1).bind fun lo S2 => (h ρ S2).bind fun hi S3 => oSl x lo hi S3) r h0 fun v dv ι1 F1 S1 H1 r1 w1 g1 h1 => ?_
  refine kl _ _ _ (tP.bind (g := fun ρ lo S2 => (h ρ S2).bind fun hi S3 => oSl dv lo hi S3) r1 h1 fun lo ι2 F2 S2 H2 r2 g2 h2 => ?_)
  refine kh _ _ _ (tP.bind (g := fun ρ hi S3 => oSl dv lo hi S3) r2 h2 fun hi ι3 F3 S3 H3 r3 g3 h3 => ?_)
  have w3 : WV X.K ι3 F3 v dv := (w1.grow g2).grow g3
  have st := r3.st
  have fin : ∀ d, rd S3 dv = some d → Post X.K X.mg (fun c d H' => W c d σ H') ι3 F3 H3 (match some d with
    | some (.lst xs) => Res.ok (.dat (.lst (cutL xs lo hi))) S3
    | some (.tup xs) => .ok (.dat (.tup (cutL xs lo hi))) S3
    | _ => .bad) (fun dv ι' F' H' => ∀ v, WV X.K ι' F' v dv → Q v H') → rSlL X.K v lo hi H3 Q ∨ rSlA X.K v lo hi H3 Q := fun d ed h3 => by
    have vw := st.vw w3 ed
    cases vw with
    | lst s w =>
      have q : Ret X.K ι3 F3 H3 S3 (.lst (cutL _ lo hi)) Q := fun z F' H' g st' w => h3 ι3 F' H' g st' z w
      exact .inl ⟨_, _, rfl, .of s, fun p hp => q.lst st (w.cut lo hi) hp⟩
    | tup s w =>
      have q : Ret X.K ι3 F3 H3 S3 (.tup (cutL _ lo hi)) Q := fun z F' H' g st' w => h3 ι3 F' H' g st' z w
      refine .inr ⟨_, _, rfl, zcj st.sub s, fun z => ?_, fun _ p hp => q.tup st (w.cut lo hi) hp⟩
      have wc := w.cut lo hi
      rw [cutV_all _ _ _ z] at wc
      exact q.same st (.tup s wc)
    | _ => exact h3.elim
  unfold oSl at h3
  cases dv with
  | scr ns =>
    obtain ⟨a, rfl, hs⟩ := w3
    have q : Ret X.K ι3 F3 H3 S3 (.lst ((cutL ns lo hi).map .int)) Q := fun z F' H' g st' w => h3 ι3 F' H' g st' z w
    refine .inl ⟨a, _, rfl, st.sub.seq hs, fun p hp => q.lst st ?_ hp⟩
    show WdA X.K F3 (cutL (ns.map V.int) lo hi) _
    rw [cutL_map]
    exact zku _
  | dat d => exact fin d rfl h3
  | obj k =>
    cases ed : rd S3 (.obj k) with
    | none => simp only [ed] at h3; exact h3.elim
    | some d => simp only [ed] at h3; exact fin d ed h3
  | exn c p => exact h3.elim
  | fn _ => exact h3.elim
  | spc _ => exact h3.elim
/-! ## built-in functions -/
abbrev OpN := List DV → zae → Res DV
def xN (o : OpN) (f : AFn) : XFn := fun ρ S => (f ρ S).bind o
def zgu (K : PySem.W.Frag) (r : List V → Hp → VK → Prop) (o : OpN) : Prop := ∀ (mg : Str → Option Value) (E : XK) (ι : List Addr) (F H : Hp) (S : zae) (vs : List V) (ds : List DV) (Q : VK), StR K ι F S H → WVs K ι F vs ds →
  Post K mg E ι F H (o ds S) (fun dv ι' F' H' => ∀ z, WV K ι' F' z dv → Q z H') → r vs H Q
theorem zax {r : List V → Hp → VK → Prop} {o : OpN} {f : AFn} {x : Str} {id : String} (hc : CallR X (.builtin id) r) (k : zgu X.K r o) (hm : X.mg x = none) (hv : bootBuiltins x = some (.builtin id)) (ha : DA X W (e :: es) f) (hg : Gl X x := by rfl) (hn : x ≠ "__name__" := by decide) (hdb : (x == ("__debug__" : Str)) = false := by decide)
    (he : starEach (e :: es) X.env = (false, eval e X.env) :: starEach es X.env := by rfl) (hpl : (backTo pos (starEach es X.env)).any (·.1) = false := by rfl) : DE X W (.Call (.Name x p) (e :: es) [] pos) (xN o f) := by
  refine ⟨PE.weak (pe_callB hc hg hm hv ha.pa hn hdb he hpl) fun σ H Q ⟨ι, F, ρ, S, r, h⟩ => ?_⟩
  exact tA.bind (g := fun _ => o) r h fun vs ds ι1 F1 S1 H1 r1 w1 g1 h1 => k _ _ ι1 F1 H1 S1 vs ds Q r1.st w1 h1
theorem zbb {r : List V → Hp → VK → Prop} {o : OpN} {f : AFn} {x : Str} {T : String} (hc : CallR X (.type T) r) (k : zgu X.K r o) (hm : X.mg x = none) (hv : bootBuiltins x = some (.type T)) (ha : DA X W (e :: es) f) (hg : Gl X x := by rfl) (hn : x ≠ "__name__" := by decide) (hdb : (x == ("__debug__" : Str)) = false := by decide)
    (he : starEach (e :: es) X.env = (false, eval e X.env) :: starEach es X.env := by rfl) (hpl : (backTo pos (starEach es X.env)).any (·.1) = false := by rfl) : DE X W (.Call (.Name x p) (e :: es) [] pos) (xN o f) := by
  refine ⟨PE.weak (pe_callTy hc hg hm hv ha.pa hn hdb he hpl) fun σ H Q ⟨ι, F, ρ, S, r, h⟩ => ?_⟩
  exact tA.bind (g := fun _ => o) r h fun vs ds ι1 F1 S1 H1 r1 w1 g1 h1 => k _ _ ι1 F1 H1 S1 vs ds Q r1.st w1 h1
def o1 (f : D → Option D) : OpN := fun ds S => match ds with
  | [x] => (match rd S x with
    | some a => res1 (f a) S
    | none => .bad)
  | _ => .bad
theorem o1_ok {r : List V → Hp → VK → Prop} {f : D → Option D} (h : ∀ (ι : List Addr) (F H : Hp) (S : zae) (v : V) (a c : D) (Q : VK), StR K ι F S H → Vw K F H v a → f a = some c → Ret K ι F H S c Q → r [v] H Q) : zgu K r (o1 f) := by
  intro mg E ι F H S vs ds Q st ws q
  unfold o1 at q
  cases ws with
  | nil => exact q.elim
  | cons w ws =>
    cases ws with
    | cons _ _ => exact q.elim
    | nil =>
      rename_i v dv
      cases ex : rd S dv with
      | none => simp only [ex] at q; exact q.elim
      | some a =>
        simp only [ex] at q
        cases ec : f a with
        | none => simp only [ec, res1] at q; exact q.elim
        | some c =>
          simp only [ec, res1] at q
          exact h ι F H S v a c Q st (st.vw w ex) ec fun z F' H' g st' w => q ι F' H' g st' z w
def dLen : D → Option D
  | .lst xs => some (.int xs.length)
  | .tup xs => some (.int xs.length)
  | .str x => if x.length ≤ sizeLine then some (.int x.length) else none
  | _ => none
theorem zby : zgu K (fun xs H Q => ∃ x n, xs = [x] ∧ LenV K x H n ∧ Q (.int n) H) (o1 dLen) := o1_ok fun ι F H S v a c Q st va e q => by
  cases va with
  | lst s w => cases e; rw [← w.length] at q; exact ⟨_, _, rfl, .inl ⟨_, .of s, rfl⟩, q.same st (.int _)⟩
  | tup s w => cases e; rw [← w.length] at q; exact ⟨_, _, rfl, .inr ⟨_, zcj st.sub s, rfl⟩, q.same st (.int _)⟩
  | str x =>
    simp only [dLen] at e
    split at e
    · cases e; exact ⟨_, _, rfl, ⟨by assumption, rfl⟩, q.same st (.int _)⟩
    · cases e
  | _ => cases e
def zfu : List D → Option (List Bool)
  | [] => some []
  | .bl b :: r => (zfu r).map (b :: ·)
  | _ :: _ => none
theorem zj5 : ∀ {ds : List D} {vs : List V} {bs : List Bool}, WdA K F vs ds → zfu ds = some bs → vs = bs.map V.bl
  | [], _, _, w, e => by cases w; cases e; rfl
  | d :: ds, _, _, w, e => by
    cases w with
    | cons a r =>
      cases d <;> simp only [zfu] at e <;> first | (cases e; done) | skip
      rename_i b
      cases q : zfu ds with
      | none => rw [q] at e; cases e
      | some cs =>
        rw [q] at e; cases e
        have h := zj5 r q
        cases a
        rw [h]; rfl
def dAll : D → Option D
  | .lst xs => (zfu xs).map fun bs => .bl (bs.all id)
  | _ => none
theorem zgb : zgu K (rAll K) (o1 dAll) := o1_ok fun ι F H S v a c Q st va e q => by
  cases va <;> simp only [dAll] at e <;> first | (cases e; done) | skip
  rename_i s w
  cases z : zfu _ with
  | none => rw [z] at e; cases e
  | some bs =>
    rw [z] at e; cases e
    exact ⟨_, bs, rfl, by rw [← zj5 w z]; exact .of s, q.same st (.bl _)⟩
def zfa : List D → Option (List Int)
  | [] => some []
  | .int b :: r => (zfa r).map (b :: ·)
  | _ :: _ => none
theorem intsOf_ok : ∀ {ds : List D} {vs : List V} {bs : List Int}, WdA K F vs ds → zfa ds = some bs → vs = bs.map V.int
  | [], _, _, w, e => by cases w; cases e; rfl
  | d :: ds, _, _, w, e => by
    cases w with
    | cons a r =>
      cases d <;> simp only [zfa] at e <;> first | (cases e; done) | skip
      rename_i b
      cases q : zfa ds with
      | none => rw [q] at e; cases e
      | some cs =>
        rw [q] at e; cases e
        have h := intsOf_ok r q
        cases a
        rw [h]; rfl
def dInt : D → Option D
  | .int i => some (.int i)
  | .bl b => some (.int (if b then 1 else 0))
  | _ => none
theorem zc6 : zgu K (fun xs H Q => (∃ i, xs = [.int i] ∧ Q (.int i) H) ∨ ∃ k, xs = [.bl k] ∧ Q (.int (if k then 1 else 0)) H) (o1 dInt) := o1_ok fun ι F H S v a c Q st va e q => by
  cases va <;> cases e
  · exact .inr ⟨_, rfl, q.same st (.int _)⟩
  · exact .inl ⟨_, rfl, q.same st (.int _)⟩
def zjg : D → Option D
  | .lst xs => some (.lst xs)
  | .tup xs => some (.lst xs)
  | _ => none
theorem zif : zgu K (fun xs H Q => ∃ p ys, xs = [.ref p] ∧ (SqL K H p ys ∨ SqT K H p ys) ∧ ∀ l, H l = none → Q (.ref l) (upd H l (.lst ys))) (o1 zjg) := o1_ok fun ι F H S v a c Q st va e q => by
  cases va with
  | lst s w => cases e; exact ⟨_, _, rfl, .inl (.of s), fun l hl => q.lst st w hl⟩
  | tup s w => cases e; exact ⟨_, _, rfl, .inr (zcj st.sub s), fun l hl => q.lst st w hl⟩
  | _ => cases e
def zfl : D → Option D
  | .lst xs => some (.tup xs)
  | .tup xs => some (.tup xs)
  | _ => none
theorem zfh : zgu K (fun xs H Q => ∃ p ys, xs = [.ref p] ∧ ((SqL K H p ys ∧ ∀ l, H l = none → Q (.ref l) (upd H l (.tup ys))) ∨ (SqT K H p ys ∧ Q (.ref p) H))) (o1 zfl) := o1_ok fun ι F H S v a c Q st va e q => by
  cases va with
  | lst s w => cases e; exact ⟨_, _, rfl, .inl ⟨.of s, fun l hl => q.tup st w hl⟩⟩
  | tup s w => cases e; exact ⟨_, _, rfl, .inr ⟨zcj st.sub s, q.same st (.tup s w)⟩⟩
  | _ => cases e
end
end DL
set_option maxHeartbeats 4000000
namespace DL
open PySem PySem.Spec PyProof.Rows L2
variable [Mode]
section
variable {X : Cx} {W : WX} {e a b c : Expr} {es : List Expr} {pos p : Pos} {K : PySem.W.Frag} {ι : List Addr} {F H : Hp} {S : zae}
/-! ## and, or, not, conditional expressions; tests -/
def xAnd (f g : XFn) : XFn := fun ρ S => (f ρ S).bind fun x S1 => match x with
  | .dat (.bl true) => g ρ S1
  | .dat (.bl false) => .ok (.dat (.bl false)) S1
  | _ => .bad
def xOr (f g : XFn) : XFn := fun ρ S => (f ρ S).bind fun x S1 => match x with
  | .dat (.bl false) => g ρ S1
  | .dat (.bl true) => .ok (.dat (.bl true)) S1
  | _ => .bad
def nDV (x : DV) (S : zae) : Res DV := match x with
  | .dat (.bl c) => .ok (.dat (.bl (!c))) S
  | _ => .bad
def xNot (f : XFn) : XFn := fun ρ S => (f ρ S).bind nDV
theorem zir {op : BoolOp} {f : XFn} (h : DE X W a f) : DE X W (.BoolOp op [a] pos) f := ⟨pe_one h.pe⟩
theorem de_and {f g : XFn} {rest : List Expr} (ha : DE X W a f) (hb : DE X W (.BoolOp .And (b :: rest) pos) g) : DE X W (.BoolOp .And (a :: b :: rest) pos) (xAnd f g) := by
  refine ⟨PE.weak (pe_and ha.pe hb.pe) fun σ H Q ⟨ι, F, ρ, S, r, h⟩ => ?_⟩
  refine tD.bind (g := fun ρ x S1 => match x with
    | .dat (.bl true) => g ρ S1
    | .dat (.bl false) => .ok (.dat (.bl false)) S1
    | _ => .bad) r h fun v dv ι1 F1 S1 H1 r1 w1 g1 h1 => ?_
  split at h1
  · have w' : Wd X.K F1 v (.bl true) := w1
    cases w'
    exact ⟨true, rfl, by rw [if_pos rfl]; exact ⟨ι1, F1, ρ, S1, r1, h1⟩⟩
  · have w' : Wd X.K F1 v (.bl false) := w1
    cases w'
    exact ⟨false, rfl, by rw [if_neg (by simp)]; exact h1 ι1 F1 H1 .refl r1.st _ (.bl _)⟩
  · exact h1.elim
theorem de_or {f g : XFn} {rest : List Expr} (ha : DE X W a f) (hb : DE X W (.BoolOp .Or (b :: rest) pos) g) : DE X W (.BoolOp .Or (a :: b :: rest) pos) (xOr f g) := by
  refine ⟨PE.weak (pe_or ha.pe hb.pe) fun σ H Q ⟨ι, F, ρ, S, r, h⟩ => ?_⟩
  refine tD.bind (g := fun ρ x S1 => match x with
    | .dat (.bl false) => g ρ S1
    | .dat (.bl true) => .ok (.dat (.bl true)) S1
    | _ => .bad) r h fun v dv ι1 F1 S1 H1 r1 w1 g1 h1 => ?_
  split at h1
  · have w' : Wd X.K F1 v (.bl false) := w1
    cases w'
    exact ⟨false, rfl, by rw [if_neg (by simp)]; exact ⟨ι1, F1, ρ, S1, r1, h1⟩⟩
  · have w' : Wd X.K F1 v (.bl true) := w1
    cases w'
    exact ⟨true, rfl, by rw [if_pos rfl]; exact h1 ι1 F1 H1 .refl r1.st _ (.bl _)⟩
  · exact h1.elim
theorem de_not {f : XFn} (ha : DE X W a f) : DE X W (.UnaryOp .Not a pos) (xNot f) := by
  refine ⟨PE.weak (pe_not ha.pe) fun σ H Q ⟨ι, F, ρ, S, r, h⟩ => ?_⟩
  refine tD.bind (g := fun _ => nDV) r h fun v dv ι1 F1 S1 H1 r1 w1 g1 h1 => ?_
  unfold nDV at h1
  split at h1
  · rename_i c
    have w' : Wd X.K F1 v (.bl c) := w1
    cases w'
    exact ⟨_, rfl, h1 ι1 F1 H1 .refl r1.st _ (.bl _)⟩
  · exact h1.elim
def zjk (x : DV) (S : zae) : Res Bool := match rd S x with
  | some .non => .ok false S
  | some (.bl b) => .ok b S
  | some (.int i) => .ok (i != 0) S
  | some (.lst xs) => .ok (!xs.isEmpty) S
  | some (.tup xs) => .ok (!xs.isEmpty) S
  | _ => .bad
def tTr (f : XFn) : TFn := fun ρ S => (f ρ S).bind zjk
theorem wda_empty {vs : List V} {ds : List D} (w : WdA K F vs ds) : vs.isEmpty = ds.isEmpty := by
  cases w <;> rfl
theorem zeb {f : XFn} (h : DE X W a f) (he : ∀ whole, isTrue a X.env whole = (do let v ← whole; standAt a.pos; holding [v] (truthy v)) := by intro _; rfl) : DT X W a (tTr f) := by
  refine ⟨PT.weak (pt_truth h.pe he) fun σ H Q ⟨ι, F, ρ, S, r, h⟩ => ?_⟩
  refine tD.bind (g := fun _ => zjk) r h fun v dv ι1 F1 S1 H1 r1 w1 g1 h1 => ?_
  unfold zjk at h1
  cases ed : rd S1 dv with
  | none => rw [ed] at h1; exact h1.elim
  | some d =>
    rw [ed] at h1
    have vw := r1.st.vw w1 ed
    cases vw with
    | non => exact ⟨false, rfl, h1 ι1 F1 H1 .refl r1.st⟩
    | bl b => exact ⟨b, rfl, h1 ι1 F1 H1 .refl r1.st⟩
    | int i => exact ⟨i != 0, rfl, h1 ι1 F1 H1 .refl r1.st⟩
    | str x => exact h1.elim
    | cas x => exact h1.elim
    | dct x => exact h1.elim
    | lst s w => exact ⟨_, .inl ⟨_, .of s, rfl⟩, by rw [wda_empty w]; exact h1 ι1 F1 H1 .refl r1.st⟩
    | tup s w => exact ⟨_, .inr (.inl ⟨_, zcj r1.st.sub s, rfl⟩), by rw [wda_empty w]; exact h1 ι1 F1 H1 .refl r1.st⟩
def tNo (f : TFn) : TFn := fun ρ S => (f ρ S).bind fun b S1 => .ok (!b) S1
def tAn (f g : TFn) : TFn := fun ρ S => (f ρ S).bind fun b S1 => if b then g ρ S1 else .ok false S1
def tOr_ (f g : TFn) : TFn := fun ρ S => (f ρ S).bind fun b S1 => if b then .ok true S1 else g ρ S1
theorem zci {f : TFn} (h : DT X W a f) : DT X W (.UnaryOp .Not a pos) (tNo f) := by
  refine ⟨PT.weak (pt_not h.pt) fun σ H Q ⟨ι, F, ρ, S, r, h⟩ => ?_⟩
  exact tT.bind (g := fun _ b S1 => .ok (!b) S1) r h fun b ι1 F1 S1 H1 r1 g1 h1 => h1 ι1 F1 H1 .refl r1.st
theorem dw_and1 {f : TFn} (h : DT X W a f) : DW X W (.BoolOp .And [a] pos) f := ⟨pw_and1 h.pt⟩
theorem zf3 {f : TFn} (h : DT X W a f) : DW X W (.BoolOp .Or [a] pos) f := ⟨pw_or1 h.pt⟩
theorem dw_and {f g : TFn} {rest : List Expr} (ha : DT X W a f) (hb : DW X W (.BoolOp .And (b :: rest) pos) g) : DW X W (.BoolOp .And (a :: b :: rest) pos) (tAn f g) := by
  refine ⟨PW.weak (pw_and ha.pt hb.pw) fun σ H Q ⟨ι, F, ρ, S, r, h⟩ => ?_⟩
  refine tT.bind (g := fun ρ b S1 => if b then g ρ S1 else .ok false S1) r h fun b ι1 F1 S1 H1 r1 g1 h1 => ?_
  cases b with
  | true => rw [if_pos rfl]; exact ⟨ι1, F1, ρ, S1, r1, h1⟩
  | false => rw [if_neg (by simp)]; exact h1 ι1 F1 H1 .refl r1.st
theorem zh7 {f g : TFn} {rest : List Expr} (ha : DT X W a f) (hb : DW X W (.BoolOp .Or (b :: rest) pos) g) : DW X W (.BoolOp .Or (a :: b :: rest) pos) (tOr_ f g) := by
  refine ⟨PW.weak (pw_or ha.pt hb.pw) fun σ H Q ⟨ι, F, ρ, S, r, h⟩ => ?_⟩
  refine tT.bind (g := fun ρ b S1 => if b then .ok true S1 else g ρ S1) r h fun b ι1 F1 S1 H1 r1 g1 h1 => ?_
  cases b with
  | true => rw [if_pos rfl]; exact h1 ι1 F1 H1 .refl r1.st
  | false => rw [if_neg (by simp)]; exact ⟨ι1, F1, ρ, S1, r1, h1⟩
theorem DW.dt {f : TFn} (h : DW X W a f) : DT X W a f := ⟨h.pw.pt⟩
def xIf (t : TFn) (f g : XFn) : XFn := fun ρ S => (t ρ S).bind fun b S1 => if b then f ρ S1 else g ρ S1
theorem de_if {t : TFn} {f g : XFn} (hc : DT X W c t) (ha : DE X W a f) (hb : DE X W b g) : DE X W (.IfExp c a b pos) (xIf t f g) := by
  refine ⟨PE.weak (pe_ifExp hc.pt ha.pe hb.pe) fun σ H Q ⟨ι, F, ρ, S, r, h⟩ => ?_⟩
  refine tT.bind (g := fun ρ b S1 => if b then f ρ S1 else g ρ S1) r h fun b ι1 F1 S1 H1 r1 g1 h1 => ?_
  cases b with
  | true => rw [if_pos rfl]; exact ⟨ι1, F1, ρ, S1, r1, h1⟩
  | false => rw [if_neg (by simp)]; exact ⟨ι1, F1, ρ, S1, r1, h1⟩
theorem de_chain {op op' : CmpOp} {r r' : R2} {o o' : Op2} {f g k : XFn} (ho : OpR X (compareOp op) r) (ho' : OpR X (compareOp op') r') (k1 : OpOk X.K r o) (k2 : OpOk X.K r' o') (ha : DE X W a f) (hb : DE X W b g) (hc : DE X W c k)
    (hm : lastMarks [op, op'] [b, c] = false := by rfl) : DE X W (.Compare a [op, op'] [b, c] pos) (zhx o o' f g k) := by
  refine ⟨PE.weak (pe_chain ho ho' ha.pe hb.pe hc.pe hm) fun σ H Q ⟨ι, F, ρ, S, r0, h⟩ => ?_⟩
  refine tD.bind (g := fun ρ x S1 => (g ρ S1).bind fun y S2 => (o x y S2).bind fun z S3 => match z with
    | .dat (.bl true) => (k ρ S3).bind fun w S4 => o' y w S4
    | .dat (.bl false) => .ok (.dat (.bl false)) S3
    | _ => .bad) r0 h fun v dv ι1 F1 S1 H1 r1 w1 g1 h1 => ?_
  refine tD.bind (g := fun ρ y S2 => (o dv y S2).bind fun z S3 => match z with
    | .dat (.bl true) => (k ρ S3).bind fun w S4 => o' y w S4
    | .dat (.bl false) => .ok (.dat (.bl false)) S3
    | _ => .bad) r1 h1 fun u du ι2 F2 S2 H2 r2 w2 g2 h2 => ?_
  refine k1 X.mg (fun c d H' => W c d σ H') ι2 F2 H2 S2 v u dv du _ r2.st (w1.grow g2) w2 ?_
  cases q : o dv du S2 with
  | ex c S3 => rw [q] at h2; exact h2
  | bad => rw [q] at h2; exact h2
  | ok z S3 =>
    rw [q] at h2
    intro ι3 F3 H3 g3 st3 zv wz
    have h3 := Post.grow (r := (match z with
      | .dat (.bl true) => (k ρ S3).bind fun w S4 => o' du w S4
      | .dat (.bl false) => .ok (.dat (.bl false)) S3
      | _ => .bad)) h2 g3
    have r3 := r2.slots g3 st3
    split at h3
    · have w' : Wd X.K F3 zv (.bl true) := wz
      cases w'
      refine ⟨true, rfl, ?_⟩
      rw [if_pos rfl]
      refine tD.bind (g := fun ρ w S4 => o' du w S4) r3 h3 fun t dt ι4 F4 S4 H4 r4 w4 g4 h4 => ?_
      exact k2 _ _ ι4 F4 H4 S4 u t du dt Q r4.st ((w2.grow g3).grow g4) w4 h4
    · have w' : Wd X.K F3 zv (.bl false) := wz
      cases w'
      exact ⟨false, rfl, by rw [if_neg (by simp)]; exact h3 ι3 F3 H3 .refl st3 _ (.bl _)⟩
    · exact h3.elim
end
/-! ## statements -/
inductive RS where
  | nx (ρ : zar) (S : zae) | rt (v : DV) (S : zae) | bk (ρ : zar) (S : zae) | ct (ρ : zar) (S : zae) | ex (c : XC) (ρ : zar) (S : zae) | bad
abbrev SFn := zar → zae → RS
def PostS (K : PySem.W.Frag) (mg : Str → Option Value) (W : WX) (ι : List Addr) (F H : Hp) (r : RS) (D : Ends) : Prop := match r with
  | .nx ρ' S' => ∀ σ' ι' F' H', Grow ι F H ι' F' H' → RR K ι' F' ρ' S' σ' H' → D.nx σ' H'
  | .rt dv S' => ∀ v ι' F' H', Grow ι F H ι' F' H' → StR K ι' F' S' H' → WV K ι' F' v dv → D.rt v H'
  | .bk ρ' S' => ∀ σ' ι' F' H', Grow ι F H ι' F' H' → RR K ι' F' ρ' S' σ' H' → D.bk σ' H'
  | .ct ρ' S' => ∀ σ' ι' F' H', Grow ι F H ι' F' H' → RR K ι' F' ρ' S' σ' H' → D.ct σ' H'
  | .ex c ρ' S' => ∀ (C : Addr × Option Addr) σ' ι' F' H', Grow ι F H ι' F' H' → RR K ι' F' ρ' S' σ' H' → XIs K mg F' c C → W (.ref C.1) C.2 σ' H'
  | .bad => False
def tS (X : Cx) (W : WX) (f : SFn) : TS := fun D σ H => ∃ ι F ρ S, RR X.K ι F ρ S σ H ∧ PostS X.K X.mg W ι F H (f ρ S) D
structure DS (X : Cx) (W : WX) (st : Stmt) (f : SFn) : Prop where
  ps : ∃ t, PS X st t ∧ ∀ D σ H, tS X W f D σ H → t D σ H
structure DSs (X : Cx) (W : WX) (st : List Stmt) (f : SFn) : Prop where
  ps : ∃ t, PSs X st t ∧ ∀ D σ H, tS X W f D σ H → t D σ H
section
variable {X : Cx} {W : WX} {e a b c : Expr} {es : List Expr} {pos p : Pos} {K : PySem.W.Frag} {ι : List Addr} {F H : Hp} {S : zae} {mg : Str → Option Value}
theorem PostS.grow {r : RS} {D : Ends} {ι1 : List Addr} {F1 H1 : Hp} (h : PostS K mg W ι F H r D) (g : Grow ι F H ι1 F1 H1) : PostS K mg W ι1 F1 H1 r D := by
  cases r with
  | nx ρ' S' => exact fun σ' ι' F' H' g' r => h σ' ι' F' H' (g.trans g') r
  | bk ρ' S' => exact fun σ' ι' F' H' g' r => h σ' ι' F' H' (g.trans g') r
  | ct ρ' S' => exact fun σ' ι' F' H' g' r => h σ' ι' F' H' (g.trans g') r
  | rt dv S' => exact fun v ι' F' H' g' st w => h v ι' F' H' (g.trans g') st w
  | ex c ρ' S' => exact fun C σ' ι' F' H' g' r m => h C σ' ι' F' H' (g.trans g') r m
  | bad => exact h
def Res.bindS {α : Type} (r : Res α) (ρ : zar) (f : α → zae → RS) : RS := match r with
  | .ok a S => f a S
  | .ex c S => .ex c ρ S
  | .bad => .bad
@[simp] theorem Res.bindS_ok {α : Type} (a : α) (S : zae) (ρ : zar) (f : α → zae → RS) : (Res.ok a S).bindS ρ f = f a S := rfl
@[simp] theorem Res.bindS_ex {α : Type} (c : XC) (S : zae) (ρ : zar) (f : α → zae → RS) : (Res.ex c S : Res α).bindS ρ f = .ex c ρ S := rfl
@[simp] theorem Res.bindS_bad {α : Type} (ρ : zar) (f : α → zae → RS) : (Res.bad : Res α).bindS ρ f = .bad := rfl
theorem tD.bindS {f : XFn} {g : zar → DV → zae → RS} {σ : L2.St} {H : Hp} {R : VK} {D : Ends} {ι : List Addr} {F : Hp} {ρ : zar} {S : zae} (r : RR X.K ι F ρ S σ H)
    (h : PostS X.K X.mg W ι F H ((f ρ S).bindS ρ (g ρ)) D)
    (k : ∀ v dv ι1 F1 S1 H1, RR X.K ι1 F1 ρ S1 σ H1 → WV X.K ι1 F1 v dv → Grow ι F H ι1 F1 H1 → PostS X.K X.mg W ι1 F1 H1 (g ρ dv S1) D → R v H1) : tD X W f σ H R := by
  refine ⟨ι, F, ρ, S, r, ?_⟩
  cases q : f ρ S with
  | ok dv S1 =>
    rw [q] at h
    exact fun ι1 F1 H1 g1 st v wv => k v dv ι1 F1 S1 H1 (r.slots g1 st) wv g1 (PostS.grow (r := g ρ dv S1) h g1)
  | ex c S1 => rw [q] at h; exact fun C ι' F' H' g' st m => h C σ ι' F' H' g' (r.slots g' st) m
  | bad => rw [q] at h; exact h
theorem tT.bindS {f : TFn} {g : zar → Bool → zae → RS} {σ : L2.St} {H : Hp} {R : Bool → Hp → Prop} {D : Ends} {ι : List Addr} {F : Hp} {ρ : zar} {S : zae} (r : RR X.K ι F ρ S σ H)
    (h : PostS X.K X.mg W ι F H ((f ρ S).bindS ρ (g ρ)) D)
    (k : ∀ b ι1 F1 S1 H1, RR X.K ι1 F1 ρ S1 σ H1 → Grow ι F H ι1 F1 H1 → PostS X.K X.mg W ι1 F1 H1 (g ρ b S1) D → R b H1) : tT X W f σ H R := by
  refine ⟨ι, F, ρ, S, r, ?_⟩
  cases q : f ρ S with
  | ok b S1 =>
    rw [q] at h
    exact fun ι1 F1 H1 g1 st => k b ι1 F1 S1 H1 (r.slots g1 st) g1 (PostS.grow (r := g ρ b S1) h g1)
  | ex c S1 => rw [q] at h; exact fun C ι' F' H' g' st m => h C σ ι' F' H' g' (r.slots g' st) m
  | bad => rw [q] at h; exact h
theorem RR.set {ρ : zar} {σ : L2.St} (r : RR K ι F ρ S σ H) {v : V} {dv : DV} (w : WV K ι F v dv) (i : Nat) : RR K ι F (ρ.set i (some dv)) S (σ.set i (some v)) H := by
  refine ⟨r.st, by simp [r.len], fun j d e => ?_⟩
  by_cases h : i = j
  · subst h
    rw [List.getElem?_set] at e ⊢
    rw [← r.len]
    split at e
    · split at e
      · rename_i h2
        simp at e; subst e
        exact ⟨v, by simp [h2], w⟩
      · cases e
    · rename_i h2; exact absurd rfl h2
  · rw [List.getElem?_set_ne h] at e ⊢
    exact r.slot j d e
theorem RR.unset {ρ : zar} {σ : L2.St} (r : RR K ι F ρ S σ H) (i : Nat) : RR K ι F (ρ.set i none) S (σ.set i none) H := by
  refine ⟨r.st, by simp [r.len], fun j d e => ?_⟩
  by_cases h : i = j
  · subst h
    rw [List.getElem?_set] at e
    split at e
    · split at e <;> cases e
    · rename_i h2; exact absurd rfl h2
  · rw [List.getElem?_set_ne h] at e ⊢
    exact r.slot j d e
def sNil : SFn := fun ρ S => .nx ρ S
def sSeq (f g : SFn) : SFn := fun ρ S => match f ρ S with
  | .nx ρ' S' => g ρ' S'
  | r => r
theorem zaq : DSs X W [] sNil := ⟨_, pss_nil, fun D σ H ⟨ι, F, ρ, S, r, h⟩ => h σ ι F H .refl r⟩
theorem tS.seq {f g : SFn} {D : Ends} {σ : L2.St} {H : Hp} (h : tS X W (sSeq f g) D σ H) : tS X W f { D with nx := tS X W g D } σ H := by
  obtain ⟨ι, F, ρ, S, r, h⟩ := h
  refine ⟨ι, F, ρ, S, r, ?_⟩
  unfold sSeq at h
  cases q : f ρ S with
  | nx ρ' S' => rw [q] at h; exact fun σ' ι' F' H' g' r' => ⟨ι', F', ρ', S', r', PostS.grow (r := g ρ' S') h g'⟩
  | rt dv S' => rw [q] at h; exact h
  | bk ρ' S' => rw [q] at h; exact h
  | ct ρ' S' => rw [q] at h; exact h
  | ex c ρ' S' => rw [q] at h; exact h
  | bad => rw [q] at h; exact h
theorem tS.mono {f : SFn} {D D' : Ends} {σ : L2.St} {H : Hp} (h : tS X W f D σ H) (k1 : ∀ σ H, D.nx σ H → D'.nx σ H) (k2 : ∀ v H, D.rt v H → D'.rt v H) (k3 : ∀ σ H, D.bk σ H → D'.bk σ H) (k4 : ∀ σ H, D.ct σ H → D'.ct σ H) : tS X W f D' σ H := by
  obtain ⟨ι, F, ρ, S, r, h⟩ := h
  refine ⟨ι, F, ρ, S, r, ?_⟩
  cases q : f ρ S with
  | nx ρ' S' => rw [q] at h; exact fun σ' ι' F' H' g' r' => k1 _ _ (h σ' ι' F' H' g' r')
  | rt dv S' => rw [q] at h; exact fun v ι' F' H' g' st w => k2 _ _ (h v ι' F' H' g' st w)
  | bk ρ' S' => rw [q] at h; exact fun σ' ι' F' H' g' r' => k3 _ _ (h σ' ι' F' H' g' r')
  | ct ρ' S' => rw [q] at h; exact fun σ' ι' F' H' g' r' => k4 _ _ (h σ' ι' F' H' g' r')
  | ex c ρ' S' => rw [q] at h; exact h
  | bad => rw [q] at h; exact h
theorem zaf {st : Stmt} {rest : List Stmt} {f g : SFn} (h : DS X W st f) (k : DSs X W rest g) : DSs X W (st :: rest) (sSeq f g) := by
  obtain ⟨t, p, i⟩ := h.ps
  obtain ⟨u, q, j⟩ := k.ps
  exact ⟨_, pss_cons p q, fun D σ H h => i _ σ H (h.seq.mono (fun σ H => j D σ H) (fun _ _ x => x) (fun _ _ x => x) (fun _ _ x => x))⟩
theorem zaj {st : Stmt} {f : SFn} (h : DS X W st f) : DSs X W [st] f := let ⟨t, p, i⟩ := h.ps; ⟨t, pss_one p, i⟩
def sRet (f : XFn) : SFn := fun ρ S => (f ρ S).bindS ρ fun v S1 => .rt v S1
theorem zao {f : XFn} (h : DE X W e f) : DS X W (.Return (some e) pos) (sRet f) :=
  ⟨_, ps_ret h.pe, fun D σ H ⟨ι, F, ρ, S, r, h⟩ => tD.bindS (g := fun _ v S1 => .rt v S1) r h fun v dv ι1 F1 S1 H1 r1 w1 g1 h1 => h1 v ι1 F1 H1 .refl r1.st w1⟩
def sSet (i : Nat) (f : XFn) : SFn := fun ρ S => (f ρ S).bindS ρ fun v S1 => .nx (ρ.set i (some v)) S1
theorem za1 {i : Nat} {x : Str} {f : XFn} {p2 : Pos} (h : DE X W e f) (hN : X.N.Nodup) (hi : X.N[i]? = some x := by rfl) (hx : Loc X.env.scope x := by first | exact .inl rfl | exact .inr rfl) (hs : swapsWith e (some (.Name x p2)) pos.line X.env = pure false := by rfl)
    (hf : X.fn x = true ∨ X.env.scope.names.lookup x = some .local := by exact .inl rfl) (hs2 : swapsWithSole [.Name x p2] e pos.line X.env = pure false := by rfl) : DS X W (.Assign [.Name x p2] e pos) (sSet i f) :=
  ⟨_, ps_asg h.pe (pg_name hN hi hx hf) hs2, fun D σ H ⟨ι, F, ρ, S, r, h⟩ => tD.bindS (g := fun ρ v S1 => .nx (ρ.set i (some v)) S1) r h fun v dv ι1 F1 S1 H1 r1 w1 g1 h1 => h1 _ ι1 F1 H1 .refl (r1.set w1 i)⟩
def zc9 (f : XFn) : SFn := fun ρ S => (f ρ S).bindS ρ fun _ S1 => .nx ρ S1
theorem zbq {f : XFn} (h : DE X W e f) (hs : swapsWith e none pos.line X.env = pure false := by rfl) : DS X W (.Expr e pos) (zc9 f) :=
  ⟨_, ps_expr h.pe hs, fun D σ H ⟨ι, F, ρ, S, r, h⟩ => tD.bindS (g := fun ρ v S1 => .nx ρ S1) r h fun v dv ι1 F1 S1 H1 r1 w1 g1 h1 => h1 _ ι1 F1 H1 .refl r1⟩
def sIf (t : TFn) (f g : SFn) : SFn := fun ρ S => (t ρ S).bindS ρ fun b S1 => if b then f ρ S1 else g ρ S1
theorem zbt {t : TFn} {f g : SFn} {sa sb : List Stmt} (hc : DT X W c t) (ha : DSs X W sa f) (hb : DSs X W sb g) : DS X W (.If c sa sb pos) (sIf t f g) := by
  obtain ⟨t1, p1, i1⟩ := ha.ps
  obtain ⟨t2, p2, i2⟩ := hb.ps
  refine ⟨_, ps_if hc.pt p1 p2, fun D σ H ⟨ι, F, ρ, S, r, h⟩ => ?_⟩
  refine tT.bindS (g := fun ρ b S1 => if b then f ρ S1 else g ρ S1) r h fun b ι1 F1 S1 H1 r1 g1 h1 => ?_
  cases b with
  | true => rw [if_pos rfl]; exact i1 _ _ _ ⟨ι1, F1, ρ, S1, r1, h1⟩
  | false => rw [if_neg (by simp)]; exact i2 _ _ _ ⟨ι1, F1, ρ, S1, r1, h1⟩
end
end DL
set_option maxHeartbeats 4000000
namespace DL
open PySem PySem.Spec PyProof.Rows L2
variable [Mode]
section
variable {X : Cx} {W : WX} {e a b c : Expr} {es : List Expr} {pos p : Pos} {K : PySem.W.Frag} {ι : List Addr} {F H : Hp} {S : zae} {mg : Str → Option Value}
/-! ## lists of the store -/
def AtF (ι : List Addr) (k : Nat) (a : Addr) : Prop := ι[k]? = some a ∧ IsFst ι k
theorem StR.put (st : StR K ι F S H) {k : Nat} {a : Addr} {us : List V} {vs : List V} {ds : List D} (hk : AtF ι k a) (hF : F a = none) (hH : H a = some (.lst us)) (w : WdA K F vs ds) : StR K ι F (S.set k (some ds)) (upd H a (.lst vs)) := by
  refine ⟨fun b u e => ?_, by simp [st.len], st.nd, fun b hb => zfy (st.full b hb), fun j es e fi => ?_, fun j es e nf => ?_, st.tb.lst hH _, st.tf, fun j es e nf => by
    have hkj : k ≠ j := fun z => nf (z ▸ hk.2)
    rw [List.getElem?_set_ne hkj] at e
    exact st.snd j es e nf⟩
  · have n : b ≠ a := fun z => by rw [z, hF] at e; cases e
    rw [upd_ne n]; exact st.sub b u e
  · by_cases h : k = j
    · subst h
      rw [List.getElem?_set] at e
      split at e
      · split at e
        · simp at e; subst e
          exact ⟨a, vs, hk.1, upd_same, hF, w⟩
        · cases e
      · rename_i h2; exact absurd rfl h2
    · rw [List.getElem?_set_ne h] at e
      obtain ⟨a', vs', h1, h2, h3, h4⟩ := st.cell j es e fi
      have n : a' ≠ a := fun z => by
        subst z
        exact h (IsFst.one hk.2 fi hk.1 h1)
      exact ⟨a', vs', h1, by rw [upd_ne n]; exact h2, h3, h4⟩
  · have h : k ≠ j := fun z => nf (z ▸ hk.2)
    rw [List.getElem?_set_ne h] at e
    obtain ⟨a', h1, h2⟩ := st.spec j es e nf
    refine ⟨a', h1, h2.move List.prefix_rfl (Same.refl _) fun o e nl _ => ⟨?_, fun f => f⟩⟩
    have n : a' ≠ a := fun z => by
      rw [z, hH] at e; cases e; exact nl _ rfl
    rw [upd_ne n]; exact e
theorem grow_put {k : Nat} {a : Addr} {o : HO} (hk : AtF ι k a) : Grow ι F H ι F (upd H a o) := by
  have m : a ∈ ι := List.mem_of_getElem? hk.1
  exact ⟨List.prefix_rfl, Same.refl _, fun b u e _ n => by rw [upd_ne (fun z => n (by rw [z]; exact m))]; exact e, fun b u e _ _ f _ => f, fun b h => .inl h, fun b h => zbu h⟩
theorem StR.freeze (st : StR K ι F S H) {k : Nat} {a : Addr} {vs : List V} (hk : AtF ι k a) (hF : F a = none) (hH : H a = some (.lst vs)) : StR K ι (upd F a (.lst vs)) (S.set k none) H ∧ Grow ι F H ι (upd F a (.lst vs)) H ∧ Same F (upd F a (.lst vs)) := by
  have m : a ∈ ι := List.mem_of_getElem? hk.1
  have s : Same F (upd F a (.lst vs)) := fun b u e => by rw [upd_ne (fun z => by rw [z, hF] at e; cases e)]; exact e
  refine ⟨⟨fun b u e => ?_, by simp [st.len], st.nd, st.full, fun j es e fi => ?_, fun j es e nf => ?_, st.tb, st.tb.off st.tf (fun ps z => by rw [hH] at z; cases z) _, fun j es e nf => by
    have hkj : k ≠ j := fun z => nf (z ▸ hk.2)
    rw [List.getElem?_set_ne hkj] at e
    exact st.snd j es e nf⟩, ⟨List.prefix_rfl, s, fun b u e _ n => e, fun b u e _ _ f n => by rw [upd_ne (fun z => n (by rw [z]; exact m))]; exact f, fun b h => .inl h, fun b h => h⟩, s⟩
  · by_cases h : b = a
    · subst h; rw [upd_same] at e; rw [hH]; exact e
    · rw [upd_ne h] at e; exact st.sub b u e
  · by_cases h : k = j
    · subst h
      rw [List.getElem?_set] at e
      split at e
      · split at e <;> cases e
      · rename_i h2; exact absurd rfl h2
    · rw [List.getElem?_set_ne h] at e
      obtain ⟨a', vs', h1, h2, h3, h4⟩ := st.cell j es e fi
      have n : a' ≠ a := fun z => by
        subst z
        exact h (IsFst.one hk.2 fi hk.1 h1)
      exact ⟨a', vs', h1, h2, by rw [upd_ne n]; exact h3, h4.mono s⟩
  · have h : k ≠ j := fun z => nf (z ▸ hk.2)
    rw [List.getElem?_set_ne h] at e
    obtain ⟨a', h1, h2⟩ := st.spec j es e nf
    refine ⟨a', h1, h2.move List.prefix_rfl s fun o e nl _ => ⟨e, fun f => ?_⟩⟩
    have n : a' ≠ a := fun z => by
      rw [z, hH] at e; cases e; exact nl _ rfl
    rw [upd_ne n]; exact f
theorem StR.add (st : StR K ι F S H) {p : Addr} {vs : List V} {ds : List D} (hH : H p = some (.lst vs)) (hF : F p = none) (hι : p ∉ ι) (w : WdA K F vs ds) : StR K (ι ++ [p]) F (S ++ [some ds]) H := by
  refine ⟨st.sub, by simp [st.len], fun m => List.nodup_append.mpr ⟨st.nd m, by simp, fun x hx y hy => by simp at hy; subst hy; exact fun z => hι (z ▸ hx)⟩, fun b hb => by
    rcases List.mem_append.mp hb with h | h
    · exact st.full b h
    · simp at h; subst h; rw [hH]; simp, fun j es e fi => ?_, fun j es e nf => ?_, st.tb, st.tf, fun j es e nf => ?_⟩
  rotate_left 2
  · by_cases h : j < S.length
    · rw [List.getElem?_append_left h] at e
      have h' : j < ι.length := by rw [st.len]; exact h
      exact (IsSnd.pre (List.prefix_append _ _) h').mpr (st.snd j es e fun z => nf ((IsFst.pre (List.prefix_append _ _) h').mpr z))
    · have h' := (List.getElem?_eq_some_iff.mp e).1
      simp at h'
      have : j = S.length := by omega
      subst this
      exact absurd (by rw [← st.len]; exact IsFst.new hι) nf
  · by_cases h : j < S.length
    · rw [List.getElem?_append_left h] at e
      have h' : j < ι.length := by rw [st.len]; exact h
      obtain ⟨a', vs', h1, h2, h3, h4⟩ := st.cell j es e ((IsFst.pre (List.prefix_append _ _) h').mp fi)
      exact ⟨a', vs', by rw [List.getElem?_append_left h']; exact h1, h2, h3, h4⟩
    · have h' := (List.getElem?_eq_some_iff.mp e).1
      simp at h'
      have : j = S.length := by omega
      subst this
      simp at e
      subst e
      exact ⟨p, vs, by rw [← st.len]; simp, hH, hF, w⟩
  · by_cases h : j < S.length
    · rw [List.getElem?_append_left h] at e
      have h' : j < ι.length := by rw [st.len]; exact h
      obtain ⟨a', h1, h2⟩ := st.spec j es e fun z => nf ((IsFst.pre (List.prefix_append _ _) h').mpr z)
      exact ⟨a', by rw [List.getElem?_append_left h']; exact h1, h2.move (List.prefix_append _ _) (Same.refl _) fun o e _ _ => ⟨e, fun f => f⟩⟩
    · have h' := (List.getElem?_eq_some_iff.mp e).1
      simp at h'
      have : j = S.length := by omega
      subst this
      exact absurd (by rw [← st.len]; exact IsFst.new hι) nf
theorem StR.own (st : StR K ι F S H) {p : Addr} {vs : List V} (hH : H p = some (.lst vs)) (hF : F p = none) (hι : p ∉ ι) (u : HO) : StR K ι F S (upd H p u) :=
  ⟨fun b o e => by rw [upd_ne (fun z => by rw [z, hF] at e; cases e)]; exact st.sub b o e, st.len, st.nd, fun b hb => zfy (st.full b hb), fun k es e fi =>
    let ⟨a', vs', h1, h2, h3, h4⟩ := st.cell k es e fi
    ⟨a', vs', h1, by rw [upd_ne (fun z => hι (by rw [← z]; exact List.mem_of_getElem? h1))]; exact h2, h3, h4⟩, fun k es e nf =>
    let ⟨a', h1, h2⟩ := st.spec k es e nf
    ⟨a', h1, h2.move List.prefix_rfl (Same.refl _) fun o e _ _ => ⟨by rw [upd_ne (fun z => hι (by rw [← z]; exact List.mem_of_getElem? h1))]; exact e, fun f => f⟩⟩, st.tb.lst hH _, st.tf, st.snd⟩
theorem wv_new {p : Addr} {n : Nat} (hι : p ∉ ι) (hn : ι.length = n) : WV K (ι ++ [p]) F (.ref p) (.obj n) := by
  subst hn
  exact ⟨p, by simp, rfl, IsFst.new hι⟩
/-! ### new lists -/
abbrev LFn := zar → zae → Res (List D)
def tN (X : Cx) (W : WX) (f : LFn) : TE := fun σ H Q => ∃ ι F ρ S, RR X.K ι F ρ S σ H ∧ Post X.K X.mg (fun c d H' => W c d σ H') ι F H (f ρ S) fun ds ι' F' H' =>
  ∀ p vs, H p = none → H' p = some (.lst vs) → F' p = none → p ∉ ι' → WdA X.K F' vs ds → Q (.ref p) H'
structure NE (X : Cx) (W : WX) (e : Expr) (f : LFn) : Prop where
  pe : PE X e (tN X W f)
def xN1 (f : LFn) : XFn := fun ρ S => (f ρ S).bind fun ds S1 => .ok (.dat (.lst ds)) S1
theorem grow_freeze {ι' : List Addr} {F' H' : Hp} (g : Grow ι F H ι' F' H') {p : Addr} {o : HO} (hp : H p = none) (hF : F' p = none) : Grow ι F H ι' (upd F' p o) H' :=
  ⟨g.pre, fun b u e => by rw [upd_ne (fun z => by have := g.sf b u e; rw [z, hF] at this; cases this)]; exact g.sf b u e, g.keep, fun b u e t t2 f n => by rw [upd_ne (fun z => by rw [z, hp] at e; cases e)]; exact g.new b u e t t2 f n, g.nio, g.dom⟩
theorem StR.frz (st : StR K ι F S H) {p : Addr} {vs : List V} (hH : H p = some (.lst vs)) (hF : F p = none) (hι : p ∉ ι) : StR K ι (upd F p (.lst vs)) S H ∧ Same F (upd F p (.lst vs)) := by
  have s : Same F (upd F p (.lst vs)) := fun b u e => by rw [upd_ne (fun z => by rw [z, hF] at e; cases e)]; exact e
  refine ⟨⟨fun b u e => ?_, st.len, st.nd, st.full, fun j es e fi => ?_, fun j es e nf => ?_, st.tb, st.tb.off st.tf (fun ps z => by rw [hH] at z; cases z) _, st.snd⟩, s⟩
  · by_cases h : b = p
    · subst h; rw [upd_same] at e; rw [hH]; exact e
    · rw [upd_ne h] at e; exact st.sub b u e
  · obtain ⟨a', vs', h1, h2, h3, h4⟩ := st.cell j es e fi
    have n : a' ≠ p := fun z => hι (z ▸ List.mem_of_getElem? h1)
    exact ⟨a', vs', h1, h2, by rw [upd_ne n]; exact h3, h4.mono s⟩
  · obtain ⟨a', h1, h2⟩ := st.spec j es e nf
    have n : a' ≠ p := fun z => hι (z ▸ List.mem_of_getElem? h1)
    exact ⟨a', h1, h2.move List.prefix_rfl s fun o e _ _ => ⟨e, fun f => by rw [upd_ne n]; exact f⟩⟩
theorem tD.toN {f : LFn} {σ : L2.St} {H : Hp} {Q : VK} (h : tD X W (xN1 f) σ H Q) : tN X W f σ H Q := by
  obtain ⟨ι, F, ρ, S, r, h⟩ := h
  refine ⟨ι, F, ρ, S, r, ?_⟩
  unfold xN1 at h
  cases q : f ρ S with
  | bad => rw [q] at h; exact h
  | ex c S1 => rw [q] at h; exact h
  | ok ds S1 =>
    rw [q] at h
    intro ι' F' H' g st p vs hp hH hF hι w
    obtain ⟨st', s⟩ := st.frz hH hF hι
    exact h ι' _ H' (grow_freeze g hp hF) st' (.ref p) (.lst upd_same (w.mono s))
theorem NE.de {f : LFn} (h : NE X W e f) : DE X W e (xN1 f) := ⟨PE.weak h.pe fun σ H Q h => h.toN⟩
def sNew (i : Nat) (f : LFn) : SFn := fun ρ S => (f ρ S).bindS ρ fun ds S1 => .nx (ρ.set i (some (.obj S1.length))) (S1 ++ [some ds])
theorem zfz {ι' : List Addr} {F' H' : Hp} (g : Grow ι F H ι' F' H') {p : Addr} (hp : H p = none) : Grow ι F H (ι' ++ [p]) F' H' :=
  ⟨g.pre.trans (List.prefix_append _ _), g.sf, g.keep, g.new, fun b h => by
    rcases List.mem_append.mp h with h | h
    · exact g.nio b h
    · simp at h; subst h; exact .inr hp, g.dom⟩
theorem tS.new {i : Nat} {f : LFn} {D : Ends} {σ : L2.St} {H : Hp} (h : tS X W (sNew i f) D σ H) : tN X W f σ H fun v H1 => D.nx (σ.set i (some v)) H1 := by
  obtain ⟨ι, F, ρ, S, r, h⟩ := h
  refine ⟨ι, F, ρ, S, r, ?_⟩
  unfold sNew at h
  cases q : f ρ S with
  | bad => rw [q] at h; exact h
  | ex c S1 => rw [q] at h; exact fun C ι' F' H' g st m => h C σ ι' F' H' g (r.slots g st) m
  | ok ds S1 =>
    rw [q] at h
    intro ι' F' H' g st p vs hp hH hF hι w
    have r1 := r.slots (zfz g hp) (st.add hH hF hι w)
    exact h _ _ F' H' (zfz g hp) (r1.set (dv := .obj S1.length) (wv_new hι st.len) i)
theorem tS.set {i : Nat} {f : XFn} {D : Ends} {σ : L2.St} {H : Hp} (h : tS X W (sSet i f) D σ H) : tD X W f σ H fun v H1 => D.nx (σ.set i (some v)) H1 := by
  obtain ⟨ι, F, ρ, S, r, h⟩ := h
  exact tD.bindS (g := fun ρ v S1 => .nx (ρ.set i (some v)) S1) r h fun v dv ι1 F1 S1 H1 r1 w1 g1 h1 => h1 _ ι1 F1 H1 .refl (r1.set w1 i)
theorem zfi {i : Nat} {x : Str} {f : LFn} {p2 : Pos} (h : NE X W e f) (hN : X.N.Nodup) (hi : X.N[i]? = some x := by rfl) (hx : Loc X.env.scope x := by first | exact .inl rfl | exact .inr rfl)
    (hf : X.fn x = true ∨ X.env.scope.names.lookup x = some .local := by exact .inl rfl) (hs2 : swapsWithSole [.Name x p2] e pos.line X.env = pure false := by rfl) : DS X W (.Assign [.Name x p2] e pos) (sNew i f) :=
  ⟨_, ps_asg h.pe (pg_name hN hi hx hf) hs2, fun D σ H h => h.new⟩
def lLst (f : AFn) : LFn := fun ρ S => (f ρ S).bind fun ds S1 => match dats ds with
  | some xs => if xs.length ≤ sizeLine then .ok xs S1 else .bad
  | none => .bad
theorem ne_new {Q : VK} {ι1 : List Addr} {F1 H1 : Hp} {S1 : zae} {xs : List D} {vs : List V} {E : XK} (st : StR K ι1 F1 S1 H1) (g : Grow ι F H ι1 F1 H1)
    (h : Post K mg E ι1 F1 H1 (.ok xs S1) fun ds ι' F' H' => ∀ p vs, H p = none → H' p = some (.lst vs) → F' p = none → p ∉ ι' → WdA K F' vs ds → Q (.ref p) H')
    (w : WdA K F1 vs xs) {p : Addr} (hp : H1 p = none) : Q (.ref p) (upd H1 p (.lst vs)) := by
  have hF : F1 p = none := by
    cases q : F1 p with
    | none => rfl
    | some o => rw [st.sub p o q] at hp; cases hp
  exact h ι1 F1 _ (zda hp _) (st.alone hp _) p vs (g.dom p hp) upd_same hF (fun m => st.full p m hp) w
theorem ne_lst {f : AFn} (h : DA X W es f) : NE X W (.List es pos) (lLst f) := by
  refine ⟨PE.weak (pe_lst h.pa) fun σ H Q ⟨ι, F, ρ, S, r, h⟩ => ?_⟩
  refine tA.bind (g := fun _ ds S1 => match dats ds with
    | some xs => if xs.length ≤ sizeLine then .ok xs S1 else .bad
    | none => .bad) r h fun vs ds ι1 F1 S1 H1 r1 w1 g1 h1 => ?_
  cases q : dats ds with
  | none => simp only [q] at h1; exact h1.elim
  | some xs =>
    simp only [q] at h1
    have wx := w1.dats q
    by_cases hl : xs.length ≤ sizeLine
    · simp only [hl, if_true] at h1
      exact ⟨by rw [wx.length]; exact hl, fun p hp => ne_new r1.st g1 h1 wx hp⟩
    · simp only [hl, if_false] at h1; exact h1.elim
def lList (f : XFn) : LFn := fun ρ S => (f ρ S).bind fun x S1 => match rd S1 x with
  | some (.lst xs) => .ok xs S1
  | some (.tup xs) => .ok xs S1
  | _ => .bad
theorem ne_list {f : XFn} {p2 : Pos} (h : DE X W a f) (hm : X.mg "list" = none) (hg : Gl X "list" := by rfl)
    (he : starEach (a :: []) X.env = (false, eval a X.env) :: starEach [] X.env := by rfl) : NE X W (.Call (.Name "list" p) [a] [] pos) (lList f) := by
  refine ⟨PE.weak (pe_callTy call_list_of hg hm (by decide +kernel) (pa_cons h.pe pa_nil he) (by decide) (by decide) he rfl) fun σ H Q ⟨ι, F, ρ, S, r, h⟩ => ?_⟩
  refine tD.bind (g := fun _ x S1 => match rd S1 x with
    | some (.lst xs) => .ok xs S1
    | some (.tup xs) => .ok xs S1
    | _ => .bad) r h fun v dv ι1 F1 S1 H1 r1 w1 g1 h1 => ?_
  cases ed : rd S1 dv with
  | none => simp only [ed] at h1; exact h1.elim
  | some d =>
    have vw := r1.st.vw w1 ed
    cases vw with
    | lst s w => simp only [ed] at h1; exact ⟨_, _, rfl, .inl (.of s), fun l hl => ne_new r1.st g1 h1 w hl⟩
    | tup s w => simp only [ed] at h1; exact ⟨_, _, rfl, .inr (zcj r1.st.sub s), fun l hl => ne_new r1.st g1 h1 w hl⟩
    | _ => simp only [ed] at h1; exact h1.elim
/-! ### x.append(e) and its like: statements -/
def zcs (S : zae) : DV → Option (Nat × List D)
  | .obj k => match S[k]? with
    | some (some ds) => some (k, ds)
    | _ => none
  | _ => none
theorem zkr {S : zae} {x : DV} {k : Nat} {ds : List D} {v : V} (st : StR K ι F S H) (w : WV K ι F v x) (e : zcs S x = some (k, ds)) : ∃ a vs, v = .ref a ∧ AtF ι k a ∧ H a = some (.lst vs) ∧ F a = none ∧ WdA K F vs ds := by
  cases x with
  | dat d => cases e
  | scr ns => cases e
  | exn c p => cases e
  | fn _ => cases e
  | spc _ => cases e
  | obj j =>
    simp only [zcs] at e
    split at e
    · rename_i es q
      cases e
      obtain ⟨a, h1, h2, h0⟩ := w
      obtain ⟨a', vs, h3, h4, h5, h6⟩ := st.cell _ _ q h0
      rw [h1] at h3; cases h3
      exact ⟨a, vs, h2, ⟨h1, h0⟩, h4, h5, h6⟩
    · cases e
def putApp (x y : DV) (ρ : zar) (S : zae) : RS := match zcs S x, y with
  | some (k, ds), .dat d => if ds.length < sizeLine then .nx ρ (S.set k (some (ds ++ [d]))) else .bad
  | _, _ => .bad
def sApp (f g : XFn) : SFn := fun ρ S => (f ρ S).bindS ρ fun x S1 => match zcs S1 x with
  | some _ => (g ρ S1).bindS ρ fun y S2 => putApp x y ρ S2
  | none => .bad
theorem cell_view {S : zae} {x : DV} {z : Nat × List D} {v : V} (st : StR K ι F S H) (w : WV K ι F v x) (e : zcs S x = some z) : tyV K "list" v H := by
  obtain ⟨k, ds⟩ := z
  obtain ⟨a, vs, rfl, h1, h2, h3, h4⟩ := zkr st w e
  exact .inl ⟨rfl, vs, .of h2⟩
theorem zg8 {o : Expr} {f g : XFn} {apos : Pos} (ho : DE X W o f) (ha : DE X W a g)
    (hbase : attributeBase o "append" X.env (eval o X.env) = eval o X.env := by rfl)
    (hfew : ((backTo p (starEach (a :: []) X.env)).all (fun x => !x.1) && (backToKw p (keywordEach [] X.env)).all (fun x => x.1.isSome)
      && decide ((a :: []).length + ([] : List Keyword).length + (if ([] : List Keyword).isEmpty then 0 else 1) < 30)) = true := by rfl)
    (hline : (apos.endLine == p.line) = true := by rfl) (hse : starEach (a :: []) X.env = (false, eval a X.env) :: starEach [] X.env := by rfl)
    (hs : swapsWith (.Call (.Attribute o "append" apos) [a] [] p) none pos.line X.env = pure false := by rfl) :
    DS X W (.Expr (.Call (.Attribute o "append" apos) [a] [] p) pos) (sApp f g) := by
  refine ⟨_, ps_expr (pe_bm PySem.F.plainAttrs_list PySem.F.slot_list_append PySem.F.type_list_append mt_append ho.pe (pa_cons ha.pe pa_nil hse) hbase hfew hline hse rfl) hs, fun D σ H ⟨ι, F, ρ, S, r, h⟩ => ?_⟩
  refine tD.bindS (g := fun ρ x S1 => match zcs S1 x with
    | some _ => (g ρ S1).bindS ρ fun y S2 => putApp x y ρ S2
    | none => .bad) r h fun v dv ι1 F1 S1 H1 r1 w1 g1 h1 => ?_
  cases ec : zcs S1 dv with
  | none => simp only [ec] at h1; exact h1.elim
  | some z =>
    simp only [ec] at h1
    refine ⟨cell_view r1.st w1 ec, ?_⟩
    refine tD.bindS (g := fun ρ y S2 => putApp dv y ρ S2) r1 h1 fun u du ι2 F2 S2 H2 r2 w2 g2 h2 => ?_
    unfold putApp at h2
    cases ec2 : zcs S2 dv with
    | none => simp only [ec2] at h2; exact h2.elim
    | some z2 =>
      obtain ⟨k, ds⟩ := z2
      simp only [ec2] at h2
      cases du with
      | dat d =>
        simp only at h2
        split at h2
        · rename_i hl
          obtain ⟨a, vs, rfl, q1, q2, q3, q4⟩ := zkr r2.st (w1.grow g2) ec2
          refine ⟨a, vs, u, rfl, rfl, q2, by rw [q4.length]; exact hl, ?_⟩
          have gp := grow_put (F := F2) (H := H2) (o := .lst (vs ++ [u])) q1
          exact h2 σ ι2 F2 _ gp (r2.slots gp (r2.st.put q1 q3 q2 (q4.append (.cons w2 .nil))))
        · exact h2.elim
      | _ => exact h2.elim
end
end DL
set_option maxHeartbeats 4000000
namespace DL
open PySem PySem.Spec PyProof.Rows L2
variable [Mode]
section
variable {X : Cx} {W : WX} {e a b c : Expr} {es : List Expr} {pos p : Pos} {K : PySem.W.Frag} {ι : List Addr} {F H : Hp} {S : zae} {mg : Str → Option Value}
/-! ### x.insert(i, e) -/
/-! ### x[i] = e -/
def zhe (x i y : DV) (ρ : zar) (S : zae) : RS := match zcs S x, i, y with
  | some (k, ds), .dat (.int n), .dat d => (match ixN ds.length n with
    | some j => .nx ρ (S.set k (some (ds.set j d)))
    | none => .bad)
  | _, _, _ => .bad
def sPut (f i g : XFn) : SFn := fun ρ S => (g ρ S).bindS ρ fun y S1 => (f ρ S1).bindS ρ fun x S2 => (i ρ S2).bindS ρ fun n S3 => zhe x n y ρ S3
theorem zja {o : Expr} {f i g : XFn} {p2 : Pos} (ho : DE X W o f) (hi : DE X W a i) (hb : DE X W b g)
    (ha : ∀ v, assign (.Subscript o a p2) X.env v = (do
      let ov ← holding [v] (eval o X.env)
      let iv ← holding [v, ov] (eval a X.env)
      standAt p2
      holding [v, ov, iv] (setItem ov iv v)
      release [v, ov, iv] []) := by intro _; rfl)
    (hs : swapsWithSole [.Subscript o a p2] b pos.line X.env = pure false := by rfl) :
    DS X W (.Assign [.Subscript o a p2] b pos) (sPut f i g) := by
  refine ⟨_, ps_asg hb.pe (pg_sub ho.pe hi.pe set_list ha) hs, fun D σ H ⟨ι, F, ρ, S, r, h⟩ => ?_⟩
  refine tD.bindS (g := fun ρ y S1 => (f ρ S1).bindS ρ fun x S2 => (i ρ S2).bindS ρ fun n S3 => zhe x n y ρ S3) r h fun v dv ι1 F1 S1 H1 r1 w1 g1 h1 => ?_
  refine tD.bindS (g := fun ρ x S2 => (i ρ S2).bindS ρ fun n S3 => zhe x n dv ρ S3) r1 h1 fun o dx ι2 F2 S2 H2 r2 w2 g2 h2 => ?_
  refine tD.bindS (g := fun ρ n S3 => zhe dx n dv ρ S3) r2 h2 fun n dn ι3 F3 S3 H3 r3 w3 g3 h3 => ?_
  unfold zhe at h3
  cases ec2 : zcs S3 dx with
  | none => simp only [ec2] at h3; exact h3.elim
  | some z2 =>
    obtain ⟨k, ds⟩ := z2
    simp only [ec2] at h3
    cases dn with
    | dat d =>
      cases d with
      | int j =>
        have wj : Wd X.K F3 n (.int j) := w3
        cases wj
        cases dv with
        | dat d =>
          simp only at h3
          cases ej : ixN ds.length j with
          | none => simp only [ej] at h3; exact h3.elim
          | some m =>
            simp only [ej] at h3
            obtain ⟨a, vs, rfl, q1, q2, q3, q4⟩ := zkr r3.st (w2.grow g3) ec2
            refine ⟨a, vs, j, m, rfl, rfl, q2, by rw [q4.length]; exact ej, ?_⟩
            have gp := grow_put (F := F3) (H := H3) (o := .lst (vs.set m v)) q1
            exact h3 σ ι3 F3 _ gp (r3.slots gp (r3.st.put q1 q3 q2 (q4.set m ((w1.grow g2).grow g3))))
        | _ => exact h3.elim
      | _ => exact h3.elim
    | _ => exact h3.elim
/-! ### a list of the store is not changed any more: from here on it is data -/
def sFrz (i : Nat) : SFn := fun ρ S => match ρ[i]? with
  | some (some x) => (match zcs S x with
    | some (k, ds) => .nx (ρ.set i (some (.dat (.lst ds)))) (S.set k none)
    | none => .bad)
  | _ => .bad
theorem RR.frz {ρ : zar} {σ : L2.St} (r : RR K ι F ρ S σ H) {i : Nat} {x : DV} {k : Nat} {ds : List D} (h : ρ[i]? = some (some x)) (ec : zcs S x = some (k, ds)) :
    ∃ F', Grow ι F H ι F' H ∧ RR K ι F' (ρ.set i (some (.dat (.lst ds)))) (S.set k none) σ H := by
  obtain ⟨v, h1, w⟩ := r.slot i x h
  obtain ⟨a, vs, rfl, q1, q2, q3, q4⟩ := zkr r.st w ec
  obtain ⟨st, g, s⟩ := r.st.freeze q1 q3 q2
  refine ⟨_, g, st, by simp [r.len], fun j dv e => ?_⟩
  by_cases hij : i = j
  · subst hij
    rw [List.getElem?_set] at e
    split at e
    · split at e
      · simp at e; subst e
        exact ⟨_, h1, Wd.lst upd_same (q4.mono s)⟩
      · cases e
    · rename_i h2; exact absurd rfl h2
  · rw [List.getElem?_set_ne hij] at e
    obtain ⟨v', h2, w'⟩ := r.slot j dv e
    exact ⟨v', h2, w'.grow g⟩
theorem dss_frz {i : Nat} {st : List Stmt} {f : SFn} (h : DSs X W st f) : DSs X W st (sSeq (sFrz i) f) := by
  obtain ⟨t, q, j⟩ := h.ps
  refine ⟨t, q, fun D σ H ⟨ι, F, ρ, S, r, h⟩ => j D σ H ?_⟩
  unfold sSeq sFrz at h
  cases ex : ρ[i]? with
  | none => simp only [ex] at h; exact h.elim
  | some o =>
    cases o with
    | none => simp only [ex] at h; exact h.elim
    | some x =>
      simp only [ex] at h
      cases ec : zcs S x with
      | none => simp only [ec] at h; exact h.elim
      | some z =>
        obtain ⟨k, ds⟩ := z
        simp only [ec] at h
        obtain ⟨F', g, r'⟩ := r.frz ex ec
        exact ⟨ι, F', _, _, r', PostS.grow (r := f _ _) h g⟩
end
end DL
set_option maxHeartbeats 4000000
namespace DL
open PySem PySem.Spec PyProof.Rows L2
variable [Mode]
section
variable {X : Cx} {W : WX} {e a b c : Expr} {es : List Expr} {pos p : Pos} {K : PySem.W.Frag} {ι : List Addr} {F H : Hp} {S : zae} {mg : Str → Option Value}
/-! ## targets -/
abbrev GFn := D → zar → Option zar
abbrev GsFn := List D → zar → Option zar
theorem wipe_comm (σ : L2.St) (i : Nat) (o : Option V) (h : ∀ vs : List Nat, True) : ∀ vs : List Nat, (i ∈ vs → wipe (σ.set i o) vs = wipe σ vs) ∧ (i ∉ vs → wipe (σ.set i o) vs = (wipe σ vs).set i o)
  | [] => ⟨fun z => absurd z (by simp), fun _ => rfl⟩
  | v :: vs => by
    obtain ⟨h1, h2⟩ := wipe_comm σ i o h vs
    refine ⟨fun m => ?_, fun m => ?_⟩
    · show (wipe (σ.set i o) vs).set v none = (wipe σ vs).set v none
      by_cases q : i ∈ vs
      · rw [h1 q]
      · rw [h2 q]
        have e : i = v := by
          rcases List.mem_cons.mp m with z | z
          · exact z
          · exact absurd z q
        subst e
        rw [List.set_set]
    · have q : i ∉ vs := fun z => m (List.mem_cons_of_mem _ z)
      have n : v ≠ i := fun z => m (by rw [z]; exact List.mem_cons_self)
      show (wipe (σ.set i o) vs).set v none = ((wipe σ vs).set v none).set i o
      rw [h2 q, List.set_comm _ _ n]
theorem wipe_set {σ : L2.St} {i : Nat} {o : Option V} {vs : List Nat} (m : i ∈ vs) : wipe (σ.set i o) vs = wipe σ vs := (wipe_comm σ i o (fun _ => trivial) vs).1 m
def Only (sl : List Nat) (σ σ' : L2.St) : Prop := ∀ vs : List Nat, (∀ i ∈ sl, i ∈ vs) → wipe σ' vs = wipe σ vs
structure DG (X : Cx) (tg : Expr) (sl : List Nat) (g : GFn) : Prop where
  pg : ∃ t, PG X tg t ∧ ∀ v σ H Q ι F ρ S d ρ', RR X.K ι F ρ S σ H → Wd X.K F v d → g d ρ = some ρ' → (∀ σ', RR X.K ι F ρ' S σ' H → Only sl σ σ' → Q σ' H) → t v σ H Q
structure DGs (X : Cx) (tgs : List Expr) (sl : List Nat) (g : GsFn) : Prop where
  pg : ∃ t, PGs X tgs t ∧ ∀ vs σ H Q ι F ρ S ds ρ', RR X.K ι F ρ S σ H → WdA X.K F vs ds → g ds ρ = some ρ' → (∀ σ', RR X.K ι F ρ' S σ' H → Only sl σ σ' → Q σ' H) → t vs σ H Q
def gNm (i : Nat) : GFn := fun d ρ => some (ρ.set i (some (.dat d)))
def gNo : GsFn := fun ds ρ => match ds with
  | [] => some ρ
  | _ => none
def gCo (g : GFn) (gs : GsFn) : GsFn := fun ds ρ => match ds with
  | d :: r => (g d ρ).bind (gs r)
  | [] => none
def gTp (gs : GsFn) : GFn := fun d ρ => match d with
  | .tup ds => gs ds ρ
  | _ => none
theorem zbc {i : Nat} {x : Str} (hN : X.N.Nodup) (hi : X.N[i]? = some x := by rfl) (hx : Loc X.env.scope x := by first | exact .inl rfl | exact .inr rfl)
    (hf : X.fn x = true ∨ X.env.scope.names.lookup x = some .local := by first | exact .inl rfl | exact .inr rfl) : DG X (.Name x pos) [i] (gNm i) := by
  refine ⟨_, pg_name hN hi hx hf, fun v σ H Q ι F ρ S d ρ' r w e k => ?_⟩
  cases e
  exact k _ (r.set (dv := .dat d) w i) fun vs h => wipe_set (h i (by simp))
theorem zik : DGs X [] [] gNo := by
  refine ⟨_, pgs_nil, fun vs σ H Q ι F ρ S ds ρ' r w e k => ?_⟩
  unfold gNo at e
  split at e
  · cases e; cases w
    exact ⟨rfl, k σ r fun _ _ => rfl⟩
  · cases e
theorem zcv {sl sl' : List Nat} {g : GFn} {gs : GsFn} (h : DG X a sl g) (k : DGs X es sl' gs) (hs : (assignEach (a :: es) X.env).map (·.2) = assign a X.env :: (assignEach es X.env).map (·.2) := by rfl) : DGs X (a :: es) (sl ++ sl') (gCo g gs) := by
  obtain ⟨t, p, i⟩ := h.pg
  obtain ⟨u, q, j⟩ := k.pg
  refine ⟨_, pgs_cons p q hs, fun vs σ H Q ι F ρ S ds ρ' r w e k => ?_⟩
  cases ds with
  | nil => cases e
  | cons d ds =>
    cases w with
    | cons w ws =>
      simp only [gCo] at e
      cases q1 : g d ρ with
      | none => rw [q1] at e; cases e
      | some ρ1 =>
        rw [q1] at e
        refine ⟨_, _, rfl, i _ σ H _ ι F ρ S d ρ1 r w q1 fun σ1 r1 o1 => j _ σ1 H Q ι F ρ1 S ds ρ' r1 ws e fun σ2 r2 o2 => k σ2 r2 fun vs hv => ?_⟩
        rw [o2 vs (fun i m => hv i (List.mem_append_right _ m)), o1 vs (fun i m => hv i (List.mem_append_left _ m))]
def GLen (gs : GsFn) (n : Nat) : Prop := ∀ ds ρ ρ', gs ds ρ = some ρ' → ds.length = n
theorem zg6 : GLen gNo 0 := fun ds ρ ρ' e => by
  unfold gNo at e
  split at e
  · rfl
  · cases e
theorem zcg {g : GFn} {gs : GsFn} {n : Nat} (h : GLen gs n) : GLen (gCo g gs) (n + 1) := fun ds ρ ρ' e => by
  cases ds with
  | nil => cases e
  | cons d ds =>
    simp only [gCo] at e
    cases q1 : g d ρ with
    | none => rw [q1] at e; cases e
    | some ρ1 => rw [q1] at e; simp [h ds ρ1 ρ' e]
theorem dg_tup {sl : List Nat} {gs : GsFn} {k n : Nat} (hc : X.calm = true) (h : DGs X es sl gs) (hl : GLen gs n) (hn : (assignEach es X.env).length = n := by rfl) (hst : (assignEach es X.env).findIdx? (·.1) = none := by rfl) : DG X (.Tuple es k pos) sl (gTp gs) := by
  obtain ⟨t, p, i⟩ := h.pg
  refine ⟨_, pg_tup hc p hn hst, fun v σ H Q ι F ρ S d ρ' r w e k => ?_⟩
  cases d <;> simp only [gTp] at e <;> first | (cases e; done) | skip
  rename_i ds
  cases w with
  | tup s w => exact ⟨_, _, rfl, zcj r.st.sub s, by rw [w.length]; exact hl ds ρ ρ' e, i _ σ H Q ι F ρ S ds ρ' r w e k⟩
def sTg (g : GFn) (f : XFn) : SFn := fun ρ S => (f ρ S).bindS ρ fun v S1 => match v with
  | .dat d => (match g d ρ with
    | some ρ' => .nx ρ' S1
    | none => .bad)
  | _ => .bad
theorem ds_tg {sl : List Nat} {g : GFn} {f : XFn} {tg : Expr} (h : DE X W e f) (hg : DG X tg sl g) (hs : swapsWithSole [tg] e pos.line X.env = pure false := by rfl) (hw : swappedStores [tg] e X.env = pure none := by rfl) (h1 : (assignEach [tg] X.env).map (·.2) = [assign tg X.env] := by rfl) : DS X W (.Assign [tg] e pos) (sTg g f) := by
  obtain ⟨t, p, i⟩ := hg.pg
  refine ⟨_, ps_asg h.pe p hs hw h1, fun D σ H ⟨ι, F, ρ, S, r, h⟩ => ?_⟩
  refine tD.bindS (g := fun ρ v S1 => match v with
    | .dat d => (match g d ρ with
      | some ρ' => .nx ρ' S1
      | none => .bad)
    | _ => .bad) r h fun v dv ι1 F1 S1 H1 r1 w1 g1 h1 => ?_
  cases dv with
  | dat d =>
    simp only at h1
    cases q : g d ρ with
    | none => simp only [q] at h1; exact h1.elim
    | some ρ' => simp only [q] at h1; exact i v σ H1 _ ι1 F1 ρ S1 d ρ' r1 w1 q fun σ' r' o => h1 σ' ι1 F1 H1 .refl r'
  | _ => exact h1.elim
/-! ## what is walked -/
def ItOk (K : PySem.W.Frag) (F' : Hp) (ds : List D) (J : It) : Prop := ∃ (G : Hp → Prop) (Y : Nat → Hp → V → Hp → Prop), Walk J ds.length G Y ∧ (∀ ι F1 S1 H1, StR K ι F1 S1 H1 → Same F' F1 → G H1) ∧
  ∀ ι F1 S1 H1 i x H2, StR K ι F1 S1 H1 → Same F' F1 → i < ds.length → Y i H1 x H2 → ∃ F2 d, Grow ι F1 H1 ι F2 H2 ∧ StR K ι F2 S1 H2 ∧ ds[i]? = some d ∧ Wd K F2 x d
def tI (X : Cx) (W : WX) (f : LFn) : TI := fun σ H R => ∃ ι F ρ S, RR X.K ι F ρ S σ H ∧ Post X.K X.mg (fun c d H' => W c d σ H') ι F H (f ρ S) fun ds ι' F' H' => ∀ J, ItOk X.K F' ds J → R J H'
structure DI (X : Cx) (W : WX) (tg e : Expr) (f : LFn) : Prop where
  pi : ∃ t, PI X tg e t ∧ ∀ σ H R, tI X W f σ H R → t σ H R
theorem itOk_list {F1 : Hp} {a : Addr} {vs : List V} {ds : List D} (s : F1 a = some (.lst vs)) (w : WdA K F1 vs ds) : ItOk K F1 ds (Itl K a) := by
  refine ⟨fun H => SqL K H a vs, YAt vs, by rw [← w.length]; exact walk_list, fun ι F2 S2 H2 st sm => .of (st.sub _ _ (sm _ _ s)), fun ι F2 S2 H2 i x H3 st sm hi y => ?_⟩
  obtain ⟨rfl, hx⟩ := y
  obtain ⟨d, h1, h2⟩ := w.get hx
  exact ⟨F2, d, .refl, st, h1, h2.mono sm⟩
theorem itOk_tup {F1 : Hp} {a : Addr} {vs : List V} {ds : List D} (s : SqT K F1 a vs) (w : WdA K F1 vs ds) : ItOk K F1 ds (Itt K a) := by
  refine ⟨fun H => SqT K H a vs, YAt vs, by rw [← w.length]; exact walk_tup, fun ι F2 S2 H2 st sm => zcj st.sub (zcj sm s), fun ι F2 S2 H2 i x H3 st sm hi y => ?_⟩
  obtain ⟨rfl, hx⟩ := y
  obtain ⟨d, h1, h2⟩ := w.get hx
  exact ⟨F2, d, .refl, st, h1, h2.mono sm⟩
def zgv (lo : Int) (n : Nat) : List D := (List.range n).map fun i => .int (lo + (i : Nat))
theorem zj8 {F1 : Hp} {lo : Int} {n : Nat} : ItOk K F1 (zgv lo n) (Itr lo n) := by
  refine ⟨fun _ => True, YFn fun i => .int (lo + i), by rw [show (zgv lo n).length = n by simp [zgv]]; exact walk_range, fun _ _ _ _ _ _ => trivial, fun ι F2 S2 H2 i x H3 st sm hi y => ?_⟩
  obtain ⟨rfl, rfl⟩ := y
  exact ⟨F2, .int (lo + i), .refl, st, by simp [zgv] at hi ⊢; exact ⟨i, by simp [hi], rfl⟩, .int _⟩
def rng1 (ds : List DV) (S : zae) : Res (List D) := match ds with
  | [.dat (.int j)] => if -(2 ^ 62) ≤ j ∧ j < 2 ^ 62 then .ok (zgv 0 j.toNat) S else .bad
  | _ => .bad
def rng2 (ds : List DV) (S : zae) : Res (List D) := match ds with
  | [.dat (.int i), .dat (.int j)] => if -(2 ^ 62) ≤ i ∧ i < 2 ^ 62 ∧ -(2 ^ 62) ≤ j ∧ j < 2 ^ 62 then .ok (zgv i (j - i).toNat) S else .bad
  | _ => .bad
def lRg1 (f : AFn) : LFn := fun ρ S => (f ρ S).bind rng1
def lRg2 (f : AFn) : LFn := fun ρ S => (f ρ S).bind rng2
theorem zd9 {tg : Expr} {f : AFn} (h : DA X W [a] f) (hm : X.mg "range" = none) (hg : Gl X "range" := by rfl) (hs : starEach [a] X.env = [(false, eval a X.env)] := by rfl) : DI X W tg (.Call (.Name "range" p) [a] [] pos) (lRg1 f) := by
  refine ⟨_, pi_range1 hg hm h.pa hs, fun σ H R ⟨ι, F, ρ, S, r, h⟩ => ?_⟩
  refine tA.bind (g := fun _ => rng1) r h fun vs ds ι1 F1 S1 H1 r1 w1 g1 h1 => ?_
  unfold rng1 at h1
  split at h1
  · rename_i j
    split at h1
    · rename_i hl
      cases w1 with
      | cons w ws =>
        cases ws
        have w' : Wd X.K F1 _ (.int j) := w
        cases w'
        exact ⟨j, rfl, hl.1, hl.2, h1 ι1 F1 H1 .refl r1.st _ zj8⟩
    · exact h1.elim
  · exact h1.elim
theorem di_range2 {tg : Expr} {f : AFn} (h : DA X W [a, b] f) (hm : X.mg "range" = none) (hg : Gl X "range" := by rfl) (hs : starEach [a, b] X.env = [(false, eval a X.env), (false, eval b X.env)] := by rfl) (hs2 : starEach [b] X.env = [(false, eval b X.env)] := by rfl) : DI X W tg (.Call (.Name "range" p) [a, b] [] pos) (lRg2 f) := by
  refine ⟨_, pi_range2 hg hm h.pa hs hs2, fun σ H R ⟨ι, F, ρ, S, r, h⟩ => ?_⟩
  refine tA.bind (g := fun _ => rng2) r h fun vs ds ι1 F1 S1 H1 r1 w1 g1 h1 => ?_
  unfold rng2 at h1
  split at h1
  · rename_i i j
    split at h1
    · rename_i hl
      cases w1 with
      | cons w ws =>
        cases ws with
        | cons u us =>
          cases us
          have w' : Wd X.K F1 _ (.int i) := w
          have u' : Wd X.K F1 _ (.int j) := u
          cases w'; cases u'
          exact ⟨i, j, rfl, hl, h1 ι1 F1 H1 .refl r1.st _ zj8⟩
    · exact h1.elim
  · exact h1.elim
/-! ## for -/
def zgg (g : GFn) (f : SFn) : List D → zar → zae → RS
  | [], ρ, S => .nx ρ S
  | d :: ds, ρ, S => match g d ρ with
    | none => .bad
    | some ρ1 => (match f ρ1 S with
      | .nx ρ2 S2 => zgg g f ds ρ2 S2
      | .ct ρ2 S2 => zgg g f ds ρ2 S2
      | .bk ρ2 S2 => .nx ρ2 S2
      | r => r)
def sFor (l : LFn) (g : GFn) (f : SFn) : SFn := fun ρ S => (l ρ S).bindS ρ fun ds S1 => zgg g f ds ρ S1
theorem zhp {iter tg : Expr} {body : List Stmt} {l : LFn} {sl : List Nat} {g : GFn} {f : SFn} (hp : PassesOwn (model X.prog X.w) X.A X.env X.xe) (hc : X.calm = true) (hi : DI X W tg iter l) (hg : DG X tg sl g) (hb : DSs X W body f)
    (hs : ∀ x, foldedSetIterable iter X.env x = pure x := by intro _; rfl) : DS X W (.For tg iter body [] pos) (sFor l g f) := by
  obtain ⟨ti, pi, ki⟩ := hi.pi
  obtain ⟨tg', pg, kg⟩ := hg.pg
  obtain ⟨tb, pb, kb⟩ := hb.ps
  refine ⟨_, ps_for hp hc pi pg pb hs, fun D σ H ⟨ι, F, ρ, S, r, h⟩ => ki _ _ _ ⟨ι, F, ρ, S, r, ?_⟩⟩
  unfold sFor at h
  cases q : l ρ S with
  | bad => rw [q] at h; exact h
  | ex c S1 => rw [q] at h; exact fun C ι' F' H' g st m => h C σ ι' F' H' g (r.slots g st) m
  | ok ds S1 =>
    rw [q] at h
    intro ι1 F1 H1 g1 st1 J ⟨G, Y, w, hG, hY⟩
    refine for_it w (fun i σ' H' => ∃ ι2 F2 ρ2 S2, RR X.K ι2 F2 ρ2 S2 σ' H' ∧ Grow ι1 F1 H1 ι2 F2 H' ∧ PostS X.K X.mg W ι2 F2 H' (zgg g f (ds.drop i) ρ2 S2) D)
      ⟨ι1, F1, ρ, S1, r.slots g1 st1, .refl, PostS.grow (r := zgg g f ds ρ S1) h g1⟩ (fun i σ' H' _ ⟨ι2, F2, ρ2, S2, r2, g2, _⟩ => hG ι2 F2 S2 H' r2.st g2.sf) (fun i x σ' H' H2 hi ⟨ι2, F2, ρ2, S2, r2, g2, h2⟩ y => ?_) (fun σ' H' ⟨ι2, F2, ρ2, S2, r2, g2, h2⟩ => ?_)
    · obtain ⟨F3, d, g3, st3, hd, wd⟩ := hY ι2 F2 S2 H' i x H2 r2.st g2.sf hi y
      have ed : ds.drop i = d :: ds.drop (i + 1) := by
        rw [List.drop_eq_getElem_cons hi]
        obtain ⟨_, h⟩ := List.getElem?_eq_some_iff.mp hd
        rw [h]
      rw [ed] at h2
      simp only [zgg] at h2
      have r3 := r2.slots g3 st3
      cases e1 : g d ρ2 with
      | none => simp only [e1] at h2; exact h2.elim
      | some ρ3 =>
        simp only [e1] at h2
        refine kg x σ' H2 _ ι2 F3 ρ2 S2 d ρ3 r3 wd e1 fun σ3 r3' _ => kb _ _ _ ⟨ι2, F3, ρ3, S2, r3', ?_⟩
        have gg := g2.trans g3
        cases e2 : f ρ3 S2 with
        | nx ρ4 S4 => simp only [e2] at h2; exact fun σ4 ι4 F4 H4 g4 r4 => ⟨ι4, F4, ρ4, S4, r4, gg.trans g4, PostS.grow (r := zgg g f _ ρ4 S4) h2 (g3.trans g4)⟩
        | ct ρ4 S4 => simp only [e2] at h2; exact fun σ4 ι4 F4 H4 g4 r4 => ⟨ι4, F4, ρ4, S4, r4, gg.trans g4, PostS.grow (r := zgg g f _ ρ4 S4) h2 (g3.trans g4)⟩
        | bk ρ4 S4 => simp only [e2] at h2; exact fun σ4 ι4 F4 H4 g4 r4 => h2 σ4 ι4 F4 H4 (g3.trans g4) r4
        | rt dv S4 => simp only [e2] at h2; exact fun v ι4 F4 H4 g4 st4 w4 => h2 v ι4 F4 H4 (g3.trans g4) st4 w4
        | ex c ρ4 S4 => simp only [e2] at h2; exact fun C σ4 ι4 F4 H4 g4 r4 m => h2 C σ4 ι4 F4 H4 (g3.trans g4) r4 m
        | bad => simp only [e2] at h2; exact h2
    · rw [List.drop_length] at h2
      exact h2 σ' ι2 F2 H' .refl r2
/-! ## comprehensions -/
def Res.bindN {α β : Type} (r : Res α) (f : α → zae → Res β) : Res β := match r with
  | .ok a S => f a S
  | _ => .bad
@[simp] theorem Res.bindN_ok {α β : Type} (a : α) (S : zae) (f : α → zae → Res β) : (Res.ok a S).bindN f = f a S := rfl
def lcGo (g : GFn) (t : TFn) (f : XFn) (ρ : zar) : List D → zae → Res (List D)
  | [], S => .ok [] S
  | d :: ds, S => match g d ρ with
    | none => .bad
    | some ρ1 => (t ρ1 S).bindN fun b S1 => if b then (f ρ1 S1).bindN fun y S2 => (match y with
      | .dat z => (lcGo g t f ρ ds S2).bindN fun zs S3 => .ok (z :: zs) S3
      | _ => .bad) else lcGo g t f ρ ds S1
def zjl (ρ : zar) : List Nat → zar
  | [] => ρ
  | v :: vs => (zjl ρ vs).set v none
def lLc (l : LFn) (own : List Nat) (g : GFn) (t : TFn) (f : XFn) : LFn := fun ρ S => (l ρ S).bind fun ds S1 => if ds.length ≤ sizeLine then lcGo g t f (zjl ρ own) ds S1 else .bad
theorem RR.wipe {ρ : zar} {σ : L2.St} (r : RR K ι F ρ S σ H) : ∀ vs : List Nat, RR K ι F (zjl ρ vs) S (L2.wipe σ vs) H
  | [] => r
  | v :: vs => (r.wipe vs).unset v
def zff : TFn := fun _ S => .ok true S
structure DTs (X : Cx) (W : WX) (ifs : List Expr) (t : TFn) : Prop where
  pt : PTs X ifs (tT X W t)
theorem zdp : DTs X W [] zff := ⟨⟨fun pins s σ H Q I ⟨ι, F, ρ, S, r, h⟩ => pts_nil.run pins s σ H Q I (h ι F H .refl r.st)⟩⟩
theorem zkf {t : TFn} (h : DT X W c t) : DTs X W [c] t := ⟨pts_one h.pt⟩
abbrev W0 : WX := fun _ _ _ _ => False
theorem bindN_ok {α β : Type} {r : Res α} {f : α → zae → Res β} {E : XK} {Q : β → List Addr → Hp → Hp → Prop} (h : Post K mg E ι F H (r.bindN f) Q) : ∃ a S', r = .ok a S' ∧ Post K mg E ι F H (f a S') Q := by
  cases r with
  | ok a S' => exact ⟨a, S', rfl, h⟩
  | ex c S' => exact h.elim
  | bad => exact h.elim
theorem zkt {α β : Type} {r : Res α} {f : α → zae → Res β} {b : β} {S' : zae} (h : r.bindN f = .ok b S') : ∃ a S1, r = .ok a S1 ∧ f a S1 = .ok b S' := by
  cases r with
  | ok a S1 => exact ⟨a, S1, rfl, h⟩
  | ex c S1 => cases h
  | bad => cases h
theorem lcGo_ok {g : GFn} {t : TFn} {f : XFn} {ρ : zar} : ∀ {ds : List D} {S : zae} {E : XK} {Q : List D → List Addr → Hp → Hp → Prop}, Post K mg E ι F H (lcGo g t f ρ ds S) Q → ∃ zs S', lcGo g t f ρ ds S = .ok zs S'
  | [], S, E, Q, h => ⟨[], S, rfl⟩
  | d :: ds, S, E, Q, h => by
    cases q : lcGo g t f ρ (d :: ds) S with
    | ok zs S' => exact ⟨zs, S', rfl⟩
    | bad => rw [q] at h; exact h.elim
    | ex c S' =>
      exfalso
      clear h
      simp only [lcGo] at q
      split at q
      · cases q
      · have nex : ∀ {α β : Type} (r : Res α) (k : α → zae → Res β), (∀ a S1 S2, k a S1 ≠ .ex c S2) → ∀ S2, r.bindN k ≠ .ex c S2 := fun r k hk S2 z => by
          cases r with
          | ok a S1 => exact hk a S1 S2 z
          | ex c S1 => cases z
          | bad => cases z
        have rc : ∀ ds S S2, lcGo g t f ρ ds S ≠ .ex c S2 := by
          intro ds
          induction ds with
          | nil => intro S S2 z; cases z
          | cons d ds ih =>
            intro S S2 z
            simp only [lcGo] at z
            split at z
            · cases z
            · refine nex _ _ (fun b S1 S3 => ?_) _ z
              cases b
              · exact ih S1 S3
              · refine nex _ _ (fun y S2 S4 => ?_) S3
                cases y with
                | dat y => exact nex _ _ (fun zs S5 S6 z => by cases z) S4
                | _ => intro z; cases z
        refine nex _ _ (fun b S1 S3 => ?_) _ q
        cases b
        · exact rc ds S1 S3
        · refine nex _ _ (fun y S2 S4 => ?_) S3
          cases y with
          | dat y => exact nex _ _ (fun zs S5 S6 z => by cases z) S4
          | _ => intro z; cases z
end
end DL
set_option maxHeartbeats 4000000
namespace DL
open PySem PySem.Spec PyProof.Rows L2
variable [Mode]
section
variable {X : Cx} {W : WX} {e a b c : Expr} {es : List Expr} {pos p : Pos} {K : PySem.W.Frag} {ι : List Addr} {F H : Hp} {S : zae} {mg : Str → Option Value}
def tG (K : PySem.W.Frag) (sl : List Nat) (g : GFn) : TG := fun v σ H Q => ∃ ι F ρ S d ρ', RR K ι F ρ S σ H ∧ Wd K F v d ∧ g d ρ = some ρ' ∧ ∀ σ', RR K ι F ρ' S σ' H → DL.Only sl σ σ' → Q σ' H
theorem DG.canon {tg : Expr} {sl : List Nat} {g : GFn} (h : DG X tg sl g) : PG X tg (tG X.K sl g) := by
  obtain ⟨t, p, k⟩ := h.pg
  exact ⟨fun pins s σ H v u Q I r ⟨ι, F, ρ, S, d, ρ', r0, w, e, q⟩ => p.run pins s σ H v u Q I r (k v σ H Q ι F ρ S d ρ' r0 w e q)⟩
theorem DI.canon {tg iter : Expr} {l : LFn} (h : DI X W tg iter l) : PI X tg iter (tI X W l) := by
  obtain ⟨t, p, k⟩ := h.pi
  exact ⟨fun pins s σ H R I q => p.run pins s σ H R I (k σ H R q)⟩
theorem lc_ent {own : List (Str × Nat)} {l : LFn} {g : GFn} {t : TFn} {f : XFn} {sl : List Nat} (hsl : ∀ i ∈ sl, i ∈ own.map (·.2)) {σ : L2.St} {H : Hp} {Q : VK} (h : tN X W (lLc l (own.map (·.2)) g t f) σ H Q) :
    tLc (tI X W l) (tG X.K sl g) (tT X W0 t) (tD X W0 f) (own.map (·.2)) σ H Q := by
  obtain ⟨ι, F, ρ, S, r, h⟩ := h
  refine ⟨ι, F, ρ, S, r, ?_⟩
  unfold lLc at h
  cases q : l ρ S with
  | bad => rw [q] at h; exact h
  | ex c S1 => rw [q] at h; exact h
  | ok ds S1 =>
    rw [q] at h
    simp only [Res.bind_ok] at h
    by_cases hl : ds.length ≤ sizeLine
    · simp only [hl, if_true] at h
      intro ι1 F1 H1 g1 st1 J ⟨G, Y, w, hG, hY⟩ D hD
      obtain ⟨zs0, S0, e0⟩ := lcGo_ok h
      rw [e0] at h
      have r1 := r.slots g1 st1
      have hF1 : F1 D = none := by
        cases q : F1 D with
        | none => rfl
        | some o => rw [st1.sub D o q] at hD; cases hD
      have hι1 : D ∉ ι1 := fun m => st1.full D m hD
      refine lc_it w (fun i H2 => ∃ ι2 F2 S2 acc avs zs, RR X.K ι2 F2 (zjl ρ (own.map (·.2))) S2 (L2.wipe σ (own.map (·.2))) H2 ∧ Grow ι1 F1 H1 ι2 F2 H2 ∧ H2 D = some (.lst avs) ∧ F2 D = none ∧ D ∉ ι2 ∧ WdA X.K F2 avs acc ∧ acc.length ≤ i ∧
          lcGo g t f (zjl ρ (own.map (·.2))) (ds.drop i) S2 = .ok zs S0 ∧ acc ++ zs = zs0)
        ⟨ι1, F1, S1, [], [], zs0, (r1.slots (zda hD _) (st1.alone hD _)).wipe _, zda hD _, upd_same, hF1, hι1, .nil, Nat.le_refl _, e0, rfl⟩
        (fun i H2 _ ⟨ι2, F2, S2, acc, avs, zs, r2, g2, _⟩ => hG ι2 F2 S2 H2 r2.st g2.sf) (fun i x H2 H3 hi ⟨ι2, F2, S2, acc, avs, zs, r2, g2, hd, hf, hn, wa, hla, el, ea⟩ y => ?_) (fun H2 ⟨ι2, F2, S2, acc, avs, zs, r2, g2, hd, hf, hn, wa, hla, el, ea⟩ => ?_)
      · obtain ⟨F3, d, g3, st3, hdi, wd⟩ := hY ι2 F2 S2 H2 i x H3 r2.st g2.sf hi y
        have ed : ds.drop i = d :: ds.drop (i + 1) := by
          rw [List.drop_eq_getElem_cons hi]
          obtain ⟨_, h⟩ := List.getElem?_eq_some_iff.mp hdi
          rw [h]
        have keepD : ∀ {ι' F' H'} , Grow ι2 F2 H2 ι' F' H' → H' D = some (.lst avs) ∧ F' D = none ∧ D ∉ ι' := fun gg => ⟨gg.keep D _ hd (fun _ z => nomatch z) hn, gg.new D _ hd (fun _ z => nomatch z) (fun _ z => nomatch z) hf hn, fun m => by
          rcases gg.nio D m with z | z
          · exact hn z
          · rw [hd] at z; cases z⟩
        rw [ed] at el
        simp only [lcGo] at el
        have r3 := r2.slots g3 st3
        cases e1 : g d (zjl ρ (own.map (·.2))) with
        | none => simp only [e1] at el; cases el
        | some ρ3 =>
          simp only [e1] at el
          refine ⟨ι2, F3, _, S2, d, ρ3, r3, wd, e1, fun σ3 r3' o3 => ⟨?_, ?_⟩⟩
          · have hw := o3 (own.map (·.2)) hsl
            rw [hw]
            have idem : ∀ vs : List Nat, ∀ σ : L2.St, (∀ i ∈ vs, σ[i]? = none ∨ σ[i]? = some none) → L2.wipe σ vs = σ := by
              intro vs
              induction vs with
              | nil => intro σ _; rfl
              | cons v vs ih =>
                intro σ hv
                show (L2.wipe σ vs).set v none = σ
                rw [ih σ fun i m => hv i (List.mem_cons_of_mem _ m)]
                apply List.ext_getElem?
                intro j
                rw [List.getElem?_set]
                split
                · rename_i e; subst e
                  rcases hv v List.mem_cons_self with z | z
                  · rw [z]; split
                    · rename_i hlt; rw [List.getElem?_eq_none_iff] at z; omega
                    · rfl
                  · rw [z]; split
                    · rfl
                    · rename_i hlt; have := (List.getElem?_eq_some_iff.mp z).1; omega
                · rfl
            refine idem _ _ fun i m => ?_
            cases q : (L2.wipe σ (own.map (·.2)))[i]? with
            | none => exact .inl rfl
            | some o =>
              cases o with
              | none => exact .inr rfl
              | some x => exact absurd m (wipe_some q).2
          · obtain ⟨b, S3, e2, el⟩ := zkt el
            refine ⟨ι2, F3, ρ3, S2, r3', ?_⟩
            show Post X.K X.mg _ ι2 F3 H3 (t ρ3 S2) _
            rw [e2]
            intro ι4 F4 H4 g4 st4
            have g24 := g3.trans g4
            cases b with
            | false =>
              dsimp only
              rw [if_neg (by simp)]
              obtain ⟨k1, k2, k3⟩ := keepD g24
              exact ⟨ι4, F4, S3, acc, avs, zs, r2.slots g24 st4, g2.trans g24, k1, k2, k3, wa.mono g24.sf, by omega, el, ea⟩
            | true =>
              dsimp only
              rw [if_pos rfl]
              simp only [if_true] at el
              obtain ⟨y, S4, e3, el⟩ := zkt el
              refine ⟨ι4, F4, ρ3, S3, r3'.slots g4 st4, ?_⟩
              show Post X.K X.mg _ ι4 F4 H4 (f ρ3 S3) _
              rw [e3]
              intro ι5 F5 H5 g5 st5 v wv
              cases y with
              | obj k => cases el
              | scr ns => cases el
              | exn c p => cases el
              | fn _ => cases el
              | spc _ => cases el
              | dat z =>
                simp only at el
                obtain ⟨zs', S5, e4, el⟩ := zkt el
                cases el
                have g25 := g24.trans g5
                obtain ⟨k1, k2, k3⟩ := keepD g25
                refine ⟨avs, k1, ?_, ι5, F5, S4, acc ++ [z], avs ++ [v], zs', ?_, ?_, upd_same, k2, k3, (wa.mono g25.sf).append (.cons wv .nil), by simp; omega, e4, by rw [← ea]; simp⟩
                · rw [wa.length]; omega
                · have st6 : StR X.K ι5 F5 S4 (upd H5 D (.lst (avs ++ [v]))) := st5.own k1 k2 k3 _
                  exact ⟨st6, r2.len, fun i dv e => let ⟨v, h1, h2⟩ := r2.slot i dv e; ⟨v, h1, h2.grow g25⟩⟩
                · have g := g2.trans g25
                  exact ⟨g.pre, g.sf, fun b o e t2 n => by
                    rw [upd_ne (fun z => by rw [z, hD] at e; cases e)]; exact g.keep b o e t2 n, g.new, g.nio, fun b e => g.dom b (zbu e)⟩
      · rw [List.drop_length] at el
        cases el
        rw [List.append_nil] at ea
        subst ea
        exact h ι2 F2 H2 (g1.trans g2) r2.st D avs (g1.dom D hD) hd hf hn wa
    · simp only [hl, if_false] at h; exact h.elim
theorem zg5 {elt tg iter : Expr} {ifs : List Expr} {scope : Scope} {own : List (Str × Nat)} {l : LFn} {g : GFn} {t : TFn} {f : XFn} {sl : List Nat} (hc : X.calm = true) (hN : X.N.Nodup) (hi : DI X W tg iter l) (ok : BlkOk X.N X.env.scope scope own)
    (hg : ∀ (s : Shared) (H : Hp) (C : Addr) (cl : List (Str × Addr)) (fp : List Addr), DG (X.blk s H scope (compEnvC scope cl C X.env) fp) tg sl g)
    (ht : ∀ (s : Shared) (H : Hp) (C : Addr) (cl : List (Str × Addr)) (fp : List Addr), DTs (X.blk s H scope (compEnvC scope cl C X.env) fp) W0 ifs t)
    (he : ∀ (s : Shared) (H : Hp) (C : Addr) (cl : List (Str × Addr)) (fp : List Addr), DE (X.blk s H scope (compEnvC scope cl C X.env) fp) W0 elt f)
    (hsl : ∀ i ∈ sl, i ∈ own.map (·.2) := by decide) (hs : ∀ x, foldedSetIterable iter X.env x = pure x := by intro _; rfl) :
    NE X W (.ListComp elt [⟨tg, iter, ifs, 0⟩] scope pos) (lLc l (own.map (·.2)) g t f) :=
  ⟨PE.weak (pe_lc (g := tG X.K sl g) (tt := tT X W0 t) (te := tD X W0 f) hc hN hi.canon ok (fun s H C cl fp => (hg s H C cl fp).canon) (fun s H C cl fp => (ht s H C cl fp).pt) (fun s H C cl fp => (he s H C cl fp).pe) hs) fun σ H Q h => lc_ent hsl h⟩
theorem ds_setLc {i : Nat} {y : Str} {py spos : Pos} {elt tg iter : Expr} {ifs : List Expr} {scope : Scope} {own : List (Str × Nat)} {l : LFn} {g : GFn} {t : TFn} {f : XFn} {sl : List Nat} (hc : X.calm = true) (hN : X.N.Nodup)
    (hi : DI X W tg iter l) (ok : BlkOk X.N X.env.scope scope own)
    (hg : ∀ (s : Shared) (H : Hp) (C : Addr) (cl : List (Str × Addr)) (fp : List Addr), DG (X.blk s H scope (compEnvC scope cl C X.env) fp) tg sl g)
    (ht : ∀ (s : Shared) (H : Hp) (C : Addr) (cl : List (Str × Addr)) (fp : List Addr), DTs (X.blk s H scope (compEnvC scope cl C X.env) fp) W0 ifs t)
    (he : ∀ (s : Shared) (H : Hp) (C : Addr) (cl : List (Str × Addr)) (fp : List Addr), DE (X.blk s H scope (compEnvC scope cl C X.env) fp) W0 elt f)
    (hsl : ∀ i ∈ sl, i ∈ own.map (·.2) := by decide) (hy : X.N[i]? = some y := by rfl) (hyl : X.env.scope.names.lookup y = some .local := by rfl)
    (hsw : swapsWith (.ListComp elt [⟨tg, iter, ifs, 0⟩] scope pos) (some (.Name y py)) spos.line X.env = pure true := by exact sw_true rfl rfl rfl (by decide +kernel)) (hs : ∀ x, foldedSetIterable iter X.env x = pure x := by intro _; rfl) :
    DS X W (.Assign [.Name y py] (.ListComp elt [⟨tg, iter, ifs, 0⟩] scope pos) spos) (sSet i (xN1 (lLc l (own.map (·.2)) g t f))) :=
  ⟨_, ps_setLc (g := tG X.K sl g) (tt := tT X W0 t) (te := tD X W0 f) hc hN hy hyl hsw hi.canon ok (fun s H C cl fp => (hg s H C cl fp).canon) (fun s H C cl fp => (ht s H C cl fp).pt) (fun s H C cl fp => (he s H C cl fp).pe) hs, fun D σ H h => lc_ent hsl h.set.toN⟩
theorem ds_newLc {i : Nat} {y : Str} {py spos : Pos} {elt tg iter : Expr} {ifs : List Expr} {scope : Scope} {own : List (Str × Nat)} {l : LFn} {g : GFn} {t : TFn} {f : XFn} {sl : List Nat} (hc : X.calm = true) (hN : X.N.Nodup)
    (hi : DI X W tg iter l) (ok : BlkOk X.N X.env.scope scope own)
    (hg : ∀ (s : Shared) (H : Hp) (C : Addr) (cl : List (Str × Addr)) (fp : List Addr), DG (X.blk s H scope (compEnvC scope cl C X.env) fp) tg sl g)
    (ht : ∀ (s : Shared) (H : Hp) (C : Addr) (cl : List (Str × Addr)) (fp : List Addr), DTs (X.blk s H scope (compEnvC scope cl C X.env) fp) W0 ifs t)
    (he : ∀ (s : Shared) (H : Hp) (C : Addr) (cl : List (Str × Addr)) (fp : List Addr), DE (X.blk s H scope (compEnvC scope cl C X.env) fp) W0 elt f)
    (hsl : ∀ i ∈ sl, i ∈ own.map (·.2) := by decide) (hy : X.N[i]? = some y := by rfl) (hyl : X.env.scope.names.lookup y = some .local := by rfl)
    (hsw : swapsWith (.ListComp elt [⟨tg, iter, ifs, 0⟩] scope pos) (some (.Name y py)) spos.line X.env = pure true := by exact sw_true rfl rfl rfl (by decide +kernel)) (hs : ∀ x, foldedSetIterable iter X.env x = pure x := by intro _; rfl) :
    DS X W (.Assign [.Name y py] (.ListComp elt [⟨tg, iter, ifs, 0⟩] scope pos) spos) (sNew i (lLc l (own.map (·.2)) g t f)) :=
  ⟨_, ps_setLc (g := tG X.K sl g) (tt := tT X W0 t) (te := tD X W0 f) hc hN hy hyl hsw hi.canon ok (fun s H C cl fp => (hg s H C cl fp).canon) (fun s H C cl fp => (ht s H C cl fp).pt) (fun s H C cl fp => (he s H C cl fp).pe) hs, fun D σ H h => lc_ent hsl h.new⟩
end
end DL
set_option maxHeartbeats 4000000
namespace DL
open PySem PySem.Spec PyProof.Rows L2
variable [Mode]
/-! ## defs: what they promise where nothing is being printed around them -/
structure RoomH (k : Nat) (A : Around) : Prop where
  dp : A.depth + 3 * k + 5 < recursionLimit
  un : A.units + 16 * k + 200 < cLine
theorem RoomH.of {k : Nat} {A : Around} (r : Room k A) : RoomH k A := ⟨r.dp, r.un⟩
theorem RoomH.mono {j k : Nat} {A : Around} (r : RoomH k A) (h : j ≤ k) : RoomH j A := ⟨by have := r.dp; omega, by have := r.un; omega⟩
theorem RoomH.deeper {k : Nat} {A : Around} (r : RoomH (k + 1) A) (env : Env) : RoomH k (A.deeper env) :=
  ⟨by have := r.dp; show A.depth + 1 + 3 * k + 5 < _; omega, by have := r.un; show A.units + 3 + 16 * k + 200 < _; omega⟩
theorem RoomH.depth {k : Nat} {A : Around} (r : RoomH k A) : A.depth < recursionLimit := by have := r.dp; omega
theorem RoomH.mark {k : Nat} {A : Around} (r : RoomH k A) (h : Option Value) : RoomH k (A.mark h) := ⟨r.dp, r.un⟩
structure FnQ (q : Bool) (P : Program) (w : World) (K : PySem.W.Frag) (mg : Str → Option Value) (base : Heap) (k : Nat) (f : Addr) (fd : FuncData) (ps : List Str) (sp : Sp) : Prop where
  len : ∀ vs H Q E, sp vs H Q E → vs.length = ps.length
  run : ∀ (A : Around) (outer : List Env) (s : Shared) (H : Hp) (args : Args) (us : List Value) (vs : List V) (Q : VK) (E : XK), RoomH k A → (q = true → A.handled = none) → A.guards = some [] → Env0 P w K mg base A outer s H → BindsTo s fd args (ps.zip us) → Vals vs us → sp vs H Q E →
    codeAny (model P w) A (.call (.ref f) args) (CR (L2.CX P w) outer P w H s Q E) s
abbrev FnG := FnQ true
theorem RoomH.make {k : Nat} {A : Around} (r : RoomH (k + 1) A) (C : Addr) (us : List Value) (kw : List (Str × Value)) : RoomH k (A.under (.builtin "type.__call__" ⟨.ref C :: us, kw⟩)) :=
  ⟨by have := r.dp; rw [make_depth]; omega, by have := r.un; rw [make_units]; omega⟩
def cxQ (q : Bool) (P : Program) (w : World) (K : PySem.W.Frag) (mg : Str → Option Value) (base : Heap) (N : List Str) (qual : Str) (scope : Scope) (f : Addr) (cd : Value) (A : Around) (outer : List Env) (s : Shared) (H : Hp) (E : XK) : Cx :=
  { cxOf (L2.CX P w) P w K mg base N qual scope f cd A outer s H E with calm := q }
theorem inv_startQ {q : Bool} {P : Program} {w : World} {K : PySem.W.Frag} {mg : Str → Option Value} {base : Heap} {N ps : List Str} {qual : Str} {scope : Scope} {f : Addr} {cd : Value} {A : Around} {outer : List Env} {s s1 : Shared} {H : Hp} {E : XK} {us : List Value} {vs : List V}
    (S : FnScope N ps scope) (hd : q = true → A.handled = none) (e0 : Env0 P w K mg base A outer s H) (hl : vs.length = ps.length) (r : Vals vs us)
    (x : InCallC s s.heap.objs.size (bindL (envOfC qual scope s.heap.objs.size f cd).kindOf (ps.zip us) fun _ => none) (cellsFrom (s.heap.objs.size + 1) scope.names []) (bindC (envOfC qual scope s.heap.objs.size f cd).kindOf (ps.zip us) fun _ => none) s1) :
    Inv (cxQ q P w K mg base N qual scope f cd A outer s H E) [] (start N vs) H s1 := by
  have I := inv_start (CX := L2.CX P w) (A := { A with handled := none }) (E := E) (cd := cd) S rfl (⟨e0.frames, e0.mod, e0.bs, e0.bsz, e0.funs, e0.frf, e0.hok, e0.bare⟩ : Env0 P w K mg base { A with handled := none } outer s H) hl r x
  have o := I.ok
  exact ⟨⟨o.mod, o.kind, o.glob, o.blt, o.above, o.inj, o.has, o.cab, hd, Around.frames_deeper e0.frames, o.stk, o.exf, o.bs, o.bsz, o.noex, o.exfs, o.funs, o.frf⟩, I.os, I.bare, I.base, I.loc, I.cell, I.free, I.freeC, I.pin, I.hok, I.len⟩
section
variable {P : Program} {w : World} {K : PySem.W.Frag} {mg : Str → Option Value} {base : Heap}
theorem FnQ.mono {q : Bool} {j k : Nat} {f : Addr} {fd : FuncData} {ps : List Str} {sp : Sp} (F : FnQ q P w K mg base j f fd ps sp) (h : j ≤ k) : FnQ q P w K mg base k f fd ps sp :=
  ⟨F.len, fun A outer s H args us vs Q E hr => F.run A outer s H args us vs Q E (hr.mono h)⟩
theorem fnQ_of {q : Bool} {k : Nat} {f : Addr} {fd : FuncData} {x qual : Str} {params : Arguments} {body : List Stmt} {scope : Scope} {N ps : List Str} {sp : Sp} (F : FunD K x qual params body scope [] [] f fd) (Sc : FnScope N ps scope)
    (len : ∀ vs H Q E, sp vs H Q E → vs.length = ps.length)
    (hbody : ∀ (cdv : Value) (A : Around) (outer : List Env) (s : Shared) (H : Hp) (vs : List V) (Q : VK) (E : XK), RoomH k (A.deeper (envOfC qual scope s.heap.objs.size f cdv)) → A.guards = some [] → sp vs H Q E →
      ∃ t, PSs (cxQ q P w K mg base N qual scope f cdv A outer s H E) body t ∧ t { nx := fun _ H' => Q .non H', rt := Q } (start N vs) H)   : FnQ q P w K mg base (k + 1) f fd ps sp := by
  obtain ⟨oc, od, dV, kV, doc, pm, an, cdv, ct, osl, hfd, look, code, _, _⟩ := F.ex
  subst hfd
  constructor
  · exact len
  intro A outer s H args us vs Q E room hnd gd env0 bind rel hsp
  have hlen := len vs H Q E hsp
  have stays : ∀ b o, base.get? b = some o → s.heap.get? b = some o := fun b o e => (env0.bs b o e).1
  have KX : K.In s.heap := env0.mod.kin.keeps stays
  have NL : s.heap.NoLimit := env0.mod.nolimit.keeps stays
  have kinds : ∀ y ∈ ps.zip us, scope.names.lookup y.1 = some .local ∨ (scope.names.lookup y.1 = some .cell ∧ ((cellsFrom (s.heap.objs.size + 1) scope.names []).lookup y.1).isSome = true) := by
    rintro ⟨n, v⟩ hy
    have hn := (List.of_mem_zip hy).1
    cases Sc.par n hn with
    | inl q => exact Or.inl q
    | inr q => exact Or.inr ⟨q, PySem.W.cellsFrom_some _ _ _ (Or.inl q)⟩
  apply codeAny_call_function room.depth (KX _ _ look) rfl Sc.co Sc.gen rfl (PySem.W.codeRec_of KX code)
  apply bind
  refine wpAny_newFunctionEnv_cells Sc.kind kinds ?_
  intro env he s1 ic
  subst he
  refine ⟨NL.keeps ic.toInCall.keep, codeAny_func ?_⟩
  obtain ⟨t, ht, hq⟩ := hbody cdv A outer s H vs Q E (room.deeper _) gd hsp
  have I := inv_startQ (q := q) (P := P) (w := w) (mg := mg) (base := base) (E := E) Sc hnd env0 hlen rel ic
  refine wpAny_mono (ht.run [] s1 (start N vs) H _ I hq) ?_ (fun _ _ z => z)
  intro fl s' h
  cases fl with
  | ret u =>
    obtain ⟨v, σ', H', J, rv, q⟩ := h
    exact ⟨v, H', J.os, J.bare, J.base, J.hok, rv, q⟩
  | next =>
    obtain ⟨σ', H', J, q⟩ := h
    exact ⟨.non, H', J.os, J.bare, J.base, J.hok, rfl, q⟩
  | brk => exact h.elim fun _ z => z.elim fun _ z => z.2.elim
  | cont => exact h.elim fun _ z => z.elim fun _ z => z.2.elim
end
/-! ## defs over data -/
abbrev Fn := List DV → zae → Res DV
def spD (K : PySem.W.Frag) (mg : Str → Option Value) (n : Nat) (g : Fn) : Sp := fun vs H Q E => vs.length = n ∧ ∃ ι F S ds, StR K ι F S H ∧ WVs K ι F vs ds ∧ Post K mg E ι F H (g ds S) fun dv ι' F' H' => ∀ v, WV K ι' F' v dv → Q v H'
def zii (n : Nat) : DV → zae → Res DV
  | .dat d, S => .ok (.dat d) (S.take n)
  | .obj k, S => if k < n then .ok (.obj k) (S.take n) else match S[k]? with
    | some (some ds) => .ok (.obj n) (S.take n ++ [some ds])
    | _ => .bad
  | .scr _, _ => .bad
  | .exn c p, S => .ok (.exn c p) (S.take n)
  | .fn _, _ => .bad
  | .spc _, _ => .bad
def ends (n : Nat) : RS → Res DV
  | .nx _ S => .ok (.dat .non) (S.take n)
  | .rt v S => zii n v S
  | .ex c _ S => .ex c (S.take n)
  | _ => .bad
def za6 (N : Nat) (f : SFn) : Fn := fun ds S => ends S.length (f (ds.map some ++ List.replicate (N - ds.length) none) S)
section
variable {X : Cx} {W : WX} {e a b c : Expr} {es : List Expr} {pos p : Pos} {K : PySem.W.Frag} {ι : List Addr} {F H : Hp} {S : zae} {mg : Str → Option Value}
theorem StR.cut {ι0 ι' : List Addr} {F' H' : Hp} {S' : zae} {n : Nat} (st : StR K ι' F' S' H') (hp : ι0 <+: ι') (hn : ι0.length = n) (pm : Mode.plain = true) : StR K ι0 F' (S'.take n) H' := by
  have e : List.take n ι' = ι0 := by
    obtain ⟨t, rfl⟩ := hp
    rw [← hn]; simp
  have hl : n ≤ S'.length := by rw [← st.len, ← hn]; exact hp.length_le
  refine ⟨st.sub, by rw [hn]; simp [hl], fun _ => hp.sublist.nodup (st.nd pm), fun b hb => st.full b (hp.sublist.subset hb), fun k ds e2 fi => ?_, fun k ds e2 nf => ?_, st.tb, st.tf, fun k ds e2 nf => ?_⟩
  rotate_left 2
  · refine absurd (IsFst.nd (hp.sublist.nodup (st.nd pm)) ?_) nf
    have := (List.getElem?_eq_some_iff.mp e2).1
    rw [List.length_take] at this
    omega
  · rw [List.getElem?_take] at e2
    split at e2
    · rename_i hk
      obtain ⟨a, vs, h1, h2, h3, h4⟩ := st.cell k ds e2 ((IsFst.pre hp (by omega)).mpr fi)
      refine ⟨a, vs, ?_, h2, h3, h4⟩
      rw [← e, List.getElem?_take, if_pos hk]; exact h1
    · cases e2
  · refine absurd (IsFst.nd (hp.sublist.nodup (st.nd pm)) ?_) nf
    have := (List.getElem?_eq_some_iff.mp e2).1
    rw [List.length_take] at this
    omega
theorem Grow.cut {ι' : List Addr} {F' H' : Hp} (g : Grow ι F H ι' F' H') : Grow ι F H ι F' H' := ⟨List.prefix_rfl, g.sf, g.keep, g.new, fun b h => .inl h, g.dom⟩
theorem rr_start {vs : List V} {ds : List DV} {n : Nat} {N : List Str} (st : StR K ι F S H) (w : WVs K ι F vs ds) (hN : N.length = n) : RR K ι F (ds.map some ++ List.replicate (n - ds.length) none) S (start N vs) H := by
  refine ⟨st, by unfold L2.start; rw [hN]; simp [w.length], fun i dv e => ?_⟩
  have hi : i < ds.length := by
    by_cases h : i < ds.length
    · exact h
    · rw [List.getElem?_append_right (by simp; omega)] at e
      have := (List.getElem?_eq_some_iff.mp e)
      obtain ⟨_, h2⟩ := this
      simp at h2
  rw [List.getElem?_append_left (by simpa using hi)] at e
  simp at e
  have get : ∀ {vs : List V} {ds : List DV}, WVs K ι F vs ds → ∀ (i : Nat) (dv : DV), ds[i]? = some dv → ∃ v, vs[i]? = some v ∧ WV K ι F v dv := by
    intro vs ds w
    induction w with
    | nil => intro i dv e; simp at e
    | cons a _ ih =>
      intro i dv e
      cases i with
      | zero => simp at e; subst e; exact ⟨_, rfl, a⟩
      | succ i => simpa using ih i dv (by simpa using e)
  obtain ⟨v, h1, h2⟩ := get w i dv e
  refine ⟨v, ?_, h2⟩
  unfold L2.start
  rw [List.getElem?_append_left (by rw [List.length_map, w.length]; exact hi)]
  simp [h1]
theorem fn_D {q : Bool} {P : Program} {w : World} {base : Heap} {k n m : Nat} {f : Addr} {fd : FuncData} {x qual : Str} {params : Arguments} {body : List Stmt} {scope : Scope} {N ps : List Str} {g : SFn} (Fd : FunD K x qual params body scope [] [] f fd) (Sc : FnScope N ps scope)
    (hn : ps.length = n) (hm : N.length = m)
    (hbody : ∀ (cdv : Value) (A : Around) (outer : List Env) (s : Shared) (H : Hp) (E : XK), RoomH k (A.deeper (envOfC qual scope s.heap.objs.size f cdv)) → A.guards = some [] →
      DSs (cxQ q P w K mg base N qual scope f cdv A outer s H E) (fun cls d _ H => E cls d H) body g) (pm : Mode.plain = true := by rfl) : FnQ q P w K mg base (k + 1) f fd ps (spD K mg n (za6 m g)) := by
  refine fnQ_of Fd Sc (fun vs H Q E h => by rw [h.1, hn]) fun cdv A outer s H vs Q E hr hG h => ?_
  obtain ⟨t, pt, kt⟩ := (hbody cdv A outer s H E hr hG).ps
  refine ⟨t, pt, kt _ _ _ ?_⟩
  obtain ⟨hl, ι, F, S, ds, st, ws, po⟩ := h
  refine ⟨ι, F, _, S, rr_start st ws hm, ?_⟩
  show PostS K mg _ ι F H _ _
  unfold za6 at po
  cases qq : g (ds.map some ++ List.replicate (m - ds.length) none) S with
  | nx ρ' S' =>
    rw [qq] at po
    exact fun σ' ι' F' H' gr r => po ι F' H' gr.cut (r.st.cut gr.pre st.len pm) _ .non
  | rt dv S' =>
    rw [qq] at po
    intro v ι' F' H' gr st' wv
    cases dv with
    | dat d => exact po ι F' H' gr.cut (st'.cut gr.pre st.len pm) v wv
    | scr ns => exact po.elim
    | exn c p => exact po ι F' H' gr.cut (st'.cut gr.pre st.len pm) v wv
    | fn _ => exact po.elim
    | spc _ => exact po.elim
    | obj j =>
      simp only [ends, zii] at po
      obtain ⟨a, h1, h2, h0⟩ := wv
      split at po
      · rename_i hj
        refine po ι F' H' gr.cut (st'.cut gr.pre st.len pm) v ⟨a, ?_, h2, (IsFst.pre gr.pre (by rw [st.len]; exact hj)).mp h0⟩
        obtain ⟨t, rfl⟩ := gr.pre
        rw [List.getElem?_append_left (by rw [st.len]; exact hj)] at h1; exact h1
      · rename_i hj
        split at po
        · rename_i es ej
          obtain ⟨a', vs', h3, h4, h5, h6⟩ := st'.cell j es ej h0
          rw [h1] at h3; cases h3
          have na : a ∉ ι := fun m => by
            obtain ⟨i, hi, e⟩ := List.mem_iff_getElem.mp m
            obtain ⟨t, rfl⟩ := gr.pre
            have e1 : (ι ++ t)[i]? = some a := by rw [List.getElem?_append_left hi, List.getElem?_eq_getElem hi, e]
            obtain ⟨i1, g1⟩ := List.getElem?_eq_some_iff.mp e1
            obtain ⟨i2, g2⟩ := List.getElem?_eq_some_iff.mp h1
            have : i = j := (List.getElem_inj (st'.nd pm)).mp (by rw [g1, g2])
            rw [st.len] at hi; omega
          have ha : H a = none := (gr.nio a (List.mem_of_getElem? h1)).resolve_left na
          exact po (ι ++ [a]) F' H' (zfz gr.cut ha) ((st'.cut gr.pre st.len pm).add h4 h5 na h6) v ⟨a, by rw [← st.len]; simp, h2, by rw [← st.len]; exact IsFst.new na⟩
        · exact po.elim
  | ex c ρ' S' =>
    rw [qq] at po
    exact fun C σ' ι' F' H' gr r mc => po C ι F' H' gr.cut (r.st.cut gr.pre st.len pm) mc
  | bk ρ' S' => rw [qq] at po; exact po.elim
  | ct ρ' S' => rw [qq] at po; exact po.elim
  | bad => rw [qq] at po; exact po
structure DefQ (q : Bool) (P : Program) (w : World) (K : PySem.W.Frag) (mg : Str → Option Value) (base : Heap) (k : Nat) (x : Str) (n : Nat) (g : Fn) : Prop where
  ex : ∃ f fd ps, FnQ q P w K mg base k f fd ps (spD K mg n g) ∧ mg x = some (.ref f) ∧ PySem.W.keepIn K (.ref f) = true ∧ Binds K fd ps []
abbrev Def := DefQ true
theorem zak {k n : Nat} {x : Str} {g : Fn} {fa : AFn} (F : DefQ X.calm X.prog X.w X.K X.mg X.base k x n g) (hr : RoomH k X.A) (hG : X.A.guards = some []) (tk : Takes X W) (ha : DA X W (e :: es) fa) (hn : (e :: es).length = n := by rfl) (hg : Gl X x := by rfl)
    (hdb : (x == ("__debug__" : Str)) = false := by decide) (he : starEach (e :: es) X.env = (false, eval e X.env) :: starEach es X.env := by rfl) (hpl : (backTo pos (starEach es X.env)).any (·.1) = false := by rfl)
    (hlen : ∀ ρ S ds S', fa ρ S = .ok ds S' → ds.length = n) : DE X W (.Call (.Name x p) (e :: es) [] pos) (xN g fa) := by
  obtain ⟨f, fd, ps, Fg, hm, hk, hb⟩ := F.ex
  refine ⟨⟨fun pins s σ H Q I h => ?_⟩⟩
  obtain ⟨ι, F, ρ, S, r, h⟩ := h
  apply wpAny_Call_Name_kw (ld_glob I hg hm ?_ hdb)
  refine PySem.W.callWith_K (h₀ := X.base) I.ok.mod.kin hk ?_ he hpl
  have hta : tA X W fa σ H (fun vs H1 => spD X.K X.mg n g vs H1 Q (fun c d H' => W c d σ H')) := by
    refine ⟨ι, F, ρ, S, r, ?_⟩
    unfold xN at h
    cases q : fa ρ S with
    | bad => rw [q] at h; exact h
    | ex c S1 => rw [q] at h; exact h
    | ok ds S1 =>
      rw [q] at h
      intro ι1 F1 H1 g1 st1 vs wv
      exact ⟨by rw [wv.length]; exact hlen _ _ _ _ q, ι1, F1, S1, ds, st1, wv, Post.grow (r := g ds S1) h g1⟩
  refine thn (ha.pa.run pos pins s σ H _ I hta) ?_
  rintro us s1 ⟨vs, H1, I1, rel, hsp⟩
  refine ⟨I1.kIn, ?_⟩
  have hl : us.length = ps.length := by rw [← rel.length]; exact Fg.len _ _ _ _ hsp
  have bd := hb s1 us I1.kIn (by simpa using hl)
  rw [List.append_nil] at bd
  apply wpAny_call
  refine codeAny_mono (Fg.run X.A X.stack s1 H1 ⟨us, []⟩ us vs Q _ hr I1.ok.hd hG I1.env0 bd rel hsp) ?_
  intro res s2 hq
  cases res with
  | error err => exact L2.passAt tk σ pins H1 s1 err s2 I1 hq
  | ok fl =>
    cases fl with
    | ret u => exact I1.after hq
    | next => exact hq.elim
    | brk => exact hq.elim
    | cont => exact hq.elim
end
end DL
set_option maxHeartbeats 4000000
namespace DL
open PySem PySem.Spec PyProof.Rows L2
variable [Mode]
section
variable {X : Cx} {W : WX} {e a b c : Expr} {es : List Expr} {pos p : Pos} {K : PySem.W.Frag} {ι : List Addr} {F H : Hp} {S : zae} {mg : Str → Option Value}
/-! ## raise X("..") -/
def zf5 (c : Str) : SFn := fun ρ S => .ex c ρ S
structure ExcD (K : PySem.W.Frag) (mg : Str → Option Value) (x : Str) : Prop where
  ex : ∃ C, mg x = some (.ref C) ∧ PySem.W.excIn K C He.veBase "ValueError.__new__" = true ∧ PySem.W.keepIn K (.ref C) = true ∧ PySem.W.subIn K (.ref C) (.type "BaseException") = some true ∧ PySem.W.typeIn K (.ref C) = some (.type "type")
theorem zef {x m : Str} {j : Nat} {p2 p3 : Pos} (hc : X.calm = true) (tk : Takes X W) (h : ExcD X.K X.mg x) (hg : Gl X x := by rfl) (hdb : (x == ("__debug__" : Str)) = false := by decide) :
    DS X W (.Raise (some (.Call (.Name x p) [.Constant (.str m) j p2] [] p3)) none pos) (zf5 x) := by
  obtain ⟨C, h1, h2, h3, h4, h5⟩ := h.ex
  refine ⟨_, ps_raise hc tk (pmk_own PySem.F.excBase_ValueError h2 h1 h3 (raises_own h4 h5) hg hdb), fun D σ H ⟨ι, F, ρ, S, r, h⟩ => ?_⟩
  exact h (C, none) σ ι F H .refl r ⟨h1, rfl⟩
/-! ## isinstance of data -/
def tyName : D → String
  | .non => "NoneType" | .bl _ => "bool" | .int _ => "int" | .str _ => "str" | .lst _ => "list" | .tup _ => "tuple" | .cas _ => "Case" | .dct _ => "dict" | .ptr _ => "dict"
def isiN (n T : String) : Bool := n == T || (T == "int" && n == "bool")
def isiB (T : String) (d : D) : Bool := isiN (tyName d) T
theorem isi_all : (["NoneType", "bool", "int", "str", "list", "tuple", "dict"].all fun n => ["int", "bool", "tuple", "list", "str"].all fun T => decide (kitB n T = some (isiN n T))) = true := by decide +kernel
def D.isC : D → Bool | .cas _ => true | _ => false
def tyD (K : PySem.W.Frag) (d : D) : Value := bif d.isC then .ref (He.ga K "Case") else .type (tyName d)
theorem tyName_mem (d : D) (h : d.isC = false) : tyName d ∈ ["NoneType", "bool", "int", "str", "list", "tuple", "dict"] := by cases d <;> first | (cases h; done) | simp [tyName]
def oIsi (T : String) (x : DV) (S : zae) : Res DV := match rd S x with
  | some d => .ok (.dat (.bl (isiB T d))) S
  | none => .bad
def xIsi (T : String) (f : XFn) : XFn := fun ρ S => (f ρ S).bind (oIsi T)
theorem Vw.ty {v : V} {d : D} (s : Same F H) (h : Vw K F H v d) : TyX K H v (tyD K d) := by
  cases h with
  | non => exact .base .non
  | bl b => exact .base (.bl b)
  | int i => exact .base (.int i)
  | str x => exact .base (.str x)
  | lst q w => exact .base (.lst q)
  | tup q w =>
    rcases q with (q | ⟨o, q⟩) | ⟨o, its, n, h1, h2, _⟩
    · exact .base (.tup (s _ _ q))
    · exact .fTuple (s _ _ q)
    · exact .kTuple h1 h2
  | cas h =>
    obtain ⟨dx, ca, la, fa, fs, cv, lo, fo, h1, _⟩ := h.of
    exact .base (.ins (s _ _ h1) h.kit.cl h.kit.ha h.kit.hn h.kit.htk h.kit.hm)
  | dct h => exact .fDict (s _ _ h)
theorem isi_kit (T : String) (hT : T ∈ ["int", "bool", "tuple", "list", "str"]) (d : D) (h : d.isC = false) : kitB (tyName d) T = some (isiB T d) := by
  exact of_decide_eq_true (List.all_eq_true.mp (List.all_eq_true.mp isi_all _ (tyName_mem d h)) T hT)
theorem isi_ty (T : String) (hT : T ∈ ["int", "bool", "tuple", "list", "str"]) {v : V} {d : D} (w : Vw K F H v d) : PySem.W.kitOne K (tyD K d) (.type T) = some (isiB T d) := by
  cases d with
  | cas c =>
    cases w with
    | cas h =>
      show PySem.W.kitOne K (.ref (He.ga K "Case")) (.type T) = some (isiB T (.cas c))
      rw [h.kit.kit T hT]
      simp only [List.mem_cons, List.not_mem_nil, or_false] at hT
      rcases hT with rfl | rfl | rfl | rfl | rfl <;> rfl
  | _ => exact kit_ty (isi_kit T hT _ rfl)
theorem zf8 {f : XFn} {T : Str} {n : String} {p2 p3 : Pos} (h : DE X W a f) (hm : X.mg "isinstance" = none) (hmT : X.mg T = none) (hv : bootBuiltins T = some (.type n)) (hT : n ∈ ["int", "bool", "tuple", "list", "str"] := by decide) (hg : Gl X "isinstance" := by rfl) (hgT : Gl X T := by rfl) (hn : T ≠ "__name__" := by decide) (hdb : (T == ("__debug__" : Str)) = false := by decide)
    (he : starEach (a :: [.Name T p3]) X.env = (false, eval a X.env) :: starEach [.Name T p3] X.env := by rfl) (he2 : starEach (.Name T p3 :: []) X.env = (false, eval (.Name T p3) X.env) :: starEach [] X.env := by rfl) (hpl : (backTo pos (starEach [.Name T p3] X.env)).any (·.1) = false := by rfl) :
    DE X W (.Call (.Name "isinstance" p2) [a, .Name T p3] [] pos) (xIsi n f) := by
  refine ⟨PE.weak (pe_callB call_isi hg hm (by decide +kernel) (pa_cons h.pe (pa_cons (pe_bltn (v := .ty n) hgT hmT hv rfl hn hdb) pa_nil he2) he) (by decide) (by decide) he hpl) fun σ H Q ⟨ι, F, ρ, S, r, h⟩ => ?_⟩
  refine tD.bind (g := fun _ => oIsi n) r h fun v dv ι1 F1 S1 H1 r1 w1 g1 h1 => ?_
  unfold oIsi at h1
  cases ed : rd S1 dv with
  | none => simp only [ed] at h1; exact h1.elim
  | some d =>
    simp only [ed] at h1
    exact ⟨_, _, _, _, _, rfl, .ty n, (r1.st.vw w1 ed).ty r1.st.sub, isi_ty n hT (r1.st.vw w1 ed), h1 ι1 F1 H1 .refl r1.st _ (.bl _)⟩
/-! ## *x in a display -/
def aStar (f : XFn) (g : AFn) : AFn := fun ρ S => (f ρ S).bind fun x S1 => match rd S1 x with
  | some (.lst xs) => (g ρ S1).bind fun ds S2 => .ok (xs.map .dat ++ ds) S2
  | some (.tup xs) => (g ρ S1).bind fun ds S2 => .ok (xs.map .dat ++ ds) S2
  | _ => .bad
theorem WVs.append {vs us : List V} {ds es : List DV} (h : WVs K ι F vs ds) (g : WVs K ι F us es) : WVs K ι F (vs ++ us) (ds ++ es) := by
  induction h with
  | nil => exact g
  | cons a _ ih => exact .cons a ih
/-! ## repr -/
def zj_ (d : D) : Bool := d.py.showable && d.py.canLay0 && decide (d.py.depth ≤ 60) && decide (d.py.shown.length ≤ sizeLine)
def zkw (d : D) : Option D := if zj_ d = true then some (.str d.py.shown) else none
def rReprD (K : PySem.W.Frag) : List V → Hp → VK → Prop := fun xs H Q => ∃ x d, xs = [x] ∧ Dp K H x d ∧ d.showable = true ∧ d.canLay0 = true ∧ d.depth ≤ 60 ∧ d.shown.length ≤ sizeLine ∧ Q (.str d.shown) H
theorem cr_repr (hG : X.A.guards = some []) (hu : X.A.units + 64 < cLine) : CallR X (.builtin "repr") (rReprD X.K) := by
  intro pins s σ H xs us Q I r h
  obtain ⟨x, d, rfl, hd, h1, h2, h3, h4, q⟩ := h
  cases r with
  | cons rx rr =>
    cases rr
    rename_i u
    obtain ⟨as, rs⟩ := Dp.reads I d x u hd rx
    cases hd with
    | non => cases rx; exact P.repr_of_none ⟨.str "None", H, I.tok _, ⟨_, rfl⟩, q⟩
    | bl b => cases rx; exact P.repr_of_bool ⟨.str (if _ then "True" else "False"), H, I.tok _, ⟨_, rfl⟩, q⟩
    | int i =>
      obtain ⟨t, rfl⟩ := rx
      exact P.repr_of_int (by simpa [PyData.showable] using h1) ⟨.str _, H, I.tok _, ⟨_, rfl⟩, q⟩
    | str y =>
      obtain ⟨t, rfl⟩ := rx
      exact P.repr_of_str ⟨.str _, H, I.tok _, ⟨_, rfl⟩, q⟩ h4
    | lst s w =>
      cases rx
      exact repr_of_reads' rs h1 (PyData.noDict_hsm (PyData.hasDict_of_canLay _ h2)) hG (by omega) (fun _ _ z => z) (fun h' u tk k => ⟨.str _, H, I.kept (t' := tk) k, ⟨_, rfl⟩, q⟩) h4
    | tup s w =>
      cases rx
      exact repr_of_reads' rs h1 (PyData.noDict_hsm (PyData.hasDict_of_canLay _ h2)) hG (by omega) (fun _ _ z => z) (fun h' u tk k => ⟨.str _, H, I.kept (t' := tk) k, ⟨_, rfl⟩, q⟩) h4
theorem dRepr_ok : zgu K (rReprD K) (o1 zkw) := o1_ok fun ι F H S v a c Q st va e q => by
  unfold zkw at e
  split at e
  · rename_i h
    cases e
    unfold zj_ at h
    simp only [Bool.and_eq_true, decide_eq_true_eq] at h
    exact ⟨_, _, rfl, (va.wd st.sub).dp h.1.1.2, h.1.1.1, h.1.1.2, h.1.2, h.2, q.same st (.str _)⟩
  · cases e
/-! ## pairs walked: zip, enumerate -/
def pairD (x y : D) : D := .tup [x, y]
def zipD (xs ys : List D) : List D := List.zipWith pairD xs ys
end
end DL
set_option maxHeartbeats 8000000
namespace PySem
namespace DLEnum
open L2 PyProof.Rows
set_option maxHeartbeats 1000000 in
theorem made {v : Value} {o : Obj} {H : Heap → Prop} (B : Begins v o H) :
    Meets (Builtin.«enumerate.__new__» ⟨[.type "enumerate", v], []⟩) (fun _ R s => H s.heap ∧
      R (.ok (.ret (.ref (s.heap.push o).objs.size))) { s with heap := (s.heap.push o).push { cls := .type "enumerate", data := .fields #[.none, .bool false, .ref s.heap.objs.size, rawInt 0, .none, .none] } }) :=
  .of_wp fun prog w A R s h => by
    obtain ⟨hp, g, d, tk, os⟩ := s
    obtain ⟨h1, h⟩ := h
    have hsub := sub_enumerate
    have it1 : ∀ {A' : Around} {E : Value → Shared → Prop} {Q : Value → Shared → Prop}, Q (.ref hp.objs.size) ⟨hp.push o, g, d, tk, os⟩ → wpAny (model prog w) A' (pyIter v) Q E ⟨hp, g, d, tk, os⟩ :=
      fun q => B.iter prog w _ _ ⟨hp, g, d, tk, os⟩ _ h1 q
    wp_walk using it1
    apply wpAny_stack_any
    intro st
    apply wpAny_pure
    split
    · rename_i c _ _ _ _ _
      cases (c == Value.type "enumerate") <;> (wp_walk using it1) <;> exact ⟨_, rfl, h⟩
    · wp_walk using it1
      exact ⟨_, rfl, h⟩
section
variable {prog : Program} {w : World} {A : Around} {E : Value → Shared → Prop} {s : Shared}
theorem begins {v : Value} {o : Obj} {H : Heap → Prop} {Q : Value → Shared → Prop} (B : Begins v o H) (h1 : H s.heap)
    (h : ∀ h', IsEnum h' (s.heap.objs.size + 1) s.heap.objs.size 0 .none → h'.get? s.heap.objs.size = some o → (∀ b o, s.heap.get? b = some o → h'.get? b = some o) → Q (.ref (s.heap.objs.size + 1)) { s with heap := h' }) :
    wpAny (model prog w) A (call (.type "enumerate") [v]) Q E s := by
  apply callType_new F.called_enumerate (by decide) (F.typeCall_enumerate_1 _) (F.newCall_enumerate_1 _) (fun obj => F.args_object_init_2 obj _) F.entry_enumerate_new (made B)
  have sz : (s.heap.push o).objs.size = s.heap.objs.size + 1 := Heap.size_push ..
  refine ⟨h1, ?_⟩
  show _ ∧ _
  rw [sz]
  have he : IsEnum ((s.heap.push o).push { cls := .type "enumerate", data := .fields #[.none, .bool false, .ref s.heap.objs.size, rawInt 0, .none, .none] }) (s.heap.objs.size + 1) s.heap.objs.size 0 .none := by
    have q := Heap.get?_push_size (s.heap.push o) (o := { cls := .type "enumerate", data := .fields #[.none, .bool false, .ref s.heap.objs.size, rawInt 0, .none, .none] }) rfl
    rw [sz] at q
    exact q
  exact ⟨⟨_, he, rfl⟩, h _ he (Heap.get?_push_of_some _ (Heap.get?_push_size _ B.free)) fun b o x => Heap.get?_push_of_some _ (Heap.get?_push_of_some _ x)⟩
end
end DLEnum
end PySem
set_option maxHeartbeats 4000000
namespace DL
open PySem PySem.Spec PyProof.Rows L2
variable [Mode]
/-! ## enumerate(a tuple) -/
def IteT (K : PySem.W.Frag) (a : Addr) : It :=
  ⟨fun i H => ∃ (xs : List V) (x : V), SqT K H a xs ∧ xs[i]? = some x, fun i H v H' => ∃ T x, v = .ref T ∧ H T = none ∧ H' = upd H T (.tup [.int (i : Nat), x]) ∧ ∀ xs, SqT K H a xs → xs[i]? = some x, fun i H => ∃ xs : List V, SqT K H a xs ∧ xs.length ≤ i⟩
theorem turn_enumT {P : Program} {w : World} {K : PySem.W.Frag} {elts : List Expr} {kk : Nat} {tpos : Pos} (a e it : Addr) :
    Turn P w K (.Tuple elts kk tpos) (IteT K a) [e, it] e (fun i h => (∃ old, IsEnum h e it ((i : Nat) : Int) old) ∧ h.IsTupleIter it a i ∧ e ≠ it ∧ e ≠ a ∧ it ≠ a) where
  mem := by simp
  obj := by
    intro i h st b hb
    obtain ⟨⟨old, he⟩, ⟨o, ho, hc, hd⟩, _⟩ := st
    rcases List.mem_cons.mp hb with z | hb
    · subst z; exact ⟨_, he, fun v q => nomatch q⟩
    · rcases List.mem_singleton.mp hb with z
      subst z
      exact ⟨o, ho, fun v q => by rw [hd] at q; cases q⟩
  keep := by
    intro i h h' st k
    obtain ⟨⟨old, he⟩, hi, ne⟩ := st
    exact ⟨⟨old, k e (by simp) _ he⟩, hi.at fun o q => k it (by simp) o q, ne⟩
  item := by
    intro X hP hw hK hc i pins s σ H E I hf st hg
    subst hP hw hK
    obtain ⟨⟨old, he⟩, hit, ne, nea, nia⟩ := st
    obtain ⟨xs, x, hq, hx⟩ := hg
    obtain ⟨its, rv, p, hz⟩ := I.tuple hq
    obtain ⟨u, hu, ru⟩ := rv.get hx
    have pT : s.heap.IsTuple a its.toArray := p
    have el : e < s.heap.objs.size := Heap.lt_size he
    have il : it < s.heap.objs.size := by
      obtain ⟨_, q, _⟩ := hit
      exact Heap.lt_size q
    have hlt : i < its.toArray.size := by
      have := (List.getElem?_eq_some_iff.mp hu).1
      simpa using this
    have hh : X.A.in1.handled = none := I.ok.hd hc
    refine wpAny_pyNext_enum_itemD (PySem.Draws.tuple hh it a (Ne.symm nia) its.toArray) he ⟨hit, pT⟩ hlt ne (by simp; exact ⟨ne, nea⟩) ?_
    intro y h' tk hy ho st' hT hsz hk
    have yu : y = u := by
      have h1 : its[i]? = some y := by simpa using hy
      rw [hu] at h1
      exact (Option.some.inj h1).symm
    subst yu
    refine ⟨_, rfl, wpAny_letOwnedTupleGo_enum (s := { s with heap := h', toks := tk + 1 }) ho ?_⟩
    intro h2 he2 sb
    have hT2 : h2.get? s.heap.objs.size = some { cls := .type "tuple", data := .seq #[.int i tk, y] } := (sb.2 _ (Nat.ne_of_gt el)).trans hT
    have new : ObjOk X.prog X.w (upd H s.heap.objs.size (.tup [.int (i : Nat), x])) h2 s.heap.objs.size (.tup [.int (i : Nat), x]) :=
      ⟨by show 2 ≤ sizeLine; decide, [.int i tk, y], .cons ⟨_, rfl⟩ (.cons ru .nil), ⟨_, hT2, rfl, _, rfl⟩⟩
    have I1 : Inv X pins σ (upd H s.heap.objs.size (.tup [.int (i : Nat), x])) { s with heap := h2, toks := tk + 1 } := by
      refine I.turnedNew (ch := [e, it]) ?_ hf (Nat.le_refl _) new
      intro b o hb q
      have nb : b ≠ e := fun z => hb (by simp [z])
      have nb2 : b ≠ it := fun z => hb (by simp [z])
      exact (sb.2 b nb).trans (hk b o nb nb2 q)
    refine ⟨.ref s.heap.objs.size, _, I1, rfl, ⟨_, x, rfl, I.hok.fresh (Nat.le_refl _), rfl, ?_⟩, ⟨⟨y, ?_⟩, st'.1.at fun o q => (sb.2 it (Ne.symm ne)).trans q, ne, nea, nia⟩, ?_⟩
    · intro zs hz
      rw [I.tuple_inj hz hq]
      exact hx
    · have e1 : ((i + 1 : Nat) : Int) = (i : Int) + 1 := by omega
      rw [e1]
      exact he2
    · intro b hb
      have lb : b < s.heap.objs.size := by
        rcases List.mem_cons.mp hb with z | hb
        · rw [z]; exact el
        · rw [List.mem_singleton.mp hb]; exact il
      rw [upd_ne (Nat.ne_of_lt lb)]
      exact (hf b hb).1
  done := by
    intro X hP hw hK hc i pins s σ H E I hf st hg
    subst hP hw hK
    obtain ⟨⟨old, he⟩, hit, ne, nea, nia⟩ := st
    obtain ⟨xs, hq, hx⟩ := hg
    obtain ⟨its, rv, p, hz⟩ := I.tuple hq
    have pT : s.heap.IsTuple a its.toArray := p
    obtain ⟨f0, f1, f2, f3, f4, f5⟩ := hf it (by simp)
    have hl := rv.length
    have hh : X.A.in1.handled = none := I.ok.hd hc
    have none_ : its.toArray[i]? = none := by
      simp
      omega
    have D : Draws X.prog X.w X.A.in1 it [it, a] i (fun _ _ => False) (fun j h => j = i ∧ h.IsTupleIter it a i ∧ h.IsTuple a its.toArray) :=
      { live := fun _ _ st => let ⟨o, ho, _⟩ := st.2.1; ⟨o, ho⟩
        frame := fun _ _ _ st k => ⟨st.1, st.2.1.at fun o e => k it (by simp) o e, st.2.2.at fun o e => k a (by simp) o e⟩
        item := fun j s Q E hj st _ => absurd st.1 (Nat.ne_of_lt hj)
        done := fun s Q E st hE => wpAny_nextOf_tuple_end hh st.2.1 st.2.2 none_ hE }
    refine wpAny_pyNext_enum_endD D he ⟨rfl, hit, pT⟩ ?_
    intro h' eb
    exact ⟨rfl, I.turned (t' := s.toks) (fun b o hb q => eb b o hb q) f0 f1 f3 f4 f5⟩
  self := by
    intro A i s Q E st h
    obtain ⟨⟨_, he⟩, _⟩ := st
    exact wpAny_pyIter_enum he h
def iEnumA (K : PySem.W.Frag) (ta : TA) : TI := fun σ H R => ta σ H fun vs H1 => ∃ a xs, vs = [.ref a] ∧ ((SqL K H1 a xs ∧ R (Ite K a) H1) ∨ (SqT K H1 a xs ∧ R (IteT K a) H1))
theorem pi_enumA {X : Cx} {e : Expr} {ta : TA} {p pos tpos : Pos} {elts : List Expr} {kk : Nat} (hg : Gl X "enumerate") (hm : X.mg "enumerate" = none) (ha : PA X [e] ta) (hs : starEach [e] X.env = [(false, eval e X.env)] := by rfl) :
    PI X (.Tuple elts kk tpos) (.Call (.Name "enumerate" p) [e] [] pos) (iEnumA X.K ta) := by
  constructor
  intro pins s σ H R I h
  apply Call_ (ld_blt I hg hm boot_enumerate (PyProof.Rows.callWith_type1 (thn (ha.run pos pins s σ H _ I h) ?_) hs rfl))
  rintro us s1 ⟨vs, H1, I1, r1, a, xs, ex, q⟩
  subst ex
  cases r1 with
  | cons r rr =>
    cases rr
    cases r
    have fresh : ∀ b ∈ [s1.heap.objs.size + 1, s1.heap.objs.size], FpOk X pins H1 b := by
      intro b hb
      have le : s1.heap.objs.size ≤ b := by
        rcases List.mem_cons.mp hb with z | hb
        · rw [z]; exact Nat.le_add_right _ _
        · rw [List.mem_singleton.mp hb]; exact Nat.le_refl _
      exact I1.fpOk le (I1.hok.fresh le)
    rcases q with ⟨hq, q⟩ | ⟨hq, q⟩
    · obtain ⟨its, rv, p', hz⟩ := I1.list hq
      apply call_enumerate_list p'.isList
      intro h' he hit hsz hk
      apply wpAny_pyIter_enum he
      exact ⟨s1.heap.objs.size + 1, [s1.heap.objs.size + 1, s1.heap.objs.size], _, _, H1, rfl, I1.kept (t' := s1.toks) hk, turn_enum a _ _, ⟨⟨.none, he⟩, hit, Nat.succ_ne_self _⟩, fresh, q⟩
    · obtain ⟨its, rv, p', hz⟩ := I1.tuple hq
      have pT : s1.heap.IsTuple a its.toArray := p'
      apply DLEnum.begins (begins_tuple a its.toArray) pT
      intro h' he ho hk
      have la : a < s1.heap.objs.size := by
        obtain ⟨_, q, _⟩ := pT
        exact Heap.lt_size q
      apply wpAny_pyIter_enum he
      exact ⟨s1.heap.objs.size + 1, [s1.heap.objs.size + 1, s1.heap.objs.size], _, _, H1, rfl, I1.kept (t' := s1.toks) hk, turn_enumT a _ _, ⟨⟨.none, he⟩, ⟨_, ho, rfl, rfl⟩, Nat.succ_ne_self _, Nat.ne_of_gt (Nat.lt_succ_of_lt la), Nat.ne_of_gt la⟩, fresh, q⟩
section
variable {X : Cx} {W : WX} {e a b c : Expr} {es : List Expr} {pos p : Pos} {K : PySem.W.Frag} {ι : List Addr} {F H : Hp} {S : zae} {mg : Str → Option Value}
def zh5 (xs : List D) : List D := (List.range xs.length).zipWith (fun i x => pairD (.int (i : Nat)) x) xs
theorem enumD_get {xs : List D} {i : Nat} {d : D} (h : xs[i]? = some d) : (zh5 xs)[i]? = some (pairD (.int (i : Nat)) d) := by
  have hi := (List.getElem?_eq_some_iff.mp h).1
  unfold zh5
  rw [List.getElem?_zipWith, h, List.getElem?_range hi]
theorem zgm (xs : List D) : (zh5 xs).length = xs.length := by simp [zh5]
theorem zh9 {F1 : Hp} {H1 : Hp} {S1 : zae} (st : StR K ι F1 S1 H1) {T : Addr} (hT : H1 T = none) {u v : V} {d1 d2 : D} (w1 : Wd K F1 u d1) (w2 : Wd K F1 v d2) :
    Grow ι F1 H1 ι (upd F1 T (.tup [u, v])) (upd H1 T (.tup [u, v])) ∧ StR K ι (upd F1 T (.tup [u, v])) S1 (upd H1 T (.tup [u, v])) ∧ Wd K (upd F1 T (.tup [u, v])) (.ref T) (pairD d1 d2) :=
  have s2 := zdk st.sub hT (.tup [u, v])
  ⟨zd1 st.sub hT _, st.push hT _, .tup (.of upd_same) (.cons (w1.mono s2) (.cons (w2.mono s2) .nil))⟩
theorem itOk_enumL {F1 : Hp} {p1 : Addr} {vs : List V} {ds : List D} (s1 : F1 p1 = some (.lst vs)) (w1 : WdA K F1 vs ds) : ItOk K F1 (zh5 ds) (Ite K p1) := by
  refine ⟨fun H => SqL K H p1 vs, (Ite K p1).yld, ⟨fun i H hi g => ?_, fun H g => ⟨vs, g, by rw [zgm, w1.length]; exact Nat.le_refl _⟩, fun i H x H' _ _ y => y⟩, fun ι F2 S2 H2 st sm => .of (st.sub _ _ (sm _ _ s1)), fun ι F2 S2 H2 i x H3 st sm hi y => ?_⟩
  · rw [zgm, ← w1.length] at hi
    exact ⟨vs, vs[i], g, List.getElem?_eq_getElem hi⟩
  · obtain ⟨T, u, rfl, hT, rfl, hu⟩ := y
    have hu' := hu vs (.of (st.sub _ _ (sm _ _ s1)))
    obtain ⟨d, h1, h2⟩ := w1.get hu'
    obtain ⟨g, st', w⟩ := zh9 st hT (.int ((i : Nat) : Int)) (h2.mono sm)
    exact ⟨_, _, g, st', enumD_get h1, w⟩
theorem itOk_enumT {F1 : Hp} {p1 : Addr} {vs : List V} {ds : List D} (s1 : SqT K F1 p1 vs) (w1 : WdA K F1 vs ds) : ItOk K F1 (zh5 ds) (IteT K p1) := by
  refine ⟨fun H => SqT K H p1 vs, (IteT K p1).yld, ⟨fun i H hi g => ?_, fun H g => ⟨vs, g, by rw [zgm, w1.length]; exact Nat.le_refl _⟩, fun i H x H' _ _ y => y⟩, fun ι F2 S2 H2 st sm => zcj st.sub (zcj sm s1), fun ι F2 S2 H2 i x H3 st sm hi y => ?_⟩
  · rw [zgm, ← w1.length] at hi
    exact ⟨vs, vs[i], g, List.getElem?_eq_getElem hi⟩
  · obtain ⟨T, u, rfl, hT, rfl, hu⟩ := y
    have hu' := hu vs (zcj st.sub (zcj sm s1))
    obtain ⟨d, h1, h2⟩ := w1.get hu'
    obtain ⟨g, st', w⟩ := zh9 st hT (.int ((i : Nat) : Int)) (h2.mono sm)
    exact ⟨_, _, g, st', enumD_get h1, w⟩
def enum1 (x : DV) (S : zae) : Res (List D) := match x with
  | .dat (.lst xs) => .ok (zh5 xs) S
  | .dat (.tup xs) => .ok (zh5 xs) S
  | _ => .bad
def lEnum (f : XFn) : LFn := fun ρ S => (f ρ S).bind enum1
theorem di_enum {f : XFn} {elts : List Expr} {kk : Nat} {tpos : Pos} (h : DE X W e f) (hm : X.mg "enumerate" = none) (hg : Gl X "enumerate" := by rfl) (hs : starEach [e] X.env = [(false, eval e X.env)] := by rfl) (hse : starEach (e :: []) X.env = (false, eval e X.env) :: starEach [] X.env := by rfl) :
    DI X W (.Tuple elts kk tpos) (.Call (.Name "enumerate" p) [e] [] pos) (lEnum f) := by
  refine ⟨_, pi_enumA hg hm (pa_cons h.pe pa_nil hse) hs, fun σ H R ⟨ι, F, ρ, S, r, h⟩ => ?_⟩
  refine tD.bind (g := fun _ => enum1) r h fun v dv ι1 F1 S1 H1 r1 w1 g1 h1 => ?_
  unfold enum1 at h1
  split at h1
  · rename_i xs
    have w' : Wd X.K F1 v (.lst xs) := w1
    cases w' with
    | lst s w => exact ⟨_, _, rfl, .inl ⟨.of (r1.st.sub _ _ s), h1 ι1 F1 H1 .refl r1.st _ (itOk_enumL s w)⟩⟩
  · rename_i xs
    have w' : Wd X.K F1 v (.tup xs) := w1
    cases w' with
    | tup s w => exact ⟨_, _, rfl, .inr ⟨zcj r1.st.sub s, h1 ι1 F1 H1 .refl r1.st _ (itOk_enumT s w)⟩⟩
  · exact h1.elim
/-! ## zip -/
theorem zip_goes {vs us : List V} {ds es : List D} {F1 : Hp} (w1 : WdA K F1 vs ds) (w2 : WdA K F1 us es) {i : Nat} (hi : i < (zipD ds es).length) : ∃ x y, vs[i]? = some x ∧ us[i]? = some y := by
  simp only [zipD, List.length_zipWith] at hi
  have h1 := w1.length
  have h2 := w2.length
  exact ⟨vs[i]'(by omega), us[i]'(by omega), List.getElem?_eq_getElem _, List.getElem?_eq_getElem _⟩
theorem zip_stops {vs us : List V} {ds es : List D} {F1 : Hp} (w1 : WdA K F1 vs ds) (w2 : WdA K F1 us es) : vs.length ≤ (zipD ds es).length ∨ us.length ≤ (zipD ds es).length := by
  simp only [zipD, List.length_zipWith, w1.length, w2.length]
  omega
theorem itOk_zipL {F1 : Hp} {p1 p2 : Addr} {vs us : List V} {ds es : List D} (s1 : F1 p1 = some (.lst vs)) (w1 : WdA K F1 vs ds) (s2 : F1 p2 = some (.lst us)) (w2 : WdA K F1 us es) : ItOk K F1 (zipD ds es) (Itz K p1 p2) := by
  refine ⟨fun H => SqL K H p1 vs ∧ SqL K H p2 us, (Itz K p1 p2).yld, ⟨fun i H hi g => ?_, fun H g => ⟨vs, us, g.1, g.2, zip_stops w1 w2⟩, fun i H x H' _ _ y => y⟩, fun ι F2 S2 H2 st sm => ⟨.of (st.sub _ _ (sm _ _ s1)), .of (st.sub _ _ (sm _ _ s2))⟩, fun ι F2 S2 H2 i x H3 st sm hi y => ?_⟩
  · obtain ⟨x, y, h1, h2⟩ := zip_goes w1 w2 hi
    exact ⟨vs, us, x, y, g.1, g.2, h1, h2⟩
  · obtain ⟨T, u, v, rfl, hT, rfl, hu, hv⟩ := y
    obtain ⟨d, h1, h2⟩ := w1.get (hu vs (.of (st.sub _ _ (sm _ _ s1))))
    obtain ⟨e, h3, h4⟩ := w2.get (hv us (.of (st.sub _ _ (sm _ _ s2))))
    obtain ⟨g, st', w⟩ := zh9 st hT (h2.mono sm) (h4.mono sm)
    exact ⟨_, _, g, st', by unfold zipD; rw [List.getElem?_zipWith, h1, h3], w⟩
theorem itOk_zipT {F1 : Hp} {p1 p2 : Addr} {vs us : List V} {ds es : List D} (s1 : SqT K F1 p1 vs) (w1 : WdA K F1 vs ds) (s2 : SqT K F1 p2 us) (w2 : WdA K F1 us es) : ItOk K F1 (zipD ds es) (RZ.ItzT K p1 p2) := by
  refine ⟨fun H => SqT K H p1 vs ∧ SqT K H p2 us, (RZ.ItzT K p1 p2).yld, ⟨fun i H hi g => ?_, fun H g => ⟨vs, us, g.1, g.2, zip_stops w1 w2⟩, fun i H x H' _ _ y => y⟩, fun ι F2 S2 H2 st sm => ⟨zcj st.sub (zcj sm s1), zcj st.sub (zcj sm s2)⟩, fun ι F2 S2 H2 i x H3 st sm hi y => ?_⟩
  · obtain ⟨x, y, h1, h2⟩ := zip_goes w1 w2 hi
    exact ⟨vs, us, x, y, g.1, g.2, h1, h2⟩
  · obtain ⟨T, u, v, rfl, hT, rfl, hu, hv⟩ := y
    obtain ⟨d, h1, h2⟩ := w1.get (hu vs (zcj st.sub (zcj sm s1)))
    obtain ⟨e, h3, h4⟩ := w2.get (hv us (zcj st.sub (zcj sm s2)))
    obtain ⟨g, st', w⟩ := zh9 st hT (h2.mono sm) (h4.mono sm)
    exact ⟨_, _, g, st', by unfold zipD; rw [List.getElem?_zipWith, h1, h3], w⟩
def zip2 (x y : DV) (S : zae) : Res (List D) := match x, y with
  | .dat (.lst xs), .dat (.lst ys) => .ok (zipD xs ys) S
  | .dat (.tup xs), .dat (.tup ys) => .ok (zipD xs ys) S
  | _, _ => .bad
def lZip (f g : XFn) : LFn := fun ρ S => (f ρ S).bind fun x S1 => (g ρ S1).bind fun y S2 => zip2 x y S2
theorem di_zip {f g : XFn} {elts : List Expr} {kk : Nat} {tpos : Pos} (ha : DE X W a f) (hb : DE X W b g) (hm : X.mg "zip" = none) (hg : Gl X "zip" := by rfl) (hs : starEach [a, b] X.env = (false, eval a X.env) :: starEach [b] X.env := by rfl) (hpl : (backTo pos (starEach [b] X.env)).any (·.1) = false := by rfl) (hse : starEach (b :: []) X.env = (false, eval b X.env) :: starEach [] X.env := by rfl) :
    DI X W (.Tuple elts kk tpos) (.Call (.Name "zip" p) [a, b] [] pos) (lZip f g) := by
  refine ⟨_, RZ.pi_zipA hg hm (pa_cons ha.pe (pa_cons hb.pe pa_nil hse) hs) hs hpl, fun σ H R ⟨ι, F, ρ, S, r, h⟩ => ?_⟩
  refine tD.bind (g := fun ρ x S1 => (g ρ S1).bind fun y S2 => zip2 x y S2) r h fun v dv ι1 F1 S1 H1 r1 w1 g1 h1 => ?_
  refine tD.bind (g := fun ρ y S2 => zip2 dv y S2) r1 h1 fun u du ι2 F2 S2 H2 r2 w2 g2 h2 => ?_
  have w1' := w1.grow g2
  unfold zip2 at h2
  split at h2
  · rename_i xs ys
    have wa : Wd X.K F2 v (.lst xs) := w1'
    have wb : Wd X.K F2 u (.lst ys) := w2
    cases wa with
    | lst s1 v1 =>
      cases wb with
      | lst s2 v2 => exact ⟨_, _, _, _, rfl, .inl ⟨.of (r2.st.sub _ _ s1), .of (r2.st.sub _ _ s2), h2 ι2 F2 H2 .refl r2.st _ (itOk_zipL s1 v1 s2 v2)⟩⟩
  · rename_i xs ys
    have wa : Wd X.K F2 v (.tup xs) := w1'
    have wb : Wd X.K F2 u (.tup ys) := w2
    cases wa with
    | tup s1 v1 =>
      cases wb with
      | tup s2 v2 => exact ⟨_, _, _, _, rfl, .inr ⟨zcj r2.st.sub s1, zcj r2.st.sub s2, h2 ι2 F2 H2 .refl r2.st _ (itOk_zipT s1 v1 s2 v2)⟩⟩
  · exact h2.elim
end
end DL
set_option maxHeartbeats 4000000
namespace DL
open PySem PySem.Spec PyProof.Rows L2
variable [Mode]
/-! ## sorted(set(ints)) -/
def insS (n : Int) : List Int → List Int
  | [] => [n]
  | m :: r => if n < m then n :: m :: r else if n = m then m :: r else m :: insS n r
def sset : List Int → List Int
  | [] => []
  | n :: ns => insS n (sset ns)
theorem zki (n k : Int) : ∀ l : List Int, k ∈ insS n l ↔ k = n ∨ k ∈ l
  | [] => by simp [insS]
  | m :: r => by
    unfold insS
    have h := zki n k r
    split
    · simp
    · split
      · rename_i e; subst e; simp
      · simp [h]
        constructor
        · rintro (h | h | h) <;> simp [h]
        · rintro (h | h | h) <;> simp [h]
theorem ziw (n : Int) : ∀ l : List Int, l.Pairwise (· < ·) → (insS n l).Pairwise (· < ·)
  | [], _ => by simp [insS]
  | m :: r, h => by
    unfold insS
    rw [List.pairwise_cons] at h
    split
    · rename_i hn
      refine List.pairwise_cons.mpr ⟨fun k hk => ?_, List.pairwise_cons.mpr h⟩
      rcases List.mem_cons.mp hk with z | z
      · subst z; exact hn
      · have := h.1 k z; omega
    · split
      · exact List.pairwise_cons.mpr h
      · rename_i h1 h2
        refine List.pairwise_cons.mpr ⟨fun k hk => ?_, ziw n r h.2⟩
        rcases (zki n k r).mp hk with z | z
        · subst z; omega
        · exact h.1 k z
theorem zcw : ∀ l : List Int, (sset l).Pairwise (· < ·)
  | [] => .nil
  | n :: r => ziw n _ (zcw r)
theorem zdg (k : Int) : ∀ l : List Int, k ∈ sset l ↔ k ∈ l
  | [] => by simp [sset]
  | n :: r => by
    show k ∈ insS n (sset r) ↔ _
    rw [zki, zdg k r, List.mem_cons]
theorem zeq : ∀ {a b : List Int}, a.Pairwise (· < ·) → b.Pairwise (· < ·) → (∀ k, k ∈ a ↔ k ∈ b) → a = b
  | [], [], _, _, _ => rfl
  | [], y :: b, _, _, h => absurd ((h y).mpr List.mem_cons_self) (by simp)
  | x :: a, [], _, _, h => absurd ((h x).mp List.mem_cons_self) (by simp)
  | x :: a, y :: b, ha, hb, h => by
    rw [List.pairwise_cons] at ha hb
    have e : x = y := by
      rcases List.mem_cons.mp ((h x).mp List.mem_cons_self) with z | z
      · exact z
      · rcases List.mem_cons.mp ((h y).mpr List.mem_cons_self) with q | q
        · exact q.symm
        · have := ha.1 y q; have := hb.1 x z; omega
    subst e
    have nx : x ∉ a := fun m => by have := ha.1 x m; omega
    have ny : x ∉ b := fun m => by have := hb.1 x m; omega
    have t : a = b := zeq ha.2 hb.2 fun k => by
      have q := h k
      simp only [List.mem_cons] at q
      constructor
      · intro m
        rcases q.mp (.inr m) with z | z
        · subst z; exact absurd m nx
        · exact z
      · intro m
        rcases q.mpr (.inr m) with z | z
        · subst z; exact absurd m ny
        · exact z
    rw [t]
section
variable {X : Cx} {W : WX} {e a b c : Expr} {es : List Expr} {pos p : Pos} {K : PySem.W.Frag} {ι : List Addr} {F H : Hp} {S : zae} {mg : Str → Option Value}
def rSetI (K : PySem.W.Frag) (w : World) : List V → Hp → VK → Prop := fun xs H Q => ∃ (a : Addr) (ns : List Int), xs = [V.ref a] ∧ (SqL K H a (ns.map V.int) ∨ SqT K H a (ns.map V.int)) ∧ ns.length < 64 ∧
  ∀ p c, H p = none → c ≤ ns.length → Q (.ref p) (upd H p (SetO w p (fun j => decide (j ∈ ns)) c))
theorem cr_setI (hc : X.calm = true) : CallR X (.type "set") (rSetI X.K X.w) := by
  intro pins s σ H xs us Q I r h
  obtain ⟨a, ns, rfl, hq, hl, q⟩ := h
  rw [Vals.ref1 r]
  have hb : ns.length + 1 < scanBound := by unfold scanBound; omega
  have fin : ∀ (h' : Heap) (tk c : Nat), SetR X.w h' s.heap.objs.size (fun j => decide (j ∈ ns)) c → c ≤ ns.length → (∀ b o, s.heap.get? b = some o → h'.get? b = some o) → EP X pins σ Q (.ref s.heap.objs.size) { s with heap := h', toks := tk } := by
    intro h' tk c R hc k
    exact ⟨.ref s.heap.objs.size, _, I.laid (t' := tk) k (Nat.le_refl _) (setO_new R), rfl, q _ c (I.hok.fresh (Nat.le_refl _)) hc⟩
  rcases hq with hq | hq
  · obtain ⟨its, rv, p, hz⟩ := I.list hq
    exact PySem.DLSet.set_of_list ns (I.ok.hd hc) p.isList (by simpa using RZ.intsAre_vals rv) hb fin
  · obtain ⟨its, rv, p, hz⟩ := I.tuple hq
    exact call_set_tupI ns (I.ok.hd hc) p (by simpa using RZ.intsAre_vals rv) hb fin
def sortS (x : DV) (S : zae) : Res (List D) := match rd S x with
  | some (.lst xs) => (match zfa xs with
    | some ns => if ns.length < 64 then .ok ((sset ns).map .int) S else .bad
    | none => .bad)
  | some (.tup xs) => (match zfa xs with
    | some ns => if ns.length < 64 then .ok ((sset ns).map .int) S else .bad
    | none => .bad)
  | _ => .bad
def zgt (f : XFn) : LFn := fun ρ S => (f ρ S).bind sortS
theorem zhb {f : XFn} {p2 p3 : Pos} (hc : X.calm = true) (h : DE X W a f) (hm : X.mg "sorted" = none) (hm2 : X.mg "set" = none) (hg : Gl X "sorted" := by rfl) (hg2 : Gl X "set" := by rfl)
    (he : starEach (a :: []) X.env = (false, eval a X.env) :: starEach [] X.env := by rfl)
    (he2 : starEach (.Call (.Name "set" p2) [a] [] p3 :: []) X.env = (false, eval (.Call (.Name "set" p2) [a] [] p3) X.env) :: starEach [] X.env := by rfl) :
    NE X W (.Call (.Name "sorted" p) [.Call (.Name "set" p2) [a] [] p3] [] pos) (zgt f) := by
  refine ⟨PE.weak (pe_callB (cr_sortedSet hc) hg hm (by decide +kernel) (pa_cons (pe_callTy (cr_setI hc) hg2 hm2 (by decide +kernel) (pa_cons h.pe pa_nil he) (by decide) (by decide) he rfl) pa_nil he2) (by decide) (by decide) he2 rfl) fun σ H Q ⟨ι, F, ρ, S, r, h⟩ => ?_⟩
  refine tD.bind (g := fun _ => sortS) r h fun v dv ι1 F1 S1 H1 r1 w1 g1 h1 => ?_
  unfold sortS at h1
  cases ed : rd S1 dv with
  | none => simp only [ed] at h1; exact h1.elim
  | some d =>
    have vw := r1.st.vw w1 ed
    have core : ∀ (ns : List Int) (p0 : Addr) (vs : List V) (xs : List D), (SqL X.K H1 p0 vs ∨ SqT X.K H1 p0 vs) → WdA X.K F1 vs xs → zfa xs = some ns → ns.length < 64 →
        Post X.K X.mg (fun c d H' => W c d σ H') ι1 F1 H1 (.ok ((sset ns).map D.int) S1) (fun ds ι' F' H' => ∀ p vs, H p = none → H' p = some (.lst vs) → F' p = none → p ∉ ι' → WdA X.K F' vs ds → Q (V.ref p) H') →
        rSetI X.K X.w [.ref p0] H1 (fun x H2 => rSortedSet X.w [x] H2 Q) := by
      intro ns p0 vs xs hs w ei hl hp
      have ev := intsOf_ok w ei
      subst ev
      refine ⟨p0, ns, rfl, hs, hl, fun p c hp0 hc => ⟨p, _, c, rfl, upd_same, by omega, fun ns' p' h1 h2 h3 h4 => ?_⟩⟩
      have e : ns' = sset ns := zeq h1 (zcw ns) fun k => by
        rw [h2 k, zdg]
        simp
      subst e
      have st2 := r1.st.alone hp0 (SetO X.w p (fun j => decide (j ∈ ns)) c)
      exact ne_new st2 (g1.trans (zda hp0 _)) (Post.grow (r := Res.ok _ S1) hp (zda hp0 _)) (zku _) h4
    cases vw with
    | lst s w =>
      rename_i p0 vs xs
      simp only [ed] at h1
      cases ei : zfa xs with
      | none => simp only [ei] at h1; exact h1.elim
      | some ns =>
        simp only [ei] at h1
        by_cases hl : ns.length < 64
        · simp only [hl, if_true] at h1
          exact (core ns _ _ _ (.inl (.of s)) w ei hl h1)
        · simp only [hl, if_false] at h1; exact h1.elim
    | tup s w =>
      rename_i p0 vs xs
      simp only [ed] at h1
      cases ei : zfa xs with
      | none => simp only [ei] at h1; exact h1.elim
      | some ns =>
        simp only [ei] at h1
        by_cases hl : ns.length < 64
        · simp only [hl, if_true] at h1
          exact (core ns _ _ _ (.inr (zcj r1.st.sub s)) w ei hl h1)
        · simp only [hl, if_false] at h1; exact h1.elim
    | _ => simp only [ed] at h1; exact h1.elim
end
end DL
set_option maxHeartbeats 4000000
namespace DL
open PySem PySem.Spec PyProof.Rows L2
variable [Mode]
/-! ## the law: its call over the heap behind the top, with the script alone tracked -/
section
variable {P : Program} {w : World} {K : PySem.W.Frag} {mg mb : Str → Option Value} {k : Nat} {fa a : Addr} {fd : FuncData} {x : Str} {g : Fn} {s1 : Shared} {vs : List Value} {ns : List Int}
structure Starts (K : PySem.W.Frag) (h : Heap) (a : Addr) (H : Hp) : Prop where
  scr : H a = none ∨ ∃ ob xs, H a = some (.frz ob (.lst xs))
  all : ∀ b, H b ≠ none → b = a ∨ b ∈ zb4 K
  key : H a ≠ none → K.lookup a = none
  tab : ∀ b ∈ zb4 K, H b = some (.tbl #[]) ∧ PySem.isCodeTable h b ∧ K.lookup b = none
theorem law_run (KX : K.In s1.heap) (hns : s1.heap.Ns mainGlobals mg) (hb : s1.heap.Ns builtinsNs mb) (hbb : ∀ x : Str, x ≠ "__name__" → mb x = bootBuiltins x) (hlim : s1.heap.NoLimit) (hg : s1.gens = #[])
    (ha : s1.heap.get? a = some { cls := .type "list", data := .seq vs.toArray }) (hi : IntsAre vs ns) (hl : ns.length ≤ sizeLine) (hr : Room k callerA)
    (Fg : ∀ base : Heap, K.In base → base.Ns mainGlobals mg → FnG P w K mg base k fa fd [x] (spD K mg 1 g)) (bind : ∀ (s : Shared) (u : Value), BindsTo s fd ⟨[u], []⟩ [(x, u)])
    (ans : ∃ S, g [.scr ns] [] = .ok (.dat (.bl true)) S) (H : Hp) (B : Starts K s1.heap a H) (hS : SqL K H a (ns.map V.int)) (hok : HOk P w H s1.heap) :
    codeAny (model P w) callerA (.call (.ref fa) ⟨[.ref a], []⟩) (fun r s' => r = .ok (.ret (.bool true)) ∧ OldK s1.heap s'.heap ∧ s'.os = s1.os ∧ AllBare s'.gens) s1 := by
  have isA : ∀ {b : Addr} {u : HO}, H b = some u → b = a ∨ b ∈ zb4 K := fun {b u} q => B.all b (by rw [q]; simp)
  have atT : ∀ b ∈ zb4 K, s1.heap.get? b = some { cls := .none, data := .fields #[] } := fun b hb => hok b _ (B.tab b hb).1
  have naT : a ∉ zb4 K := fun m => by
    have := atT a m
    rw [ha] at this
    cases this
  have nsOf : ∀ {b : Addr} {m : Str → Option Value}, s1.heap.Ns b m → (hidT s1.heap H).Ns b m := by
    intro b m h
    obtain ⟨o, es, ep, e, d, r⟩ := h
    refine ⟨o, es, ep, hidT_get e ?_, d, r⟩
    cases q : H b with
    | none => rfl
    | some u =>
      rcases isA q with z | z
      · subst z
        rw [ha] at e
        cases e
        exact nomatch (show Data.seq vs.toArray _ = Data.dict es ep from d)
      · rw [atT b z] at e
        cases e
        exact nomatch (show Data.fields _ = Data.dict es ep from d)
  have KB : K.In (hidT s1.heap H) := by
    intro b o e
    refine hidT_get (KX b o e) ?_
    cases q : H b with
    | none => rfl
    | some u =>
      rcases isA q with z | z
      · subst z
        have := B.key (by rw [q]; simp)
        rw [this] at e
        cases e
      · rw [(B.tab b z).2.2] at e
        cases e
  have md : Mod K mg (hidT s1.heap H) := by
    refine ⟨KB, nsOf hns, ⟨mb, nsOf hb, hbb⟩, ?_⟩
    obtain ⟨mc, h1, h2⟩ := hlim
    exact ⟨mc, nsOf h1, h2⟩
  have e0 : Env0 P w K mg (hidT s1.heap H) callerA [] s1 H :=
    { frames := rfl
      mod := md
      bs := fun b o e => of_hidT e
      bsz := Nat.le_of_eq (hidT_size _ _)
      funs := trivial
      frf := fun b hb => nomatch hb
      hok := hok
      bare := .of_eq hg }
  obtain ⟨S, ea⟩ := ans
  let F : Hp := fun b => if b = a then H a else none
  have fA : F a = H a := if_pos rfl
  have fN : ∀ b, b ≠ a → F b = none := fun b h => if_neg h
  have sFH : Same F H := fun b o e => by
    by_cases h : b = a
    · subst h; rw [fA] at e; exact e
    · rw [fN b h] at e; cases e
  have st : StR K [] F [] H := ⟨sFH, rfl, fun _ => List.nodup_nil, fun b hb => (nomatch hb), fun k ds e => by simp at e, fun k ds e => by simp at e, fun b hb => LamX.TabS.nil (B.tab b.1 (List.mem_map_of_mem hb)).1, fun b hb => fN b (fun z => naT (z ▸ hb)), fun k ds e => by simp at e⟩
  have hSF : SqL K F a (ns.map V.int) := by
    rcases hS with (z | ⟨o, z⟩) | z
    · exact .inl (.inl (by rw [fA]; exact z))
    · exact .inl (.inr ⟨o, by rw [fA]; exact z⟩)
    · exact .inr z
  have sp : spD K mg 1 g [.ref a] H (fun v _ => v = .bl true) (fun _ _ _ => False) := by
    refine ⟨rfl, [], F, [], [.scr ns], st, .cons ⟨a, rfl, hSF⟩ .nil, ?_⟩
    rw [ea]
    intro ι' F' H' gr st' v wv
    have wv' : Wd K F' v (.bl true) := wv
    cases wv'
    rfl
  refine codeAny_mono ((Fg _ KB (nsOf hns)).run callerA [] s1 H ⟨[.ref a], []⟩ [.ref a] [.ref a] _ _ (.of hr) (fun _ => hr.hd) rfl e0 (bind s1 (.ref a)) (.cons rfl .nil) sp) ?_
  intro r s' h
  cases r with
  | error e =>
    obtain ⟨_, _, _, _, _, _, _, _, _, _, _, _, z⟩ := h
    exact z.elim
  | ok fl =>
    cases fl with
    | next => exact h.elim
    | brk => exact h.elim
    | cont => exact h.elim
    | ret u =>
      obtain ⟨v, H', os, bare, un, hok', rv, q⟩ := h
      have q' : v = .bl true := q
      subst q'
      obtain rfl : u = Value.bool true := rv
      have keep : ∀ b o, s1.heap.get? b = some o → b ∉ zb4 K → s'.heap.get? b = some o := by
        intro b o e nt
        cases q : H b with
        | none => exact un.keep b o e q (fun z => nomatch (show b ∈ ([] : List Addr) from z)) (by simp)
        | some u =>
          rcases isA q with z | z
          · subst z
            rcases B.scr with z | ⟨ob, xs, z⟩
            · rw [q] at z; cases z
            · obtain ⟨e1, _⟩ := hok b _ z
              obtain ⟨e2, _⟩ := hok' b _ (un.frzs b ob _ z)
              rw [e] at e1
              cases e1
              exact e2
          · exact absurd z nt
      have keepT : ∀ b ∈ zb4 K, ∃ more, s'.heap.get? b = some { cls := .none, data := .fields (#[] ++ more) } := fun b hb => by
        obtain ⟨more, hm⟩ := un.tbls b _ (B.tab b hb).1
        exact ⟨more, hok' b _ hm⟩
      refine ⟨rfl, ⟨fun b o e => ?_, fun b o e => ?_⟩, os, bare⟩
      · by_cases hb : b ∈ zb4 K
        · obtain ⟨more, hm⟩ := keepT b hb
          have := atT b hb
          rw [e] at this
          cases this
          exact .inr (.inl ⟨(B.tab b hb).2.1, rfl, #[], more, rfl, hm⟩)
        · exact .inl (keep b o e hb)
      · by_cases hb : b ∈ zb4 K
        · obtain ⟨more, hm⟩ := keepT b hb
          exact ⟨_, hm⟩
        · exact ⟨o, keep b o e hb⟩
def TabLook (K : PySem.W.Frag) (h : Heap) : Prop := ∀ b ∈ zb4 K, h.get? b = some { cls := .none, data := .fields #[] } ∧ PySem.isCodeTable h b ∧ K.lookup b = none
theorem walkD {l : PySem.W.OpenLaw} {n : Nat} {q : Program} {loose : List Str} {XP : (Str → Option Value) → Heap → Prop} {YP : World → Heap → Prop} {d : DefRec}
    (hn : l.most = some n) (hn2 : n ≤ sizeLine) (hdf : d.params.defaults = []) (hr : Room k callerA)
    (F : ∀ (w : World) (mg : Str → Option Value) (fa : Addr) (h : Heap), YP w h → h.Ns mainGlobals mg → mg d.name = some (.ref fa) →
      ∃ (K : PySem.W.Frag) (fd : FuncData), K.In h ∧ TabLook K h ∧ (∀ (s : Shared) (u : Value), BindsTo s fd ⟨[u], []⟩ [(x, u)]) ∧ (∀ base : Heap, K.In base → base.Ns mainGlobals mg → FnG l.prog w K mg base k fa fd [x] (spD K mg 1 g)))
    (ans : ∀ ns : List Int, ns.length ≤ n → ∃ S, g [.scr ns] [] = .ok (.dat (.bl true)) S) :
    PySem.W.WalkO q loose XP YP l.row.toRowW d [] (fun f vs => PySem.call f vs) := by
  apply Att.attach_call hn hdf
  intro w s0 s1 mg mb fa o pm cd doc a vs ns G Y ho hd hcd hmg hobj hints hlen hg
  obtain ⟨K, fd, KX, hT, hb, hF⟩ := F w mg fa _ Y G.T.g hmg
  have hl : ns.length ≤ sizeLine := Nat.le_trans hlen hn2
  have core := law_run KX G.T.g G.T.b G.T.builtins G.T.nolimit hg hobj hints hl hr hF hb (ans ns hlen)
  have rv := vals_ints hints
  have lenV := hints.length
  have naT : a ∉ zb4 K := fun m => by
    have := (hT a m).1
    rw [hobj] at this
    cases this
  cases hk : K.lookup a with
  | some ob =>
    have e := KX a ob hk
    rw [hobj] at e
    cases e
    refine core (fun b => if b ∈ zb4 K then some (.tbl #[]) else none) ⟨.inl (if_neg naT), fun b hb => ?_, fun h => absurd (if_neg naT) h, fun b hb => ⟨if_pos hb, (hT b hb).2⟩⟩ ?_ ?_
    · by_cases hm : b ∈ zb4 K
      · exact .inr hm
      · exact absurd (if_neg hm) hb
    · exact .inr ⟨_, vs.toArray, _, hk, rfl, rfl, rfl, by rw [List.size_toArray, lenV]; exact hl, by simpa using rv⟩
    · intro b u z
      by_cases hm : b ∈ zb4 K
      · have z2 := (if_pos hm).symm.trans z
        cases z2
        exact (hT b hm).1
      · exact nomatch (if_neg hm).symm.trans z
  | none =>
    have ifA : (if a ∈ zb4 K then some (HO.tbl #[]) else if a = a then some (HO.frz { cls := .type "list", data := .seq vs.toArray } (.lst (ns.map V.int))) else none) = some (HO.frz { cls := .type "list", data := .seq vs.toArray } (.lst (ns.map V.int))) := by
      rw [if_neg naT, if_pos rfl]
    refine core (fun b => if b ∈ zb4 K then some (.tbl #[]) else if b = a then some (.frz { cls := .type "list", data := .seq vs.toArray } (.lst (ns.map V.int))) else none) ⟨.inr ⟨_, _, ifA⟩, fun b hb => ?_, fun _ => hk, fun b hb => ⟨if_pos hb, (hT b hb).2⟩⟩ (.inl (.inr ⟨_, ifA⟩)) ?_
    · by_cases hm : b ∈ zb4 K
      · exact .inr hm
      · by_cases h2 : b = a
        · exact .inl h2
        · exact absurd ((if_neg hm).trans (if_neg h2)) hb
    · intro b u z
      by_cases hm : b ∈ zb4 K
      · have z2 := (if_pos hm).symm.trans z
        cases z2
        exact (hT b hm).1
      · by_cases h2 : b = a
        · have z2 := ((if_neg hm).trans (if_pos h2)).symm.trans z
          cases z2
          subst h2
          exact ⟨hobj, by rw [List.length_map]; exact hl, vs, _, rv, hobj⟩
        · exact nomatch ((if_neg hm).trans (if_neg h2)).symm.trans z
end
end DL
set_option maxHeartbeats 4000000
namespace PySem
namespace DLTup
open L2 PyProof.Rows
theorem mul_self (l : Addr) (items : Array Value) (n : Nat) (dd : Option Addr) (sl : Array (Option Value)) (x : Int) (u : Tok) (c0 : (decide (x < -(2 ^ 63)) || decide (x ≥ 2 ^ 63)) = false) (c1 : (items.isEmpty || x == 1) = true) :
    Meets (Builtin.«tuple.__mul__» ⟨[.ref l, .int x u], []⟩) (fun _ R s => s.heap.get? l = some { cls := .type "tuple", dict := dd, data := .seq items n, slots := sl } ∧ R (.ok (.ret (.ref l))) s) :=
  .of_wp fun prog w A R s h => by
    obtain ⟨hp, g, d, tk, os⟩ := s
    obtain ⟨hl, h⟩ := h
    have f1 := AutoSeq1.idx_int
    wp_walk using wpAny_loadPart' hl
    repeat (first
      | (refine wpAny_ite_false (decide_eq_false (by rw [c0]; exact Bool.false_ne_true)) ?_; wp_walk using wpAny_loadPart' hl)
      | (refine wpAny_ite_true (decide_eq_true c1) ?_; wp_walk using wpAny_loadPart' hl))
    all_goals exact ⟨_, rfl, h⟩
end DLTup
end PySem
namespace DL
open PySem PySem.Spec PyProof.Rows L2
variable [Mode]
section
variable {X : Cx} {W : WX} {e a b c : Expr} {es : List Expr} {pos p : Pos} {K : PySem.W.Frag} {ι : List Addr} {F H : Hp} {S : zae} {mg : Str → Option Value}
/-! ## tuple * 1, () * n: the same tuple -/
def rRepE (K : PySem.W.Frag) : R2 := fun x y H Q => ∃ l k xs, x = V.ref l ∧ y = V.int k ∧ SqT K H l xs ∧ (xs = [] ∨ k = 1) ∧ -1000 ≤ k ∧ k ≤ 1000 ∧ Q (.ref l) H
theorem op_repE : OpR X (binaryOp .Mult) (rRepE X.K) := by
  intro pins s σ H x y v u Q I rx ry ⟨l, k, xs, ex, ey, hT, hk, h1, h2, q⟩
  subst ex
  subst ey
  cases rx
  obtain ⟨t, rfl⟩ := ry
  obtain ⟨its, r, ⟨⟨cls, dd, data, sl⟩, ho, hc, n, hd⟩, hs⟩ := I.tuple hT
  simp only at hc hd
  subst hc hd
  have c0 : (decide (k < -(2 ^ 63)) || decide (k ≥ 2 ^ 63)) = false := by
    rw [decide_eq_false (by omega), decide_eq_false (by omega)]
    rfl
  have c1 : (its.toArray.isEmpty || k == 1) = true := by
    rcases hk with e | e
    · subst e
      cases r
      rfl
    · subst e
      simp
  exact wpAny_binaryOp_repeat_ref (T := "tuple") (U := "int") (by decide) ⟨_, ho, rfl⟩ (fun s' => typeIs_int s' k t) noFill_tuple_mul F.fills_int_mul F.slot_int_rmul repeat_tuple F.slot_int_index.lookup
    (call_meets F.slot_int_rmul (typeIs_int s k t) F.entry_int_rmul (F.args_int_rmul_2 _ _) (int_rmul_tuple k t l its.toArray n dd sl)
      ⟨ho, rfl, ⟨_, ho, rfl⟩, call_meets F.slot_tuple_mul ⟨_, ho, rfl⟩ F.entry_tuple_mul (F.args_tuple_mul_2 _ _) (PySem.DLTup.mul_self l its.toArray n dd sl k t c0 c1) ⟨ho, ⟨.ref l, H, I, rfl, q⟩⟩⟩)
def zb6 : D → D → Option D
  | .tup a, .int k => if (a = [] ∨ k = 1) ∧ -1000 ≤ k ∧ k ≤ 1000 then some (.tup a) else dMul (.tup a) (.int k)
  | x, y => dMul x y
abbrev rMulA (K : PySem.W.Frag) : R2 := fun x y H Q => rMulD K x y H Q ∨ rRepE K x y H Q
theorem zct : OpR X (binaryOp .Mult) (rMulA X.K) := op_mulD.or op_repE
theorem zb8 : OpOk K (rMulA K) (o2 zb6) := zh0 fun ι F H S v u a b c Q st va vb e q => by
  unfold zb6 at e
  split at e
  · split at e
    · rename_i hk
      cases e
      cases va with
      | tup s w =>
        cases vb
        refine .inr ⟨_, _, _, rfl, rfl, zcj st.sub s, ?_, hk.2.1, hk.2.2, q.same st (.tup s w)⟩
        rcases hk.1 with z | z
        · subst z
          cases w
          exact .inl rfl
        · exact .inr z
    · exact .inl (dMul_core st va vb e q)
  · exact .inl (dMul_core st va vb e q)
/-! ## -n -/
def neg1 (x : DV) (S : zae) : Res DV := match x with
  | .dat (.int i) => .ok (.dat (.int (-i))) S
  | _ => .bad
def xNeg (f : XFn) : XFn := fun ρ S => (f ρ S).bind neg1
theorem zji {f : XFn} (h : DE X W a f) : DE X W (.UnaryOp .USub a pos) (xNeg f) := by
  refine ⟨PE.weak (pe_un un_neg h.pe) fun σ H Q ⟨ι, F, ρ, S, r, h⟩ => ?_⟩
  refine tD.bind (g := fun _ => neg1) r h fun v dv ι1 F1 S1 H1 r1 w1 g1 h1 => ?_
  unfold neg1 at h1
  split at h1
  · rename_i i
    have w' : Wd X.K F1 v (.int i) := w1
    cases w'
    exact ⟨i, rfl, h1 ι1 F1 H1 .refl r1.st _ (.int _)⟩
  · exact h1.elim
/-! ## a list or a tuple walked -/
def iSeq (K : PySem.W.Frag) (tl : TE) : TI := fun σ H R => tl σ H fun x H1 => ∃ a, x = .ref a ∧ (((∃ xs, SqL K H1 a xs) ∧ R (Itl K a) H1) ∨ ((∃ xs, SqT K H1 a xs) ∧ R (Itt K a) H1))
theorem pi_seq {tg l : Expr} {tl : TE} (hl : PE X l tl) : PI X tg l (iSeq X.K tl) := by
  constructor
  intro pins s σ H R I h
  apply thn (hl.run pins s σ H _ I h)
  rintro v s1 ⟨x, H1, I1, r1, a, ex, q⟩
  subst ex
  cases r1
  have fresh : ∀ b ∈ [s1.heap.objs.size], FpOk X pins H1 b := by
    intro b hb
    rw [List.mem_singleton.mp hb]
    exact I1.fpOk (Nat.le_refl _) (I1.hok.fresh (Nat.le_refl _))
  rcases q with ⟨⟨xs, hq⟩, q⟩ | ⟨⟨xs, hq⟩, q⟩
  · obtain ⟨its, rv, p, hz⟩ := I1.list hq
    apply wpAny_pyIter_list p.isList
    exact ⟨s1.heap.objs.size, [s1.heap.objs.size], _, _, H1, rfl, I1.kept (t' := s1.toks) (fun b o e => Heap.get?_push_of_some _ e), turn_list a _, ⟨_, Heap.get?_push_size _ rfl, rfl, rfl⟩, fresh, q⟩
  · obtain ⟨its, rv, p, hz⟩ := I1.tuple hq
    apply wpAny_pyIter_tuple (show s1.heap.IsTuple a its.toArray from p)
    exact ⟨s1.heap.objs.size, [s1.heap.objs.size], _, _, H1, rfl, I1.kept (t' := s1.toks) (fun b o e => Heap.get?_push_of_some _ e), turn_tuple a _, ⟨_, Heap.get?_push_size _ rfl, rfl, rfl⟩, fresh, q⟩
def zhr (x : DV) (S : zae) : Res (List D) := match x with
  | .dat (.lst xs) => .ok xs S
  | .dat (.tup xs) => .ok xs S
  | _ => .bad
def lIt (f : XFn) : LFn := fun ρ S => (f ρ S).bind zhr
theorem zel {tg : Expr} {f : XFn} (h : DE X W e f) : DI X W tg e (lIt f) := by
  refine ⟨_, pi_seq h.pe, fun σ H R ⟨ι, F, ρ, S, r, h⟩ => ?_⟩
  refine tD.bind (g := fun _ => zhr) r h fun v dv ι1 F1 S1 H1 r1 w1 g1 h1 => ?_
  unfold zhr at h1
  split at h1
  · rename_i xs
    have w' : Wd X.K F1 v (.lst xs) := w1
    cases w' with
    | lst s w => exact ⟨_, rfl, .inl ⟨⟨_, .of (r1.st.sub _ _ s)⟩, h1 ι1 F1 H1 .refl r1.st _ (itOk_list s w)⟩⟩
  · rename_i xs
    have w' : Wd X.K F1 v (.tup xs) := w1
    cases w' with
    | tup s w => exact ⟨_, rfl, .inr ⟨⟨_, zcj r1.st.sub s⟩, h1 ι1 F1 H1 .refl r1.st _ (itOk_tup s w)⟩⟩
  · exact h1.elim
/-! ## more new lists -/
def cat2 (x y : DV) (S : zae) : Res (List D) := match rd S x, rd S y with
  | some (.lst xs), some (.lst ys) => if xs.length + ys.length ≤ sizeLine then .ok (xs ++ ys) S else .bad
  | _, _ => .bad
def lCat (f g : XFn) : LFn := fun ρ S => (f ρ S).bind fun x S1 => (g ρ S1).bind fun y S2 => cat2 x y S2
theorem zim {f g : XFn} (ha : DE X W a f) (hb : DE X W b g) : NE X W (.BinOp a .Add b pos) (lCat f g) := by
  refine ⟨PE.weak (pe_op op_cat ha.pe hb.pe) fun σ H Q ⟨ι, F, ρ, S, r0, h⟩ => ?_⟩
  refine tD.bind (g := fun ρ x S1 => (g ρ S1).bind fun y S2 => cat2 x y S2) r0 h fun v dv ι1 F1 S1 H1 r1 w1 g1 h1 => ?_
  refine tD.bind (g := fun ρ y S2 => cat2 dv y S2) r1 h1 fun u du ι2 F2 S2 H2 r2 w2 g2 h2 => ?_
  unfold cat2 at h2
  split at h2
  · rename_i xs ys e1 e2
    have v1 := r2.st.vw (w1.grow g2) e1
    have v2 := r2.st.vw w2 e2
    cases v1 with
    | lst s1 u1 =>
      cases v2 with
      | lst s2 u2 =>
        split at h2
        · rename_i hl
          exact ⟨_, _, _, _, rfl, rfl, s1, s2, by rw [u1.length, u2.length]; exact hl, fun p hp => ne_new r2.st (g1.trans g2) h2 (u1.append u2) hp⟩
        · exact h2.elim
  · exact h2.elim
def sRetN (f : LFn) : SFn := fun ρ S => (f ρ S).bindS ρ fun ds S1 => .rt (.obj S1.length) (S1 ++ [some ds])
theorem ds_retN {f : LFn} (h : NE X W e f) : DS X W (.Return (some e) pos) (sRetN f) := by
  refine ⟨_, ps_ret h.pe, fun D σ H ⟨ι, F, ρ, S, r, h⟩ => ⟨ι, F, ρ, S, r, ?_⟩⟩
  unfold sRetN at h
  cases q : f ρ S with
  | bad => rw [q] at h; exact h
  | ex c S1 => rw [q] at h; exact fun C ι' F' H' g st m => h C σ ι' F' H' g (r.slots g st) m
  | ok ds S1 =>
    rw [q] at h
    intro ι' F' H' g st p vs hp hH hF hι w
    exact h (.ref p) (ι' ++ [p]) F' H' (zfz g hp) (st.add hH hF hι w) (wv_new hι st.len)
/-! ## a, b = e1, e2 -/
def sPar (i j : Nat) (f g : XFn) : SFn := fun ρ S => (f ρ S).bindS ρ fun x S1 => (g ρ S1).bindS ρ fun y S2 => .nx ((ρ.set i (some x)).set j (some y)) S2
theorem ds_par {i j : Nat} {x y : Str} {px py pt pt2 : Pos} {kt k2 : Nat} {f g : XFn} (hc : X.calm = true) (ha : DE X W a f) (hb : DE X W b g) (hN : X.N.Nodup) (hi : X.N[i]? = some x := by rfl) (hj : X.N[j]? = some y := by rfl) (hij : i ≠ j := by decide)
    (hx : X.env.scope.names.lookup x = some .local := by rfl) (hy : X.env.scope.names.lookup y = some .local := by rfl)
    (hw : swappedStores [.Tuple [.Name x px, .Name y py] kt pt] (.Tuple [a, b] k2 pt2) X.env = pure (some [x, y]) := by rfl)
    (hs : swapsWithSole [.Tuple [.Name x px, .Name y py] kt pt] (.Tuple [a, b] k2 pt2) pos.line X.env = pure false := by rfl)
    (he : starEach (a :: [b]) X.env = (false, eval a X.env) :: starEach [b] X.env := by rfl) (he2 : starEach (b :: []) X.env = (false, eval b X.env) :: starEach [] X.env := by rfl)
    (hq : starEach [a, b] X.env = [(false, eval a X.env), (false, eval b X.env)] := by rfl) :
    DS X W (.Assign [.Tuple [.Name x px, .Name y py] kt pt] (.Tuple [a, b] k2 pt2) pos) (sPar i j f g) := by
  refine ⟨_, ps_par hc hN hi hj hij hx hy (pa_cons ha.pe (pa_cons hb.pe pa_nil he2) he) hw hs, fun D σ H ⟨ι, F, ρ, S, r, h⟩ => ?_⟩
  refine tD.bindS (g := fun ρ x S1 => (g ρ S1).bindS ρ fun y S2 => .nx ((ρ.set i (some x)).set j (some y)) S2) r h fun v dv ι1 F1 S1 H1 r1 w1 g1 h1 => ?_
  refine tD.bindS (g := fun ρ y S2 => .nx ((ρ.set i (some dv)).set j (some y)) S2) r1 h1 fun u du ι2 F2 S2 H2 r2 w2 g2 h2 => ?_
  exact ⟨v, u, rfl, h2 _ ι2 F2 H2 .refl ((r2.set (w1.grow g2) i).set w2 j)⟩
/-! ## how many arguments; a def bound -/
def AL (f : AFn) (n : Nat) : Prop := ∀ ρ S ds S', f ρ S = .ok ds S' → ds.length = n
theorem zal : AL aNil 0 := fun ρ S ds S' e => by cases e; rfl
theorem zad {f : XFn} {g : AFn} {n : Nat} (h : AL g n) : AL (zaa f g) (n + 1) := fun ρ S ds S' e => by
  unfold zaa at e
  cases q : f ρ S with
  | ok d S1 =>
    rw [q] at e
    simp only [Res.bind_ok] at e
    cases q2 : g ρ S1 with
    | ok es S2 =>
      rw [q2] at e
      cases e
      simp [h _ _ _ _ q2]
    | ex c S2 => rw [q2] at e; cases e
    | bad => rw [q2] at e; cases e
  | ex c S1 => rw [q] at e; cases e
  | bad => rw [q] at e; cases e
theorem zb1 {q : Bool} {P : Program} {w : World} {base : Heap} {k n m : Nat} {x : Str} {params : Arguments} {body : List Stmt} {scope : Scope} {N ps : List Str} {g : SFn} (h : ∃ f fd, FunD K x x params body scope [] [] f fd ∧ mg x = some (.ref f)) (Sc : FnScope N ps scope)
    (hb : ∀ (kV doc pm : Value) (an : Option Addr) (cdv ct : Value) (us : List Value), us.length = ps.length → bindArgs (PySem.W.fnOf x x params body scope .none kV doc pm an cdv ct) ⟨us, []⟩ = pure (ps.zip us))
    (hbody : ∀ (f : Addr) (cdv : Value) (A : Around) (outer : List Env) (s : Shared) (H : Hp) (E : XK), RoomH k (A.deeper (envOfC x scope s.heap.objs.size f cdv)) → A.guards = some [] →
      DSs (cxQ q P w K mg base N x scope f cdv A outer s H E) (fun cls d _ H => E cls d H) body g) (hn : ps.length = n := by rfl) (hm : N.length = m := by rfl) (plm : Mode.plain = true := by rfl) : DefQ q P w K mg base (k + 1) x n (za6 m g) := by
  obtain ⟨f, fd, Fd, hmg⟩ := h
  exact ⟨f, fd, ps, fn_D Fd Sc hn hm (hbody f) plm, hmg, Fd.kp, Fd.bindsN hb⟩
end
end DL
set_option maxHeartbeats 4000000
namespace DL
open PySem PySem.Spec PyProof.Rows L2
variable [Mode]
section
variable {X : Cx} {W : WX} {e a b c : Expr} {es : List Expr} {pos p : Pos} {K : PySem.W.Frag} {ι : List Addr} {F H : Hp} {S : zae} {mg : Str → Option Value}
/-! ## comparisons as tests -/
def bool1 (x : DV) (S : zae) : Res Bool := match x with
  | .dat (.bl b) => .ok b S
  | _ => .bad
def tBl (f : XFn) : TFn := fun ρ S => (f ρ S).bind bool1
theorem tT_bl {f : XFn} {σ : L2.St} {H : Hp} {Q : Bool → Hp → Prop} (h : tT X W (tBl f) σ H Q) : tD X W f σ H fun x H' => ∃ k, x = .bl k ∧ Q k H' := by
  obtain ⟨ι, F, ρ, S, r, h⟩ := h
  refine tD.bind (g := fun _ => bool1) r h fun v dv ι1 F1 S1 H1 r1 w1 g1 h1 => ?_
  unfold bool1 at h1
  split at h1
  · rename_i k
    have w' : Wd X.K F1 v (.bl k) := w1
    cases w'
    exact ⟨k, rfl, h1 ι1 F1 H1 .refl r1.st⟩
  · exact h1.elim
theorem za0 {op : CmpOp} {r : R2} {o : Op2} {f g : XFn} (ho : OpR X (compareOp op) r) (k : OpOk X.K r o) (ha : DE X W a f) (hb : DE X W b g) (hm : behindInMarks op b = false := by rfl) : DT X W (.Compare a [op] [b] pos) (tBl (x2 o f g)) := by
  refine ⟨PT.weak (pt_cmpR ho ha.pe hb.pe hm) fun σ H Q h => ?_⟩
  obtain ⟨ι, F, ρ, S, r0, h⟩ := tT_bl h
  refine tD.bind (g := fun ρ x S1 => (g ρ S1).bind fun y S2 => o x y S2) r0 h fun v dv ι1 F1 S1 H1 r1 w1 g1 h1 => ?_
  refine tD.bind (g := fun ρ y S2 => o dv y S2) r1 h1 fun u du ι2 F2 S2 H2 r2 w2 g2 h2 => ?_
  exact k _ _ ι2 F2 H2 S2 v u dv du _ r2.st (w1.grow g2) w2 h2
theorem dt_chain {op op' : CmpOp} {r r' : R2} {o o' : Op2} {f g k : XFn} (ho : OpR X (compareOp op) r) (ho' : OpR X (compareOp op') r') (k1 : OpOk X.K r o) (k2 : OpOk X.K r' o') (ha : DE X W a f) (hb : DE X W b g) (hc : DE X W c k)
    (hm : lastMarks [op, op'] [b, c] = false := by rfl) : DT X W (.Compare a [op, op'] [b, c] pos) (tBl (zhx o o' f g k)) := by
  refine ⟨PT.weak (pt_chain ho ho' ha.pe hb.pe hc.pe hm) fun σ H Q h => ?_⟩
  obtain ⟨ι, F, ρ, S, r0, h⟩ := tT_bl h
  refine tD.bind (g := fun ρ x S1 => (g ρ S1).bind fun y S2 => (o x y S2).bind fun z S3 => match z with
    | .dat (.bl true) => (k ρ S3).bind fun w S4 => o' y w S4
    | .dat (.bl false) => .ok (.dat (.bl false)) S3
    | _ => .bad) r0 h fun v dv ι1 F1 S1 H1 r1 w1 g1 h1 => ?_
  refine tD.bind (g := fun ρ y S2 => (o dv y S2).bind fun z S3 => match z with
    | .dat (.bl true) => (k ρ S3).bind fun w S4 => o' y w S4
    | .dat (.bl false) => .ok (.dat (.bl false)) S3
    | _ => .bad) r1 h1 fun u du ι2 F2 S2 H2 r2 w2 g2 h2 => ?_
  refine k1 X.mg (fun c d H' => W c d σ H') ι2 F2 H2 S2 v u dv du _ r2.st (w1.grow g2) w2 ?_
  cases q : o dv du S2 with
  | ex c S3 => rw [q] at h2; exact h2
  | bad => rw [q] at h2; exact h2
  | ok z S3 =>
    rw [q] at h2
    intro ι3 F3 H3 g3 st3 zv wz
    have h3 := Post.grow (r := (match z with
      | .dat (.bl true) => (k ρ S3).bind fun w S4 => o' du w S4
      | .dat (.bl false) => .ok (.dat (.bl false)) S3
      | _ => .bad)) h2 g3
    have r3 := r2.slots g3 st3
    split at h3
    · have w' : Wd X.K F3 zv (.bl true) := wz
      cases w'
      refine ⟨true, rfl, ?_⟩
      rw [if_pos rfl]
      refine tD.bind (g := fun ρ w S4 => o' du w S4) r3 h3 fun t dt ι4 F4 S4 H4 r4 w4 g4 h4 => ?_
      exact k2 _ _ ι4 F4 H4 S4 u t du dt _ r4.st ((w2.grow g3).grow g4) w4 h4
    · have w' : Wd X.K F3 zv (.bl false) := wz
      cases w'
      exact ⟨false, rfl, by rw [if_neg (by simp)]; exact h3 ι3 F3 H3 .refl st3 _ (.bl _)⟩
    · exact h3.elim
theorem zge {h : Heap} {x : Str} (X : K.In h) (G : h.Ns mainGlobals mg) (c1 : (He.Fa.glo x).ok K = true) (c2 : (He.Fa.exc x).ok K = true) : ExcD K mg x := ⟨_, He.glo_ok X G c1, (He.exc_ok c2).1, (He.exc_ok c2).2.1, (He.exc_ok c2).2.2.1, (He.exc_ok c2).2.2.2⟩
/-! ## == of two texts, of any signs -/
def dNeS : D → D → Option D
  | .str x, .str y => some (.bl (!decide (x = y)))
  | a, b => dNe a b
theorem op_neS (hu : X.A.units + 64 < cLine) : OpR X (compareOp .NotEq) (fun x y H Q => rNeDD X.K x y H Q ∨ rNe x y H Q) := (zfn hu).or op_ne
theorem dNeS_ok : OpOk K (fun x y H Q => rNeDD K x y H Q ∨ rNe x y H Q) (o2 dNeS) := zh0 fun ι F H S v u a b c Q st va vb e q => by
  unfold dNeS at e
  split at e
  · cases e
    cases va
    cases vb
    rename_i x y
    have e1 : (decide (V.str x = V.str y)) = decide (x = y) := by simp
    exact .inr ⟨rfl, by rw [e1]; exact q.same st (.bl _)⟩
  · unfold dNe at e
    split at e
    · rename_i h
      cases e
      obtain ⟨h1, h2, h3⟩ := zkn h
      exact .inl ⟨_, _, (va.wd st.sub).dp h1, (vb.wd st.sub).dp h2, h1, h2, h3, q.same st (.bl _)⟩
    · cases e
theorem ru64 {k : Nat} {A : Around} (r : RoomH k A) : A.units + 64 < cLine := by have := r.un; omega
theorem ru65 {k : Nat} {A : Around} (r : RoomH k A) : A.units + 65 < cLine := by have := r.un; omega
end
end DL
set_option maxHeartbeats 4000000
namespace DL
open PySem PySem.Spec PyProof.Rows L2
variable [Mode]
section
variable {X : Cx} {W : WX} {pos : Pos}
theorem DSs.canon {st : List Stmt} {f : SFn} (h : DSs X W st f) : PSs X st (tS X W f) := by
  obtain ⟨t, p, k⟩ := h.ps
  exact ⟨fun pins s σ H D I q => p.run pins s σ H D I (k D σ H q)⟩
/-! ## try .. except X: .., several clauses without names -/
abbrev Hds := List ((Str → Option Bool) × SFn)
structure CatD (K : PySem.W.Frag) (mg : Str → Option Value) (x : Str) (m : Str → Option Bool) : Prop where
  ex : ∃ D, mg x = some (.ref D) ∧ ∀ c b C, m c = some b → mg c = some (.ref C) → PySem.W.exmOne K (.ref C) (.ref D) = some b
inductive HdsD (X : Cx) : List ExceptHandler → Hds → Prop
  | nil : HdsD X [] []
  | cons {x : Str} {m : Str → Option Bool} {f : SFn} {b0 : Stmt} {suite : List Stmt} {np hp : Pos} {hds : List ExceptHandler} {l : Hds} (hm : CatD X.K X.mg x m) (hg : Gl X x) (hdb : (x == ("__debug__" : Str)) = false)
      (hsu : ∀ (a : Addr) (pn : List (Addr × Obj)), DSs (X.suite a pn) W0 (b0 :: suite) f) (r : HdsD X hds l) : HdsD X (.ExceptHandler (some (.Name x np)) none (b0 :: suite) hp :: hds) ((m, f) :: l)
end
end DL
namespace DL
open PySem PySem.Spec PyProof.Rows L2
variable [Mode]
/-! ## which classes a clause catches, by a table -/
def catT (l : List (Str × Bool)) : Str → Option Bool := fun c => l.lookup c
inductive CatF (K : PySem.W.Frag) (y : Str) : List (Str × Bool) → Prop
  | nil : CatF K y []
  | cons {x : Str} {b : Bool} {l : List (Str × Bool)} (h1 : (He.Fa.glo x).ok K = true) (h2 : (He.Fa.exm x y b).ok K = true) (r : CatF K y l) : CatF K y ((x, b) :: l)
theorem catD_of {K : PySem.W.Frag} {h : Heap} {mg : Str → Option Value} {y : Str} {l : List (Str × Bool)} (X : K.In h) (G : h.Ns mainGlobals mg) (c : (He.Fa.glo y).ok K = true) (r : CatF K y l) : CatD K mg y (catT l) := by
  refine ⟨_, He.glo_ok X G c, fun x b C e hC => ?_⟩
  induction r with
  | nil => cases e
  | @cons x' b' l h1 h2 r ih =>
    simp only [catT, List.lookup_cons] at e
    split at e
    · rename_i hx
      cases e
      have hx := eq_of_beq hx
      subst hx
      have h3 := He.glo_ok X G h1
      rw [h3] at hC
      cases hC
      exact of_decide_eq_true h2
    · exact ih e
end DL
set_option maxHeartbeats 4000000
namespace DL
open PySem PySem.Spec PyProof.Rows L2
variable [Mode]
section
variable {X : Cx} {W : WX} {e a b c : Expr} {es : List Expr} {pos p : Pos} {K : PySem.W.Frag} {ι : List Addr} {F H : Hp} {S : zae} {mg : Str → Option Value}
/-! ## comprehensions with two sources -/
end
end DL
set_option maxHeartbeats 8000000
namespace PySem
namespace DLSort
open L2 PyProof.Rows
section
variable {prog : Program} {w : World} {A : Around} {E : Value → Shared → Prop} {s : Shared}
end
end DLSort
end PySem
namespace DL
open PySem PySem.Spec PyProof.Rows L2
variable [Mode]
section
variable {X : Cx} {W : WX} {e a b c : Expr} {es : List Expr} {pos p : Pos} {K : PySem.W.Frag} {ι : List Addr} {F H : Hp} {S : zae} {mg : Str → Option Value}
/-! ## sorted(x), any data that can be compared -/
end
end DL
set_option maxHeartbeats 8000000
namespace PySem
namespace DLSetT
open L2 PyProof.Rows
section
variable {P : Program} {w : World} {A : Around} {E : Value → Shared → Prop} {s : Shared}
end
end DLSetT
end PySem
set_option maxHeartbeats 4000000
namespace DL
open PySem PySem.Spec PyProof.Rows L2
variable [Mode]
/-! ## the order of tuples of ints -/
section
variable {X : Cx} {W : WX} {e a b c : Expr} {es : List Expr} {pos p : Pos} {K : PySem.W.Frag} {ι : List Addr} {F H : Hp} {S : zae} {mg : Str → Option Value}
end
end DL
set_option maxHeartbeats 4000000
namespace DL
open PySem PySem.Spec PyProof.Rows L2
variable [Mode]
section
variable {X : Cx} {W : WX} {e a b c : Expr} {es : List Expr} {pos p : Pos} {K : PySem.W.Frag} {ι : List Addr} {F H : Hp} {S : zae} {mg : Str → Option Value}
/-! ## while -/
/-! ## a live list walked by a for -/
/-! ## a comprehension over a live list -/
/-! ## a comprehension within a comprehension -/
/-! ## x in a list of texts -/
end
end DL
set_option maxHeartbeats 4000000
namespace L2
open PySem PySem.Spec PyProof.Rows
/-! ## an exception kept behind its clause -/
def ExR (cls : Value) (d : Option Addr) (a : Addr) : HO := .ext fun h => ∃ (oe : Obj) (vs : Array Value), h.get? a = some oe ∧ Zc cls d oe ∧ oe.data = .fields vs
section
variable {X : Cx} {pins : List (Addr × Obj)} {σ : St} {H : Hp} {s : Shared}
theorem Inv.trackE {a : Addr} {o : HO} {oe : Obj} {vs : Array Value} (J : Inv X pins σ H s) (hn : H a = none) (hg : s.heap.get? a = some oe) (hd : oe.data = .fields vs) (hL : a ≠ X.env.locals) (h0 : X.s_0.heap.get? a = none) (hp : ∀ p ∈ X.pn ++ pins, p.1 ≠ a)
    (new : ObjOk X.prog X.w (upd H a o) s.heap a o) : Inv X pins σ (upd H a o) s := by
  have apart : ∀ {b : Addr} {u : HO}, H b = some u → b ≠ a := fun e z => by rw [z, hn] at e; cases e
  refine ⟨J.ok, J.os, J.bare, ⟨J.base.keep, J.base.slot, fun b u e n x => ?_, J.base.there, fun b xs e => ?_, fun b u v e => ?_, fun b ps e => ?_⟩, J.loc, J.cell, ?_, fun x c e => ?_, fun p m => ?_, J.hok.laidN (fun _ _ z => z) hn new, J.len⟩
  · rw [upd_ne (fun z => by rw [z, h0] at e; cases e)]
    exact J.base.free b u e n x
  · have q := J.base.tups b xs e
    rw [upd_ne (apart q)]; exact q
  · have q := J.base.frzs b u v e
    rw [upd_ne (apart q)]; exact q
  · obtain ⟨more, q⟩ := J.base.tbls b ps e
    exact ⟨more, by rw [upd_ne (apart q)]; exact q⟩
  · rw [upd_ne (fun z => hL z.symm)]; exact J.free
  · obtain ⟨v, hc⟩ := J.cell x c e
    rw [upd_ne (fun z => ?_)]
    · exact J.freeC x c e
    · obtain ⟨ob, hc1, hc2⟩ := hc
      rw [z, hg] at hc1
      cases hc1
      rw [hd] at hc2
      cases hc2
  · obtain ⟨q1, q2, q3⟩ := J.pin p m
    exact ⟨q1, by rw [upd_ne (hp p m)]; exact q2, q3⟩
def wKp (K : PySem.W.Frag) (c : Value) (i j : Nat) (Wout : WX) (D : Ends) : WX := fun cls d τ G =>
  ∃ b, PySem.W.exmOne K cls c = some b ∧ (b = true → ∀ a, G a = none → D.nx (((τ.set i (some (.ref a))).set j (some (.ref a))).set i none) (upd G a (ExR cls d a))) ∧ (b = false → Wout cls d τ G)
end
section
variable {X : Cx} {x n : Str} {c : Value} {i j : Nat} {body suite : List Stmt} {b₀ : Stmt} {np hpos tpos : Pos} {tb : WX → TS} {Wout : WX}
theorem ps_try_keep (stk : X.stack = X.env :: X.outer) (frm : X.env.frame = some X.env.locals) (ndp : X.N.Nodup) (ixn : X.N[i]? = some n) (lcl : X.env.kindOf n = some .local) (nmc : Names X x c) (tk : Takes X Wout) (hex : X.ex = []) (hij : i < X.N.length)
    (bod : ∀ (V : WX) (pn : List (Addr × Obj)) (xe : Value → Shared → Prop), Takes (X.tr pn xe) V → PassesOwn (model X.prog X.w) X.A X.env xe → PSs (X.tr pn xe) body (tb V))
    (sui : ∀ (a : Addr) (pn : List (Addr × Obj)), PSs (X.suite a pn) (b₀ :: suite) (tAsg (tVar i) (gName j))) :
    PS X (.Try body [.ExceptHandler (some (.Name x np)) (some n) (b₀ :: suite) hpos] [] [] tpos) (fun D σ H => tb (wKp X.K c i j Wout D) D σ H) := by
  refine ⟨fun pins s σ H D I h => ?_⟩
  have okX := I.ok
  have fr2 : X.A.frames = some (X.env :: X.outer) := by rw [okX.frames, stk]
  have lcn : Loc X.env.scope n := .inl lcl
  refine wpAny_Try_except ?_
  have run0 := (bod (wKp X.K c i j Wout D) (X.pn ++ pins) (fun e s₁ => wpAny (model X.prog X.w) X.A (noteFrame e X.env) (fun _ s₂ => wpAny (model X.prog X.w) X.A (setFlight e none) (fun _ s₃ =>
    wpAny (model X.prog X.w) X.A (handleBy e X.env [.ExceptHandler (some (.Name x np)) (some n) (b₀ :: suite) hpos]) (SP X pins D) X.xe s₃) X.xe s₂) X.xe s₁) (fun u s' xx => ?_) PassesOwn.looking).run [] s σ H D (I.toTry _) h
  refine wpAny_mono run0 (fun f s1 hsp => ?_) (fun e s1 he => he)
  · cases f with
    | next =>
      obtain ⟨τ, G, J', q⟩ := hsp
      exact wpAny_execs_nil ⟨τ, G, J'.ofTry okX, q⟩
    | brk =>
      obtain ⟨τ, G, J', q⟩ := hsp
      exact ⟨τ, G, J'.ofTry okX, q⟩
    | cont =>
      obtain ⟨τ, G, J', q⟩ := hsp
      exact ⟨τ, G, J'.ofTry okX, q⟩
    | ret u =>
      obtain ⟨v, τ, G, J', r, q⟩ := hsp
      exact ⟨v, τ, G, J'.ofTry okX, r, q⟩
  · obtain ⟨a, B, sI, pins', τ, G, cls, d, rfl, J', nb, up, sky, na, os, ag, b, hb1, hyes, hno⟩ := xx
    have J : Inv X pins τ G sI := J'.ofTry okX
    have sk2 : Sky B (X.env :: X.outer) a (Zc cls d) X.env.locals s'.heap := by rw [← stk]; exact sky
    show wpAny (model X.prog X.w) X.A (noteFrame (.ref a) X.env) _ _ _
    refine Sky.land Zc.steady fr2 frm sk2 fun h3 fl3 up3 => ?_
    have J3 : Inv X pins τ G { s' with heap := h3 } := J.landed nb fl3.1 (up.trans up3) os ag
    obtain ⟨oe3, vs3, he3, hz3, hd3⟩ := fl3.there
    have offFr : a ∉ frs (X.env :: X.outer) := fun hm => by
      obtain ⟨_, o', e', hnf⟩ := fl3.2.2.1.mem hm
      rw [he3] at e'; cases e'
      exact hnf _ hd3
    have nL : a ≠ X.env.locals := fun z => offFr (List.mem_filterMap.mpr ⟨X.env, List.mem_cons_self, by rw [frm, z]⟩)
    have nF : a ∉ X.fs := fun hm => by
      obtain ⟨e, he, q⟩ := List.mem_filterMap.mp hm
      exact offFr (List.mem_filterMap.mpr ⟨e, List.mem_cons_of_mem _ he, q⟩)
    have nI : sI.heap.get? a = none := by
      cases q : sI.heap.get? a with
      | none => rfl
      | some u =>
        have z := nb a u q (by rw [stk]; exact offFr)
        rw [fl3.2.1] at z
        cases z
    have n0 : X.s_0.heap.get? a = none := by
      cases q : X.s_0.heap.get? a with
      | none => rfl
      | some u =>
        obtain ⟨o', z⟩ := J.base.there a u q (by rw [hex]; exact List.not_mem_nil)
        rw [nI] at z
        cases z
    have nP : ∀ p ∈ X.pn ++ pins, p.1 ≠ a := fun p m z => by
      have q := (J.pin p m).1
      rw [z, nI] at q
      cases q
    have S3 := J3.suite he3 hd3 na nL nF
    refine wpAny_handleBy_cons (codeAny_handlers_test ?_) (by intro q; cases q)
    have LT : PySem.W.Looks (model X.prog X.w) h3 (typeOf (.ref a)) cls := fun _ _ _ _ k q => wpAny_typeOf_ref (k _ _ he3) (by rw [hz3.1]; exact q)
    have LM := PySem.W.exm_one (M := model X.prog X.w) (J3.kIn) LT hb1
    have seen : ∀ {Q : Value → Shared → Prop} {E : Value → Shared → Prop}, Q c { s' with heap := h3 } → wpAny (model X.prog X.w) (X.A.mark (some (.ref a))) (eval (.Name x np) X.env) Q E { s' with heap := h3 } := fun {Q E} q => by
      obtain ⟨hg, hdbg, hm | ⟨hm, hv, hnn⟩⟩ := nmc
      · exact ld_glob (X := X.suite a ((a, oe3) :: (X.pn ++ pins))) S3 hg hm q hdbg
      · exact ld_blt (X := X.suite a ((a, oe3) :: (X.pn ++ pins))) S3 hg hm hv q hnn hdbg
    refine seen (LM.here ?_)
    cases b with
    | true =>
      refine codeAny_handlers_suite_as ?_
      refine HandSPX.lands_againZ fl3 fun h4 fl4 up4 => ?_
      have J4 : Inv X pins τ G { s' with heap := h4 } := J.landed nb fl4.1 ((up.trans up3).trans up4) os ag
      obtain ⟨oe4, vs4, he4, hz4, hd4⟩ := fl4.there
      have S4 := J4.suite he4 hd4 na nL nF
      refine store_ok (X := X.suite a ((a, oe4) :: (X.pn ++ pins))) (v := .ref a) S4 ndp ixn lcn rfl (fun s5 S5 => ?_) (.inr lcl)
      have hlen : i < τ.length := by rw [J.len]; exact hij
      have go := (sui a ((a, oe4) :: (X.pn ++ pins))).run [] s5 _ G { nx := fun τ' G' => τ' = (τ.set i (some (.ref a))).set j (some (.ref a)) ∧ G' = G, rt := fun _ _ => False, bk := fun _ _ => False, ct := fun _ _ => False } S5
        ⟨.ref a, by rw [List.getElem?_set_self hlen], rfl, rfl⟩
      refine wpAny_mono go (fun f s6 hsp => ?_) (fun _ _ z => False.elim z)
      cases f with
      | next =>
        obtain ⟨τ6, G6, S6, rfl, rfl⟩ := hsp
        refine gone_ok (X := X.suite a ((a, oe4) :: (X.pn ++ pins))) S6 ndp ixn lcl fun s7 S7 => ?_
        have pa := S7.pin (a, oe4) (List.mem_append_left _ List.mem_cons_self)
        have J7 := (S7.unsuite okX).trackE (o := ExR cls d a) pa.2.1 pa.1 hd4 nL n0 nP ⟨⟨oe4, vs4, pa.1, hz4, hd4⟩, ⟨oe4, pa.1⟩, fun g1 g2 ⟨ob, vv, e1, e2, e3⟩ k => ⟨ob, vv, k _ e1, e2, e3⟩⟩
        exact ⟨_, _, J7, hyes rfl a na⟩
      | brk =>
        obtain ⟨_, _, _, z⟩ := hsp
        exact z.elim
      | cont =>
        obtain ⟨_, _, _, z⟩ := hsp
        exact z.elim
      | ret u =>
        obtain ⟨_, _, _, _, _, z⟩ := hsp
        exact z.elim
    | false =>
      show wpAny _ X.A (handleBy (.ref a) X.env []) _ _ _
      refine wpAny_handleBy_nil ?_
      obtain ⟨k1, k2, k3, oe, vs, T, oT, ts', he, hz, hd, h1, hr⟩ := id fl3
      unfold PySem.passOn
      refine wpAny_bind (wpAny_field he hd h1 ?_)
      rw [if_neg (show ¬ ((Value.ref T == Value.none) = true) from by simp)]
      have last : wpAny (model X.prog X.w) X.A (setFlight (.ref a) X.env.frame) (fun _ s4 => wpAny (model X.prog X.w) X.A (throw (.ref a) : Sem Flow) (SP X pins D) X.xe s4) X.xe { s' with heap := h3 } := by
        rw [frm]
        refine HandSPX.setFlight_upZ fl3 fun h4 hh4 up4 => wpAny_throw (tk _ _ ?_)
        exact ⟨a, B, sI, pins, τ, G, cls, d, rfl, J, nb, (up.trans up3).trans up4, .inr (.inr (by rw [stk]; exact hh4)), na, os, ag, hno rfl⟩
      first
        | exact wpAny_bind (wpAny_pure (wpAny_bind last))
        | exact wpAny_bind last
end
end L2
namespace DL
open PySem PySem.Spec PyProof.Rows L2
variable [Mode]
section
variable {X : Cx} {W : WX} {e a b c : Expr} {es : List Expr} {pos p : Pos} {K : PySem.W.Frag} {ι : List Addr} {F H : Hp} {S : zae} {mg : Str → Option Value}
/-! ## try .. except X as n: y = n -/
theorem xis_push {F H : Hp} {a : Addr} {c : Str} {d : Option Addr} {p : Option (Str × D)} (h : XPay K F d p) (s : Same F H) (ha : H a = none) : WExn K (upd F a (ExK K c d a)) a c p := by
  cases p with
  | none =>
    have e : d = none := h
    subst e
    exact upd_same
  | some q =>
    obtain ⟨f, y⟩ := q
    obtain ⟨dx, v, rfl, h2, h3⟩ := h
    have sp := zdk s ha (ExK K c (some dx) a)
    have n : dx ≠ a := fun z => by
      have := s _ _ h2
      rw [z, ha] at this
      cases this
    exact ⟨dx, v, upd_same, by rw [upd_ne n]; exact h2, h3.mono (zdk s ha (ExK K c (some dx) a))⟩
def keepS (m : Str → Option Bool) (i j : Nat) : RS → RS
  | .ex c ρ S => (match m c.cls with
    | some true => .nx (((ρ.set i (some (.exn c.cls c.pay))).set j (some (.exn c.cls c.pay))).set i none) S
    | some false => .ex c ρ S
    | none => .bad)
  | r => r
def sTryK (f : SFn) (m : Str → Option Bool) (i j : Nat) : SFn := fun ρ S => keepS m i j (f ρ S)
theorem ds_tryKeep {body : List Stmt} {f : SFn} {m : Str → Option Bool} {x n y : Str} {i j : Nat} {np ep yp ap hp : Pos} (hs : X.stack = X.env :: X.outer) (hf : X.env.frame = some X.env.locals) (hN : X.N.Nodup) (hex : X.ex = []) (tk : Takes X W)
    (hb : ∀ (V : WX) (pn : List (Addr × Obj)) (xe : Value → Shared → Prop), Takes (X.tr pn xe) V → PassesOwn (model X.prog X.w) X.A X.env xe → DSs (X.tr pn xe) V body f)
    (hm : CatD X.K X.mg x m) (hglo : ∀ c, (m c).isSome = true → X.mg c = some (.ref (He.ga X.K c))) (hg : Gl X x) (hi : X.N[i]? = some n := by rfl) (hj : X.N[j]? = some y := by rfl) (hln : X.env.kindOf n = some .local := by rfl) (hdb : (x == ("__debug__" : Str)) = false := by decide) (hil : i < X.N.length := by decide)
    (hvn : Vis X.env.scope n := by first | exact .inl rfl | exact .inr (.inl rfl) | exact .inr (.inr rfl)) (hly : Loc X.env.scope y := by first | exact .inl rfl | exact .inr rfl) (hfy : X.fn y = true ∨ X.env.scope.names.lookup y = some .local := by exact .inl rfl)
    (hdn : (n == ("__debug__" : Str)) = false := by decide) (hcn : (n == ("__classdict__" : Str)) = false := by decide) (hs2 : swapsWithSole [.Name y yp] (.Name n ep) ap.line X.env = pure false := by rfl)
    (hw : swappedStores [.Name y yp] (.Name n ep) X.env = pure none := by rfl) (h1 : (assignEach [.Name y yp] X.env).map (·.2) = [assign (.Name y yp) X.env] := by rfl) :
    DS X W (.Try body [.ExceptHandler (some (.Name x np)) (some n) [.Assign [.Name y yp] (.Name n ep) ap] hp] [] [] pos) (sTryK f m i j) := by
  obtain ⟨V, hV, hcat⟩ := hm.ex
  refine ⟨_, ps_try_keep (tb := fun V => tS X V f) hs hf hN hi hln ⟨hg, hdb, .inl hV⟩ tk hex hil (fun V pn xe t p => (hb V pn xe t p).canon) (fun a pn => pss_one (ps_asg (X := X.suite a pn) (pe_var (X := X.suite a pn) hi hvn hdn hcn) (pg_name (X := X.suite a pn) hN hj hly hfy) hs2 hw h1)), fun D σ H ⟨ι, F, ρ, S, r, q⟩ => ⟨ι, F, ρ, S, r, ?_⟩⟩
  unfold sTryK at q
  cases e : f ρ S with
  | ex c ρ' S' =>
    rw [e] at q
    intro C σ' ι' F' H' g rr mc
    simp only [keepS] at q
    cases em : m c.cls with
    | none => rw [em] at q; exact q.elim
    | some bb =>
      refine ⟨bb, hcat c.cls bb C.1 em mc.1, fun hbb a ha => ?_, fun hbb => ?_⟩
      · subst hbb
        rw [em] at q
        have eC : C.1 = He.ga X.K c.cls := by
          have z := hglo c.cls (by rw [em]; rfl)
          rw [mc.1] at z
          injection z with z
          injection z
        have rp := rr.push ha (ExK X.K c.cls C.2 a)
        have we : WV X.K ι' (upd F' a (ExK X.K c.cls C.2 a)) (.ref a) (.exn c.cls c.pay) := ⟨a, rfl, xis_push mc.2 rr.st.sub ha⟩
        rw [eC]
        exact q _ ι' _ _ (g.trans (zd1 rr.st.sub ha _)) (((rp.set we i).set we j).unset i)
      · subst hbb
        rw [em] at q
        exact q C σ' ι' F' H' g rr mc
  | nx ρ' S' => rw [e] at q; exact q
  | rt v S' => rw [e] at q; exact q
  | bk ρ' S' => rw [e] at q; exact q
  | ct ρ' S' => rw [e] at q; exact q
  | bad => rw [e] at q; exact q
/-! ## isinstance of a kept exception -/
def rIsX (K : PySem.W.Frag) : List V → Hp → VK → Prop := fun xs H Q => ∃ (a : Addr) (c : Str) (dx : Option Addr) (t : V) (tv : Value) (b : Bool), xs = [.ref a, t] ∧ H a = some (ExK K c dx a) ∧ (∀ d, dx = some d → ∃ fs, H d = some (.xd fs)) ∧ ExcC K (He.ga K c) ∧ (∀ u, RelV t u → u = tv) ∧ PySem.W.kitOne K (.ref (He.ga K c)) tv = some b ∧ Q (.bl b) H
theorem exk_inst {pins : List (Addr × Obj)} {s : Shared} {σ : L2.St} {a : Addr} {c : Str} {dx : Option Addr} (I : Inv X pins σ H s) (ha : H a = some (ExK X.K c dx a)) (hdx : ∀ d, dx = some d → ∃ fs, H d = some (.xd fs)) : ∃ oe od, PySem.W.InstAt s.heap a oe (He.ga X.K c) od := by
  obtain ⟨⟨oe, vs, h1, hz, hv⟩, _, _⟩ := I.hok a _ ha
  refine ⟨oe, ?_⟩
  obtain ⟨oc, od, oda, osl⟩ := oe
  obtain ⟨z1, z2⟩ := hz
  dsimp only at z1 z2 hv
  subst z1 z2 hv
  cases od with
  | none => exact ⟨none, h1, rfl, rfl, trivial⟩
  | some d =>
    obtain ⟨fs, hd⟩ := hdx d rfl
    have hx : ObjOk X.prog X.w H s.heap d (.xd fs) := I.hok d _ hd
    obtain ⟨mA, hns, _⟩ := hx
    obtain ⟨od, ho, _⟩ := lookIn_ns hns
    exact ⟨some od, h1, rfl, rfl, ho⟩
theorem call_isX : CallR X (.builtin "isinstance") (rIsX X.K) := by
  intro pins s σ H xs us Q I r h
  obtain ⟨a, c, dx, t, tv, b, rfl, ha, hdx, C, ht, e, q⟩ := h
  cases r with
  | cons rx rr =>
    cases rr with
    | cons rt rr =>
      cases rr
      cases rx
      have ec := ht _ rt
      subst ec
      obtain ⟨oe, od, J⟩ := exk_inst I ha hdx
      obtain ⟨cd, hcd, _⟩ := PySem.W.any_some C.hd
      exact PySem.W.kia_one (PySem.W.kitx_exc (by rw [hcd]; rfl) C.hg C.hk C.hs C.ha C.hn C.ht C.hm) I.kIn J e (fun z => nomatch z) fun tk => ⟨.bl b, H, I.kept (t' := tk) fun _ _ z => z, rfl, q⟩
def zbz (t : List (Str × Bool)) (x : DV) (S : zae) : Res DV := match x with
  | .exn c _ => (match t.lookup c with
    | some b => .ok (.dat (.bl b)) S
    | none => .bad)
  | _ => .bad
def zjx (t : List (Str × Bool)) (f : XFn) : XFn := fun ρ S => (f ρ S).bind (zbz t)
def IsiT (K : PySem.W.Frag) (tv : Value) (t : List (Str × Bool)) : Prop := ∀ c b, t.lookup c = some b → ExcC K (He.ga K c) ∧ PySem.W.kitOne K (.ref (He.ga K c)) tv = some b
theorem isi_core {t : List (Str × Bool)} {f : XFn} {σ : L2.St} {Q : VK} {tv : Value} {u : V} (T : IsiT X.K tv t) (hu : ∀ w, RelV u w → w = tv) {ρ : zar} (r : RR X.K ι F ρ S σ H)
    (h : Post X.K X.mg (fun c d H' => W c d σ H') ι F H (zjx t f ρ S) fun dv ι' F' H' => ∀ z, WV X.K ι' F' z dv → Q z H') : tD X W f σ H fun v H1 => rIsX X.K [v, u] H1 Q := by
  refine tD.bind (g := fun _ => zbz t) r h fun v dv ι1 F1 S1 H1 r1 w1 g1 h1 => ?_
  cases dv with
  | dat d => exact h1.elim
  | obj k => exact h1.elim
  | scr ns => exact h1.elim
  | fn _ => exact h1.elim
  | spc _ => exact h1.elim
  | exn c p =>
    simp only [zbz] at h1
    cases q : t.lookup c with
    | none => rw [q] at h1; exact h1.elim
    | some bb =>
      rw [q] at h1
      obtain ⟨a, rfl, ha⟩ := w1
      obtain ⟨hC, hk⟩ := T c bb q
      simp only at h1
      cases p with
      | none => exact ⟨a, c, none, u, tv, bb, rfl, r1.st.sub _ _ ha, fun _ z => (nomatch z), hC, hu, hk, h1 ι1 F1 H1 .refl r1.st _ (.bl _)⟩
      | some pp =>
        obtain ⟨f, y⟩ := pp
        obtain ⟨dx, vv, e1, e2, _⟩ := ha
        exact ⟨a, c, some dx, u, tv, bb, rfl, r1.st.sub _ _ e1, fun d z => by cases z; exact ⟨_, r1.st.sub _ _ e2⟩, hC, hu, hk, h1 ι1 F1 H1 .refl r1.st _ (.bl _)⟩
structure IsiD (K : PySem.W.Frag) (mg : Str → Option Value) (y : Str) (t : List (Str × Bool)) : Prop where
  ex : ∃ V, mg y = some (.ref V) ∧ IsiT K (.ref V) t
theorem zgc {f : XFn} {y : Str} {t : List (Str × Bool)} {p2 p3 : Pos} (h : DE X W a f) (hm : X.mg "isinstance" = none) (T : IsiD X.K X.mg y t) (hg : Gl X "isinstance" := by rfl) (hgT : Gl X y := by rfl) (hdb : (y == ("__debug__" : Str)) = false := by decide)
    (he : starEach (a :: [.Name y p3]) X.env = (false, eval a X.env) :: starEach [.Name y p3] X.env := by rfl) (he2 : starEach (.Name y p3 :: []) X.env = (false, eval (.Name y p3) X.env) :: starEach [] X.env := by rfl) (hpl : (backTo pos (starEach [.Name y p3] X.env)).any (·.1) = false := by rfl) :
    DE X W (.Call (.Name "isinstance" p2) [a, .Name y p3] [] pos) (zjx t f) := by
  obtain ⟨V, hV, hT⟩ := T.ex
  refine ⟨PE.weak (pe_callB call_isX hg hm (by decide +kernel) (pa_cons h.pe (pa_cons (pe_glob (v := .ref V) hgT hV rfl hdb) pa_nil he2) he) (by decide) (by decide) he hpl) fun σ H Q ⟨ι, F, ρ, S, r, h⟩ => ?_⟩
  exact isi_core hT (fun w z => z) r h
/-! ## is None, of anything -/
def isNo : D → Bool
  | .non => true
  | _ => false
def oIsNo (neg : Bool) : Op2 := fun x y S => match y with
  | .dat .non => (match x with
    | .dat d => .ok (.dat (.bl (isNo d != neg))) S
    | _ => .ok (.dat (.bl neg)) S)
  | _ => .bad
theorem oIsNo_core {neg : Bool} {v u : V} {x y : DV} {Q : VK} {E : XK} (st : StR K ι F S H) (va : WV K ι F v x) (vb : WV K ι F u y) (h : Post K mg E ι F H (oIsNo neg x y S) fun dv ι' F' H' => ∀ z, WV K ι' F' z dv → Q z H') : u = .non ∧ Q (.bl (decide (v = .non) != neg)) H := by
  unfold oIsNo at h
  split at h
  · cases vb
    refine ⟨rfl, ?_⟩
    cases x with
    | dat d =>
      have e : decide (v = .non) = isNo d := by
        have w : Wd K F v d := va
        cases w <;> rfl
      rw [e]
      exact h ι F H .refl st _ (.bl _)
    | obj k =>
      obtain ⟨a, _, rfl, _⟩ := va
      have z := h ι F H .refl st _ (.bl neg)
      cases neg <;> exact z
    | scr ns =>
      obtain ⟨a, rfl, _⟩ := va
      have z := h ι F H .refl st _ (.bl neg)
      cases neg <;> exact z
    | exn c p =>
      obtain ⟨a, rfl, _⟩ := va
      have z := h ι F H .refl st _ (.bl neg)
      cases neg <;> exact z
    | fn x =>
      obtain rfl : _ = V.ref (He.ga K x) := va
      have z := h ι F H .refl st _ (.bl neg)
      cases neg <;> exact z
    | spc x =>
      obtain ⟨a, _, rfl, _⟩ := va
      have z := h ι F H .refl st _ (.bl neg)
      cases neg <;> exact z
  · exact h.elim
theorem oIs_ok : OpOk K (fun x y H Q => y = .non ∧ Q (.bl (decide (x = .non))) H) (oIsNo false) := fun mg E ι F H S v u x y Q st va vb h => by
  have := oIsNo_core st va vb h
  simpa using this
/-! ## what is never reached -/
def xBad : XFn := fun _ _ => .bad
theorem zeh : DE X W e xBad := ⟨⟨fun _ _ _ _ _ _ ⟨_, _, _, _, _, h⟩ => h.elim⟩⟩
end
end DL
set_option maxHeartbeats 4000000
namespace DL
open PySem PySem.Spec PyProof.Rows L2
variable [Mode]
section
variable {X : Cx} {W : WX} {e a b c : Expr} {es : List Expr} {pos p : Pos} {K : PySem.W.Frag} {ι : List Addr} {F H : Hp} {S : zae} {mg : Str → Option Value}
/-! ## l.count(x), l.index(x) -/
def rCountX (K : PySem.W.Frag) : V → List V → Hp → VK → Prop := fun x xs H Q => ∃ (a : Addr) (y : V) (d : PyData) (ds : List PyData), x = V.ref a ∧ xs = [y] ∧ Dp K H (V.ref a) (.list ds) ∧ Dp K H y d ∧ SeqAt.shaped (.list ds) = true ∧ SeqAt.shaped d = true ∧ Q (.int ((ds.countP fun z => PyData.eqv z d : Nat) : Int)) H
theorem mt_countX (hu : X.A.units + 65 < cLine) : MtR X "list.count" (rCountX X.K) := by
  intro pins s σ H x xs v us Q I rx rxs h
  obtain ⟨a, y, d, ds, rfl, rfl, hl, hy, sl, sd, q⟩ := h
  cases rx
  cases rxs with
  | cons ry rt =>
    rename_i uy ut
    cases rt
    obtain ⟨bs, r1⟩ := Dp.reads I d y uy hy ry
    have lay : PyData.canLayAll0 ds = true := SeqAt.canLay_of_shaped sl
    have room : X.A.units + 1 + min (PyData.depthAll ds) d.depth < cLine := room_in_shaped sd hu
    cases hl with
    | lst hs ha =>
      obtain ⟨its, rv, pl, _⟩ := I.list hs
      obtain ⟨as, r4⟩ := Dp.readsAll I ds _ its ha rv
      have pa : PyData.plainAll ds = true := by
        have z := PyData.plain_of_canLay0 (.list ds) (show PyData.canLay0 (.list ds) = true from lay)
        simpa [PyData.plain] using z
      exact PySem.SeqAt.count_list_data (vs := its.toArray) pl.isList (by simpa using r4) r1 pa (PyData.plain_of_canLay0 d (SeqAt.canLay_of_shaped sd)) room ⟨.int ((ds.countP fun z => PyData.eqv z d : Nat) : Int), H, I.tok _, ⟨_, rfl⟩, q⟩
def atX (x : D) (y : D) : Bool := SeqAt.shaped x.py && SeqAt.shaped y.py
def zgn : D → D → Option D
  | .lst xs, y => if atX (.lst xs) y = true then some (.int ((xs.countP fun z => dEqB z y : Nat) : Int)) else none
  | _, _ => none
def zgw : D → D → Option D
  | .lst xs, y => if atX (.lst xs) y = true then (match xs.findIdx? fun z => dEqB z y with
    | some j => some (.int ((j : Nat) : Int))
    | none => none) else none
  | _, _ => none
theorem pysL : ∀ xs : List D, D.pys xs = xs.map D.py
  | [] => rfl
  | x :: xs => by simp only [D.pys, List.map_cons, pysL xs]
theorem vw_lst {v : V} {xs : List D} (w : Vw K F H v (.lst xs)) : tyV K "list" v H := by
  cases w with
  | lst s ws => exact .inl ⟨rfl, _, .of s⟩
def xMth (o : D → D → Option D) (f : XFn) (d : D) : XFn := fun ρ S => (f ρ S).bind fun x S1 => match rd S1 x with
  | some (.lst xs) => res1 (o (.lst xs) d) S1
  | _ => .bad
theorem mth_core {r : V → List V → Hp → VK → Prop} {o : D → D → Option D} {f : XFn} {d : D} {u : V} {σ : L2.St} {Q : VK} {ρ : zar} (hd : ∀ F : Hp, Wd X.K F u d) (rr : RR X.K ι F ρ S σ H)
    (k : ∀ (ι : List Addr) (F H : Hp) (S : zae) (v : V) (xs : List D) (z : D) (Q : VK), StR X.K ι F S H → Vw X.K F H v (.lst xs) → Wd X.K F u d → o (.lst xs) d = some z → Ret X.K ι F H S z Q → r v [u] H Q)
    (h : Post X.K X.mg (fun c d H' => W c d σ H') ι F H (xMth o f d ρ S) fun dv ι' F' H' => ∀ z, WV X.K ι' F' z dv → Q z H') : tBM X.K "list" r (tD X W f) (fun σ H R => R [u] H) σ H Q := by
  unfold tBM
  refine tD.bind (g := fun _ x S1 => match rd S1 x with
    | some (.lst xs) => res1 (o (.lst xs) d) S1
    | _ => .bad) rr h fun v dv ι1 F1 S1 H1 r1 w1 g1 h1 => ?_
  cases ed : rd S1 dv with
  | none => simp only [ed] at h1; exact h1.elim
  | some x =>
    cases x with
    | lst xs =>
      simp only [ed] at h1
      have vw := r1.st.vw w1 ed
      refine ⟨vw_lst vw, ?_⟩
      cases eo : o (.lst xs) d with
      | none => rw [eo] at h1; exact h1.elim
      | some z =>
        rw [eo] at h1
        exact k ι1 F1 H1 S1 v xs z Q r1.st vw (hd F1) eo fun z' F' H' g st' w => h1 ι1 F' H' g st' z' w
    | _ => simp only [ed] at h1; exact h1.elim
theorem dp_of {v : V} {d : D} (st : StR K ι F S H) (w : Vw K F H v d) (c : d.py.canLay0 = true) : Dp K H v d.py := (w.wd st.sub).dp c
theorem de_countB {o : Expr} {f : XFn} {k : Bool} {j : Nat} {apos q : Pos} (hu : X.A.units + 65 < cLine) (ho : DE X W o f)
    (hbase : attributeBase o "count" X.env (eval o X.env) = eval o X.env := by rfl)
    (hfew : ((backTo p (starEach (.Constant (.bool k) j q :: []) X.env)).all (fun x => !x.1) && (backToKw p (keywordEach [] X.env)).all (fun x => x.1.isSome)
      && decide ((Expr.Constant (.bool k) j q :: []).length + ([] : List Keyword).length + (if ([] : List Keyword).isEmpty then 0 else 1) < 30)) = true := by rfl)
    (hline : (apos.endLine == p.line) = true := by rfl) (hse : starEach (.Constant (.bool k) j q :: []) X.env = (false, eval (.Constant (.bool k) j q) X.env) :: starEach [] X.env := by rfl) :
    DE X W (.Call (.Attribute o "count" apos) [.Constant (.bool k) j q] [] p) (xMth zgn f (.bl k)) := by
  refine ⟨PE.weak (pe_bm PySem.F.plainAttrs_list PySem.F.slot_list_count PySem.F.type_list_count (mt_countX hu) ho.pe (pa_cons pe_bl pa_nil hse) hbase hfew hline hse rfl) fun σ H Q ⟨ι, F, ρ, S, r, h⟩ => ?_⟩
  exact mth_core (u := .bl k) (r := rCountX X.K) (fun _ => .bl k) r (fun ι F H S v xs z Q st vw wd eo q => by
    simp only [zgn] at eo
    by_cases hs : atX (.lst xs) (.bl k) = true
    · rw [if_pos hs] at eo
      unfold atX at hs
      cases eo
      simp only [Bool.and_eq_true] at hs
      have dl := dp_of st vw (SeqAt.canLay_of_shaped hs.1)
      have ta : ∃ a, v = .ref a := by cases vw; exact ⟨_, rfl⟩
      obtain ⟨a, rfl⟩ := ta
      refine ⟨a, .bl k, (D.bl k).py, D.pys xs, rfl, rfl, dl, (wd.mono st.sub).dp (SeqAt.canLay_of_shaped hs.2), hs.1, hs.2, ?_⟩
      have e : (D.pys xs).countP (fun z => PyData.eqv z (D.bl k).py) = xs.countP fun z => dEqB z (.bl k) := by
        rw [pysL, List.countP_map]
        rfl
      rw [e]
      exact q.same st (.int _)
    · rw [if_neg hs] at eo
      cases eo) h
theorem de_indexB {o : Expr} {f : XFn} {k : Bool} {j : Nat} {apos q : Pos} (hu : X.A.units + 65 < cLine) (ho : DE X W o f)
    (hbase : attributeBase o "index" X.env (eval o X.env) = eval o X.env := by rfl)
    (hfew : ((backTo p (starEach (.Constant (.bool k) j q :: []) X.env)).all (fun x => !x.1) && (backToKw p (keywordEach [] X.env)).all (fun x => x.1.isSome)
      && decide ((Expr.Constant (.bool k) j q :: []).length + ([] : List Keyword).length + (if ([] : List Keyword).isEmpty then 0 else 1) < 30)) = true := by rfl)
    (hline : (apos.endLine == p.line) = true := by rfl) (hse : starEach (.Constant (.bool k) j q :: []) X.env = (false, eval (.Constant (.bool k) j q) X.env) :: starEach [] X.env := by rfl) :
    DE X W (.Call (.Attribute o "index" apos) [.Constant (.bool k) j q] [] p) (xMth zgw f (.bl k)) := by
  refine ⟨PE.weak (pe_bm PySem.F.plainAttrs_list PySem.F.slot_list_index PySem.F.type_list_index (mt_indexD hu) ho.pe (pa_cons pe_bl pa_nil hse) hbase hfew hline hse rfl) fun σ H Q ⟨ι, F, ρ, S, r, h⟩ => ?_⟩
  exact mth_core (u := .bl k) (r := rIndexD X.K) (fun _ => .bl k) r (fun ι F H S v xs z Q st vw wd eo q => by
    simp only [zgw] at eo
    by_cases hs : atX (.lst xs) (.bl k) = true
    · rw [if_pos hs] at eo
      unfold atX at hs
      simp only [Bool.and_eq_true] at hs
      cases ef : xs.findIdx? fun z => dEqB z (.bl k) with
      | none => rw [ef] at eo; cases eo
      | some n =>
        rw [ef] at eo
        cases eo
        have dl := dp_of st vw (SeqAt.canLay_of_shaped hs.1)
        have ta : ∃ a, v = .ref a := by cases vw; exact ⟨_, rfl⟩
        obtain ⟨a, rfl⟩ := ta
        obtain ⟨h1, h2, h3⟩ := List.findIdx?_eq_some_iff_getElem.mp ef
        refine ⟨a, .bl k, (D.bl k).py, D.pys xs, n, xs[n].py, rfl, rfl, dl, (wd.mono st.sub).dp (SeqAt.canLay_of_shaped hs.2), hs.1, hs.2, ?_, h2, fun m z' hm hz => ?_, q.same st (.int _)⟩
        · rw [pysL, List.getElem?_map, List.getElem?_eq_getElem h1]; rfl
        · rw [pysL, List.getElem?_map, List.getElem?_eq_getElem (by omega)] at hz
          cases hz
          have := h3 m hm
          simpa [dEqB] using this
    · rw [if_neg hs] at eo
      cases eo) h
end
/-! ## a head with facts of one's own -/
/-! ## facts of classes of exceptions -/
def excB (K : PySem.W.Frag) (x : Str) : Bool := He.eqO (PySem.W.findIn K (.ref (He.ga K x)) "__getattribute__") (some (some (.builtin "BaseException.__getattribute__"))) && (He.eqO (PySem.W.findIn K (.ref (He.ga K x)) "__getattr__") (some none) &&
  (decide (PySem.W.subIn K (.ref (He.ga K x)) (.type "BaseException") = some true) && (PySem.W.hasDictIn K (He.ga K x) && (He.eqO (PySem.W.findIn K (.ref (He.ga K x)) "__class__") (some (some (.builtin "object.__class__"))) &&
  (He.eqO (PySem.W.specialIn K (.builtin "object.__class__") "__get__") (some (some (.builtin "getset_descriptor.__get__"))) && (decide (PySem.W.takesIn K (.builtin "object.__class__") = some true) && decide (PySem.W.mroIn K (He.ga K x) (.type "object") = some true)))))))
theorem excC_of {K : PySem.W.Frag} {x : Str} (h : excB K x = true) : ExcC K (He.ga K x) := by
  unfold excB at h
  simp only [Bool.and_eq_true, decide_eq_true_eq] at h
  obtain ⟨h1, h2, h3, h4, h5, h6, h7, h8⟩ := h
  exact ⟨He.eqO_ok h1, He.eqO_ok h2, h3, h4, He.eqO_ok h5, He.eqO_ok h6, h7, h8⟩
def kitB (K : PySem.W.Frag) (tv : Value) (t : List (Str × Bool)) : Bool := t.all fun q => excB K q.1 && decide (PySem.W.kitOne K (.ref (He.ga K q.1)) tv = some q.2)
theorem isiT_of {K : PySem.W.Frag} {tv : Value} {t : List (Str × Bool)} (h : kitB K tv t = true) : IsiT K tv t := fun c b e => by
  unfold kitB at h
  rw [List.all_eq_true] at h
  have m : (c, b) ∈ t := by
    clear h
    induction t with
    | nil => cases e
    | cons q t ih =>
      obtain ⟨c', b'⟩ := q
      simp only [List.lookup] at e
      split at e
      · rename_i hc
        cases e
        rw [eq_of_beq hc]
        exact List.mem_cons_self
      · exact List.mem_cons_of_mem _ (ih e)
  have z := h _ m
  simp only [Bool.and_eq_true, decide_eq_true_eq] at z
  exact ⟨excC_of z.1, z.2⟩
def kitsB (K : PySem.W.Frag) (ys : List (Str × List (Str × Bool))) : Bool := ys.all fun y => kitB K (.ref (He.ga K y.1)) y.2
theorem zgi {K : PySem.W.Frag} {h : Heap} {mg : Str → Option Value} {ys : List (Str × List (Str × Bool))} {y : Str} {t : List (Str × Bool)} (X : K.In h) (G : h.Ns mainGlobals mg) (c : (He.Fa.glo y).ok K = true) (k : kitsB K ys = true) (m : (y, t) ∈ ys) : IsiD K mg y t :=
  ⟨_, He.glo_ok X G c, isiT_of (List.all_eq_true.mp k _ m)⟩
theorem catG {K : PySem.W.Frag} {h : Heap} {mg : Str → Option Value} {l : List (Str × Bool)} (X : K.In h) (G : h.Ns mainGlobals mg) (cs : List Str) (f : ∀ x ∈ cs, (He.Fa.glo x).ok K = true) (hl : l.map (·.1) = cs := by rfl) : ∀ c, (catT l c).isSome = true → mg c = some (.ref (He.ga K c)) := fun c e => by
  refine He.glo_ok X G (f c ?_)
  rw [← hl]
  clear f hl
  unfold catT at e
  induction l with
  | nil => cases e
  | cons q l ih =>
    obtain ⟨c', b'⟩ := q
    simp only [List.lookup] at e
    split at e
    · rename_i hc
      rw [eq_of_beq hc]
      exact List.mem_cons_self
    · exact List.mem_cons_of_mem _ (ih e)
end DL
set_option maxHeartbeats 4000000
namespace PySem.RevS
open PySem PySem.Spec PyProof.Rows HT
section
variable {prog : Program} {w : World} {A : Around} {E : Value → Shared → Prop} {s : Shared}
end
end PySem.RevS
namespace L2
open PySem PySem.Spec PyProof.Rows
section
variable {X : Cx} {e c : Expr} {te tc : TE} {pos p2 : Pos}
end
end L2
namespace DL
open PySem PySem.Spec PyProof.Rows L2
variable [Mode]
section
variable {X : Cx} {W : WX} {e a b c : Expr} {es : List Expr} {pos p p2 : Pos} {K : PySem.W.Frag} {ι : List Addr} {F H : Hp} {S : zae} {mg : Str → Option Value}
/-! ## x[::-1] -/
/-! ## a new list where it stands, to be changed later -/
/-! ## a, b, .. = x, y, .. -/
def setAll : List Nat → List DV → zar → Option zar
  | [], [], ρ => some ρ
  | i :: is, v :: vs, ρ => setAll is vs (ρ.set i (some v))
  | _, _, _ => none
structure DN (X : Cx) (tgs : List Expr) (is : List Nat) : Prop where
  pg : ∃ t, PGs X tgs t ∧ ∀ vs σ H Q ι F ρ S ds ρ', RR X.K ι F ρ S σ H → WVs X.K ι F vs ds → setAll is ds ρ = some ρ' → (∀ σ', RR X.K ι F ρ' S σ' H → Q σ' H) → t vs σ H Q
end
/-! ## defs that call themselves -/
section
variable {P : Program} {w : World} {K : PySem.W.Frag} {mg : Str → Option Value} {base : Heap}
end
end DL
set_option maxHeartbeats 4000000
namespace DL
open PySem PySem.Spec PyProof.Rows L2
/-! # Special cells: defs that make them or are handed them -/
abbrev SM : Mode := ⟨false⟩
abbrev PM : Mode := plainMode
section
variable {K : PySem.W.Frag} {ι : List Addr} {F H : Hp} {S : zae} {mg : Str → Option Value}
structure StC (K : PySem.W.Frag) (ι : List Addr) (F : Hp) (S : zae) (H : Hp) : Prop where
  sub : Same F H
  len : ι.length = S.length
  full : ∀ b ∈ ι, H b ≠ none
  cell : ∀ (k : Nat) (ds : List D), S[k]? = some (some ds) → IsFst ι k → ∃ a vs, ι[k]? = some a ∧ H a = some (.lst vs) ∧ F a = none ∧ WdA K F vs ds
  spec : ∀ (k : Nat) (ds : List D), S[k]? = some (some ds) → ¬ IsFst ι k → ∃ a, ι[k]? = some a ∧ SpAt K ι F H a ds
  tb : TbsOk K H
  tf : ∀ P ∈ zb4 K, F P = none
  snd : ∀ (k : Nat) (ds : List D), S[k]? = some (some ds) → ¬ IsFst ι k → IsSnd ι k
theorem StR.core {M : Mode} (st : @StR M K ι F S H) : StC K ι F S H := ⟨@StR.sub M _ _ _ _ _ st, @StR.len M _ _ _ _ _ st, @StR.full M _ _ _ _ _ st, @StR.cell M _ _ _ _ _ st, @StR.spec M _ _ _ _ _ st, @StR.tb M _ _ _ _ _ st, @StR.tf M _ _ _ _ _ st, @StR.snd M _ _ _ _ _ st⟩
theorem StC.sm (c : StC K ι F S H) : @StR SM K ι F S H := @StR.mk SM _ _ _ _ _ c.sub c.len (fun h => absurd h Bool.false_ne_true) c.full c.cell c.spec c.tb c.tf c.snd
theorem StC.pm (c : StC K ι F S H) (nd : ι.Nodup) : @StR PM K ι F S H := @StR.mk PM _ _ _ _ _ c.sub c.len (fun _ => nd) c.full c.cell c.spec c.tb c.tf c.snd
theorem StR.weak (st : @StR PM K ι F S H) : @StR SM K ι F S H := st.core.sm
theorem StR.add2 {M : Mode} (st : @StR M K ι F S H) {p : Addr} {vs : List V} {ds : List D} (hH : H p = some (.lst vs)) (hF : F p = none) (hι : p ∉ ι) (w : WdA K F vs ds) : @StR M K (ι ++ [p]) F (S ++ [some ds]) H := StR.add st hH hF hι w
theorem StR.cutS {ι0 ι' : List Addr} {F' H' : Hp} {S' : zae} {n : Nat} (st : @StR SM K ι' F' S' H') (hp : ι0 <+: ι') (hn : ι0.length = n) (nd : ι0.Nodup) : @StR PM K ι0 F' (S'.take n) H' := by
  replace st := st.core
  refine StC.pm ?_ nd
  have e : List.take n ι' = ι0 := by
    obtain ⟨t, rfl⟩ := hp
    rw [← hn]; simp
  have hl : n ≤ S'.length := by rw [← st.len, ← hn]; exact hp.length_le
  refine ⟨st.sub, by rw [hn]; simp [hl], fun b hb => st.full b (hp.sublist.subset hb), fun k ds e2 fi => ?_, fun k ds e2 nf => ?_, st.tb, st.tf, fun k ds e2 nf => ?_⟩
  rotate_left 2
  · refine absurd (IsFst.nd nd ?_) nf
    have := (List.getElem?_eq_some_iff.mp e2).1
    rw [List.length_take] at this
    omega
  · rw [List.getElem?_take] at e2
    split at e2
    · rename_i hk
      obtain ⟨a, vs, h1, h2, h3, h4⟩ := st.cell k ds e2 ((IsFst.pre hp (by omega)).mpr fi)
      refine ⟨a, vs, ?_, h2, h3, h4⟩
      rw [← e, List.getElem?_take, if_pos hk]; exact h1
    · cases e2
  · refine absurd (IsFst.nd nd ?_) nf
    have := (List.getElem?_eq_some_iff.mp e2).1
    rw [List.length_take] at this
    omega
/-! ## a def that keeps all that it makes -/
def endsS : RS → Res DV
  | .nx _ S => .ok (.dat .non) S
  | .rt v S => .ok v S
  | .ex c _ S => .ex c S
  | _ => .bad
def zk0 (N : Nat) (f : SFn) : Fn := fun ds S => endsS (f (ds.map some ++ List.replicate (N - ds.length) none) S)
theorem fn_S [Mode] {q : Bool} {P : Program} {w : World} {base : Heap} {k n m : Nat} {f : Addr} {fd : FuncData} {x qual : Str} {params : Arguments} {body : List Stmt} {scope : Scope} {N ps : List Str} {g : SFn} (Fd : FunD K x qual params body scope [] [] f fd) (Sc : FnScope N ps scope)
    (hn : ps.length = n) (hm : N.length = m)
    (hbody : ∀ (cdv : Value) (A : Around) (outer : List Env) (s : Shared) (H : Hp) (E : XK), RoomH k (A.deeper (envOfC qual scope s.heap.objs.size f cdv)) → A.guards = some [] →
      DSs (cxQ q P w K mg base N qual scope f cdv A outer s H E) (fun cls d _ H => E cls d H) body g) : FnQ q P w K mg base (k + 1) f fd ps (spD K mg n (zk0 m g)) := by
  refine fnQ_of Fd Sc (fun vs H Q E h => by rw [h.1, hn]) fun cdv A outer s H vs Q E hr hG h => ?_
  obtain ⟨t, pt, kt⟩ := (hbody cdv A outer s H E hr hG).ps
  refine ⟨t, pt, kt _ _ _ ?_⟩
  obtain ⟨hl, ι, F, S, ds, st, ws, po⟩ := h
  refine ⟨ι, F, _, S, rr_start st ws hm, ?_⟩
  show PostS K mg _ ι F H _ _
  unfold zk0 at po
  cases qq : g (ds.map some ++ List.replicate (m - ds.length) none) S with
  | nx ρ' S' =>
    rw [qq] at po
    exact fun σ' ι' F' H' gr r => po ι' F' H' gr r.st _ .non
  | rt dv S' =>
    rw [qq] at po
    exact fun v ι' F' H' gr st' wv => po ι' F' H' gr st' v wv
  | ex c ρ' S' =>
    rw [qq] at po
    exact fun C σ' ι' F' H' gr r mc => po C ι' F' H' gr r.st mc
  | bk ρ' S' => rw [qq] at po; exact po.elim
  | ct ρ' S' => rw [qq] at po; exact po.elim
  | bad => rw [qq] at po; exact po
/-! ## such a def called from a plain one -/
def sealF (g : Fn) : Fn := fun ds S => match g ds S with
  | .ok dv S' => zii S.length dv S'
  | .ex c S' => .ex c (S'.take S.length)
  | .bad => .bad
theorem spD_seal {n : Nat} {g : Fn} {vs : List V} {Q : VK} {E : XK} (h : @spD PM K mg n (sealF g) vs H Q E) : @spD SM K mg n g vs H Q E := by
  obtain ⟨hl, ι, F, S, ds, st, ws, po⟩ := h
  refine ⟨hl, ι, F, S, ds, st.weak, ws, ?_⟩
  have nd := st.nd rfl
  have sl := st.len
  unfold sealF at po
  cases qq : g ds S with
  | bad => rw [qq] at po; exact po
  | ex c S' =>
    rw [qq] at po
    exact fun C ι' F' H' gr st' m => po C ι F' H' gr.cut (st'.cutS gr.pre sl nd) m
  | ok dv S' =>
    rw [qq] at po
    intro ι' F' H' gr st' v wv
    have cu := st'.cutS gr.pre sl nd
    cases dv with
    | dat d => exact po ι F' H' gr.cut cu v wv
    | scr ns => exact po.elim
    | exn c p => exact po ι F' H' gr.cut cu v wv
    | fn _ => exact po.elim
    | spc _ => exact po.elim
    | obj j =>
      simp only [zii] at po
      obtain ⟨a, h1, h2, h0⟩ := wv
      split at po
      · rename_i hj
        refine po ι F' H' gr.cut cu v ⟨a, ?_, h2, (IsFst.pre gr.pre (by rw [sl]; exact hj)).mp h0⟩
        obtain ⟨t, rfl⟩ := gr.pre
        rw [List.getElem?_append_left (by rw [sl]; exact hj)] at h1; exact h1
      · rename_i hj
        split at po
        · rename_i es ej
          obtain ⟨a', vs', h3, h4, h5, h6⟩ := st'.core.cell j es ej h0
          rw [h1] at h3; cases h3
          have na : a ∉ ι := fun m => by
            obtain ⟨i, hi, e⟩ := List.mem_iff_getElem.mp m
            obtain ⟨t, rfl⟩ := gr.pre
            have e1 : (ι ++ t)[i]? = some a := by rw [List.getElem?_append_left hi, List.getElem?_eq_getElem hi, e]
            rw [sl] at hi
            exact h0 i (by omega) (e1.trans h1.symm)
          have ha : H a = none := (gr.nio a (List.mem_of_getElem? h1)).resolve_left na
          exact po (ι ++ [a]) F' H' (zfz gr.cut ha) (cu.add2 h4 h5 na h6) v ⟨a, by rw [← sl]; simp, h2, by rw [← sl]; exact IsFst.new na⟩
        · exact po.elim
/-! ## a plain def called from such a one: it is handed data alone, and perhaps the first cell -/
def argM : List DV → Option Nat
  | [] => some 0
  | .dat _ :: ds => argM ds
  | .exn _ _ :: ds => argM ds
  | .scr _ :: ds => argM ds
  | .fn _ :: ds => argM ds
  | .obj 0 :: ds => match argM ds with
    | some _ => some 1
    | none => none
  | _ :: _ => none
def hasM (S : zae) : Nat → Bool
  | 0 => true
  | _ => match S[0]? with
    | some (some _) => true
    | _ => false
def zec (g : Fn) : Fn := fun ds S => match argM ds with
  | some m => bif hasM S m then (match g ds (S.take m) with
    | .ok (.dat d) S' => .ok (.dat d) (S'.take m ++ S.drop m)
    | .ok (.obj k) S' => if k < m then .ok (.obj k) (S'.take m ++ S.drop m) else (match S'[k]? with
      | some (some xs) => .ok (.obj S.length) (S'.take m ++ S.drop m ++ [some xs])
      | _ => .bad)
    | .ex c S' => .ex c (S'.take m ++ S.drop m)
    | _ => .bad) else .bad
  | none => .bad
theorem zha : ∀ {ds : List DV} {m : Nat}, argM ds = some m → m ≤ 1
  | [], m, h => by cases h; omega
  | .dat _ :: ds, m, h => zha (ds := ds) h
  | .exn _ _ :: ds, m, h => zha (ds := ds) h
  | .fn _ :: ds, m, h => zha (ds := ds) h
  | .obj 0 :: ds, m, h => by
    simp only [argM] at h
    cases q : argM ds with
    | none => rw [q] at h; cases h
    | some j => rw [q] at h; cases h; omega
  | .obj (_ + 1) :: _, _, h => by cases h
  | .scr _ :: ds, m, h => zha (ds := ds) h
  | .spc _ :: _, _, h => by cases h
theorem zhd : ∀ {ds : List DV} {vs : List V} {m : Nat}, argM ds = some m → WVs K ι F vs ds → WVs K (ι.take m) F vs ds
  | [], _, _, _, w => by cases w; exact .nil
  | .dat _ :: ds, _, m, h, w => by
    cases w with
    | cons a b => exact .cons a (zhd (ds := ds) h b)
  | .exn _ _ :: ds, _, m, h, w => by
    cases w with
    | cons a b => exact .cons a (zhd (ds := ds) h b)
  | .fn _ :: ds, _, m, h, w => by
    cases w with
    | cons a b => exact .cons a (zhd (ds := ds) h b)
  | .obj 0 :: ds, _, m, h, w => by
    simp only [argM] at h
    cases q : argM ds with
    | none => rw [q] at h; cases h
    | some j =>
      rw [q] at h; cases h
      cases w with
      | cons a b =>
        obtain ⟨p, h1, h2, h3⟩ := a
        have hj := zha q
        refine .cons ⟨p, by rw [List.getElem?_take, if_pos (by omega)]; exact h1, h2, fun i hi => by omega⟩ ?_
        have b' := zhd (ds := ds) q b
        rcases Nat.lt_or_ge j 1 with hj0 | hj1
        · have : j = 0 := by omega
          subst this
          -- no cell is named
          have key : ∀ {ds : List DV} {vs : List V}, WVs K (ι.take 0) F vs ds → WVs K (ι.take 1) F vs ds := by
            intro ds vs w
            induction w with
            | nil => exact .nil
            | @cons v vs d ds a _ ih =>
              refine .cons ?_ ih
              cases d with
              | obj k => obtain ⟨p, h1, _⟩ := a; simp at h1
              | spc k => obtain ⟨p, h1, _⟩ := a; simp at h1
              | dat d => exact a
              | scr d => exact a
              | exn d _ => exact a
              | fn d => exact a
          exact key b'
        · have : j = 1 := by omega
          subst this; exact b'
  | .obj (_ + 1) :: _, _, _, h, _ => by cases h
  | .scr _ :: ds, _, m, h, w => by
    cases w with
    | cons a b => exact .cons a (zhd (ds := ds) h b)
  | .spc _ :: _, _, _, h, _ => by cases h
theorem one_nd {m : Nat} (h : m ≤ 1) : (ι.take m).Nodup := by
  rcases Nat.lt_or_ge m 1 with q | q
  · have : m = 0 := by omega
    subst this; simp
  · have : m = 1 := by omega
    subst this
    cases ι with
    | nil => simp
    | cons a t => simp
theorem zk7 {m : Nat} : ι.take m <+: ι := List.take_prefix _ _
theorem StR.some_ {m : Nat} (st : @StR SM K ι F S H) (h : m ≤ 1) : @StR PM K (ι.take m) F (S.take m) H := by
  replace st := st.core
  refine StC.pm ?_ (one_nd h)
  refine ⟨st.sub, by simp [st.len], fun b hb => st.full b (List.mem_of_mem_take hb), fun k ds e fi => ?_, fun k ds e nf => ?_, st.tb, st.tf, fun k ds e nf => ?_⟩
  rotate_left 2
  · refine absurd (IsFst.nd (one_nd h) ?_) nf
    have hk := (List.getElem?_eq_some_iff.mp e).1
    rw [List.length_take] at hk ⊢
    rw [st.len]; exact hk
  · have hk := (List.getElem?_eq_some_iff.mp e).1
    rw [List.length_take] at hk
    rw [List.getElem?_take, if_pos (by omega)] at e
    have hk' : k < (ι.take m).length := by rw [List.length_take, st.len]; exact hk
    obtain ⟨a, vs, h1, h2, h3, h4⟩ := st.cell k ds e ((IsFst.pre zk7 hk').mpr fi)
    exact ⟨a, vs, by rw [List.getElem?_take, if_pos (by omega)]; exact h1, h2, h3, h4⟩
  · refine absurd (IsFst.nd (one_nd h) ?_) nf
    have hk := (List.getElem?_eq_some_iff.mp e).1
    rw [List.length_take] at hk ⊢
    rw [st.len]; exact hk
theorem StR.back {m : Nat} {ι' : List Addr} {F' H' : Hp} {S' : zae} (st : @StR SM K ι F S H) (hM : hasM S m = true) (h1 : m ≤ 1) (gr : Grow (ι.take m) F H ι' F' H') (st' : @StR PM K ι' F' S' H') : @StR SM K ι F' (S'.take m ++ S.drop m) H' ∧ Grow ι F H ι F' H' := by
  replace st := st.core
  replace st' := st'.core
  have hmS : m ≤ S.length := by
    unfold hasM at hM
    cases m with
    | zero => omega
    | succ m =>
      simp only at hM
      split at hM
      · rename_i q; have := (List.getElem?_eq_some_iff.mp q).1; omega
      · cases hM
  have lt : (ι.take m).length = m := by rw [List.length_take, st.len]; omega
  have hlS : m ≤ S'.length := by rw [← st'.len, ← lt]; exact gr.pre.length_le
  have out : ∀ b o, H b = some o → NoTb o → b ∉ ι.take m → H' b = some o := gr.keep
  have g2 : Grow ι F H ι F' H' := ⟨List.prefix_rfl, gr.sf, fun b o e t n => gr.keep b o e t fun z => n (List.mem_of_mem_take z), fun b o e t t2 f n => gr.new b o e t t2 f fun z => n (List.mem_of_mem_take z), fun b h => .inl h, gr.dom⟩
  have notin : ∀ {k : Nat} {a : Addr}, m ≤ k → ι[k]? = some a → IsFst ι k → a ∉ ι.take m := fun {k a} hk e fi z => by
    obtain ⟨i, hi, e2⟩ := List.mem_iff_getElem.mp z
    have hi' : i < m := by rw [lt] at hi; exact hi
    refine fi i (by omega) ?_
    rw [e]
    have : (ι.take m)[i]? = some a := by rw [List.getElem?_eq_getElem hi, e2]
    rw [List.getElem?_take, if_pos hi'] at this
    exact this
  refine ⟨StC.sm ⟨st'.sub, ?_, fun b hb z => st.full b hb (gr.dom b z), fun k ds e fi => ?_, fun k ds e nf => ?_, st'.tb, st'.tf, fun k ds e nf => ?_⟩, g2⟩
  rotate_left 3
  · have hk : ¬ k < m := fun z => nf fun i hi => by omega
    rw [List.getElem?_append_right (by rw [List.length_take]; omega), List.getElem?_drop, List.length_take, Nat.min_eq_left hlS, Nat.add_sub_cancel' (by omega)] at e
    exact st.snd k ds e nf
  · rw [List.length_append, List.length_take, List.length_drop, st.len]; omega
  · by_cases hk : k < m
    · rw [List.getElem?_append_left (by rw [List.length_take]; omega), List.getElem?_take, if_pos hk] at e
      have hki : k < (ι.take m).length := by rw [lt]; exact hk
      have e1 : ι'[k]? = ι[k]? := by
        obtain ⟨t, ht⟩ := gr.pre
        rw [← ht, List.getElem?_append_left hki, List.getElem?_take, if_pos hk]
      obtain ⟨a, vs, q1, q2, q3, q4⟩ := st'.cell k ds e ((IsFst.pre gr.pre hki).mpr ((IsFst.pre zk7 hki).mp fi))
      exact ⟨a, vs, by rw [← e1]; exact q1, q2, q3, q4⟩
    · rw [List.getElem?_append_right (by rw [List.length_take]; omega), List.getElem?_drop, List.length_take, Nat.min_eq_left hlS, Nat.add_sub_cancel' (by omega)] at e
      obtain ⟨a, vs, q1, q2, q3, q4⟩ := st.cell k ds e fi
      have no := notin (by omega) q1 fi
      exact ⟨a, vs, q1, gr.keep a _ q2 (fun _ z => nomatch z) no, gr.new a _ q2 (fun _ z => nomatch z) (fun _ z => nomatch z) q3 no, q4.mono gr.sf⟩
  · have hk : ¬ k < m := fun z => nf fun i hi => by omega
    rw [List.getElem?_append_right (by rw [List.length_take]; omega), List.getElem?_drop, List.length_take, Nat.min_eq_left hlS, Nat.add_sub_cancel' (by omega)] at e
    obtain ⟨a, q1, q2⟩ := st.spec k ds e nf
    refine ⟨a, q1, q2.move List.prefix_rfl gr.sf fun o eo nl nt => ?_⟩
    have no : a ∉ ι.take m := fun z => by
      obtain ⟨i, hi, e2⟩ := List.mem_iff_getElem.mp z
      have hi' : i < m := by rw [lt] at hi; exact hi
      have hi0 : i = 0 := by omega
      subst hi0
      have hm1 : m = 1 := by omega
      subst hm1
      have ei : ι[0]? = some a := by
        have : (ι.take 1)[0]? = some a := by rw [List.getElem?_eq_getElem hi, e2]
        rw [List.getElem?_take, if_pos (by omega)] at this
        exact this
      unfold hasM at hM
      simp only at hM
      split at hM
      · rename_i xs q
        obtain ⟨a2, vs, z1, z2, _⟩ := st.cell 0 xs q fun i hi => by omega
        rw [ei] at z1; cases z1
        rw [eo] at z2; cases z2
        exact nl _ rfl
      · cases hM
    exact ⟨gr.keep a o eo (fun ps z => nt.2 ps z) no, fun f => gr.new a o eo (fun xs z => nt.1 xs z) (fun ps z => nt.2 ps z) f no⟩
theorem spD_lift {n : Nat} {g : Fn} {vs : List V} {Q : VK} {E : XK} (h : @spD SM K mg n (zec g) vs H Q E) : @spD PM K mg n g vs H Q E := by
  obtain ⟨hl, ι, F, S, ds, st, ws, po⟩ := h
  unfold zec at po
  cases qm : argM ds with
  | none => rw [qm] at po; exact po.elim
  | some m =>
    rw [qm] at po
    have hm1 := zha qm
    have sl := st.core.len
    cases hM : hasM S m with
    | false => simp only [hM, cond_false] at po; exact po.elim
    | true =>
      simp only [hM, cond_true] at po
      refine ⟨hl, ι.take m, F, S.take m, ds, st.some_ hm1, zhd qm ws, ?_⟩
      have lt : (ι.take m).length ≤ m := by rw [List.length_take]; omega
      cases qq : g ds (S.take m) with
      | bad => rw [qq] at po; exact po
      | ex c S' =>
        rw [qq] at po
        intro C ι' F' H' gr st' mc
        obtain ⟨st2, g2⟩ := st.back hM hm1 gr st'
        exact po C ι F' H' g2 st2 mc
      | ok dv S' =>
        rw [qq] at po
        intro ι' F' H' gr st' v wv
        obtain ⟨st2, g2⟩ := st.back hM hm1 gr st'
        cases dv with
        | dat d => exact po ι F' H' g2 st2 v wv
        | scr ns => exact po.elim
        | exn c p => exact po.elim
        | fn _ => exact po.elim
        | spc _ => exact po.elim
        | obj k =>
          obtain ⟨a, w1, w2, w3⟩ := wv
          simp only at po
          have hmS : m = (ι.take m).length := by
            have : m ≤ S.length := by
              unfold hasM at hM
              cases m with
              | zero => omega
              | succ m =>
                simp only at hM
                split at hM
                · rename_i q; have := (List.getElem?_eq_some_iff.mp q).1; omega
                · cases hM
            rw [List.length_take, sl]; omega
          split at po
          · rename_i hk
            have hki : k < (ι.take m).length := by omega
            refine po ι F' H' g2 st2 v ⟨a, ?_, w2, (IsFst.pre zk7 hki).mpr ((IsFst.pre gr.pre hki).mp w3)⟩
            obtain ⟨t, ht⟩ := gr.pre
            rw [← ht, List.getElem?_append_left hki, List.getElem?_take, if_pos hk] at w1
            exact w1
          · rename_i hk
            split at po
            · rename_i xs ex
              obtain ⟨a2, vs2, z1, z2, z3, z4⟩ := st'.core.cell k xs ex w3
              rw [w1] at z1; cases z1
              have na : a ∉ ι.take m := fun z => by
                obtain ⟨i, hi, e2⟩ := List.mem_iff_getElem.mp z
                obtain ⟨t, ht⟩ := gr.pre
                have e1 : ι'[i]? = some a := by rw [← ht, List.getElem?_append_left hi, List.getElem?_eq_getElem hi, e2]
                exact w3 i (by omega) (e1.trans w1.symm)
              have ha : H a = none := (gr.nio a (List.mem_of_getElem? w1)).resolve_left na
              have nι : a ∉ ι := fun z => st.core.full a z ha
              exact po (ι ++ [a]) F' H' (zfz g2 ha) (st2.add2 z2 z3 nι z4) v ⟨a, by rw [← sl]; simp, w2, by rw [← sl]; exact IsFst.new nι⟩
            · exact po.elim
theorem zee {q : Bool} {P : Program} {w : World} {base : Heap} {k n : Nat} {x : Str} {g : Fn} (D : @DefQ PM q P w K mg base k x n g) : @DefQ SM q P w K mg base k x n (zec g) := by
  obtain ⟨f, fd, ps, Fg, hm, hk, hb⟩ := D
  refine @DefQ.mk SM _ _ _ _ _ _ _ _ _ _ ?_
  exact ⟨f, fd, ps, ⟨fun vs H Q E h => Fg.len vs H Q E (spD_lift h), fun A outer s H args us vs Q E hr hq hG e0 hbd rel h => Fg.run A outer s H args us vs Q E hr hq hG e0 hbd rel (spD_lift h)⟩, hm, hk, hb⟩
end
end DL
set_option maxHeartbeats 4000000
namespace DL
open PySem PySem.Spec PyProof.Rows L2
local instance (priority := 2000) smI : Mode := SM
/-! # A live dict whose keys are tuples of ints and of such tuples -/
section
variable {P : Program} {w : World} {K : PySem.W.Frag} {H : Hp} {h : Heap}
mutual
theorem nky_is (hok : HOk P w H h) (KX : K.In h) : ∀ {d : D} {v : V} {u : Value} {k : NestedKey}, Wd K H v d → RelV v u → nkyD d = some k → NestedIs h k u
  | .non, v, u, k, wd, r, e => by
    cases wd; cases e
    obtain rfl : u = .none := r
    exact .none
  | .int i, v, u, k, wd, r, e => by
    cases wd; cases e
    obtain ⟨t, rfl⟩ : ∃ t, u = .int i t := r
    exact .int i t
  | .tup ds, v, u, k, wd, r, e => by
    cases wd with
    | tup sq wa =>
      rename_i a vs
      obtain rfl : u = .ref a := r
      obtain ⟨its, o, n, h1, h2, h3, h4⟩ := sqT_at hok KX sq
      simp only [nkyD] at e
      cases q : nkyDs ds with
      | none => rw [q] at e; cases e
      | some ks =>
        rw [q] at e; cases e
        exact .tup h2 h3 h4 (nkys_is hok KX wa h1 q)
  | .bl _, _, _, _, _, _, e => by cases e
  | .str _, _, _, _, _, _, e => by cases e
  | .lst _, _, _, _, _, _, e => by cases e
  | .cas _, _, _, _, _, _, e => by cases e
  | .dct _, _, _, _, _, _, e => by cases e
  | .ptr _, _, _, _, _, _, e => by cases e
theorem nkys_is (hok : HOk P w H h) (KX : K.In h) : ∀ {ds : List D} {vs : List V} {us : List Value} {ks : List NestedKey}, WdA K H vs ds → Vals vs us → nkyDs ds = some ks → NestedAll h ks us
  | [], vs, us, ks, wd, r, e => by
    cases wd; cases e; cases r; exact .nil
  | d :: ds, vs, us, ks, wd, r, e => by
    cases wd with
    | cons wa wb =>
      cases r with
      | cons ra rb =>
        simp only [nkyDs] at e
        cases q : nkyD d with
        | none => rw [q] at e; cases e
        | some k =>
          cases q2 : nkyDs ds with
          | none => rw [q, q2] at e; cases e
          | some ks2 =>
            rw [q, q2] at e; cases e
            exact .cons (nky_is hok KX wa ra q) (nkys_is hok KX wb rb q2)
end
mutual
theorem nky_hash (w w' : World) : ∀ {d : D} {k : NestedKey}, nkyD d = some k → k.hash w = k.hash w'
  | .non, k, e => by cases e; rfl
  | .int i, k, e => by cases e; rfl
  | .tup ds, k, e => by
    simp only [nkyD] at e
    cases q : nkyDs ds with
    | none => rw [q] at e; cases e
    | some ks =>
      rw [q] at e; cases e
      simp only [NestedKey.hash]
      rw [nkys_hash w w' q]
  | .bl _, _, e => by cases e
  | .str _, _, e => by cases e
  | .lst _, _, e => by cases e
  | .cas _, _, e => by cases e
  | .dct _, _, e => by cases e
  | .ptr _, _, e => by cases e
theorem nkys_hash (w w' : World) : ∀ {ds : List D} {ks : List NestedKey}, nkyDs ds = some ks → NestedKey.hashes w ks = NestedKey.hashes w' ks
  | [], ks, e => by cases e; rfl
  | d :: ds, ks, e => by
    simp only [nkyDs] at e
    cases q : nkyD d with
    | none => rw [q] at e; cases e
    | some k =>
      cases q2 : nkyDs ds with
      | none => rw [q, q2] at e; cases e
      | some ks2 =>
        rw [q, q2] at e; cases e
        simp only [NestedKey.hashes]
        rw [nky_hash w w' q, nkys_hash w w' q2]
end
def pkD : D → Option NestedKey
  | .tup [kd, _] => nkyD kd
  | _ => none
def inN (ps : List D) (k : NestedKey) : Bool := ps.any fun p => decide (pkD p = some k)
def setV (k : NestedKey) (vd : D) : D → D
  | .tup [kd, v] => if nkyD kd = some k then .tup [kd, vd] else .tup [kd, v]
  | d => d
def putN (ps : List D) (k : NestedKey) (kd vd : D) : List D := bif inN ps k then ps.map (setV k vd) else ps ++ [.tup [kd, vd]]
variable {ι : List Addr} {F : Hp} {a : Addr} {xs : List (NestedKey × Addr × Value)} {ds : List D}
theorem PairN.at_ (p : PairN K ι F xs ds) (k : NestedKey) : (atKey xs k).isSome = inN ds k := by
  induction p with
  | nil => rfl
  | @cons k' b u v kd vd xs ds h1 h2 h3 h4 _ ih =>
    unfold inN at ih ⊢
    unfold atKey at ih ⊢
    simp only [List.any_cons, List.find?_cons, pkD, h1.1, Option.some.injEq]
    by_cases e : k' = k
    · simp [e]
    · simp only [e, decide_false, Bool.false_or]
      exact ih
theorem PairN.set (p : PairN K ι F xs ds) {k : NestedKey} {u : Value} {v : V} {vd : D} (r : RelV v u) (f : SpV K ι F v vd) : PairN K ι F (xs.map (putAt k u)) (ds.map (setV k vd)) := by
  induction p with
  | nil => exact .nil
  | @cons k' b u' v' kd vd' xs ds h1 h2 h3 h4 _ ih =>
    simp only [List.map_cons, putAt, setV, h1.1, Option.some.injEq]
    by_cases e : k' = k
    · simp only [e, if_true]
      exact .cons (e ▸ h1) h2 r f ih
    · simp only [e, if_false]
      exact .cons h1 h2 h3 h4 ih
theorem PairN.snoc (p : PairN K ι F xs ds) {k : NestedKey} {b : Addr} {u : Value} {v : V} {kd vd : D} (h1 : nkyD kd = some k ∧ k.depth ≤ 8) (h2 : Wd K F (.ref b) kd) (r : RelV v u) (f : SpV K ι F v vd) : PairN K ι F (xs ++ [(k, b, u)]) (ds ++ [.tup [kd, vd]]) := by
  induction p with
  | nil => exact .cons h1 h2 r f .nil
  | cons a1 a2 a3 a4 _ ih => exact .cons a1 a2 a3 a4 ih
theorem PairN.put (p : PairN K ι F xs ds) {k : NestedKey} {b : Addr} {u : Value} {v : V} {kd vd : D} (h1 : nkyD kd = some k ∧ k.depth ≤ 8) (h2 : Wd K F (.ref b) kd) (r : RelV v u) (f : SpV K ι F v vd) : PairN K ι F (storedH xs k b u) (putN ds k kd vd) := by
  unfold storedH putN
  rw [p.at_ k]
  cases inN ds k with
  | true => simp only [if_true, cond_true]; exact p.set r f
  | false => simp only [Bool.false_eq_true, if_false, cond_false]; exact p.snoc h1 h2 r f
theorem PairN.length (p : PairN K ι F xs ds) : xs.length = ds.length := by
  induction p with
  | nil => rfl
  | cons _ _ _ _ _ ih => simp [ih]
theorem PairN.wd (p : PairN K ι F xs ds) {x : NestedKey × Addr × Value} (m : x ∈ xs) : ∃ kd, nkyD kd = some x.1 ∧ x.1.depth ≤ 8 ∧ Wd K F (.ref x.2.1) kd := by
  induction p with
  | nil => cases m
  | cons h1 h2 _ _ _ ih =>
    rcases List.mem_cons.mp m with rfl | m
    · exact ⟨_, h1.1, h1.2, h2⟩
    · exact ih m
theorem PairN.dict (p : PairN K ι F xs ds) (hok : HOk P w H h) (KX : K.In h) (sm : Same F H) (e : H a = some (DicN a xs)) : (a == sysModules) = false ∧ h.DictOfH (nestedKind P w) a xs := by
  obtain ⟨⟨h0, o, es, ep, w0, h1, h2, h3, h4, h5⟩, _⟩ := hok a _ e
  refine ⟨h0, o, es, ep, h1, h2, h3, ?_, fun x m => ?_, h5⟩
  · rw [h4]
    refine List.map_congr_left fun x m => ?_
    obtain ⟨kd, q, _, _⟩ := p.wd m
    show (⟨x.1.hash w0, .ref x.2.1, x.2.2⟩ : DictEntry) = ⟨x.1.hash w, .ref x.2.1, x.2.2⟩
    rw [nky_hash w0 w q]
  · obtain ⟨kd, q, q2, q3⟩ := p.wd m
    exact ⟨nky_is hok KX (q3.mono sm) rfl q, q2⟩
end
section
variable {X : Cx} {W : WX} {e a b c : Expr} {pos p pos' : Pos} {K : PySem.W.Frag} {ι : List Addr} {F H : Hp} {S : zae} {mg : Str → Option Value}
/-! ## {} -/
/-! ## k in d -/
def spcOf (S : zae) : DV → Option (Nat × List D)
  | .spc k => match S[k]? with
    | some (some ds) => some (k, ds)
    | _ => none
  | _ => none
theorem spc_at {x : DV} {k : Nat} {ds : List D} {v : V} (st : StR K ι F S H) (w : WV K ι F v x) (e : spcOf S x = some (k, ds)) : ∃ a, v = .ref a ∧ ι[k]? = some a ∧ ¬ IsFst ι k ∧ SpAt K ι F H a ds ∧ S[k]? = some (some ds) := by
  cases x with
  | spc j =>
    simp only [spcOf] at e
    split at e
    · rename_i es q
      cases e
      obtain ⟨a, h1, h2, h3⟩ := w
      obtain ⟨a', h4, h5⟩ := st.spec _ _ q h3
      rw [h1] at h4; cases h4
      exact ⟨a, h2, h1, h3, h5, q⟩
    · cases e
  | _ => cases e
theorem StR.putS {k : Nat} {a : Addr} {o o' : HO} {ds ds' : List D} (st : StR K ι F S H) (hk : ι[k]? = some a) (nf : ¬ IsFst ι k) (hF : F a = none) (hH : H a = some o) (nl : ∀ xs, o ≠ .lst xs) (hS : S[k]? = some (some ds))
    (ho : SpO K ι F a o' ds') (tb : TbsOk K (upd H a o')) : StR K ι F (S.set k (some ds')) (upd H a o') := by
  refine StC.sm ⟨fun b u e => ?_, by simp [st.len], fun b hb => zfy (st.full b hb), fun j es e fi => ?_, fun j es e n => ?_, tb, st.tf, fun j es e n => ?_⟩
  rotate_left 3
  · by_cases hj : k = j
    · subst hj; exact st.snd _ _ hS nf
    · rw [List.getElem?_set_ne hj] at e; exact st.snd j es e n
  · rw [upd_ne (fun z => by rw [z, hF] at e; cases e)]; exact st.sub b u e
  · have hj : k ≠ j := fun z => nf (z ▸ fi)
    rw [List.getElem?_set_ne hj] at e
    obtain ⟨a1, vs, q1, q2, q3, q4⟩ := st.cell j es e fi
    have n : a1 ≠ a := fun z => by rw [z, hH] at q2; cases q2; exact nl _ rfl
    exact ⟨a1, vs, q1, by rw [upd_ne n]; exact q2, q3, q4⟩
  · by_cases hj : k = j
    · subst hj
      have hl := (List.getElem?_eq_some_iff.mp hS).1
      rw [List.getElem?_set_self hl] at e
      cases e
      exact ⟨a, hk, hF, o', upd_same, ho⟩
    · rw [List.getElem?_set_ne hj] at e
      obtain ⟨a1, q1, q2⟩ := st.spec j es e n
      have ne : a1 ≠ a := fun z => hj (IsSnd.one (st.snd k ds hS nf) (st.snd j es e n) hk (z ▸ q1))
      exact ⟨a1, q1, q2.move List.prefix_rfl (Same.refl _) fun o e _ _ => ⟨by rw [upd_ne ne]; exact e, fun f => f⟩⟩
theorem grow_spc {k : Nat} {a : Addr} {o : HO} (hk : ι[k]? = some a) : Grow ι F H ι F (upd H a o) := by
  have m : a ∈ ι := List.mem_of_getElem? hk
  exact ⟨List.prefix_rfl, Same.refl _, fun b u e _ n => by rw [upd_ne (fun z => n (by rw [z]; exact m))]; exact e, fun b u e _ _ f _ => f, fun b h => .inl h, fun b h => zbu h⟩
/-! ## d[k] = v -/
end
end DL
set_option maxHeartbeats 4000000
namespace PySem.DLTup0
open PySem PySem.Spec PyProof.Rows
end PySem.DLTup0
namespace L2
open PySem PySem.Spec PyProof.Rows
end L2
namespace DL
open PySem PySem.Spec PyProof.Rows L2
variable [Mode]
section
variable {X : Cx} {W : WX} {pos : Pos}
/-! ## tuple * n, any n -/
/-! ## except X as e: return isinstance(e, C) -/
end
end DL
set_option maxHeartbeats 4000000
namespace DL
open PySem PySem.Spec PyProof.Rows L2
variable [Mode]
section
variable {X : Cx} {W : WX} {e a b c : Expr} {es : List Expr} {pos p : Pos} {K : PySem.W.Frag} {ι : List Addr} {F H : Hp} {S : zae} {mg : Str → Option Value}
/-! ## len(set(x)), x of ints -/
end
end DL
set_option maxHeartbeats 4000000
namespace DL
open PySem PySem.Spec PyProof.Rows L2
variable [Mode]
section
variable {X : Cx} {W : WX} {e a b c : Expr} {es : List Expr} {pos p : Pos} {K : PySem.W.Frag} {ι : List Addr} {F H : Hp} {S : zae} {mg : Str → Option Value}
/-! ## min and max of two ints -/
/-! ## list(range(n)) -/
end
end DL
set_option maxHeartbeats 4000000
namespace DL
open PySem PySem.Spec PyProof.Rows L2
section
variable {X : Cx} {W : WX} {e a b c : Expr} {es : List Expr} {pos p : Pos} {K : PySem.W.Frag} {ι : List Addr} {F H : Hp} {S : zae} {mg : Str → Option Value}
/-! ## max and min of a list or a tuple of ints -/
end
end DL
set_option maxHeartbeats 4000000
namespace DL
open PySem PySem.Spec PyProof.Rows L2
variable [Mode]
section
variable {X : Cx} {W : WX} {e a b c : Expr} {es : List Expr} {pos p : Pos} {K : PySem.W.Frag} {ι : List Addr} {F H : Hp} {S : zae} {mg : Str → Option Value}
/-! ## what a frozen case tells: columns, count -/
def casFs (c : Cas) (ca la fa : Addr) : List (Str × V) := [("columns", .ref ca), ("count", .int (c.n : Nat)), ("labels", .ref la), ("facts", .ref fa)]
/-! ## labels and facts -/
theorem zej (n m : Nat) : (zbp n m).length = n * m := by
  unfold zbp
  induction n with
  | zero => simp
  | succ n ih => rw [List.range_succ, List.flatMap_append, List.length_append, ih]; simp [Nat.succ_mul]
theorem cellKeys_get {n m r k : Nat} (hr : r < n) (hk : k < m) : (zbp n m)[r * m + k]? = some [Sum.inl ((r : Nat) : Int), Sum.inl ((k : Nat) : Int)] := by
  induction n with
  | zero => omega
  | succ n ih =>
    have e : zbp (n + 1) m = zbp n m ++ (List.range m).map fun c => [Sum.inl ((n : Nat) : Int), Sum.inl ((c : Nat) : Int)] := by
      unfold zbp
      rw [List.range_succ, List.flatMap_append]
      simp
    rw [e]
    by_cases h : r < n
    · rw [List.getElem?_append_left]
      · exact ih h
      · rw [zej]
        have h1 : (r + 1) * m ≤ n * m := Nat.mul_le_mul_right m h
        rw [Nat.succ_mul] at h1
        omega
    · have : r = n := by omega
      subst this
      rw [List.getElem?_append_right (by rw [zej]; omega), zej]
      simp [show r * m + k - r * m = k by omega, hk]
theorem zf4 (n m : Nat) : (zbp n m).Nodup := by
  unfold zbp
  rw [List.nodup_iff_pairwise_ne, List.pairwise_flatMap]
  refine ⟨fun r _ => ?_, List.pairwise_lt_range.imp fun {r r'} h x hx y hy e => ?_⟩
  · rw [List.pairwise_map]
    refine List.pairwise_lt_range.imp fun {a b} h e => ?_
    simp at e
    omega
  · obtain ⟨a, _, rfl⟩ := List.mem_map.mp hx
    obtain ⟨b, _, rfl⟩ := List.mem_map.mp hy
    simp at e
    omega
end
end DL
set_option maxHeartbeats 4000000
namespace DL
open PySem PySem.Spec PyProof.Rows L2
variable [Mode]
section
variable {X : Cx} {W : WX} {e a b c : Expr} {es : List Expr} {pos p apos : Pos} {K : PySem.W.Frag} {ι : List Addr} {F H : Hp} {S : zae} {mg : Str → Option Value}
/-! ## methods of a frozen case -/
structure MDef (P : Program) (w : World) (K : PySem.W.Frag) (mg : Str → Option Value) (base : Heap) (k : Nat) (C : Addr) (m : Str) (n : Nat) (g : Fn) : Prop where
  ex : ∃ f fd ps, FnG P w K mg base k f fd ps (spD K mg n g) ∧ Meth K C m f ∧ Binds K fd ps []
end
end DL
set_option maxHeartbeats 4000000
namespace DL
open PySem PySem.Spec PyProof.Rows L2
variable [Mode]
section
variable {X : Cx} {W : WX} {e a b c : Expr} {es : List Expr} {pos p apos : Pos} {K : PySem.W.Frag} {ι : List Addr} {F H : Hp} {S : zae} {mg : Str → Option Value}
/-! ## a case as it stands in the heap, live or frozen -/
abbrev labO (c : Cas) : HO := .dT ((zbp c.n c.cols.length).zip (c.lab.map fun l => V.int (l : Nat)))
abbrev facO (c : Cas) (fs : Nat → Addr) : HO := .dK ((List.range c.facts.length).map fun i => (Sum.inl ((i : Nat) : Int), V.ref (fs i)))
structure CasR (K : PySem.W.Frag) (H : Hp) (a : Addr) (c : Cas) (dx ca la fa : Addr) (fs : Nat → Addr) : Prop where
  ins : H a = some (.ins (He.ga K "Case") dx (casFs c ca la fa))
  lb : Rd H la (labO c)
  ft : Rd H fa (facO c fs)
  fl : ∀ i, i < c.facts.length → H (fs i) = some (.lst ((c.facts.getD i []).map V.int))
  l1 : c.lab.length = c.n * c.cols.length
  l2 : c.facts.length = c.n * c.cols.length
  l3 : ∀ l ∈ c.lab, l < c.facts.length
structure CasL (K : PySem.W.Frag) (H : Hp) (a : Addr) (c : Cas) (dx ca la fa : Addr) (fs : Nat → Addr) : Prop where
  ins : H a = some (.ins (He.ga K "Case") dx (casFs c ca la fa))
  own : H dx = some (.own a)
  lb : H la = some (labO c)
  ft : H fa = some (facO c fs)
  fl : ∀ i, i < c.facts.length → H (fs i) = some (.lst ((c.facts.getD i []).map V.int))
  inj : ∀ i j, i < c.facts.length → j < c.facts.length → fs i = fs j → i = j
  l1 : c.lab.length = c.n * c.cols.length
  l2 : c.facts.length = c.n * c.cols.length
  l3 : ∀ l ∈ c.lab, l < c.facts.length
  l4 : c.lab.length < 1000
theorem CasL.r {H : Hp} {a : Addr} {c : Cas} {dx ca la fa : Addr} {fs : Nat → Addr} (h : CasL K H a c dx ca la fa fs) : CasR K H a c dx ca la fa fs := ⟨h.ins, .of h.lb, .of h.ft, h.fl, h.l1, h.l2, h.l3⟩
def Cas.at_ (c : Cas) (r k : Nat) : Nat := c.lab.getD (r * c.cols.length + k) 0
theorem cell_lt {c : Cas} {r k : Nat} (hr : r < c.n) (hk : k < c.cols.length) : r * c.cols.length + k < c.n * c.cols.length := by
  have h1 : (r + 1) * c.cols.length ≤ c.n * c.cols.length := Nat.mul_le_mul_right _ hr
  rw [Nat.succ_mul] at h1
  omega
theorem at_lt {c : Cas} {r k : Nat} (l1 : c.lab.length = c.n * c.cols.length) (l3 : ∀ l ∈ c.lab, l < c.facts.length) (hr : r < c.n) (hk : k < c.cols.length) : c.at_ r k < c.facts.length := by
  have h := cell_lt hr hk
  refine l3 _ ?_
  unfold Cas.at_
  rw [List.getD_eq_getElem?_getD, List.getElem?_eq_getElem (by omega)]
  exact List.getElem_mem _
/-! ## a method by its raw promise -/
structure MRaw (P : Program) (w : World) (K : PySem.W.Frag) (mg : Str → Option Value) (base : Heap) (k : Nat) (C : Addr) (m : Str) (sp : Sp) : Prop where
  ex : ∃ f fd ps, FnG P w K mg base k f fd ps sp ∧ Meth K C m f ∧ Binds K fd ps []
/-! ## known, learn -/
def Cas.learn (c : Cas) (r k : Nat) (v : Int) : Cas := if v ∈ c.facts.getD (c.at_ r k) [] then c else { c with facts := c.facts.set (c.at_ r k) (c.facts.getD (c.at_ r k) [] ++ [v]) }
structure Mutd (H H' : Hp) (la : Addr) (fs : Nat → Addr) (n : Nat) : Prop where
  keep : ∀ b o, H b = some o → b ≠ la → (∀ i, i < n → b ≠ fs i) → H' b = some o
  dom : ∀ b, H' b = none → H b = none
theorem Mutd.refl {la : Addr} {fs : Nat → Addr} {n : Nat} : Mutd H H la fs n := ⟨fun _ _ h _ _ => h, fun _ h => h⟩
theorem Mutd.trans {H1 H2 : Hp} {la : Addr} {fs : Nat → Addr} {n : Nat} (a : Mutd H H1 la fs n) (b : Mutd H1 H2 la fs n) : Mutd H H2 la fs n := ⟨fun c o h n1 n2 => b.keep c o (a.keep c o h n1 n2) n1 n2, fun c h => a.dom c (b.dom c h)⟩
theorem Mutd.push {la : Addr} {fs : Nat → Addr} {n : Nat} {p : Addr} (hp : H p = none) (o : HO) : Mutd H (upd H p o) la fs n := ⟨fun b u e _ _ => by rw [upd_ne (fun z => by rw [z, hp] at e; cases e)]; exact e, fun b h => zbu h⟩
theorem CasL.ne {H : Hp} {a : Addr} {c : Cas} {dx ca la fa : Addr} {fs : Nat → Addr} (L : CasL K H a c dx ca la fa fs) {i : Nat} (hi : i < c.facts.length) : a ≠ fs i ∧ dx ≠ fs i ∧ la ≠ fs i ∧ fa ≠ fs i := by
  have e := L.fl i hi
  refine ⟨fun h => ?_, fun h => ?_, fun h => ?_, fun h => ?_⟩
  · have := L.ins; rw [h, e] at this; cases this
  · have := L.own; rw [h, e] at this; cases this
  · have := L.lb; rw [h, e] at this; cases this
  · have := L.ft; rw [h, e] at this; cases this
theorem getD_set {α : Type} {xs : List α} {i j : Nat} {x d : α} (hi : i < xs.length) : (xs.set i x).getD j d = if i = j then x else xs.getD j d := by
  rw [List.getD_eq_getElem?_getD, List.getD_eq_getElem?_getD, List.getElem?_set]
  by_cases h : i = j
  · subst h; simp [hi]
  · simp [h]
theorem CasL.add {H : Hp} {a : Addr} {c : Cas} {dx ca la fa : Addr} {fs : Nat → Addr} (L : CasL K H a c dx ca la fa fs) {i : Nat} (hi : i < c.facts.length) (xs : List Int) : CasL K (upd H (fs i) (.lst (xs.map V.int))) a { c with facts := c.facts.set i xs } dx ca la fa fs := by
  obtain ⟨n1, n2, n3, n4⟩ := L.ne hi
  refine ⟨by rw [upd_ne n1]; exact L.ins, by rw [upd_ne n2]; exact L.own, by rw [upd_ne n3]; exact L.lb, by rw [upd_ne n4, L.ft]; show some (HO.dK _) = some (HO.dK _); rw [List.length_set], fun j hj => ?_, fun i j h1 h2 => L.inj i j (by simpa using h1) (by simpa using h2), L.l1, by simpa using L.l2, fun l hl => by simpa using L.l3 l hl, L.l4⟩
  have hj : j < c.facts.length := by simpa using hj
  show upd H (fs i) _ (fs j) = some (.lst (((c.facts.set i xs).getD j []).map V.int))
  rw [getD_set hi]
  by_cases h : i = j
  · subst h
    rw [if_pos rfl, upd_same]
  · rw [if_neg h, upd_ne (fun e => h (L.inj j i hj hi e).symm)]
    exact L.fl j hj
theorem Mutd.add {la : Addr} {fs : Nat → Addr} {n i : Nat} (hi : i < n) (hf : H (fs i) ≠ none) (o : HO) : Mutd H (upd H (fs i) o) la fs n := ⟨fun b u e _ h => by rw [upd_ne (h i hi)]; exact e, fun b h => zbu h⟩
end
end DL
set_option maxHeartbeats 4000000
namespace DL
open PySem PySem.Spec PyProof.Rows L2
section
variable {X : Cx} {W : WX} {K : PySem.W.Frag} {F H : Hp}
/-! ## join -/
def Cas.relab (c : Cas) (kept lost : Nat) : Cas := { c with lab := c.lab.map fun l => if l = lost then kept else l }
def Cas.join (c : Cas) (r1 k1 r2 k2 : Nat) : Cas := if c.at_ r1 k1 = c.at_ r2 k2 then c else (c.facts.getD (c.at_ r2 k2) []).foldl (fun d v => d.learn r1 k1 v) (c.relab (c.at_ r1 k1) (c.at_ r2 k2))
theorem zdh (c : Cas) (r k : Nat) (v : Int) : (c.learn r k v).lab = c.lab ∧ (c.learn r k v).cols = c.cols ∧ (c.learn r k v).n = c.n ∧ (c.learn r k v).facts.length = c.facts.length := by
  unfold Cas.learn
  split
  · exact ⟨rfl, rfl, rfl, rfl⟩
  · exact ⟨rfl, rfl, rfl, by simp⟩
theorem ze6 (c : Cas) (r k r' k' : Nat) (v : Int) : (c.learn r k v).at_ r' k' = c.at_ r' k' := by
  obtain ⟨h1, h2, _⟩ := zdh c r k v
  unfold Cas.at_
  rw [h1, h2]
theorem zb9 (c : Cas) (r k : Nat) (v : Int) (h : c.at_ r k < c.facts.length) (l : Nat) : (c.learn r k v).facts.getD l [] = if l = c.at_ r k ∧ v ∉ c.facts.getD l [] then c.facts.getD l [] ++ [v] else c.facts.getD l [] := by
  unfold Cas.learn
  by_cases hv : v ∈ c.facts.getD (c.at_ r k) []
  · rw [if_pos hv, if_neg]
    rintro ⟨e, h2⟩
    subst e
    exact h2 hv
  · rw [if_neg hv]
    show (c.facts.set _ _).getD l [] = _
    rw [getD_set h]
    by_cases e : c.at_ r k = l
    · subst e
      rw [if_pos rfl, if_pos ⟨rfl, hv⟩]
    · rw [if_neg e, if_neg]
      rintro ⟨e2, _⟩
      exact e e2.symm
theorem mapK_no {κ : Type} [DecidableEq κ] {k : κ} {v : V} : ∀ {l : List (κ × V)}, (∀ p ∈ l, p.1 ≠ k) → l.map (fun kv => if kv.1 = k then (kv.1, v) else kv) = l
  | [], _ => rfl
  | p :: l, h => by
    rw [List.map_cons, if_neg (h p (by simp)), mapK_no fun q hq => h q (by simp [hq])]
theorem mapK_zip {κ : Type} [DecidableEq κ] {v : Nat} : ∀ {ks : List κ} {vs : List Nat} {i : Nat} {k : κ}, ks.Nodup → ks[i]? = some k → i < vs.length →
    ((ks.zip (vs.map fun l => V.int ((l : Nat) : Int))).any fun kv => decide (kv.1 = k)) = true ∧ (ks.zip (vs.map fun l => V.int ((l : Nat) : Int))).map (fun kv => if kv.1 = k then (kv.1, V.int ((v : Nat) : Int)) else kv) = ks.zip ((vs.set i v).map fun l => V.int ((l : Nat) : Int))
  | [], _, _, _, _, h, _ => by simp at h
  | _ :: _, [], _, _, _, _, h => by simp at h
  | k0 :: ks, v0 :: vs, 0, k, nd, h1, _ => by
    simp at h1
    subst h1
    rw [List.nodup_cons] at nd
    refine ⟨by simp, ?_⟩
    rw [List.map_cons, List.zip_cons_cons, List.map_cons, if_pos rfl, mapK_no, List.set_cons_zero, List.map_cons, List.zip_cons_cons]
    intro p hp e
    exact nd.1 (e ▸ (List.of_mem_zip hp).1)
  | k0 :: ks, v0 :: vs, i + 1, k, nd, h1, h2 => by
    rw [List.nodup_cons] at nd
    simp only [List.getElem?_cons_succ] at h1
    have ne : ¬ k0 = k := fun e => nd.1 (e ▸ List.mem_of_getElem? h1)
    have ih := mapK_zip (v := v) (ks := ks) (vs := vs) (i := i) (k := k) nd.2 h1 (by simpa using h2)
    refine ⟨?_, ?_⟩
    · rw [List.map_cons, List.zip_cons_cons, List.any_cons, ih.1, Bool.or_true]
    · rw [List.map_cons, List.zip_cons_cons, List.map_cons, if_neg ne, ih.2, List.set_cons_succ, List.map_cons, List.zip_cons_cons]
theorem putK_zip {κ : Type} [DecidableEq κ] {v : Nat} {ks : List κ} {vs : List Nat} {i : Nat} {k : κ} (nd : ks.Nodup) (h1 : ks[i]? = some k) (h2 : i < vs.length) : putK (ks.zip (vs.map fun l => V.int ((l : Nat) : Int))) k (.int ((v : Nat) : Int)) = ks.zip ((vs.set i v).map fun l => V.int ((l : Nat) : Int)) := by
  have h := mapK_zip (v := v) nd h1 h2
  unfold putK
  rw [if_pos h.1, h.2]
theorem CasL.put {a : Addr} {c : Cas} {dx ca la fa : Addr} {fs : Nat → Addr} (L : CasL K H a c dx ca la fa fs) {i v : Nat} {k : List Key} (hk : (zbp c.n c.cols.length)[i]? = some k) (hi : i < c.lab.length) (hv : v < c.facts.length) :
    CasL K (upd H la (.dT (putK ((zbp c.n c.cols.length).zip (c.lab.map fun l => V.int (l : Nat))) k (.int ((v : Nat) : Int))))) a { c with lab := c.lab.set i v } dx ca la fa fs := by
  have na : a ≠ la := fun h => by have := L.ins; rw [h, L.lb] at this; cases this
  have nd : dx ≠ la := fun h => by have := L.own; rw [h, L.lb] at this; cases this
  have nf : fa ≠ la := fun h => by have := L.ft; rw [h, L.lb] at this; cases this
  refine ⟨by rw [upd_ne na]; exact L.ins, by rw [upd_ne nd]; exact L.own, ?_, by rw [upd_ne nf]; exact L.ft, fun j hj => ?_, L.inj, by simpa using L.l1, L.l2, fun l hl => ?_, by simpa using L.l4⟩
  · rw [upd_same, putK_zip (zf4 _ _) hk hi]
  · rw [upd_ne (L.ne hj).2.2.1.symm]
    exact L.fl j hj
  · rcases List.mem_or_eq_of_mem_set hl with h | h
    · exact L.l3 l h
    · exact h ▸ hv
theorem CasL.push {a : Addr} {c : Cas} {dx ca la fa : Addr} {fs : Nat → Addr} (L : CasL K H a c dx ca la fa fs) {p : Addr} (hp : H p = none) (o : HO) : CasL K (upd H p o) a c dx ca la fa fs := by
  have n : ∀ b u, H b = some u → upd H p o b = some u := fun b u e => by rw [upd_ne (fun z => by rw [z, hp] at e; cases e)]; exact e
  exact ⟨n _ _ L.ins, n _ _ L.own, n _ _ L.lb, n _ _ L.ft, fun i hi => n _ _ (L.fl i hi), L.inj, L.l1, L.l2, L.l3, L.l4⟩
theorem zk_ {r k : Nat} : ∀ (ys : List Int) (d : Cas), d.at_ r k < d.facts.length → 
    let e := ys.foldl (fun d v => d.learn r k v) d
    e.lab = d.lab ∧ e.cols = d.cols ∧ e.n = d.n ∧ e.facts.length = d.facts.length ∧ e.at_ r k = d.at_ r k ∧ (∀ l, l ≠ d.at_ r k → e.facts.getD l [] = d.facts.getD l []) ∧ (e.facts.getD (d.at_ r k) []).length ≤ (d.facts.getD (d.at_ r k) []).length + ys.length
  | [], d, _ => ⟨rfl, rfl, rfl, rfl, rfl, fun _ _ => rfl, Nat.le_refl _⟩
  | v :: ys, d, h => by
    obtain ⟨a1, a2, a3, a4⟩ := zdh d r k v
    have a5 := ze6 d r k r k v
    have lf := zb9 d r k v h
    obtain ⟨b1, b2, b3, b4, b5, b6, b7⟩ := zk_ ys (d.learn r k v) (by rw [a5, a4]; exact h)
    refine ⟨b1.trans a1, b2.trans a2, b3.trans a3, b4.trans a4, b5.trans a5, fun l hl => ?_, ?_⟩
    · rw [List.foldl_cons, b6 l (by rw [a5]; exact hl), lf l, if_neg (fun h => hl h.1)]
    · rw [a5] at b7
      have := lf (d.at_ r k)
      have h2 : ((d.learn r k v).facts.getD (d.at_ r k) []).length ≤ (d.facts.getD (d.at_ r k) []).length + 1 := by
        rw [this]
        split <;> simp
      rw [List.foldl_cons, List.length_cons]
      omega
theorem zkq {c : Cas} {kept lost r k : Nat} (l1 : c.lab.length = c.n * c.cols.length) (hr : r < c.n) (hk : k < c.cols.length) : (c.relab kept lost).at_ r k = if c.at_ r k = lost then kept else c.at_ r k := by
  have h := cell_lt hr hk
  unfold Cas.at_ Cas.relab
  simp only [List.getD_eq_getElem?_getD, List.getElem?_map, List.getElem?_eq_getElem (show r * c.cols.length + k < c.lab.length by omega), Option.map_some, Option.getD_some]
end
end DL
set_option maxHeartbeats 4000000
namespace DL
open PySem PySem.Spec PyProof.Rows L2
section
variable {X : Cx} {W : WX} {K : PySem.W.Frag} {F H : Hp}
/-! ## a new case -/
def Cas.new (cols : List (Option (List Int))) (n : Nat) : Cas := { cols := cols, n := n, lab := List.range (n * cols.length), facts := List.replicate (n * cols.length) [] }
structure Part (K : PySem.W.Frag) (H0 H : Hp) (x : Addr) (n m t : Nat) (dx ca la fa : Addr) (fs : Nat → Addr) : Prop where
  ins : H x = some (.ins (He.ga K "Case") dx [("columns", .ref ca), ("count", .int (n : Nat)), ("labels", .ref la), ("facts", .ref fa)])
  own : H dx = some (.own x)
  lb : H la = some (.dT (((zbp n m).take t).zip ((List.range t).map fun l => V.int (l : Nat))))
  ft : H fa = some (.dK ((List.range t).map fun i => (Sum.inl ((i : Nat) : Int), V.ref (fs i))))
  fl : ∀ i, i < t → H (fs i) = some (.lst [])
  inj : ∀ i j, i < t → j < t → fs i = fs j → i = j
  f1 : H0 la = none
  f2 : H0 fa = none
  f3 : ∀ i, i < t → H0 (fs i) = none
  keep : ∀ b o, H0 b = some o → b ≠ x → H b = some o
  dom : ∀ b, H b = none → H0 b = none
theorem Part.done {H0 : Hp} {x : Addr} {n : Nat} {cols : List (Option (List Int))} {dx ca la fa : Addr} {fs : Nat → Addr} (hz : n * cols.length < 1000) (P : Part K H0 H x n cols.length (n * cols.length) dx ca la fa fs) : CasL K H x (Cas.new cols n) dx ca la fa fs := by
  have e : (Cas.new cols n).facts.length = n * cols.length := by simp [Cas.new]
  refine ⟨P.ins, P.own, ?_, ?_, fun i hi => ?_, fun i j hi hj h => P.inj i j (by omega) (by omega) h, by simp [Cas.new], by simp [Cas.new], fun l hl => ?_, by simp [Cas.new]; exact hz⟩
  · have := P.lb
    rw [List.take_of_length_le (by rw [zej]; exact Nat.le_refl _)] at this
    exact this
  · show H fa = some (.dK ((List.range (Cas.new cols n).facts.length).map _))
    rw [e]
    exact P.ft
  · have := P.fl i (by omega)
    have g : (Cas.new cols n).facts.getD i [] = [] := by
      simp [Cas.new, List.getD_eq_getElem?_getD, List.getElem?_replicate]
      split <;> rfl
    rw [g]
    exact this
  · rw [e]
    simpa [Cas.new] using hl
theorem valV_none {κ : Type} [DecidableEq κ] {kvs : List (κ × V)} {k : κ} (h : ∀ p ∈ kvs, p.1 ≠ k) : valV kvs k = none := by
  induction kvs with
  | nil => rfl
  | cons p r ih => rw [valV_neg (h p (by simp)), ih fun q hq => h q (by simp [hq])]
theorem Part.cell {H0 : Hp} {x : Addr} {n m t r k : Nat} {dx ca la fa : Addr} {fs : Nat → Addr} (P : Part K H0 H x n m t dx ca la fa fs) (ht : t = r * m + k) (hr : r < n) (hk : k < m) {p q : Addr} (hp : H p = none)
    (hq : upd (upd H p (.tup [.int (r : Nat), .int (k : Nat)])) la (.dT (putK (((zbp n m).take t).zip ((List.range t).map fun l => V.int (l : Nat))) [Sum.inl ((r : Nat) : Int), Sum.inl ((k : Nat) : Int)] (.int (t : Nat)))) q = none) :
    Part K H0 (upd (upd (upd (upd H p (.tup [.int (r : Nat), .int (k : Nat)])) la (.dT (putK (((zbp n m).take t).zip ((List.range t).map fun l => V.int (l : Nat))) [Sum.inl ((r : Nat) : Int), Sum.inl ((k : Nat) : Int)] (.int (t : Nat))))) q (.lst [])) fa (.dK (putK ((List.range t).map fun i => (Sum.inl ((i : Nat) : Int), V.ref (fs i))) (Sum.inl ((t : Nat) : Int)) (.ref q)))) x n m (t + 1) dx ca la fa (fun i => if i = t then q else fs i) := by
  have hq1 : q ≠ la := fun e => by rw [e, upd_same] at hq; cases hq
  have hqH : H q = none := zbu (zbu hq)
  have hc : (zbp n m)[t]? = some [Sum.inl ((r : Nat) : Int), Sum.inl ((k : Nat) : Int)] := by rw [ht]; exact cellKeys_get hr hk
  have htl : t < (zbp n m).length := (List.getElem?_eq_some_iff.mp hc).1
  have ne : ∀ {b : Addr} {o : HO}, H b = some o → b ≠ la → b ≠ fa → (upd (upd (upd (upd H p (.tup [.int (r : Nat), .int (k : Nat)])) la (.dT (putK (((zbp n m).take t).zip ((List.range t).map fun l => V.int (l : Nat))) [Sum.inl ((r : Nat) : Int), Sum.inl ((k : Nat) : Int)] (.int (t : Nat))))) q (.lst [])) fa (.dK (putK ((List.range t).map fun i => (Sum.inl ((i : Nat) : Int), V.ref (fs i))) (Sum.inl ((t : Nat) : Int)) (.ref q)))) b = some o := fun {b o} e h1 h2 => by
    rw [upd_ne h2, upd_ne (fun z => by rw [z, hqH] at e; cases e), upd_ne h1, upd_ne (fun z => by rw [z, hp] at e; cases e)]
    exact e
  have lf : la ≠ fa := fun e => by have := P.lb; rw [e, P.ft] at this; cases this
  have xl : x ≠ la := fun e => by have := P.ins; rw [e, P.lb] at this; cases this
  have xf : x ≠ fa := fun e => by have := P.ins; rw [e, P.ft] at this; cases this
  refine ⟨ne P.ins xl xf, ne P.own (fun e => by have := P.own; rw [e, P.lb] at this; cases this) (fun e => by have := P.own; rw [e, P.ft] at this; cases this), ?_, ?_, fun i hi => ?_, fun i j hi hj h => ?_, P.f1, P.f2, fun i hi => ?_, fun b o e h => ?_, fun b h => P.dom b (zbu (zbu (zbu (zbu h))))⟩
  · rw [upd_ne lf, upd_ne (Ne.symm hq1), upd_same]
    congr 2
    rw [putK_new _ (valV_none fun pp hpp e => by
      have h1 := (List.of_mem_zip hpp).1
      rw [e] at h1
      obtain ⟨j, hj, hj2⟩ := List.mem_take_iff_getElem.mp h1
      have nd := zf4 n m
      have : j = t := (List.getElem_inj nd).mp (hj2.trans (by rw [List.getElem?_eq_getElem htl] at hc; exact (Option.some.inj hc).symm))
      omega)]
    have e1 : (zbp n m).take (t + 1) = (zbp n m).take t ++ [[Sum.inl ((r : Nat) : Int), Sum.inl ((k : Nat) : Int)]] := by rw [List.take_succ, hc]; rfl
    rw [e1, List.range_succ, List.map_append, List.zip_append (by simp; omega)]
    rfl
  · rw [upd_same]
    congr 2
    rw [putK_new _ (valV_none fun pp hpp e => by
      obtain ⟨j, hj, rfl⟩ := List.mem_map.mp hpp
      have := List.mem_range.mp hj
      simp at e
      omega)]
    rw [List.range_succ, List.map_append]
    congr 1
    · refine List.map_congr_left fun i hi => ?_
      have := List.mem_range.mp hi
      rw [if_neg (by omega)]
    · simp
  · by_cases e : i = t
    · subst e
      show upd _ fa _ (if i = i then q else fs i) = _
      rw [if_pos rfl, upd_ne (fun z => by rw [z, P.ft] at hqH; cases hqH), upd_same]
    · simp only [if_neg e]
      have := P.fl i (by omega)
      exact ne this (fun z => by rw [z, P.lb] at this; cases this) (fun z => by rw [z, P.ft] at this; cases this)
  · by_cases e1 : i = t
    · by_cases e2 : j = t
      · omega
      · simp only [if_pos e1, if_neg e2] at h
        have := P.fl j (by omega)
        rw [← h, hqH] at this
        cases this
    · by_cases e2 : j = t
      · simp only [if_neg e1, if_pos e2] at h
        have := P.fl i (by omega)
        rw [h, hqH] at this
        cases this
      · simp only [if_neg e1, if_neg e2] at h
        exact P.inj i j (by omega) (by omega) h
  · by_cases e : i = t
    · simp only [if_pos e]; exact P.dom q hqH
    · simp only [if_neg e]; exact P.f3 i (by omega)
  · exact ne (P.keep b o e h) (fun z => by rw [z, P.f1] at e; cases e) (fun z => by rw [z, P.f2] at e; cases e)
end
end DL
set_option maxHeartbeats 4000000
namespace DL
open PySem PySem.Spec PyProof.Rows L2
section
variable {X : Cx} {W : WX} {K : PySem.W.Frag} {F H : Hp}
/-! ## dict(d), d a dict whose keys are tuples -/
end
end DL
set_option maxHeartbeats 4000000
namespace DL
open PySem PySem.Spec PyProof.Rows L2
variable [Mode]
section
variable {X : Cx} {W : WX} {K : PySem.W.Frag} {F H : Hp} {e : Expr} {es : List Expr} {pos p : Pos}
/-! ## C(..), by a raw promise -/
structure KRaw (P : Program) (w : World) (K : PySem.W.Frag) (mg : Str → Option Value) (base : Heap) (k : Nat) (x : Str) (C : Addr) (sp : Sp) : Prop where
  ex : ∃ f fd ps, FnG P w K mg base k f fd ps sp ∧ Mk K C f ∧ Binds K fd ps [] ∧ mg x = some (.ref C)
/-! ## copied -/
structure CasZ (K : PySem.W.Frag) (H : Hp) (a : Addr) (c : Cas) (dx ca la fa : Addr) (fs : Nat → Addr) : Prop where
  ins : H a = some (.ins (He.ga K "Case") dx (casFs c ca la fa))
  lb : ∃ lo, H la = some (.frz lo (labO c))
  ft : ∃ fo, H fa = some (.frz fo (facO c fs))
  fl : ∀ i, i < c.facts.length → H (fs i) = some (.lst ((c.facts.getD i []).map V.int))
  l1 : c.lab.length = c.n * c.cols.length
  l2 : c.facts.length = c.n * c.cols.length
  l3 : ∀ l ∈ c.lab, l < c.facts.length
structure Fts (H1 H : Hp) (D : Addr) (c : Cas) (t : Nat) (fs : Nat → Addr) : Prop where
  d : H D = some (.dK ((List.range t).map fun i => (Sum.inl ((i : Nat) : Int), V.ref (fs i))))
  fl : ∀ i, i < t → H (fs i) = some (.lst ((c.facts.getD i []).map V.int))
  inj : ∀ i j, i < t → j < t → fs i = fs j → i = j
  fr : ∀ i, i < t → H1 (fs i) = none
  keep : ∀ b o, H1 b = some o → H b = some o
  dom : ∀ b, H b = none → H1 b = none
end
end DL
set_option maxHeartbeats 4000000
namespace DL
open PySem PySem.Spec PyProof.Rows L2
variable [Mode]
section
variable {X : Cx} {W : WX} {K : PySem.W.Frag} {mg : Str → Option Value} {ι : List Addr} {F H : Hp} {S : zae} {e a b c : Expr} {es : List Expr} {pos p : Pos}
/-! ## a live case in a slot -/
def Own (a dx la fa : Addr) (fs : Nat → Addr) (n : Nat) (b : Addr) : Prop := b = a ∨ b = dx ∨ b = la ∨ b = fa ∨ ∃ i, i < n ∧ b = fs i
structure LiveC (K : PySem.W.Frag) (ι : List Addr) (F H : Hp) (a : Addr) (c : Cas) (O : Addr → Prop) : Prop where
  kit : CasK K
  of : ∃ dx ca la fa fs cv, CasL K H a c dx ca la fa fs ∧ SqT K F ca cv ∧ ColVs K F cv c.cols ∧ ∀ b, O b ↔ Own a dx la fa fs c.facts.length b
  out : ∀ b, O b → b ∉ ι
  free : ∀ b, O b → F b = none
theorem CasL.own_some {H : Hp} {a : Addr} {c : Cas} {dx ca la fa : Addr} {fs : Nat → Addr} (L : CasL K H a c dx ca la fa fs) {b : Addr} (h : Own a dx la fa fs c.facts.length b) : ∃ o, H b = some o ∧ NoT o ∧ NoTb o ∧ ∀ φ, o ≠ .ext φ := by
  rcases h with rfl | rfl | rfl | rfl | ⟨i, hi, rfl⟩
  · exact ⟨_, L.ins, fun _ z => (nomatch z), fun _ z => (nomatch z), fun _ z => nomatch z⟩
  · exact ⟨_, L.own, fun _ z => (nomatch z), fun _ z => (nomatch z), fun _ z => nomatch z⟩
  · exact ⟨_, L.lb, fun _ z => (nomatch z), fun _ z => (nomatch z), fun _ z => nomatch z⟩
  · exact ⟨_, L.ft, fun _ z => (nomatch z), fun _ z => (nomatch z), fun _ z => nomatch z⟩
  · exact ⟨_, L.fl i hi, fun _ z => (nomatch z), fun _ z => (nomatch z), fun _ z => nomatch z⟩
theorem CasL.keep {H H' : Hp} {a : Addr} {c : Cas} {dx ca la fa : Addr} {fs : Nat → Addr} (L : CasL K H a c dx ca la fa fs) (k : ∀ b o, Own a dx la fa fs c.facts.length b → H b = some o → H' b = some o) : CasL K H' a c dx ca la fa fs :=
  ⟨k _ _ (.inl rfl) L.ins, k _ _ (.inr (.inl rfl)) L.own, k _ _ (.inr (.inr (.inl rfl))) L.lb, k _ _ (.inr (.inr (.inr (.inl rfl)))) L.ft, fun i hi => k _ _ (.inr (.inr (.inr (.inr ⟨i, hi, rfl⟩)))) (L.fl i hi), L.inj, L.l1, L.l2, L.l3, L.l4⟩
structure GrowL (O : Addr → Prop) (ι : List Addr) (F H : Hp) (ι' : List Addr) (F' H' : Hp) : Prop where
  pre : ι <+: ι'
  sf : Same F F'
  keep : ∀ b o, H b = some o → NoTb o → b ∉ ι → ¬ O b → H' b = some o
  new : ∀ b o, H b = some o → NoT o → NoTb o → F b = none → b ∉ ι → ¬ O b → F' b = none
  nio : ∀ b ∈ ι', b ∈ ι ∨ H b = none
  dom : ∀ b, H' b = none → H b = none
theorem GrowL.of {O : Addr → Prop} {ι' : List Addr} {F' H' : Hp} (g : Grow ι F H ι' F' H') : GrowL O ι F H ι' F' H' := ⟨g.pre, g.sf, fun b o h t n _ => g.keep b o h t n, fun b o h t t2 f n _ => g.new b o h t t2 f n, g.nio, g.dom⟩
theorem GrowL.refl {O : Addr → Prop} : GrowL O ι F H ι F H := .of .refl
theorem GrowL.trans {O : Addr → Prop} {ι1 ι2 : List Addr} {F1 F2 H1 H2 : Hp} (a : GrowL O ι F H ι1 F1 H1) (b : GrowL O ι1 F1 H1 ι2 F2 H2) : GrowL O ι F H ι2 F2 H2 := by
  have full : ∀ c o, H c = some o → H1 c ≠ none := fun c o h z => by rw [a.dom c z] at h; cases h
  have out : ∀ c o, H c = some o → c ∉ ι → c ∉ ι1 := fun c o h n m => by
    rcases a.nio c m with q | q
    · exact n q
    · rw [h] at q; cases q
  refine ⟨a.pre.trans b.pre, a.sf.trans b.sf, fun c o h t n no => b.keep c o (a.keep c o h t n no) t (out c o h n) no, fun c o h t t2 f n no => b.new c o (a.keep c o h t2 n no) t t2 (a.new c o h t t2 f n no) (out c o h n) no, fun c m => ?_, fun c h => a.dom c (b.dom c h)⟩
  rcases b.nio c m with q | q
  · exact a.nio c q
  · exact .inr (a.dom c q)
theorem Grow.live {O : Addr → Prop} {ι1 ι2 : List Addr} {F1 F2 H1 H2 : Hp} (a : Grow ι F H ι1 F1 H1) (fr : ∀ b, O b → H b = none) (b : GrowL O ι1 F1 H1 ι2 F2 H2) : Grow ι F H ι2 F2 H2 := by
  have out : ∀ c o, H c = some o → c ∉ ι → c ∉ ι1 := fun c o h n m => by
    rcases a.nio c m with q | q
    · exact n q
    · rw [h] at q; cases q
  have no : ∀ c o, H c = some o → ¬ O c := fun c o h z => by rw [fr c z] at h; cases h
  refine ⟨a.pre.trans b.pre, a.sf.trans b.sf, fun c o h t n => b.keep c o (a.keep c o h t n) t (out c o h n) (no c o h), fun c o h t t2 f n => b.new c o (a.keep c o h t2 n) t t2 (a.new c o h t t2 f n) (out c o h n) (no c o h), fun c m => ?_, fun c h => a.dom c (b.dom c h)⟩
  rcases b.nio c m with q | q
  · exact a.nio c q
  · exact .inr (a.dom c q)
theorem LiveC.grow {a : Addr} {c : Cas} {O : Addr → Prop} {ι' : List Addr} {F' H' : Hp} (L : LiveC K ι F H a c O) (g : Grow ι F H ι' F' H') : LiveC K ι' F' H' a c O := by
  obtain ⟨dx, ca, la, fa, fs, cv, L1, sq, cw, ho⟩ := L.of
  have sm : ∀ b, O b → ∃ o, H b = some o ∧ NoT o ∧ NoTb o ∧ ∀ φ, o ≠ .ext φ := fun b h => L1.own_some ((ho b).mp h)
  refine ⟨L.kit, ⟨dx, ca, la, fa, fs, cv, L1.keep fun b o h e => g.keep b o e (by
    obtain ⟨o2, e2, _, t2, _⟩ := L1.own_some h
    rw [e] at e2; cases e2; exact t2) (L.out b ((ho b).mpr h)), zcj g.sf sq, cw.mono g.sf, ho⟩, fun b h hm => ?_, fun b h => ?_⟩
  · obtain ⟨o, e, _⟩ := sm b h
    rcases g.nio b hm with q | q
    · exact L.out b h q
    · rw [e] at q; cases q
  · obtain ⟨o, e, t, t2, _⟩ := sm b h
    exact g.new b o e t t2 (L.free b h) (L.out b h)
inductive RL where
  | nx (ρ : zar) (S : zae) (c : Cas) | fin (r : RS)
abbrev CFn := zar → zae → Cas → RL
def PostF (K : PySem.W.Frag) (mg : Str → Option Value) (W : WX) (O : Addr → Prop) (ι : List Addr) (F H : Hp) (r : RS) (D : Ends) : Prop := match r with
  | .rt dv S' => ∀ v ι' F' H', GrowL O ι F H ι' F' H' → StR K ι' F' S' H' → WV K ι' F' v dv → D.rt v H'
  | .ex c ρ' S' => ∀ (C : Addr × Option Addr) σ' ι' F' H', GrowL O ι F H ι' F' H' → RR K ι' F' ρ' S' σ' H' → XIs K mg F' c C → W (.ref C.1) C.2 σ' H'
  | _ => False
def PostL (K : PySem.W.Frag) (mg : Str → Option Value) (W : WX) (k : Nat) (a : Addr) (O : Addr → Prop) (ι : List Addr) (F H : Hp) (r : RL) (D : Ends) : Prop := match r with
  | .nx ρ' S' c' => ∀ σ' ι' F' H', GrowL O ι F H ι' F' H' → RR K ι' F' ρ' S' σ' H' → σ'[k]? = some (some (.ref a)) → LiveC K ι' F' H' a c' O → D.nx σ' H'
  | .fin r => PostF K mg W O ι F H r D
theorem PostF.grow {O : Addr → Prop} {r : RS} {D : Ends} {ι1 : List Addr} {F1 H1 : Hp} (h : PostF K mg W O ι F H r D) (g : GrowL O ι F H ι1 F1 H1) : PostF K mg W O ι1 F1 H1 r D := by
  cases r with
  | rt dv S' => exact fun v ι' F' H' g' st w => h v ι' F' H' (g.trans g') st w
  | ex c ρ' S' => exact fun C σ' ι' F' H' g' r m => h C σ' ι' F' H' (g.trans g') r m
  | _ => exact h
theorem PostL.grow {k : Nat} {a : Addr} {O : Addr → Prop} {r : RL} {D : Ends} {ι1 : List Addr} {F1 H1 : Hp} (h : PostL K mg W k a O ι F H r D) (g : GrowL O ι F H ι1 F1 H1) : PostL K mg W k a O ι1 F1 H1 r D := by
  cases r with
  | nx ρ' S' c' => exact fun σ' ι' F' H' g' r s l => h σ' ι' F' H' (g.trans g') r s l
  | fin r => exact PostF.grow (r := r) h g
def tL (X : Cx) (W : WX) (k : Nat) (f : CFn) : TS := fun D σ H => ∃ ι F ρ S a c O, RR X.K ι F ρ S σ H ∧ σ[k]? = some (some (.ref a)) ∧ LiveC X.K ι F H a c O ∧ PostL X.K X.mg W k a O ι F H (f ρ S c) D
structure DC (X : Cx) (W : WX) (k : Nat) (st : Stmt) (f : CFn) : Prop where
  ps : ∃ t, PS X st t ∧ ∀ D σ H, tL X W k f D σ H → t D σ H
structure DCs (X : Cx) (W : WX) (k : Nat) (st : List Stmt) (f : CFn) : Prop where
  ps : ∃ t, PSs X st t ∧ ∀ D σ H, tL X W k f D σ H → t D σ H
def lSeq (f g : CFn) : CFn := fun ρ S c => match f ρ S c with
  | .nx ρ' S' c' => g ρ' S' c'
  | r => r
variable {k : Nat}
theorem tL.seq {f g : CFn} {D : Ends} {σ : L2.St} {H : Hp} (h : tL X W k (lSeq f g) D σ H) : tL X W k f { D with nx := tL X W k g D } σ H := by
  obtain ⟨ι, F, ρ, S, a, c, O, r, s, l, h⟩ := h
  refine ⟨ι, F, ρ, S, a, c, O, r, s, l, ?_⟩
  unfold lSeq at h
  cases q : f ρ S c with
  | nx ρ' S' c' => rw [q] at h; exact fun σ' ι' F' H' g' r' s' l' => ⟨ι', F', ρ', S', a, c', O, r', s', l', PostL.grow (r := g ρ' S' c') h g'⟩
  | fin rr =>
    rw [q] at h
    have h : PostF X.K X.mg W O ι F H rr D := h
    show PostF X.K X.mg W O ι F H rr _
    cases rr with
    | rt dv S' => exact h
    | ex c ρ' S' => exact h
    | _ => exact h
/-! ## an expression, then more -/
theorem tD.bindL {f : XFn} {g : zar → DV → zae → Cas → RL} {σ : L2.St} {H : Hp} {R : VK} {D : Ends} {ι : List Addr} {F : Hp} {ρ : zar} {S : zae} {a : Addr} {c : Cas} {O : Addr → Prop} (r : RR X.K ι F ρ S σ H) (s : σ[k]? = some (some (.ref a))) (l : LiveC X.K ι F H a c O)
    (h : PostL X.K X.mg W k a O ι F H (match f ρ S with | .ok v S1 => g ρ v S1 c | .ex x S1 => .fin (.ex x ρ S1) | .bad => .fin .bad) D)
    (kk : ∀ v dv ι1 F1 S1 H1, RR X.K ι1 F1 ρ S1 σ H1 → WV X.K ι1 F1 v dv → Grow ι F H ι1 F1 H1 → LiveC X.K ι1 F1 H1 a c O → PostL X.K X.mg W k a O ι1 F1 H1 (g ρ dv S1 c) D → R v H1) : tD X W f σ H R := by
  refine ⟨ι, F, ρ, S, r, ?_⟩
  cases q : f ρ S with
  | ok dv S1 =>
    rw [q] at h
    exact fun ι1 F1 H1 g1 st v wv => kk v dv ι1 F1 S1 H1 (r.slots g1 st) wv g1 (l.grow g1) (PostL.grow (r := g ρ dv S1 c) h (.of g1))
  | ex x S1 => rw [q] at h; exact fun C ι' F' H' g' st m => h C σ ι' F' H' (.of g') (r.slots g' st) m
  | bad => rw [q] at h; exact h
/-! ## for -/
theorem zk4 {σ : L2.St} {k : Nat} : ∀ {vs : List Nat}, k ∉ vs → (wipe σ vs)[k]? = σ[k]?
  | [], _ => rfl
  | v :: vs, h => by
    show ((wipe σ vs).set v none)[k]? = _
    rw [List.getElem?_set_ne (fun e => h (by simp [e])), zk4 fun m => h (by simp [m])]
theorem Only.get {sl : List Nat} {σ σ' : L2.St} (o : Only sl σ σ') {k : Nat} (h : k ∉ sl) : σ'[k]? = σ[k]? := by
  have := o sl fun i hi => hi
  rw [← zk4 (σ := σ') h, ← zk4 (σ := σ) h, this]
abbrev ICn := zar → zae → Cas → Res (List D)
def tIL (X : Cx) (W : WX) (k : Nat) (f : ICn) : TI := fun σ H R => ∃ ι F ρ S a c O, RR X.K ι F ρ S σ H ∧ σ[k]? = some (some (.ref a)) ∧ LiveC X.K ι F H a c O ∧ Post X.K X.mg (fun c d H' => W c d σ H') ι F H (f ρ S c) fun ds ι' F' H' => ∀ J, ItOk X.K F' ds J → R J H'
structure DIL (X : Cx) (W : WX) (k : Nat) (tg e : Expr) (f : ICn) : Prop where
  pi : ∃ t, PI X tg e t ∧ ∀ σ H R, tIL X W k f σ H R → t σ H R
end
end DL
set_option maxHeartbeats 4000000
namespace DL
open PySem PySem.Spec PyProof.Rows L2
variable [Mode]
section
variable {X : Cx} {W : WX} {K : PySem.W.Frag} {mg : Str → Option Value} {ι : List Addr} {F H : Hp} {S : zae} {e a b c : Expr} {es : List Expr} {pos p apos : Pos} {k : Nat}
/-! ## learn and join of the live case -/
/-! ## the live case frozen -/
theorem WV.same {F F' : Hp} (sm : Same F F') {v : V} {dv : DV} (h : WV K ι F v dv) : WV K ι F' v dv := by
  cases dv with
  | dat d => exact Wd.mono sm h
  | obj k => exact h
  | scr ns =>
    obtain ⟨a, h1, h2⟩ := h
    exact ⟨a, h1, sm.seq h2⟩
  | exn c p =>
    obtain ⟨a, h1, h2⟩ := h
    exact ⟨a, h1, h2.mono sm⟩
  | fn x => exact h
  | spc k => exact h
end
end DL
set_option maxHeartbeats 4000000
namespace DL
open PySem PySem.Spec PyProof.Rows L2
variable [Mode]
section
variable {X : Cx} {W : WX} {K : PySem.W.Frag} {mg : Str → Option Value} {ι : List Addr} {F H : Hp} {S : zae} {e a b c : Expr} {es : List Expr} {pos p apos : Pos} {k : Nat}
/-! ## a new live case -/
abbrev NFn := zar → zae → Res Cas
structure Ext (H H' : Hp) : Prop where
  same : Same H H'
  dom : ∀ b, H' b = none → H b = none
def tNewC (X : Cx) (W : WX) (f : NFn) : TE := fun σ H Q => ∃ ι F ρ S, RR X.K ι F ρ S σ H ∧ Post X.K X.mg (fun c d H' => W c d σ H') ι F H (f ρ S) fun c ι' F' H1 => ∀ a O H2, Ext H1 H2 → (∀ b, O b → H1 b = none) → LiveC X.K ι' F' H2 a c O → Q (.ref a) H2
structure DNew (X : Cx) (W : WX) (e : Expr) (f : NFn) : Prop where
  pe : PE X e (tNewC X W f)
theorem StR.ext {H' : Hp} (st : StR K ι F S H) (x : Ext H H') : StR K ι F S H' := st.re (fun b o e => x.same b o (st.sub b o e)) (Same.refl _) (fun b hb z => st.full b hb (x.dom b z)) (fun b o _ e _ _ f => ⟨x.same _ _ e, f⟩) (st.tb.ext (fun b o e _ => x.same b o e)) st.tf
theorem Ext.grow {H' : Hp} (x : Ext H H') : Grow ι F H ι F H' := ⟨List.prefix_rfl, Same.refl _, fun b o e _ _ => x.same b o e, fun _ _ _ _ _ f _ => f, fun _ h => .inl h, x.dom⟩
/-! ## Case(columns, n) -/
/-! ## x.copied() -/
theorem ColVs.length : ∀ {vs : List V} {cs : List (Option (List Int))}, ColVs K F vs cs → vs.length = cs.length
  | [], [], _ => rfl
  | _ :: _, _ :: _, ⟨_, h⟩ => by simp [ColVs.length h]
  | [], _ :: _, h => h.elim
  | _ :: _, [], h => h.elim
end
end DL
set_option maxHeartbeats 4000000
namespace DL
open PySem PySem.Spec PyProof.Rows L2
variable [Mode]
section
variable {X : Cx} {W : WX} {K : PySem.W.Frag} {mg : Str → Option Value} {ι : List Addr} {F H : Hp} {S : zae} {e a b c : Expr} {es : List Expr} {pos p apos : Pos} {k : Nat}
/-! ## the cells of a frozen case, walked -/
/-! ## the class statement, what the head must show of it -/
def clsB : Stmt → List Stmt
  | .ClassDef _ _ _ b .. => b
  | _ => []
def mth (s : Stmt) (j : Nat) : Stmt := (clsB s).getD j (.Pass ⟨0, 0, 0, 0⟩)
def casB (K : PySem.W.Frag) : Bool := He.eqO (PySem.W.findIn K (.ref (He.ga K "Case")) "__class__") (some (some (.builtin "object.__class__"))) &&
  (He.eqO (PySem.W.specialIn K (.builtin "object.__class__") "__get__") (some (some (.builtin "getset_descriptor.__get__"))) && (decide (PySem.W.takesIn K (.builtin "object.__class__") = some true) && (decide (PySem.W.mroIn K (He.ga K "Case") (.type "object") = some true) &&
  (["int", "bool", "tuple", "list", "str"] : List String).all fun T => decide (PySem.W.kitOne K (.ref (He.ga K "Case")) (.type T) = some false))))
theorem casK_of {K : PySem.W.Frag} (h : casB K = true) (cl : Cls K (He.ga K "Case")) (na : ∀ f : Str, f ∈ (["columns", "count", "labels", "facts"] : List Str) → NoAttr K (He.ga K "Case") f) : CasK K := by
  unfold casB at h
  simp only [Bool.and_eq_true, decide_eq_true_eq, List.all_eq_true] at h
  obtain ⟨h1, h2, h3, h4, h5⟩ := h
  exact ⟨cl, na, He.eqO_ok h1, He.eqO_ok h2, h3, h4, h5⟩
theorem ru1 {k : Nat} {A : Around} (r : RoomH k A) : A.units + 1 < cLine := by have := r.un; omega
end
end DL
set_option maxHeartbeats 4000000
namespace DL
open PySem PySem.Spec PyProof.Rows L2
variable [Mode]
section
variable {X : Cx} {W : WX} {e a b c : Expr} {es : List Expr} {pos p apos : Pos} {K : PySem.W.Frag} {ι : List Addr} {F H : Hp} {S : zae} {mg : Str → Option Value} {k : Nat}
/-! ## x.m() on a frozen case -/
/-! ## two slots at once, beside the live case -/
end
end DL
set_option maxHeartbeats 4000000
namespace PySem
namespace DLSort
open L2 PyProof.Rows PySem.W
section
variable {prog : Program} {w : World} {A : Around} {E : Value → Shared → Prop} {s : Shared}
end
end DLSort
end PySem
namespace DL
open PySem PySem.Spec PyProof.Rows L2
variable [Mode]
section
variable {X : Cx} {W : WX} {K : PySem.W.Frag} {mg : Str → Option Value} {ι : List Addr} {F H : Hp} {S : zae} {e a b c : Expr} {es : List Expr} {pos p apos : Pos} {k : Nat}
/-! ## sorted(x.labels) -/
end
end DL
set_option maxHeartbeats 4000000
namespace DL
open PySem PySem.Spec PyProof.Rows L2
variable [Mode]
section
variable {X : Cx} {W : WX} {K : PySem.W.Frag} {mg : Str → Option Value} {ι : List Addr} {F H : Hp} {S : zae} {e a b c : Expr} {es : List Expr} {pos p : Pos}
/-! ## a dict that is made and filled in place, in a slot -/
abbrev Map := List (Key × Int)
abbrev mapO (m : Map) : HO := .dK (m.map fun p => (p.1, V.int p.2))
structure LiveM (K : PySem.W.Frag) (ι : List Addr) (F H : Hp) (a : Addr) (m : Map) (O : Addr → Prop) : Prop where
  of : H a = some (mapO m)
  own : ∀ b, O b ↔ b = a
  out : a ∉ ι
  free : F a = none
theorem LiveM.grow {a : Addr} {m : Map} {O : Addr → Prop} {ι' : List Addr} {F' H' : Hp} (L : LiveM K ι F H a m O) (g : Grow ι F H ι' F' H') : LiveM K ι' F' H' a m O := by
  refine ⟨g.keep a _ L.of (fun _ z => nomatch z) L.out, L.own, fun hm => ?_, g.new a _ L.of (fun _ z => nomatch z) (fun _ z => nomatch z) L.free L.out⟩
  rcases g.nio a hm with q | q
  · exact L.out q
  · rw [L.of] at q; cases q
inductive RM where
  | nx (ρ : zar) (S : zae) (c : Map) | fin (r : RS)
abbrev MFn := zar → zae → Map → RM
def PostM (K : PySem.W.Frag) (mg : Str → Option Value) (W : WX) (k : Nat) (a : Addr) (O : Addr → Prop) (ι : List Addr) (F H : Hp) (r : RM) (D : Ends) : Prop := match r with
  | .nx ρ' S' c' => ∀ σ' ι' F' H', GrowL O ι F H ι' F' H' → RR K ι' F' ρ' S' σ' H' → σ'[k]? = some (some (.ref a)) → LiveM K ι' F' H' a c' O → D.nx σ' H'
  | .fin r => PostF K mg W O ι F H r D
theorem PostM.grow {k : Nat} {a : Addr} {O : Addr → Prop} {r : RM} {D : Ends} {ι1 : List Addr} {F1 H1 : Hp} (h : PostM K mg W k a O ι F H r D) (g : GrowL O ι F H ι1 F1 H1) : PostM K mg W k a O ι1 F1 H1 r D := by
  cases r with
  | nx ρ' S' c' => exact fun σ' ι' F' H' g' r s l => h σ' ι' F' H' (g.trans g') r s l
  | fin r => exact PostF.grow (r := r) h g
def tLM (X : Cx) (W : WX) (k : Nat) (f : MFn) : TS := fun D σ H => ∃ ι F ρ S a c O, RR X.K ι F ρ S σ H ∧ σ[k]? = some (some (.ref a)) ∧ LiveM X.K ι F H a c O ∧ PostM X.K X.mg W k a O ι F H (f ρ S c) D
structure DM (X : Cx) (W : WX) (k : Nat) (st : Stmt) (f : MFn) : Prop where
  ps : ∃ t, PS X st t ∧ ∀ D σ H, tLM X W k f D σ H → t D σ H
structure DMs (X : Cx) (W : WX) (k : Nat) (st : List Stmt) (f : MFn) : Prop where
  ps : ∃ t, PSs X st t ∧ ∀ D σ H, tLM X W k f D σ H → t D σ H
def mSeq (f g : MFn) : MFn := fun ρ S c => match f ρ S c with
  | .nx ρ' S' c' => g ρ' S' c'
  | r => r
variable {k : Nat}
theorem tLM.seq {f g : MFn} {D : Ends} {σ : L2.St} {H : Hp} (h : tLM X W k (mSeq f g) D σ H) : tLM X W k f { D with nx := tLM X W k g D } σ H := by
  obtain ⟨ι, F, ρ, S, a, c, O, r, s, l, h⟩ := h
  refine ⟨ι, F, ρ, S, a, c, O, r, s, l, ?_⟩
  unfold mSeq at h
  cases q : f ρ S c with
  | nx ρ' S' c' => rw [q] at h; exact fun σ' ι' F' H' g' r' s' l' => ⟨ι', F', ρ', S', a, c', O, r', s', l', PostM.grow (r := g ρ' S' c') h g'⟩
  | fin rr =>
    rw [q] at h
    have h : PostF X.K X.mg W O ι F H rr D := h
    show PostF X.K X.mg W O ι F H rr _
    cases rr with
    | rt dv S' => exact h
    | ex c ρ' S' => exact h
    | _ => exact h
/-! ## an expression, then more -/
/-! ## for -/
abbrev IMn := zar → zae → Map → Res (List D)
def tIM (X : Cx) (W : WX) (k : Nat) (f : IMn) : TI := fun σ H R => ∃ ι F ρ S a c O, RR X.K ι F ρ S σ H ∧ σ[k]? = some (some (.ref a)) ∧ LiveM X.K ι F H a c O ∧ Post X.K X.mg (fun c d H' => W c d σ H') ι F H (f ρ S c) fun ds ι' F' H' => ∀ J, ItOk X.K F' ds J → R J H'
structure DIM (X : Cx) (W : WX) (k : Nat) (tg e : Expr) (f : IMn) : Prop where
  pi : ∃ t, PI X tg e t ∧ ∀ σ H R, tIM X W k f σ H R → t σ H R
end
end DL
set_option maxHeartbeats 4000000
namespace DL
open PySem PySem.Spec PyProof.Rows L2
variable [Mode]
section
variable {X : Cx} {W : WX} {K : PySem.W.Frag} {mg : Str → Option Value} {ι : List Addr} {F H : Hp} {S : zae} {e a b c : Expr} {es : List Expr} {pos p apos : Pos} {k : Nat}
/-! ## reading and filling a dict in place -/
def mGet (m : Map) (k : Key) : Option Int := (m.find? fun p => decide (p.1 = k)).map (·.2)
theorem RR.put {ρ : zar} {σ : L2.St} {a : Addr} {m : Map} {O : Addr → Prop} {m' : Map} (r : RR K ι F ρ S σ H) (l : LiveM K ι F H a m O) : RR K ι F ρ S σ (upd H a (mapO m')) ∧ GrowL O ι F H ι F (upd H a (mapO m')) ∧ LiveM K ι F (upd H a (mapO m')) a m' O := by
  have nF : ∀ b o, F b = some o → b ≠ a := fun b o e h => by rw [h, l.free] at e; cases e
  refine ⟨⟨r.st.re (fun b o e => by rw [upd_ne (nF b o e)]; exact r.st.sub b o e) (Same.refl _) (fun b hb z => r.st.full b hb (zbu z)) (fun b o hb e _ _ f => ⟨by rw [upd_ne (by rintro rfl; exact l.out hb)]; exact e, f⟩) (r.st.tb.upd (fun o e => by rw [l.of] at e; cases e; exact ⟨fun _ z => (nomatch z), fun _ z => nomatch z⟩) _) r.st.tf, r.len, r.slot⟩, ⟨List.prefix_rfl, Same.refl _, fun b o e _ _ h => by rw [upd_ne (fun z => h ((l.own b).mpr z))]; exact e, fun b o _ _ _ f _ _ => f, fun b h => .inl h, fun b h => zbu h⟩, ⟨upd_same, l.own, l.out, l.free⟩⟩
/-! ### an expression that reads it -/
abbrev XMn := zar → zae → Map → Res DV
def tDM (X : Cx) (W : WX) (k : Nat) (f : XMn) : TE := fun σ H Q => ∃ ι F ρ S a m O, RR X.K ι F ρ S σ H ∧ σ[k]? = some (some (.ref a)) ∧ LiveM X.K ι F H a m O ∧ Post X.K X.mg (fun c d H' => W c d σ H') ι F H (f ρ S m) fun dv ι' F' H' => ∀ v, WV X.K ι' F' v dv → Q v H'
structure DEM (X : Cx) (W : WX) (k : Nat) (e : Expr) (f : XMn) : Prop where
  pe : PE X e (tDM X W k f)
/-! ### statements -/
/-! ### it is made, and it is left as it is -/
/-! ### reading it when it is left as it is -/
end
end DL
set_option maxHeartbeats 4000000
namespace DL
open PySem PySem.Spec PyProof.Rows L2
variable [Mode]
section
variable {X : Cx} {W : WX} {K : PySem.W.Frag} {mg : Str → Option Value} {ι : List Addr} {F H : Hp} {S : zae} {e a b c : Expr} {es : List Expr} {pos p apos : Pos} {k : Nat}
/-! ## x == [], of a list of anything -/
/-! ## a, b, c = x, y, z -/
end
end DL
set_option maxHeartbeats 4000000
namespace PySem.AutoSeq1
open PySem PyProof
end PySem.AutoSeq1
namespace DL
open PySem PySem.Spec PyProof.Rows L2
variable [Mode]
section
variable {X : Cx} {W : WX} {K : PySem.W.Frag} {mg : Str → Option Value} {ι : List Addr} {F H : Hp} {S : zae} {e a b c : Expr} {es : List Expr} {pos p apos : Pos} {k : Nat}
/-! ## x.extend(a tuple) -/
/-! ## x or y, as values -/
end
end DL
set_option maxHeartbeats 400000
namespace DL
open PySem PySem.Spec PyProof.Rows L2
/-! ## cases, by what they say -/
abbrev Gv := List (Nat × Option Int)
abbrev Ru := Gv × Nat × Option Int
def Cas.fact (c : Cas) (r k : Nat) : List Int := c.facts.getD (c.at_ r k) []
structure Cas.Ok (c : Cas) : Prop where
  n9 : c.n ≤ 9
  m5 : c.cols.length ≤ 5
  l1 : c.lab.length = c.n * c.cols.length
  l2 : c.facts.length = c.n * c.cols.length
  l3 : ∀ l ∈ c.lab, l < c.facts.length
  sm : ∀ l, (c.facts.getD l []).length ≤ 64
theorem Cas.Ok.lt {c : Cas} (h : c.Ok) {r k : Nat} (hr : r < c.n) (hk : k < c.cols.length) : c.at_ r k < c.facts.length := at_lt h.l1 h.l3 hr hk
theorem Cas.Ok.mem {c : Cas} (h : c.Ok) {r k : Nat} (hr : r < c.n) (hk : k < c.cols.length) : c.at_ r k ∈ c.lab := by
  have hh := cell_lt hr hk
  have h1 := h.l1
  unfold Cas.at_
  rw [List.getD_eq_getElem?_getD, List.getElem?_eq_getElem (by omega)]
  exact List.getElem_mem _
theorem Cas.Ok.cell {c : Cas} (h : c.Ok) {l : Nat} (hl : l ∈ c.lab) : ∃ r k, r < c.n ∧ k < c.cols.length ∧ c.at_ r k = l := by
  obtain ⟨i, hi, e⟩ := List.getElem_of_mem hl
  have h1 := h.l1
  have hm : 0 < c.cols.length := by
    rcases Nat.eq_zero_or_pos c.cols.length with z | z
    · rw [z, Nat.mul_zero] at h1; omega
    · exact z
  refine ⟨i / c.cols.length, i % c.cols.length, (Nat.div_lt_iff_lt_mul hm).mpr (by omega), Nat.mod_lt _ hm, ?_⟩
  unfold Cas.at_
  have : i / c.cols.length * c.cols.length + i % c.cols.length = i := by rw [Nat.mul_comm]; exact Nat.div_add_mod _ _
  rw [this, List.getD_eq_getElem?_getD, List.getElem?_eq_getElem hi]
  exact e
structure Cas.Sat (c : Cas) (M : Nat → Nat → Int) : Prop where
  kn : ∀ r k, r < c.n → k < c.cols.length → ∀ v ∈ c.fact r k, M r k = v
  eq : ∀ r k r' k', r < c.n → k < c.cols.length → r' < c.n → k' < c.cols.length → c.at_ r k = c.at_ r' k' → M r k = M r' k'
/-! ### learn -/
theorem zhc (c : Cas) (r k : Nat) (v : Int) : (c.learn r k v).cols = c.cols := (zdh c r k v).2.1
theorem learn_n (c : Cas) (r k : Nat) (v : Int) : (c.learn r k v).n = c.n := (zdh c r k v).2.2.1
theorem Cas.Ok.learn {c : Cas} (h : c.Ok) {r k : Nat} {v : Int} (hr : r < c.n) (hk : k < c.cols.length) (hs : (c.fact r k).length < 64) : (c.learn r k v).Ok := by
  obtain ⟨a1, a2, a3, a4⟩ := zdh c r k v
  refine ⟨by rw [a3]; exact h.n9, by rw [a2]; exact h.m5, by rw [a1, a2, a3]; exact h.l1, by rw [a4, a2, a3]; exact h.l2, by rw [a1, a4]; exact h.l3, fun l => ?_⟩
  rw [zb9 c r k v (h.lt hr hk)]
  split
  · rename_i hh
    obtain ⟨rfl, _⟩ := hh
    have : (c.facts.getD (c.at_ r k) []).length < 64 := hs
    simp
    simp at this
    omega
  · exact h.sm l
theorem fact_learn {c : Cas} (h : c.Ok) {r k : Nat} (v : Int) (hr : r < c.n) (hk : k < c.cols.length) (r' k' : Nat) : (c.learn r k v).fact r' k' = if c.at_ r' k' = c.at_ r k ∧ v ∉ c.fact r' k' then c.fact r' k' ++ [v] else c.fact r' k' := by
  unfold Cas.fact
  rw [ze6, zb9 c r k v (h.lt hr hk)]
theorem zjp {c : Cas} (h : c.Ok) {r k : Nat} {v u : Int} (hr : r < c.n) (hk : k < c.cols.length) {r' k' : Nat} : u ∈ (c.learn r k v).fact r' k' ↔ u ∈ c.fact r' k' ∨ (c.at_ r' k' = c.at_ r k ∧ u = v) := by
  rw [fact_learn h v hr hk]
  split
  · rename_i hh
    simp [hh.1]
  · rename_i hh
    constructor
    · exact .inl
    · rintro (h1 | ⟨h1, rfl⟩)
      · exact h1
      · refine Classical.byContradiction fun n => hh ⟨h1, n⟩
/-! ### join -/
theorem fold_mem {r k : Nat} : ∀ (ys : List Int) (d : Cas), d.at_ r k < d.facts.length → ∀ l u, u ∈ (ys.foldl (fun d v => d.learn r k v) d).facts.getD l [] ↔ u ∈ d.facts.getD l [] ∨ (l = d.at_ r k ∧ u ∈ ys)
  | [], d, _, l, u => by simp
  | v :: ys, d, h, l, u => by
    rw [List.foldl_cons, fold_mem ys (d.learn r k v) (by rw [ze6]; rw [(zdh d r k v).2.2.2]; exact h), ze6, zb9 d r k v h]
    split
    · rename_i hh
      simp only [List.mem_append, hh.1, true_and, List.mem_cons, List.not_mem_nil, or_false]
      constructor
      · rintro ((a | a) | a)
        · exact .inl a
        · exact .inr (.inl a)
        · exact .inr (.inr a)
      · rintro (a | a | a)
        · exact .inl (.inl a)
        · exact .inl (.inr a)
        · exact .inr a
    · rename_i hh
      simp only [List.mem_cons]
      constructor
      · rintro (a | ⟨a, b⟩)
        · exact .inl a
        · exact .inr ⟨a, .inr b⟩
      · rintro (a | ⟨a, rfl | b⟩)
        · exact .inl a
        · exact .inl (Classical.byContradiction fun n => hh ⟨a, n⟩)
        · exact .inr ⟨a, b⟩
structure Joined (c d : Cas) (p q : Nat) : Prop where
  cols : d.cols = c.cols
  n : d.n = c.n
  at_ : ∀ r k, r < c.n → k < c.cols.length → d.at_ r k = if c.at_ r k = q then p else c.at_ r k
  mem : ∀ l u, u ∈ d.facts.getD l [] ↔ u ∈ c.facts.getD l [] ∨ (l = p ∧ u ∈ c.facts.getD q [])
  lab : d.lab = c.lab.map fun l => if l = q then p else l
  fl : d.facts.length = c.facts.length
  len : ∀ l, (d.facts.getD l []).length ≤ (c.facts.getD l []).length + (if l = p then (c.facts.getD q []).length else 0)
theorem join_is {c : Cas} (h : c.Ok) {r1 k1 r2 k2 : Nat} (hr1 : r1 < c.n) (hk1 : k1 < c.cols.length) (hr2 : r2 < c.n) (hk2 : k2 < c.cols.length) (ne : c.at_ r1 k1 ≠ c.at_ r2 k2) : Joined c (c.join r1 k1 r2 k2) (c.at_ r1 k1) (c.at_ r2 k2) := by
  have e : c.join r1 k1 r2 k2 = (c.facts.getD (c.at_ r2 k2) []).foldl (fun d v => d.learn r1 k1 v) (c.relab (c.at_ r1 k1) (c.at_ r2 k2)) := by unfold Cas.join; rw [if_neg ne]
  have ra : (c.relab (c.at_ r1 k1) (c.at_ r2 k2)).at_ r1 k1 = c.at_ r1 k1 := by rw [zkq h.l1 hr1 hk1, if_neg ne]
  have hlt : (c.relab (c.at_ r1 k1) (c.at_ r2 k2)).at_ r1 k1 < (c.relab (c.at_ r1 k1) (c.at_ r2 k2)).facts.length := by rw [ra]; exact h.lt hr1 hk1
  obtain ⟨f1, f2, f3, f4, f5, f6, f7⟩ := zk_ (r := r1) (k := k1) (c.facts.getD (c.at_ r2 k2) []) (c.relab (c.at_ r1 k1) (c.at_ r2 k2)) hlt
  rw [e]
  refine ⟨f2, f3, fun r k hr hk => ?_, fun l u => ?_, f1, f4, fun l => ?_⟩
  · have : ((c.facts.getD (c.at_ r2 k2) []).foldl (fun d v => d.learn r1 k1 v) (c.relab (c.at_ r1 k1) (c.at_ r2 k2))).at_ r k = (c.relab (c.at_ r1 k1) (c.at_ r2 k2)).at_ r k := by
      show List.getD (Cas.lab _) (r * (Cas.cols _).length + k) 0 = _
      rw [f1, f2]
      rfl
    rw [this]
    exact zkq h.l1 hr hk
  · rw [fold_mem _ _ hlt, ra]
    rfl
  · by_cases hl : l = c.at_ r1 k1
    · subst hl
      rw [if_pos rfl]
      rw [ra] at f7
      exact f7
    · rw [if_neg hl, f6 l (by rw [ra]; exact hl)]
      exact Nat.le_refl _
theorem Joined.ok {c d : Cas} {p q : Nat} (h : c.Ok) (j : Joined c d p q) (hp : p < c.facts.length) (hs : (c.facts.getD p []).length + (c.facts.getD q []).length ≤ 64) : d.Ok := by
  refine ⟨by rw [j.n]; exact h.n9, by rw [j.cols]; exact h.m5, by rw [j.lab, List.length_map, j.n, j.cols]; exact h.l1, by rw [j.fl, j.n, j.cols]; exact h.l2, fun l hl => ?_, fun l => ?_⟩
  · rw [j.lab] at hl
    rw [j.fl]
    obtain ⟨l', h1, rfl⟩ := List.mem_map.mp hl
    split
    · exact hp
    · exact h.l3 _ h1
  · have := j.len l
    have h2 := h.sm l
    split at this
    · rename_i e; subst e; omega
    · omega
theorem Joined.sat {c d : Cas} {r1 k1 r2 k2 : Nat} (h : c.Ok) (hr1 : r1 < c.n) (hk1 : k1 < c.cols.length) (hr2 : r2 < c.n) (hk2 : k2 < c.cols.length) (j : Joined c d (c.at_ r1 k1) (c.at_ r2 k2)) {M : Nat → Nat → Int} : d.Sat M ↔ c.Sat M ∧ M r1 k1 = M r2 k2 := by
  have fc : ∀ r k, r < c.n → k < c.cols.length → ∀ u, u ∈ d.fact r k ↔ u ∈ c.facts.getD (d.at_ r k) [] ∨ (d.at_ r k = c.at_ r1 k1 ∧ u ∈ c.facts.getD (c.at_ r2 k2) []) := fun r k hr hk u => j.mem _ u
  constructor
  · intro s
    have e12 : M r1 k1 = M r2 k2 := s.eq r1 k1 r2 k2 (by rw [j.n]; exact hr1) (by rw [j.cols]; exact hk1) (by rw [j.n]; exact hr2) (by rw [j.cols]; exact hk2) (by
      rw [j.at_ r1 k1 hr1 hk1, j.at_ r2 k2 hr2 hk2, if_pos rfl]
      split <;> rfl)
    refine ⟨⟨fun r k hr hk u hu => ?_, fun r k r' k' hr hk hr' hk' e => s.eq r k r' k' (by rw [j.n]; exact hr) (by rw [j.cols]; exact hk) (by rw [j.n]; exact hr') (by rw [j.cols]; exact hk') (by rw [j.at_ r k hr hk, j.at_ r' k' hr' hk', e])⟩, e12⟩
    refine s.kn r k (by rw [j.n]; exact hr) (by rw [j.cols]; exact hk) u ((fc r k hr hk u).mpr ?_)
    rw [j.at_ r k hr hk]
    by_cases e : c.at_ r k = c.at_ r2 k2
    · rw [if_pos e]
      refine .inr ⟨rfl, ?_⟩
      rw [← e]
      exact hu
    · rw [if_neg e]
      exact .inl hu
  · rintro ⟨s, e12⟩
    have rep : ∀ r k, r < c.n → k < c.cols.length → (d.at_ r k = c.at_ r k ∨ (c.at_ r k = c.at_ r2 k2 ∧ d.at_ r k = c.at_ r1 k1)) := fun r k hr hk => by
      rw [j.at_ r k hr hk]
      by_cases e : c.at_ r k = c.at_ r2 k2
      · rw [if_pos e]; exact .inr ⟨e, rfl⟩
      · rw [if_neg e]; exact .inl rfl
    refine ⟨fun r k hr hk u hu => ?_, fun r k r' k' hr hk hr' hk' e => ?_⟩
    · rw [j.n] at hr
      rw [j.cols] at hk
      rcases rep r k hr hk with a | ⟨a, b⟩
      · rcases (fc r k hr hk u).mp hu with q | ⟨q1, q2⟩
        · rw [a] at q; exact s.kn r k hr hk u q
        · rw [s.eq r k r1 k1 hr hk hr1 hk1 (a ▸ q1), e12]
          exact s.kn r2 k2 hr2 hk2 u q2
      · have e1 : M r k = M r2 k2 := s.eq r k r2 k2 hr hk hr2 hk2 a
        rcases (fc r k hr hk u).mp hu with q | ⟨q1, q2⟩
        · rw [b] at q; rw [e1, ← e12]; exact s.kn r1 k1 hr1 hk1 u q
        · rw [e1]; exact s.kn r2 k2 hr2 hk2 u q2
    · rw [j.n] at hr hr'
      rw [j.cols] at hk hk'
      rcases rep r k hr hk with a | ⟨a, b⟩
      · rcases rep r' k' hr' hk' with a' | ⟨a', b'⟩
        · exact s.eq r k r' k' hr hk hr' hk' (by rw [← a, ← a', e])
        · rw [s.eq r k r1 k1 hr hk hr1 hk1 (by rw [← a, e, b']), e12]
          exact (s.eq r' k' r2 k2 hr' hk' hr2 hk2 a').symm
      · rw [s.eq r k r2 k2 hr hk hr2 hk2 a]
        rcases rep r' k' hr' hk' with a' | ⟨a', b'⟩
        · rw [s.eq r' k' r1 k1 hr' hk' hr1 hk1 (by rw [← a', ← e, b]), e12]
        · exact (s.eq r' k' r2 k2 hr' hk' hr2 hk2 a').symm
/-! ### the measure -/
def cnt (N : Nat) (p : Nat → Bool) : Nat := ((List.range N).filter p).length
theorem zh8 (N : Nat) (p : Nat → Bool) : cnt (N + 1) p = cnt N p + (if p N = true then 1 else 0) := by
  unfold cnt
  rw [List.range_succ, List.filter_append, List.length_append, List.filter_cons, List.filter_nil]
  split <;> simp
theorem cnt_le {N : Nat} {p q : Nat → Bool} (h : ∀ i, i < N → p i = true → q i = true) : cnt N p ≤ cnt N q := by
  induction N with
  | zero => simp [cnt]
  | succ N ih =>
    rw [zh8, zh8]
    have := ih fun i hi => h i (by omega)
    have h1 := h N (by omega)
    split
    · rename_i e; rw [if_pos (h1 e)]; omega
    · split <;> omega
theorem cnt_lt {N : Nat} {p q : Nat → Bool} (h : ∀ i, i < N → p i = true → q i = true) {j : Nat} (hj : j < N) (hq : q j = true) (hp : p j = false) : cnt N p < cnt N q := by
  induction N with
  | zero => omega
  | succ N ih =>
    rw [zh8, zh8]
    by_cases e : j = N
    · subst e
      rw [if_neg (by simp [hp]), if_pos hq]
      have := cnt_le (N := j) fun i hi => h i (by omega)
      omega
    · have := ih (fun i hi => h i (by omega)) (by omega)
      have h1 := h N (by omega)
      split
      · rename_i e; rw [if_pos (h1 e)]; omega
      · split <;> omega
def Cas.mu (c : Cas) : Nat := cnt c.facts.length (fun l => decide (l ∈ c.lab)) + cnt c.facts.length (fun l => decide (l ∈ c.lab) && (c.facts.getD l []).isEmpty)
theorem mu_learn {c : Cas} (h : c.Ok) {r k : Nat} {v : Int} (hr : r < c.n) (hk : k < c.cols.length) (he : c.fact r k = []) : (c.learn r k v).mu < c.mu := by
  obtain ⟨a1, a2, a3, a4⟩ := zdh c r k v
  unfold Cas.mu
  rw [a1, a4]
  have : cnt c.facts.length (fun l => decide (l ∈ c.lab) && ((c.learn r k v).facts.getD l []).isEmpty) < cnt c.facts.length (fun l => decide (l ∈ c.lab) && (c.facts.getD l []).isEmpty) := by
    refine cnt_lt (j := c.at_ r k) (fun i hi e => ?_) (h.lt hr hk) ?_ ?_
    · simp only [Bool.and_eq_true, decide_eq_true_eq] at e ⊢
      refine ⟨e.1, ?_⟩
      have e2 := e.2
      rw [zb9 c r k v (h.lt hr hk)] at e2
      split at e2
      · simp at e2
      · exact e2
    · have e2 : c.facts.getD (c.at_ r k) [] = [] := he
      rw [e2]
      simp only [List.isEmpty_nil, Bool.and_true, decide_eq_true_eq]
      exact h.mem hr hk
    · rw [zb9 c r k v (h.lt hr hk)]
      have e2 : c.facts.getD (c.at_ r k) [] = [] := he
      rw [e2, if_pos ⟨rfl, by simp⟩]
      simp
  omega
end DL
set_option maxHeartbeats 400000
namespace DL
open PySem PySem.Spec PyProof.Rows L2
/-! ## the search in a case -/
def cellNs (n m : Nat) : List (Nat × Nat) := (List.range n).flatMap fun r => (List.range m).map fun k => (r, k)
theorem mem_cellNs {n m r k : Nat} : (r, k) ∈ cellNs n m ↔ r < n ∧ k < m := by
  simp [cellNs]
def Cas.badAt (c : Cas) (r k : Nat) : Bool := decide (1 < (c.fact r k).length) || (match c.cols.getD k none with
  | none => false
  | some ns => (c.fact r k).any fun v => !decide (v ∈ ns))
def Cas.clash (c : Cas) : Bool := (cellNs c.n c.cols.length).any fun p => c.badAt p.1 p.2
inductive Goal where
  | no | val (r k : Nat) (v : Int) | eq (r k r' k' : Nat)
def Cas.alike (c : Cas) (r k r' k' : Nat) : Bool := decide (c.at_ r k = c.at_ r' k') || (c.fact r k).any fun v => decide (v ∈ c.fact r' k')
def Cas.goal (c : Cas) : Goal → Bool
  | .no => false
  | .val r k v => decide (v ∈ c.fact r k)
  | .eq r k r' k' => c.alike r k r' k'
def Cas.entS (c : Cas) (row : Nat) (p : Nat × Option Int) : Bool := match p.2 with
  | none => false
  | some v => decide (v ∈ c.fact row p.1)
def Cas.entJ (c : Cas) (p : Nat × Option Int) : Bool := match p.2 with
  | none => c.alike 0 p.1 1 p.1
  | some v => decide (v ∈ c.fact 0 p.1) && decide (v ∈ c.fact 1 p.1)
def Cas.canStep (c : Cas) (t : Ru) (row : Nat) : Bool := t.2.2.isSome && t.1.all (c.entS row)
def Cas.canJoin (c : Cas) (t : Ru) : Bool := t.2.2.isNone && (decide (c.n = 2) && t.1.all c.entJ)
inductive Head where
  | step (k row : Nat) | join (k : Nat)
def Cas.stepOk (c : Cas) (t : Ru) (row : Nat) : Bool := c.canStep t row && (match t.2.2 with | none => false | some v => !decide (v ∈ c.fact row t.2.1))
def Cas.stepTo (c : Cas) (t : Ru) (row : Nat) : Cas := match t.2.2 with
  | none => c
  | some v => c.learn row t.2.1 v
def Cas.nextRow (c : Cas) (k : Nat) (t : Ru) : List Nat → Option (Head × Cas)
  | [] => none
  | row :: rows => if c.stepOk t row = true then some (.step k row, c.stepTo t row) else c.nextRow k t rows
def Cas.joinOk (c : Cas) (t : Ru) : Bool := c.canJoin t && !c.alike 0 t.2.1 1 t.2.1
def Cas.nextGo (c : Cas) : Nat → List Ru → Option (Head × Cas)
  | _, [] => none
  | k, t :: ts => match c.nextRow k t (List.range c.n) with
    | some x => some x
    | none => if c.joinOk t = true then some (.join k, c.join 0 t.2.1 1 t.2.1) else c.nextGo (k + 1) ts
def Cas.next (c : Cas) (ts : List Ru) : Option (Head × Cas) := c.nextGo 0 ts
def Cas.unknown (c : Cas) (cells : List (Nat × Nat)) : Option (Nat × Nat) := cells.find? fun p => (c.fact p.1 p.2).isEmpty
structure okRu (m : Nat) (t : Ru) : Prop where
  c : t.2.1 < m
  g : ∀ p ∈ t.1, p.1 < m
def Keep (n : Nat) (M : Nat → Nat → Int) (t : Ru) : Prop := match t.2.2 with
  | some w => ∀ r, r < n → (∀ p ∈ t.1, p.2 = some (M r p.1)) → M r t.2.1 = w
  | none => n = 2 → (∀ p ∈ t.1, match p.2 with | none => M 0 p.1 = M 1 p.1 | some v => M 0 p.1 = v ∧ M 1 p.1 = v) → M 0 t.2.1 = M 1 t.2.1
def GoalH (M : Nat → Nat → Int) : Goal → Prop
  | .no => False
  | .val r k v => M r k = v
  | .eq r k r' k' => M r k = M r' k'
def okGoal (n m : Nat) : Goal → Prop
  | .no => True
  | .val r k _ => r < n ∧ k < m
  | .eq r k r' k' => (r < n ∧ k < m) ∧ r' < n ∧ k' < m
/-! ### what is known holds -/
theorem Cas.Sat.alike {c : Cas} {M : Nat → Nat → Int} (s : c.Sat M) {r k r' k' : Nat} (hr : r < c.n) (hk : k < c.cols.length) (hr' : r' < c.n) (hk' : k' < c.cols.length) (h : c.alike r k r' k' = true) : M r k = M r' k' := by
  unfold Cas.alike at h
  simp only [Bool.or_eq_true, decide_eq_true_eq, List.any_eq_true] at h
  rcases h with h | ⟨v, h1, h2⟩
  · exact s.eq _ _ _ _ hr hk hr' hk' h
  · rw [s.kn r k hr hk v h1, s.kn r' k' hr' hk' v h2]
theorem Cas.Sat.goal {c : Cas} {M : Nat → Nat → Int} (s : c.Sat M) {g : Goal} (hg : okGoal c.n c.cols.length g) (h : c.goal g = true) : GoalH M g := by
  cases g with
  | no => cases h
  | val r k v => exact s.kn r k hg.1 hg.2 v (by simpa [Cas.goal] using h)
  | eq r k r' k' => exact s.alike hg.1.1 hg.1.2 hg.2.1 hg.2.2 h
theorem zi6 {c : Cas} (h : c.clash = false) {r k : Nat} (hr : r < c.n) (hk : k < c.cols.length) : (c.fact r k).length ≤ 1 ∧ ∀ ns, c.cols.getD k none = some ns → ∀ v ∈ c.fact r k, v ∈ ns := by
  unfold Cas.clash at h
  rw [List.any_eq_false] at h
  have := h (r, k) (mem_cellNs.mpr ⟨hr, hk⟩)
  unfold Cas.badAt at this
  simp only [Bool.or_eq_true, decide_eq_true_eq, not_or, Bool.not_eq_true] at this
  refine ⟨by omega, fun ns e v hv => ?_⟩
  rw [e] at this
  have h2 := this.2
  simp only [List.any_eq_false] at h2
  have := h2 v hv
  simpa using this
/-! ### a step, a join -/
structure Moved (ts : List Ru) (c d : Cas) : Prop where
  ok : d.Ok
  cols : d.cols = c.cols
  n : d.n = c.n
  less : d.clash = true ∨ d.mu < c.mu
  sat : ∀ M, (∀ t ∈ ts, Keep c.n M t) → (d.Sat M ↔ c.Sat M)
  up : ∀ M, d.Sat M → c.Sat M
  kn : ∀ r k, r < c.n → k < c.cols.length → ∀ v ∈ c.fact r k, v ∈ d.fact r k
theorem zhv {c : Cas} {t : Ru} {k : Nat} : ∀ (rows : List Nat), c.nextRow k t rows = none → ∀ r ∈ rows, c.stepOk t r = false
  | [], _, r, hr => by cases hr
  | row :: rows, e, r, hr => by
    unfold Cas.nextRow at e
    split at e
    · cases e
    · rename_i hs
      rcases List.mem_cons.mp hr with rfl | hr
      · simpa using hs
      · exact zhv rows e r hr
theorem zit {c : Cas} : ∀ (us : List Ru) (k : Nat), c.nextGo k us = none → ∀ t ∈ us, (∀ r, r < c.n → c.stepOk t r = false) ∧ c.joinOk t = false
  | [], _, _, t, ht => by cases ht
  | u :: us, k, e, t, ht => by
    unfold Cas.nextGo at e
    cases q : c.nextRow k u (List.range c.n) with
    | some y => rw [q] at e; cases e
    | none =>
      rw [q] at e
      simp only at e
      split at e
      · cases e
      · rename_i hs
        rcases List.mem_cons.mp ht with rfl | ht
        · exact ⟨fun r hr => zhv _ q r (List.mem_range.mpr hr), by simpa using hs⟩
        · exact zit us (k + 1) e t ht
end DL
set_option maxHeartbeats 400000
namespace DL
open PySem PySem.Spec PyProof.Rows L2
/-! ## no value twice, and all values below a bound -/
structure Cas.Fine (c : Cas) (B : Int) : Prop where
  nd : ∀ l, (c.facts.getD l []).Nodup
  lt : ∀ l, ∀ v ∈ c.facts.getD l [], v < B
theorem Cas.Fine.learn {c : Cas} {B : Int} (h : c.Ok) (f : c.Fine B) {r k : Nat} {v : Int} (hr : r < c.n) (hk : k < c.cols.length) (hv : v < B) : (c.learn r k v).Fine B := by
  refine ⟨fun l => ?_, fun l u hu => ?_⟩
  · rw [zb9 c r k v (h.lt hr hk)]
    split
    · rename_i hh
      rw [List.nodup_append]
      refine ⟨f.nd l, by simp, fun a ha b hb => ?_⟩
      simp at hb
      subst hb
      exact fun e => hh.2 (e ▸ ha)
    · exact f.nd l
  · rw [zb9 c r k v (h.lt hr hk)] at hu
    split at hu
    · rcases List.mem_append.mp hu with q | q
      · exact f.lt l u q
      · simp at q; omega
    · exact f.lt l u hu
theorem fold_fine {r k : Nat} {B : Int} : ∀ (ys : List Int) (d : Cas), d.at_ r k < d.facts.length → d.Fine B → (∀ y ∈ ys, y < B) → (ys.foldl (fun d v => d.learn r k v) d).Fine B
  | [], d, _, f, _ => f
  | v :: ys, d, h, f, hy => by
    rw [List.foldl_cons]
    refine fold_fine ys (d.learn r k v) (by rw [ze6, (zdh d r k v).2.2.2]; exact h) ⟨fun l => ?_, fun l u hu => ?_⟩ fun y hh => hy y (by simp [hh])
    · rw [zb9 d r k v h]
      split
      · rename_i hh
        rw [List.nodup_append]
        refine ⟨f.nd l, by simp, fun a ha b hb => ?_⟩
        simp at hb
        subst hb
        exact fun e => hh.2 (e ▸ ha)
      · exact f.nd l
    · rw [zb9 d r k v h] at hu
      split at hu
      · rcases List.mem_append.mp hu with q | q
        · exact f.lt l u q
        · simp at q; have := hy v (by simp); omega
      · exact f.lt l u hu
theorem Cas.Fine.join {c : Cas} {B : Int} (h : c.Ok) (f : c.Fine B) {r1 k1 r2 k2 : Nat} (hr1 : r1 < c.n) (hk1 : k1 < c.cols.length) (hr2 : r2 < c.n) (hk2 : k2 < c.cols.length) : (c.join r1 k1 r2 k2).Fine B := by
  by_cases e : c.at_ r1 k1 = c.at_ r2 k2
  · have : c.join r1 k1 r2 k2 = c := by unfold Cas.join; rw [if_pos e]
    rw [this]; exact f
  · have : c.join r1 k1 r2 k2 = (c.facts.getD (c.at_ r2 k2) []).foldl (fun d v => d.learn r1 k1 v) (c.relab (c.at_ r1 k1) (c.at_ r2 k2)) := by unfold Cas.join; rw [if_neg e]
    rw [this]
    refine fold_fine _ _ ?_ ⟨f.nd, f.lt⟩ fun y hy => f.lt _ y hy
    rw [zkq h.l1 hr1 hk1, if_neg e]
    exact h.lt hr1 hk1
def RuLt (B : Int) (t : Ru) : Prop := (∀ p ∈ t.1, ∀ v, p.2 = some v → v < B) ∧ ∀ v, t.2.2 = some v → v < B
/-! ## the leaves -/
def Enough (F : Nat) (c : Cas) : Prop := 1 ≤ F ∧ (c.clash = true ∨ c.mu + 2 ≤ F)
theorem Enough.next {F : Nat} {ts : List Ru} {c d : Cas} (e : Enough (F + 1) c) (nc : c.clash = false) (m : Moved ts c d) : Enough F d := by
  rcases e.2 with h | h
  · rw [nc] at h; cases h
  · rcases m.less with q | q
    · exact ⟨by omega, .inl q⟩
    · exact ⟨by omega, .inr (by omega)⟩
theorem Enough.split {F : Nat} {c : Cas} (e : Enough (F + 1) c) (nc : c.clash = false) (h : c.Ok) {r k : Nat} {v : Int} (hr : r < c.n) (hk : k < c.cols.length) (he : c.fact r k = []) : Enough F (c.learn r k v) := by
  rcases e.2 with q | q
  · rw [nc] at q; cases q
  · have := mu_learn (v := v) h hr hk he
    exact ⟨by omega, .inr (by omega)⟩
def Closed (n : Nat) (cols : List (Option (List Int))) (cells : List (Nat × Nat)) : Prop := ∀ p ∈ cells, p.1 < n ∧ p.2 < cols.length ∧ ∃ ns, cols.getD p.2 none = some ns
theorem unknown_none {c : Cas} {cells : List (Nat × Nat)} (h : c.unknown cells = none) : ∀ p ∈ cells, c.fact p.1 p.2 ≠ [] := by
  unfold Cas.unknown at h
  rw [List.find?_eq_none] at h
  intro p hp e
  exact h p hp (by simp [e])
structure Leaf (ts : List Ru) (g : Goal) (cells : List (Nat × Nat)) (B : Int) (c L : Cas) : Prop where
  ok : L.Ok
  fine : L.Fine B
  cols : L.cols = c.cols
  n : L.n = c.n
  nc : L.clash = false
  ng : L.goal g = false
  nx : L.next ts = none
  un : L.unknown cells = none
  up : ∀ M, L.Sat M → c.Sat M
  kn : ∀ r k, r < c.n → k < c.cols.length → ∀ v ∈ c.fact r k, v ∈ L.fact r k
def ColsLt (B : Int) (cols : List (Option (List Int))) : Prop := ∀ k ns, cols.getD k none = some ns → ∀ v ∈ ns, v < B
def InCols (n : Nat) (cols : List (Option (List Int))) (M : Nat → Nat → Int) : Prop := ∀ r k ns, r < n → k < cols.length → cols.getD k none = some ns → M r k ∈ ns
/-! ## the table of a leaf -/
structure Generic (L : Cas) (B : Int) (M : Nat → Nat → Int) : Prop where
  kn : ∀ r k, r < L.n → k < L.cols.length → L.fact r k ≠ [] → M r k ∈ L.fact r k
  un : ∀ r k, r < L.n → k < L.cols.length → L.fact r k = [] → B ≤ M r k
  eq : ∀ r k r' k', r < L.n → k < L.cols.length → r' < L.n → k' < L.cols.length → L.at_ r k = L.at_ r' k' → M r k = M r' k'
  ne : ∀ r k r' k', r < L.n → k < L.cols.length → r' < L.n → k' < L.cols.length → L.fact r k = [] → L.fact r' k' = [] → M r k = M r' k' → L.at_ r k = L.at_ r' k'
section
variable {L : Cas} {B : Int} {M : Nat → Nat → Int} {ts : List Ru} {g : Goal}
theorem Generic.one (G : Generic L B M) (nc : L.clash = false) {r k : Nat} (hr : r < L.n) (hk : k < L.cols.length) : ∀ v ∈ L.fact r k, M r k = v := fun v hv => by
  obtain ⟨b1, _⟩ := zi6 nc hr hk
  have ne : L.fact r k ≠ [] := fun e => by rw [e] at hv; cases hv
  have := G.kn r k hr hk ne
  match e : L.fact r k with
  | [] => exact absurd e ne
  | [a] =>
    rw [e] at hv this
    simp at hv this
    omega
  | a :: b :: l => rw [e] at b1; simp at b1
theorem Generic.sat (G : Generic L B M) (nc : L.clash = false) : L.Sat M := ⟨fun r k hr hk v hv => G.one nc hr hk v hv, G.eq⟩
theorem Generic.val (G : Generic L B M) {r k : Nat} (hr : r < L.n) (hk : k < L.cols.length) {v : Int} (hv : v < B) (e : M r k = v) : v ∈ L.fact r k := by
  by_cases q : L.fact r k = []
  · have := G.un r k hr hk q
    omega
  · exact e ▸ G.kn r k hr hk q
theorem Generic.alike (G : Generic L B M) (f : L.Fine B) {r k r' k' : Nat} (hr : r < L.n) (hk : k < L.cols.length) (hr' : r' < L.n) (hk' : k' < L.cols.length) (e : M r k = M r' k') : L.alike r k r' k' = true := by
  unfold Cas.alike
  simp only [Bool.or_eq_true, decide_eq_true_eq, List.any_eq_true]
  by_cases q : L.fact r k = []
  · by_cases q' : L.fact r' k' = []
    · exact .inl (G.ne r k r' k' hr hk hr' hk' q q' e)
    · have h1 := G.un r k hr hk q
      have h2 := f.lt _ _ (G.kn r' k' hr' hk' q')
      omega
  · have h2 := G.kn r k hr hk q
    have h3 := f.lt _ _ h2
    exact .inr ⟨M r k, h2, G.val hr' hk' h3 e.symm⟩
theorem Generic.keep (G : Generic L B M) (nc : L.clash = false) (f : L.Fine B) (nx : L.next ts = none) (ht : ∀ t ∈ ts, okRu L.cols.length t ∧ RuLt B t) : ∀ t ∈ ts, Keep L.n M t := by
  intro t hm
  obtain ⟨h1, h2⟩ := zit ts 0 nx t hm
  obtain ⟨ok, lt⟩ := ht t hm
  unfold Keep
  cases e : t.2.2 with
  | some w =>
    intro r hr hg
    have hs := h1 r hr
    unfold Cas.stepOk Cas.canStep at hs
    rw [e] at hs
    have hall : t.1.all (L.entS r) = true := by
      rw [List.all_eq_true]
      intro p hp
      unfold Cas.entS
      have q := hg p hp
      rw [q]
      have := lt.1 p hp _ q
      simpa using G.val hr (ok.g p hp) this rfl
    rw [hall] at hs
    simp only [Option.isSome_some, Bool.true_and, Bool.not_eq_false', decide_eq_true_eq] at hs
    exact G.one nc hr ok.c w hs
  | none =>
    intro n2 hg
    unfold Cas.joinOk Cas.canJoin at h2
    rw [e] at h2
    have r0 : 0 < L.n := by omega
    have r1 : 1 < L.n := by omega
    have hall : t.1.all L.entJ = true := by
      rw [List.all_eq_true]
      intro p hp
      unfold Cas.entJ
      have q := hg p hp
      cases e2 : p.2 with
      | none =>
        rw [e2] at q
        exact G.alike f r0 (ok.g p hp) r1 (ok.g p hp) q
      | some v =>
        rw [e2] at q
        have lv := lt.1 p hp v e2
        simp only [Bool.and_eq_true, decide_eq_true_eq]
        exact ⟨G.val r0 (ok.g p hp) lv q.1, G.val r1 (ok.g p hp) lv q.2⟩
    rw [hall] at h2
    simp only [n2, Option.isNone_none, decide_true, Bool.true_and, Bool.not_eq_false'] at h2
    exact (G.sat nc).alike r0 ok.c r1 ok.c h2
theorem Generic.goal (G : Generic L B M) (nc : L.clash = false) (f : L.Fine B) (hg : okGoal L.n L.cols.length g) (hb : ∀ r k v, g = .val r k v → v < B) (ng : L.goal g = false) : ¬ GoalH M g := by
  intro h
  cases g with
  | no => exact h
  | val r k v =>
    have := G.val hg.1 hg.2 (hb r k v rfl) h
    simp [Cas.goal, this] at ng
  | eq r k r' k' =>
    have := G.alike f hg.1.1 hg.1.2 hg.2.1 hg.2.2 h
    simp [Cas.goal, this] at ng
theorem Generic.cols (G : Generic L B M) (nc : L.clash = false) {cells : List (Nat × Nat)} (un : L.unknown cells = none) (all : ∀ r k ns, r < L.n → k < L.cols.length → L.cols.getD k none = some ns → (r, k) ∈ cells) : InCols L.n L.cols M := by
  intro r k ns hr hk e
  have ne := unknown_none un (r, k) (all r k ns hr hk e)
  exact (zi6 nc hr hk).2 ns e _ (G.kn r k hr hk ne)
end
end DL
set_option maxHeartbeats 400000
namespace DL
open PySem PySem.Spec PyProof.Rows L2
/-! ## how many leaves -/
end DL
set_option maxHeartbeats 400000
namespace DL
open PySem PySem.Spec PyProof.Rows L2
/-! ## the case of a rule -/
def Cas.Sz (c : Cas) (K : Nat) : Prop := ∀ l, (c.facts.getD l []).length ≤ K
structure LearnR (c d : Cas) (k : Nat) (v : Int) (rows : List Nat) (B : Int) (K : Nat) : Prop where
  ok : d.Ok
  fine : d.Fine B
  sz : d.Sz (K + rows.length)
  cols : d.cols = c.cols
  n : d.n = c.n
  sat : ∀ M, d.Sat M ↔ c.Sat M ∧ ∀ r ∈ rows, M r k = v
def EntH (n : Nat) (M : Nat → Nat → Int) (p : Nat × Option Int) : Prop := match p.2 with
  | none => M 0 p.1 = M 1 p.1
  | some v => ∀ r, r < n → M r p.1 = v
structure okEnt (n m : Nat) (B : Int) (p : Nat × Option Int) : Prop where
  c : p.1 < m
  lt : ∀ v, p.2 = some v → v < B
  two : p.2 = none → n = 2
structure Given (c d : Cas) (g : Gv) (B : Int) (K : Nat) : Prop where
  ok : d.Ok
  fine : d.Fine B
  sz : d.Sz K
  cols : d.cols = c.cols
  n : d.n = c.n
  sat : ∀ M, d.Sat M ↔ c.Sat M ∧ ∀ p ∈ g, EntH c.n M p
end DL
set_option maxHeartbeats 400000
namespace DL
open PySem PySem.Spec PyProof.Rows L2
/-! ## what follows from rules -/
def closedK (cols : List (Option (List Int))) : List Nat := (List.range cols.length).filter fun k => (cols.getD k none).isSome
structure OkCols (cols : List (Option (List Int))) (B : Int) : Prop where
  m5 : cols.length ≤ 5
  lt : ColsLt B cols
  few : ∀ k ns, cols.getD k none = some ns → ns.length ≤ 3
  two : (closedK cols).length ≤ 2
structure OkRule (m : Nat) (B : Int) (t : Ru) : Prop where
  ok : okRu m t
  lt : RuLt B t
  len : t.1.length ≤ 5
  val : t.2.2.isSome = true → ∀ p ∈ t.1, p.2 ≠ none
def Cas.tab (L : Cas) (B : Int) (r k : Nat) : Int := match L.fact r k with
  | [] => B + ((L.at_ r k : Nat) : Int)
  | v :: _ => v
end DL
set_option maxHeartbeats 400000
namespace DL
open PySem PySem.Spec PyProof.Rows L2
/-! ## the rows of a leaf -/
def Cas.pick (L : Cas) (spare : Int) (m : Map) (p : Nat × Nat) : Map := if (mGet m (.inl ((L.at_ p.1 p.2 : Nat) : Int))).isSome = true then m else m ++ [(.inl ((L.at_ p.1 p.2 : Nat) : Int), match L.fact p.1 p.2 with
  | [] => spare + ((m.length : Nat) : Int)
  | v :: _ => v)]
def Cas.chosen (L : Cas) (spare : Int) : Map := (cellNs L.n L.cols.length).foldl (L.pick spare) []
def Cas.val (L : Cas) (spare : Int) (r k : Nat) : Int := (mGet (L.chosen spare) (.inl ((L.at_ r k : Nat) : Int))).getD 0
theorem mGet_snoc (m : Map) (k : Key) (v : Int) (j : Key) : mGet (m ++ [(k, v)]) j = match mGet m j with
  | some x => some x
  | none => if k = j then some v else none := by
  unfold mGet
  rw [List.find?_append]
  cases q : m.find? fun p => decide (p.1 = j) with
  | some p => simp
  | none =>
    by_cases e : k = j
    · simp [e]
    · simp [e]
structure Picked (L : Cas) (spare : Int) (ps : List (Nat × Nat)) (m : Map) : Prop where
  all : ∀ p ∈ ps, (mGet m (.inl ((L.at_ p.1 p.2 : Nat) : Int))).isSome = true
  kn : ∀ (l : Nat) v, mGet m (.inl ((l : Nat) : Int)) = some v → (∃ u us, L.facts.getD l [] = u :: us ∧ v = u) ∨ (L.facts.getD l [] = [] ∧ spare ≤ v ∧ v < spare + ((m.length : Nat) : Int))
  ne : ∀ (l l' : Nat) v, mGet m (.inl ((l : Nat) : Int)) = some v → mGet m (.inl ((l' : Nat) : Int)) = some v → L.facts.getD l [] = [] → L.facts.getD l' [] = [] → l = l'
  lt : m.length ≤ ps.length
theorem Picked.more {L : Cas} {spare : Int} {ps : List (Nat × Nat)} {m : Map} (h : Picked L spare ps m) (p : Nat × Nat) : Picked L spare (ps ++ [p]) (L.pick spare m p) := by
  unfold Cas.pick
  split
  · rename_i e
    refine ⟨fun q hq => ?_, h.kn, h.ne, by have := h.lt; simp; omega⟩
    rcases List.mem_append.mp hq with hq | hq
    · exact h.all q hq
    · simp at hq; subst hq; exact e
  · rename_i e
    have en : mGet m (.inl ((L.at_ p.1 p.2 : Nat) : Int)) = none := by
      cases q : mGet m (.inl ((L.at_ p.1 p.2 : Nat) : Int)) with
      | none => rfl
      | some v => rw [q] at e; exact absurd rfl e
    have keq : ∀ l : Nat, (Sum.inl ((L.at_ p.1 p.2 : Nat) : Int) : Key) = .inl ((l : Nat) : Int) ↔ L.at_ p.1 p.2 = l := fun l => by
      constructor
      · intro q; injection q with q; omega
      · rintro rfl; rfl
    generalize hv : (match L.fact p.1 p.2 with | [] => spare + ((m.length : Nat) : Int) | v :: _ => v) = w
    have hw : (∃ u us, L.fact p.1 p.2 = u :: us ∧ w = u) ∨ (L.fact p.1 p.2 = [] ∧ w = spare + ((m.length : Nat) : Int)) := by
      cases q : L.fact p.1 p.2 with
      | nil => rw [q] at hv; exact .inr ⟨rfl, hv.symm⟩
      | cons u us => rw [q] at hv; exact .inl ⟨u, us, rfl, hv.symm⟩
    have sp : ∀ (l : Nat) v, mGet (m ++ [(.inl ((L.at_ p.1 p.2 : Nat) : Int), w)]) (.inl ((l : Nat) : Int)) = some v → mGet m (.inl ((l : Nat) : Int)) = some v ∨ (mGet m (.inl ((l : Nat) : Int)) = none ∧ L.at_ p.1 p.2 = l ∧ v = w) := fun l v q => by
      rw [mGet_snoc] at q
      cases q2 : mGet m (.inl ((l : Nat) : Int)) with
      | some x => rw [q2] at q; simp only at q; exact .inl q
      | none =>
        rw [q2] at q
        simp only at q
        split at q
        · rename_i q3; cases q; exact .inr ⟨rfl, (keq l).mp q3, rfl⟩
        · cases q
    refine ⟨fun q hq => ?_, fun l v q => ?_, fun l l' v q q' e1 e2 => ?_, by have := h.lt; simp; omega⟩
    · rw [mGet_snoc]
      rcases List.mem_append.mp hq with hq | hq
      · have := h.all q hq
        cases q2 : mGet m (.inl ((L.at_ q.1 q.2 : Nat) : Int)) with
        | none => rw [q2] at this; cases this
        | some x => rfl
      · simp at hq
        subst hq
        rw [en]
        simp
    · rcases sp l v q with q | ⟨_, rfl, rfl⟩
      · rcases h.kn l v q with a | ⟨a, b, c⟩
        · exact .inl a
        · exact .inr ⟨a, b, by rw [List.length_append]; simp; omega⟩
      · rcases hw with a | ⟨a, b⟩
        · exact .inl a
        · exact .inr ⟨a, by omega, by rw [List.length_append]; simp; omega⟩
    · rcases sp l v q with q1 | ⟨n1, k1, w1⟩
      · rcases sp l' v q' with q2 | ⟨n2, k2, w2⟩
        · exact h.ne l l' v q1 q2 e1 e2
        · exfalso
          rcases h.kn l v q1 with ⟨u, us, a, _⟩ | ⟨_, b, c⟩
          · rw [e1] at a; cases a
          · rcases hw with ⟨u, us, a, _⟩ | ⟨a, d⟩
            · have : L.fact p.1 p.2 = [] := by rw [← k2] at e2; exact e2
              rw [this] at a; cases a
            · omega
      · rcases sp l' v q' with q2 | ⟨n2, k2, w2⟩
        · exfalso
          rcases h.kn l' v q2 with ⟨u, us, a, _⟩ | ⟨_, b, c⟩
          · rw [e2] at a; cases a
          · rcases hw with ⟨u, us, a, _⟩ | ⟨a, d⟩
            · have : L.fact p.1 p.2 = [] := by rw [← k1] at e1; exact e1
              rw [this] at a; cases a
            · omega
        · rw [← k1, ← k2]
/-! ## the cells in their order -/
end DL
set_option maxHeartbeats 4000000
namespace DL
open PySem PySem.Spec PyProof.Rows L2
variable [Mode]
section
variable {X : Cx} {W : WX} {K : PySem.W.Frag} {mg : Str → Option Value} {ι : List Addr} {F H : Hp} {S : zae} {e a b c : Expr} {es : List Expr} {pos p apos : Pos} {k : Nat}
/-! ## x != [], of a list of anything -/
end
end DL
set_option maxHeartbeats 400000
namespace DL
open PySem PySem.Spec PyProof.Rows L2
/-! ## cases made by some learns and joins -/
theorem nodup_sub : ∀ {l V : List Int}, l.Nodup → (∀ v ∈ l, v ∈ V) → l.length ≤ V.length
  | [], V, _, _ => by simp
  | a :: l, V, h, s => by
    obtain ⟨h1, h2⟩ := List.nodup_cons.mp h
    have ha := s a (by simp)
    have := nodup_sub (l := l) (V := V.erase a) h2 fun v hv => by
      have ne : v ≠ a := fun e => h1 (e ▸ hv)
      exact (List.mem_erase_of_ne ne).mpr (s v (by simp [hv]))
    rw [List.length_erase_of_mem ha] at this
    have : 0 < V.length := List.length_pos_of_mem ha
    simp only [List.length_cons]
    omega
def Cas.In (c : Cas) (V : List Int) : Prop := ∀ l, ∀ v ∈ c.facts.getD l [], v ∈ V
theorem Cas.In.len {c : Cas} {V : List Int} {B : Int} (i : c.In V) (f : c.Fine B) (l : Nat) : (c.facts.getD l []).length ≤ V.length := nodup_sub (f.nd l) (i l)
inductive Op where
  | l (r k : Nat) (v : Int)
  | j (r k r' k' : Nat)
def Cas.op (c : Cas) : Op → Cas
  | .l r k v => c.learn r k v
  | .j r k r' k' => c.join r k r' k'
def Op.ok (n m : Nat) (B : Int) : Op → Prop
  | .l r k v => r < n ∧ k < m ∧ v < B
  | .j r k r' k' => r < n ∧ k < m ∧ r' < n ∧ k' < m
def Op.H (M : Nat → Nat → Int) : Op → Prop
  | .l r k v => M r k = v
  | .j r k r' k' => M r k = M r' k'
structure Ops (c d : Cas) (B : Int) (V : List Int) (os : List Op) : Prop where
  ok : d.Ok
  fine : d.Fine B
  vs : d.In V
  cols : d.cols = c.cols
  n : d.n = c.n
  sat : ∀ M, d.Sat M ↔ c.Sat M ∧ ∀ o ∈ os, o.H M
end DL
set_option maxHeartbeats 8000000
namespace PySem
namespace DLSetT
open L2 PyProof.Rows
section
variable {P : Program} {w : World} {A : Around} {E : Value → Shared → Prop} {s : Shared}
end
end DLSetT
end PySem
set_option maxHeartbeats 8000000
namespace DL
open PySem PySem.Spec PyProof.Rows L2
variable [Mode]
section
variable {X : Cx} {W : WX} {e a b c : Expr} {es : List Expr} {pos p : Pos} {K : PySem.W.Frag} {ι : List Addr} {F H : Hp} {S : zae} {mg : Str → Option Value}
/-! ## sets of tuples of ints, from a list or a tuple -/
/-! ## sorted(set(x)) of tuples of ints, x a list or a tuple -/
end
end DL
set_option maxHeartbeats 8000000
namespace PySem.W
open PySem PySem.Calls PyProof.Rows
section
variable {prog : Program} {w : World} {A : Around} {E : Value → Shared → Prop} {s : Shared}
theorem sortsAt_one {v : Value} {d : PyData} {as : List Addr} (r : Reads s.heap v d as) (hal : alike d d = true) (hn : d ≠ .none) (hu : A.units + d.depth < cLine) : SortsAt prog w A s (dataKind s.heap [d]) [v] := by
  have al : AllAlike [d] := fun x hx y hy => by
    simp only [List.mem_singleton] at hx hy
    subst hx
    subst hy
    exact hal
  refine ⟨fun u hu => ?_, general', ?_, fun h2 => absurd h2 (by simp)⟩
  · simp only [List.mem_singleton] at hu
    subst hu
    exact ⟨_, dataKind_some al (List.mem_singleton.mpr rfl) r⟩
  · intro E x y a b Q ha hb hq
    obtain ⟨d1, as1, hd1, ra, rfl⟩ := dataKind_inv ha
    obtain ⟨d2, as2, hd2, rb, rfl⟩ := dataKind_inv hb
    simp only [List.mem_singleton] at hd1 hd2
    subst hd1
    subst hd2
    show wpAny _ _ (oneLt' false x y) _ _ _
    exact oneLt_alike (fun h => nomatch h) ra rb hal hn (by rw [Nat.min_self]; exact hu) hq
theorem zeq {β : Type} {R : Value → β → Prop} {enc : β → PyData} {b : β} {v : Value} {l : Addr} {Q : Value → Shared → Prop} (hl : s.heap.IsList l [v].toArray) (e : EachIs R [v] [b]) (er : ∃ as, Reads s.heap v (enc b) as) (hal : alike (enc b) (enc b) = true) (hn : enc b ≠ .none)
    (hu : A.units + 2 + (enc b).depth < cLine) (h : ∀ out, out.length = 1 → EachIs R out ([b].mergeSort (dataLe false enc)) → Q (.ref (s.heap.objs.size + 1)) { s with heap := sortedAll s.heap [v] (List.toArray out) }) :
    wpAny (model prog w) A (call (.builtin "sorted") [.ref l]) Q E s := by
  obtain ⟨as, r⟩ := er
  have r' : Reads (sortingHeap (copyHeap s.heap [v]) (s.heap.objs.size + 1) [v]) v (enc b) as := PyProof.Rows.Reads.keeps (fun _ _ => sorting_copy_old) r
  have al : AllAlike ([b].map enc) := fun x hx y hy => by
    simp only [List.map_cons, List.map_nil, List.mem_singleton] at hx hy
    subst hx
    subst hy
    exact hal
  have er' : EachIs (fun u b => ∃ as, Reads (sortingHeap (copyHeap s.heap [v]) (s.heap.objs.size + 1) [v]) u (enc b) as) [v] [b] := .cons ⟨as, r'⟩ .nil
  exact sorted_vals hl (sortsAt_one (s := { s with heap := sortingHeap (copyHeap s.heap [v]) (s.heap.objs.size + 1) [v] }) r' hal hn (by show A.in1.in1.units + _ < cLine; exact hu)) (by show 1 ≤ sizeLine; unfold sizeLine; omega)
    (h _ (sortVals_length false rfl) (by exact sortVals_data (h' := sortingHeap (copyHeap s.heap [v]) (s.heap.objs.size + 1) [v]) false e er' al))
end
end PySem.W
namespace DL
open PySem PySem.Spec PyProof.Rows L2
variable [Mode]
section
variable {X : Cx} {W : WX} {e a b c : Expr} {es : List Expr} {pos p : Pos} {K : PySem.W.Frag} {ι : List Addr} {F H : Hp} {S : zae} {mg : Str → Option Value}
/-! ## sorted(x) of a list of one item, too -/
end
end DL
namespace DL
end DL
set_option maxHeartbeats 400000
namespace DL
open PySem PySem.Spec PyProof.Rows L2
/-! ## groups of equal cells: a case as the laws keep it -/
abbrev Cel := Nat × Nat
abbrev Grp := List Cel × List Int
abbrev Grps := List Grp
def Grps.has (G : Grps) (p : Cel) : Grp := (G.filter fun g => decide (p ∈ g.1)).headD ([], [])
def Grps.learn (G : Grps) (p : Cel) (v : Int) : Grps := G.map fun g => (g.1, if p ∈ g.1 then sset (g.2 ++ [v]) else g.2)
def Grps.join (G : Grps) (p q : Cel) : Grps := if G.has p = G.has q then G else (G.filter fun g => decide (g ≠ G.has p) && decide (g ≠ G.has q)) ++ [((G.has p).1 ++ (G.has q).1, sset ((G.has p).2 ++ (G.has q).2))]
def Grps.alike (G : Grps) (p q : Cel) : Bool := decide (G.has p = G.has q) || (G.has p).2.any fun v => decide (v ∈ (G.has q).2)
structure Rep (G : Grps) (c : Cas) : Prop where
  one : ∀ r k, r < c.n → k < c.cols.length → ∃ g ∈ G, (r, k) ∈ g.1
  inn : ∀ g ∈ G, ∀ p ∈ g.1, p.1 < c.n ∧ p.2 < c.cols.length
  ne : ∀ g ∈ G, g.1 ≠ []
  same : ∀ g ∈ G, ∀ p ∈ g.1, ∀ g' ∈ G, ∀ q ∈ g'.1, (g = g' ↔ c.at_ p.1 p.2 = c.at_ q.1 q.2)
  val : ∀ g ∈ G, ∀ p ∈ g.1, ∀ v, v ∈ g.2 ↔ v ∈ c.fact p.1 p.2
  srt : ∀ g ∈ G, g.2.Pairwise (· < ·)
section
variable {G : Grps} {c : Cas}
theorem Rep.has (h : Rep G c) {r k : Nat} (hr : r < c.n) (hk : k < c.cols.length) : G.has (r, k) ∈ G ∧ (r, k) ∈ (G.has (r, k)).1 := by
  obtain ⟨g, hg, hp⟩ := h.one r k hr hk
  unfold Grps.has
  cases e : G.filter fun g => decide ((r, k) ∈ g.1) with
  | nil =>
    have : g ∈ G.filter fun g => decide ((r, k) ∈ g.1) := List.mem_filter.mpr ⟨hg, decide_eq_true hp⟩
    rw [e] at this
    cases this
  | cons x xs =>
    have : x ∈ G.filter fun g => decide ((r, k) ∈ g.1) := by rw [e]; simp
    obtain ⟨h1, h2⟩ := List.mem_filter.mp this
    exact ⟨h1, of_decide_eq_true h2⟩
theorem Rep.eq (h : Rep G c) {r k r' k' : Nat} (hr : r < c.n) (hk : k < c.cols.length) (hr' : r' < c.n) (hk' : k' < c.cols.length) : G.has (r, k) = G.has (r', k') ↔ c.at_ r k = c.at_ r' k' := by
  obtain ⟨a, b⟩ := h.has hr hk
  obtain ⟨a', b'⟩ := h.has hr' hk'
  exact h.same _ a _ b _ a' _ b'
theorem Rep.mem (h : Rep G c) {r k : Nat} (hr : r < c.n) (hk : k < c.cols.length) (v : Int) : v ∈ (G.has (r, k)).2 ↔ v ∈ c.fact r k := by
  obtain ⟨a, b⟩ := h.has hr hk
  exact h.val _ a _ b v
theorem Rep.alike (h : Rep G c) {r k r' k' : Nat} (hr : r < c.n) (hk : k < c.cols.length) (hr' : r' < c.n) (hk' : k' < c.cols.length) : G.alike (r, k) (r', k') = c.alike r k r' k' := by
  unfold Grps.alike Cas.alike
  have e1 : decide (G.has (r, k) = G.has (r', k')) = decide (c.at_ r k = c.at_ r' k') := by rw [decide_eq_decide]; exact h.eq hr hk hr' hk'
  have e2 : ((G.has (r, k)).2.any fun v => decide (v ∈ (G.has (r', k')).2)) = (c.fact r k).any fun v => decide (v ∈ c.fact r' k') := by
    rw [Bool.eq_iff_iff]
    simp only [List.any_eq_true, decide_eq_true_eq]
    constructor
    · rintro ⟨v, a, b⟩; exact ⟨v, (h.mem hr hk v).mp a, (h.mem hr' hk' v).mp b⟩
    · rintro ⟨v, a, b⟩; exact ⟨v, (h.mem hr hk v).mpr a, (h.mem hr' hk' v).mpr b⟩
  rw [e1, e2]
theorem Rep.emp (h : Rep G c) {r k : Nat} (hr : r < c.n) (hk : k < c.cols.length) : (G.has (r, k)).2 = [] ↔ c.fact r k = [] := by
  constructor
  · intro e
    apply List.eq_nil_iff_forall_not_mem.mpr
    intro v hv
    have := (h.mem hr hk v).mpr hv
    rw [e] at this
    cases this
  · intro e
    apply List.eq_nil_iff_forall_not_mem.mpr
    intro v hv
    have := (h.mem hr hk v).mp hv
    rw [e] at this
    cases this
theorem Rep.learn (h : Rep G c) (ok : c.Ok) {r k : Nat} {v : Int} (hr : r < c.n) (hk : k < c.cols.length) : Rep (G.learn (r, k) v) (c.learn r k v) := by
  obtain ⟨a0, b0⟩ := h.has hr hk
  have iff_ : ∀ g ∈ G, ∀ p ∈ g.1, ((r, k) ∈ g.1 ↔ c.at_ p.1 p.2 = c.at_ r k) := fun g hg p hp => by
    constructor
    · intro hm
      exact (h.same g hg p hp g hg (r, k) hm).mp rfl
    · intro e
      have := (h.same g hg p hp _ a0 (r, k) b0).mpr e
      rw [this]; exact b0
  constructor
  · intro r' k' hr' hk'
    rw [learn_n] at hr'
    rw [zhc] at hk'
    obtain ⟨g, hg, hp⟩ := h.one r' k' hr' hk'
    exact ⟨_, List.mem_map.mpr ⟨g, hg, rfl⟩, hp⟩
  · intro x hx p hp
    obtain ⟨g, hg, rfl⟩ := List.mem_map.mp hx
    rw [learn_n, zhc]
    exact h.inn g hg p hp
  · intro x hx
    obtain ⟨g, hg, rfl⟩ := List.mem_map.mp hx
    exact h.ne g hg
  · intro x hx p hp x' hx' q hq
    obtain ⟨g, hg, rfl⟩ := List.mem_map.mp hx
    obtain ⟨g', hg', rfl⟩ := List.mem_map.mp hx'
    rw [ze6, ze6, ← h.same g hg p hp g' hg' q hq]
    constructor
    · intro e
      have e1 : g.1 = g'.1 := (Prod.mk.inj e).1
      have hp' : p ∈ g'.1 := by rw [← e1]; exact hp
      exact (h.same g hg p hp g' hg' p hp').mpr rfl
    · intro e; rw [e]
  · intro x hx p hp u
    obtain ⟨g, hg, rfl⟩ := List.mem_map.mp hx
    obtain ⟨i1, i2⟩ := h.inn g hg p hp
    rw [zjp ok hr hk, ← h.val g hg p hp u]
    have q := iff_ g hg p hp
    show u ∈ (if (r, k) ∈ g.1 then sset (g.2 ++ [v]) else g.2) ↔ _
    by_cases hm : (r, k) ∈ g.1
    · rw [if_pos hm, zdg]
      simp only [List.mem_append, List.mem_singleton, q.mp hm, true_and]
    · rw [if_neg hm]
      have : ¬ c.at_ p.1 p.2 = c.at_ r k := fun e => hm (q.mpr e)
      simp only [this, false_and, or_false]
  · intro x hx
    obtain ⟨g, hg, rfl⟩ := List.mem_map.mp hx
    show (if (r, k) ∈ g.1 then sset (g.2 ++ [v]) else g.2).Pairwise (· < ·)
    split
    · exact zcw _
    · exact h.srt g hg
theorem Rep.join (h : Rep G c) (ok : c.Ok) {r k r' k' : Nat} (hr : r < c.n) (hk : k < c.cols.length) (hr' : r' < c.n) (hk' : k' < c.cols.length) : Rep (G.join (r, k) (r', k')) (c.join r k r' k') := by
  by_cases e : c.at_ r k = c.at_ r' k'
  · have q : c.join r k r' k' = c := by unfold Cas.join; rw [if_pos e]
    unfold Grps.join
    rw [if_pos ((h.eq hr hk hr' hk').mpr e), q]
    exact h
  · have j := join_is ok hr hk hr' hk' e
    have hne : ¬ G.has (r, k) = G.has (r', k') := fun q => e ((h.eq hr hk hr' hk').mp q)
    obtain ⟨a, b⟩ := h.has hr hk
    obtain ⟨a', b'⟩ := h.has hr' hk'
    unfold Grps.join
    rw [if_neg hne]
    -- what a cell's label is now
    have at1 : ∀ g ∈ G, ∀ p ∈ g.1, (c.join r k r' k').at_ p.1 p.2 = if g = G.has (r', k') then c.at_ r k else c.at_ p.1 p.2 := fun g hg p hp => by
      obtain ⟨i1, i2⟩ := h.inn g hg p hp
      rw [j.at_ p.1 p.2 i1 i2]
      have := h.same g hg p hp _ a' _ b'
      by_cases q : g = G.has (r', k')
      · rw [if_pos q, if_pos (this.mp q)]
      · rw [if_neg q, if_neg (fun z => q (this.mpr z))]
    have atA : ∀ p ∈ (G.has (r, k)).1, c.at_ p.1 p.2 = c.at_ r k := fun p hp => (h.same _ a p hp _ a _ b).mp rfl
    have atB : ∀ p ∈ (G.has (r', k')).1, c.at_ p.1 p.2 = c.at_ r' k' := fun p hp => (h.same _ a' p hp _ a' _ b').mp rfl
    have new1 : ∀ p ∈ (G.has (r, k)).1 ++ (G.has (r', k')).1, (c.join r k r' k').at_ p.1 p.2 = c.at_ r k := fun p hp => by
      rcases List.mem_append.mp hp with hp | hp
      · rw [at1 _ a p hp, if_neg hne]; exact atA p hp
      · rw [at1 _ a' p hp, if_pos rfl]
    have old : ∀ g, g ∈ (G.filter fun g => decide (g ≠ G.has (r, k)) && decide (g ≠ G.has (r', k'))) ↔ g ∈ G ∧ g ≠ G.has (r, k) ∧ g ≠ G.has (r', k') := fun g => by
      rw [List.mem_filter, Bool.and_eq_true, decide_eq_true_eq, decide_eq_true_eq]
    have oldat : ∀ g, g ∈ G → g ≠ G.has (r, k) → g ≠ G.has (r', k') → ∀ p ∈ g.1, (c.join r k r' k').at_ p.1 p.2 = c.at_ p.1 p.2 ∧ c.at_ p.1 p.2 ≠ c.at_ r k := fun g hg n1 n2 p hp => by
      refine ⟨by rw [at1 g hg p hp, if_neg n2], fun z => n1 ((h.same g hg p hp _ a _ b).mpr z)⟩
    have fc : ∀ p : Cel, ∀ u, u ∈ (c.join r k r' k').fact p.1 p.2 ↔ u ∈ c.facts.getD ((c.join r k r' k').at_ p.1 p.2) [] ∨ ((c.join r k r' k').at_ p.1 p.2 = c.at_ r k ∧ u ∈ c.facts.getD (c.at_ r' k') []) := fun p u => j.mem _ u
    constructor
    · intro s l hs hl
      rw [j.n] at hs
      rw [j.cols] at hl
      obtain ⟨g, hg, hp⟩ := h.one s l hs hl
      by_cases n1 : g = G.has (r, k)
      · exact ⟨_, List.mem_append_right _ (List.mem_singleton.mpr rfl), List.mem_append_left _ (by rw [← n1]; exact hp)⟩
      · by_cases n2 : g = G.has (r', k')
        · exact ⟨_, List.mem_append_right _ (List.mem_singleton.mpr rfl), List.mem_append_right _ (by rw [← n2]; exact hp)⟩
        · exact ⟨g, List.mem_append_left _ ((old g).mpr ⟨hg, n1, n2⟩), hp⟩
    · intro g hg p hp
      rw [j.n, j.cols]
      rcases List.mem_append.mp hg with hg | hg
      · exact h.inn g ((old g).mp hg).1 p hp
      · rw [List.mem_singleton] at hg
        subst hg
        rcases List.mem_append.mp hp with hp | hp
        · exact h.inn _ a p hp
        · exact h.inn _ a' p hp
    · intro g hg
      rcases List.mem_append.mp hg with hg | hg
      · exact h.ne g ((old g).mp hg).1
      · rw [List.mem_singleton] at hg
        subst hg
        intro z
        have := h.ne _ a
        exact this (List.append_eq_nil_iff.mp z).1
    · intro g hg p hp g' hg' q hq
      rcases List.mem_append.mp hg with hg | hg
      · obtain ⟨g1, g2, g3⟩ := (old g).mp hg
        obtain ⟨o1, o2⟩ := oldat g g1 g2 g3 p hp
        rcases List.mem_append.mp hg' with hg' | hg'
        · obtain ⟨k1, k2, k3⟩ := (old g').mp hg'
          obtain ⟨o3, o4⟩ := oldat g' k1 k2 k3 q hq
          rw [o1, o3]
          exact h.same g g1 p hp g' k1 q hq
        · rw [List.mem_singleton] at hg'
          subst hg'
          rw [new1 q hq, o1]
          refine ⟨fun z => ?_, fun z => absurd z o2⟩
          exfalso
          have b2 : (r, k) ∈ g.1 := by rw [z]; exact List.mem_append_left _ b
          exact g2 ((h.same g g1 _ b2 _ a _ b).mpr rfl)
      · rw [List.mem_singleton] at hg
        subst hg
        rcases List.mem_append.mp hg' with hg' | hg'
        · obtain ⟨k1, k2, k3⟩ := (old g').mp hg'
          obtain ⟨o3, o4⟩ := oldat g' k1 k2 k3 q hq
          rw [new1 p hp, o3]
          refine ⟨fun z => ?_, fun z => absurd z.symm o4⟩
          exfalso
          have b2 : (r, k) ∈ g'.1 := by rw [← z]; exact List.mem_append_left _ b
          exact k2 ((h.same g' k1 _ b2 _ a _ b).mpr rfl)
        · rw [List.mem_singleton] at hg'
          subst hg'
          rw [new1 p hp, new1 q hq]
          exact ⟨fun _ => rfl, fun _ => rfl⟩
    · intro g hg p hp u
      rcases List.mem_append.mp hg with hg | hg
      · obtain ⟨g1, g2, g3⟩ := (old g).mp hg
        obtain ⟨o1, o2⟩ := oldat g g1 g2 g3 p hp
        rw [fc p u, o1, h.val g g1 p hp u]
        constructor
        · intro z; exact .inl z
        · rintro (z | ⟨z, _⟩)
          · exact z
          · exact absurd z o2
      · rw [List.mem_singleton] at hg
        subst hg
        show u ∈ sset ((G.has (r, k)).2 ++ (G.has (r', k')).2) ↔ _
        rw [fc p u, new1 p hp, zdg, List.mem_append, h.mem hr hk u, h.mem hr' hk' u]
        simp only [true_and]
        rfl
    · intro g hg
      rcases List.mem_append.mp hg with hg | hg
      · exact h.srt g ((old g).mp hg).1
      · rw [List.mem_singleton] at hg
        subst hg
        exact zcw _
def Grps.clash (G : Grps) (cols : List (Option (List Int))) : Bool := G.any fun g => decide (1 < g.2.length) || g.1.any fun p => g.2.any fun v => !decide (v ∈ (cols.getD p.2 none).getD g.2)
theorem Rep.len (h : Rep G c) {B : Int} (f : c.Fine B) {g : Grp} (hg : g ∈ G) {p : Cel} (hp : p ∈ g.1) : g.2.length = (c.fact p.1 p.2).length := by
  have n1 : g.2.Nodup := (h.srt g hg).imp fun x => by omega
  exact ((List.perm_ext_iff_of_nodup n1 (f.nd _)).mpr (h.val g hg p hp)).length_eq
theorem Rep.clash (h : Rep G c) {B : Int} (f : c.Fine B) : G.clash c.cols = c.clash := by
  rw [Bool.eq_iff_iff]
  unfold Grps.clash Cas.clash
  simp only [List.any_eq_true, Bool.or_eq_true, decide_eq_true_eq, Bool.not_eq_true', decide_eq_false_iff_not]
  constructor
  · rintro ⟨g, hg, q⟩
    have two : ∃ p ∈ g.1, c.badAt p.1 p.2 = true := by
      rcases q with q | ⟨p, hp, v, hv, q⟩
      · obtain ⟨p, ps, e⟩ : ∃ p ps, g.1 = p :: ps := by
          cases e : g.1 with
          | nil => exact absurd e (h.ne g hg)
          | cons p ps => exact ⟨p, ps, rfl⟩
        have hp : p ∈ g.1 := by rw [e]; simp
        refine ⟨p, hp, ?_⟩
        unfold Cas.badAt
        have := h.len f hg hp
        have : 1 < (c.fact p.1 p.2).length := by omega
        simp [this]
      · refine ⟨p, hp, ?_⟩
        unfold Cas.badAt
        have hv2 := (h.val g hg p hp v).mp hv
        cases e : c.cols.getD p.2 none with
        | none => rw [e] at q; exact absurd hv q
        | some ns =>
          rw [e] at q
          simp only [Bool.or_eq_true]
          right
          exact List.any_eq_true.mpr ⟨v, hv2, by simpa using q⟩
    obtain ⟨p, hp, q⟩ := two
    obtain ⟨i1, i2⟩ := h.inn g hg p hp
    exact ⟨p, mem_cellNs.mpr ⟨i1, i2⟩, q⟩
  · rintro ⟨⟨r, k⟩, hp, q⟩
    obtain ⟨hr, hk⟩ := mem_cellNs.mp hp
    obtain ⟨a, b⟩ := h.has hr hk
    refine ⟨_, a, ?_⟩
    unfold Cas.badAt at q
    rw [Bool.or_eq_true] at q
    rcases q with q | q
    · left
      have l : (G.has (r, k)).2.length = (c.fact r k).length := h.len f a b
      rw [l]
      simpa using q
    · right
      refine ⟨(r, k), b, ?_⟩
      cases e : c.cols.getD k none with
      | none => rw [e] at q; simp at q
      | some ns =>
        rw [e] at q
        obtain ⟨v, hv, q⟩ := List.any_eq_true.mp q
        exact ⟨v, (h.mem hr hk v).mpr hv, by simpa using q⟩
def Grps.goal (G : Grps) : Goal → Bool
  | .no => false
  | .val r k v => decide (v ∈ (G.has (r, k)).2)
  | .eq r k r' k' => G.alike (r, k) (r', k')
theorem Rep.goal (h : Rep G c) {g : Goal} (hg : okGoal c.n c.cols.length g) : G.goal g = c.goal g := by
  cases g with
  | no => rfl
  | val r k v => show decide _ = decide _; rw [decide_eq_decide]; exact h.mem hg.1 hg.2 v
  | eq r k r' k' => exact h.alike hg.1.1 hg.1.2 hg.2.1 hg.2.2
def Grps.can (G : Grps) (g : Gv) (lines : List Nat) : Bool := g.all fun p => match p.2 with
  | none => G.alike (0, p.1) (1, p.1)
  | some v => lines.all fun r => decide (v ∈ (G.has (r, p.1)).2)
theorem Rep.canStep (h : Rep G c) {t : Ru} (ht : okRu c.cols.length t) {r : Nat} (hr : r < c.n) {w : Int} (hw : t.2.2 = some w) (full : ∀ p ∈ t.1, p.2 ≠ none) : G.can t.1 [r] = c.canStep t r := by
  unfold Grps.can Cas.canStep
  rw [hw]
  simp only [Option.isSome_some, Bool.true_and]
  rw [Bool.eq_iff_iff, List.all_eq_true, List.all_eq_true]
  refine forall_congr' fun p => forall_congr' fun hp => ?_
  unfold Cas.entS
  cases e : p.2 with
  | none => exact absurd e (full p hp)
  | some v =>
    simp only [List.all_cons, List.all_nil, Bool.and_true, decide_eq_true_eq]
    exact h.mem hr (ht.g p hp) v
theorem Rep.canJoin (h : Rep G c) {t : Ru} (ht : okRu c.cols.length t) (n2 : c.n = 2) (hw : t.2.2 = none) : G.can t.1 [0, 1] = c.canJoin t := by
  unfold Grps.can Cas.canJoin
  rw [hw]
  simp only [Option.isNone_none, Bool.true_and, n2, decide_true]
  rw [Bool.eq_iff_iff, List.all_eq_true, List.all_eq_true]
  refine forall_congr' fun p => forall_congr' fun hp => ?_
  unfold Cas.entJ
  have hp1 := ht.g p hp
  cases e : p.2 with
  | none => rw [h.alike (by omega) hp1 (by omega) hp1]
  | some v =>
    simp only [List.all_cons, List.all_nil, Bool.and_true, Bool.and_eq_true, decide_eq_true_eq]
    rw [h.mem (by omega) hp1 v, h.mem (by omega) hp1 v]
end
end DL
set_option maxHeartbeats 400000
namespace DL
open PySem PySem.Spec PyProof.Rows L2
/-! ## what is left when only some cells are split -/
def InColsS (n : Nat) (cols : List (Option (List Int))) (cells : List Cel) (B : Int) (M : Nat → Nat → Int) : Prop := ∀ r k ns, r < n → k < cols.length → cols.getD k none = some ns → M r k ∈ ns ∨ ((r, k) ∉ cells ∧ B ≤ M r k)
def Open (ts : List Ru) (g : Goal) (cells : List Cel) (B : Int) (c : Cas) : Prop := ∃ M, c.Sat M ∧ (∀ t ∈ ts, Keep c.n M t) ∧ InColsS c.n c.cols cells B M ∧ ¬ GoalH M g
end DL
set_option maxHeartbeats 400000
namespace DL
open PySem PySem.Spec PyProof.Rows L2
/-! ## all steps and joins, as the laws make them -/
structure Inv (cols : List (Option (List Int))) (n : Nat) (V : List Int) (B : Int) (c : Cas) : Prop where
  ok : c.Ok
  fine : c.Fine B
  vs : c.In V
  co : c.cols = cols
  nn : c.n = n
section
variable {cols : List (Option (List Int))} {n : Nat} {V : List Int} {B : Int} {c d e : Cas}
theorem Inv.learn (I : Inv cols n V B c) (hV : V.length ≤ 32) {r k : Nat} {v : Int} (hr : r < n) (hk : k < cols.length) (hv : v ∈ V) (hb : v < B) : Inv cols n V B (c.learn r k v) := by
  have hr' : r < c.n := by rw [I.nn]; exact hr
  have hk' : k < c.cols.length := by rw [I.co]; exact hk
  refine ⟨I.ok.learn hr' hk' ?_, I.fine.learn I.ok hr' hk' hb, fun l u hu => ?_, (zhc ..).trans I.co, (learn_n ..).trans I.nn⟩
  · have := I.vs.len I.fine (c.at_ r k)
    unfold Cas.fact
    omega
  · rw [zb9 c r k v (I.ok.lt hr' hk')] at hu
    split at hu
    · rcases List.mem_append.mp hu with q | q
      · exact I.vs l u q
      · rw [List.mem_singleton] at q; rw [q]; exact hv
    · exact I.vs l u hu
theorem Inv.join (I : Inv cols n V B c) (hV : V.length ≤ 32) {r k r' k' : Nat} (hr : r < n) (hk : k < cols.length) (hr' : r' < n) (hk' : k' < cols.length) : Inv cols n V B (c.join r k r' k') := by
  have a1 : r < c.n := by rw [I.nn]; exact hr
  have a2 : k < c.cols.length := by rw [I.co]; exact hk
  have a3 : r' < c.n := by rw [I.nn]; exact hr'
  have a4 : k' < c.cols.length := by rw [I.co]; exact hk'
  by_cases e : c.at_ r k = c.at_ r' k'
  · have q : c.join r k r' k' = c := by unfold Cas.join; rw [if_pos e]
    rw [q]; exact I
  · have j := join_is I.ok a1 a2 a3 a4 e
    have s1 := I.vs.len I.fine (c.at_ r k)
    have s2 := I.vs.len I.fine (c.at_ r' k')
    refine ⟨j.ok I.ok (I.ok.lt a1 a2) (by omega), I.fine.join I.ok a1 a2 a3 a4, fun l u hu => ?_, j.cols.trans I.co, j.n.trans I.nn⟩
    rcases (j.mem l u).mp hu with q | ⟨_, q⟩
    · exact I.vs _ _ q
    · exact I.vs _ _ q
structure Mono (n m : Nat) (c d : Cas) : Prop where
  kn : ∀ r k, r < n → k < m → ∀ v ∈ c.fact r k, v ∈ d.fact r k
  eq : ∀ r k r' k', r < n → k < m → r' < n → k' < m → c.at_ r k = c.at_ r' k' → d.at_ r k = d.at_ r' k'
theorem Mono.refl (n m : Nat) (c : Cas) : Mono n m c c := ⟨fun _ _ _ _ _ h => h, fun _ _ _ _ _ _ _ _ h => h⟩
theorem Mono.trans {m : Nat} (a : Mono n m c d) (b : Mono n m d e) : Mono n m c e := ⟨fun r k hr hk v hv => b.kn r k hr hk v (a.kn r k hr hk v hv), fun r k r' k' h1 h2 h3 h4 h => b.eq r k r' k' h1 h2 h3 h4 (a.eq r k r' k' h1 h2 h3 h4 h)⟩
def EqS (ts : List Ru) (n : Nat) (c d : Cas) : Prop := ∀ M, (∀ t ∈ ts, Keep n M t) → (d.Sat M ↔ c.Sat M)
theorem EqS.refl (ts : List Ru) (n : Nat) (c : Cas) : EqS ts n c c := fun _ _ => Iff.rfl
theorem EqS.trans {ts : List Ru} (a : EqS ts n c d) (b : EqS ts n d e) : EqS ts n c e := fun M k => (b M k).trans (a M k)
structure Went (ts : List Ru) (cols : List (Option (List Int))) (n : Nat) (V : List Int) (B : Int) (c : Cas) (G' : Grps) (d : Cas) : Prop where
  rep : Rep G' d
  inv : Inv cols n V B d
  eqs : EqS ts n c d
  mono : Mono n cols.length c d
theorem Went.trans {ts : List Ru} {G1 G2 : Grps} (a : Went ts cols n V B c G1 d) (b : Went ts cols n V B d G2 e) : Went ts cols n V B c G2 e := ⟨b.rep, b.inv, a.eqs.trans b.eqs, a.mono.trans b.mono⟩
def Grps.stepR (t : Ru) (w : Int) (G : Grps) (r : Nat) : Grps := if G.can t.1 [r] = true then G.learn (r, t.2.1) w else G
def Grps.roundR (n : Nat) (G : Grps) (t : Ru) : Grps := match t.2.2 with
  | none => if n = 2 ∧ G.can t.1 [0, 1] = true then G.join (0, t.2.1) (1, t.2.1) else G
  | some w => (List.range n).foldl (Grps.stepR t w) G
def Grps.round (ts : List Ru) (n : Nat) (G : Grps) : Grps := ts.foldl (Grps.roundR n) G
structure RulesV (ts : List Ru) (m : Nat) (V : List Int) (B : Int) : Prop where
  ok : ∀ t ∈ ts, okRu m t
  v : ∀ t ∈ ts, ∀ w, t.2.2 = some w → w ∈ V ∧ w < B
  full : ∀ t ∈ ts, t.2.2.isSome = true → ∀ p ∈ t.1, p.2 ≠ none
def Grps.chase (ts : List Ru) (n : Nat) : Nat → Grps → Grps
  | 0, G => G
  | k + 1, G => if G.round ts n = G then G else Grps.chase ts n k (G.round ts n)
end
end DL
set_option maxHeartbeats 400000
namespace DL
open PySem PySem.Spec PyProof.Rows L2
/-! ## the chase comes to rest -/
def opsOf (n : Nat) (t : Ru) : List (Ru × Nat) := match t.2.2 with
  | some _ => (List.range n).map fun r => (t, r)
  | none => if n = 2 then [(t, 0)] else []
def Grps.op (G : Grps) (o : Ru × Nat) : Grps := match o.1.2.2 with
  | some w => G.stepR o.1 w o.2
  | none => if G.can o.1.1 [0, 1] = true then G.join (0, o.1.2.1) (1, o.1.2.1) else G
def Cas.canO (c : Cas) (o : Ru × Nat) : Bool := match o.1.2.2 with
  | some _ => c.canStep o.1 o.2
  | none => c.canJoin o.1
def Cas.doneO (c : Cas) (o : Ru × Nat) : Bool := match o.1.2.2 with
  | some w => decide (w ∈ c.fact o.2 o.1.2.1)
  | none => decide (c.at_ 0 o.1.2.1 = c.at_ 1 o.1.2.1)
section
variable {cols : List (Option (List Int))} {n : Nat} {V : List Int} {B : Int} {c d e : Cas} {ts : List Ru}
theorem mem_ops {o : Ru × Nat} : o ∈ ts.flatMap (opsOf n) ↔ o.1 ∈ ts ∧ ((∃ w, o.1.2.2 = some w ∧ o.2 < n) ∨ (o.1.2.2 = none ∧ n = 2 ∧ o.2 = 0)) := by
  rw [List.mem_flatMap]
  obtain ⟨t, r⟩ := o
  constructor
  · rintro ⟨u, hu, h⟩
    unfold opsOf at h
    cases e : u.2.2 with
    | some w =>
      rw [e] at h
      simp only [List.mem_map, List.mem_range, Prod.mk.injEq] at h
      obtain ⟨a, ha, rfl, rfl⟩ := h
      exact ⟨hu, .inl ⟨w, e, ha⟩⟩
    | none =>
      rw [e] at h
      simp only at h
      split at h
      · rename_i n2
        simp only [List.mem_singleton, Prod.mk.injEq] at h
        obtain ⟨rfl, rfl⟩ := h
        exact ⟨hu, .inr ⟨e, n2, rfl⟩⟩
      · cases h
  · rintro ⟨hu, h⟩
    refine ⟨t, hu, ?_⟩
    unfold opsOf
    rcases h with ⟨w, e, h⟩ | ⟨e, n2, h⟩
    · simp only at e h
      rw [e]
      simp only [List.mem_map, List.mem_range, Prod.mk.injEq, true_and]
      exact ⟨r, h, rfl⟩
    · simp only at e h
      rw [e]
      subst h
      simp [n2]
theorem Mono.canO (m : Mono n cols.length c d) (Ic : Inv cols n V B c) (Id : Inv cols n V B d) {o : Ru × Nat} (ho : o ∈ ts.flatMap (opsOf n)) (hts : RulesV ts cols.length V B) (h : c.canO o = true) : d.canO o = true := by
  obtain ⟨hm, q⟩ := mem_ops.mp ho
  have ht := hts.ok _ hm
  unfold Cas.canO at h ⊢
  rcases q with ⟨w, e, hr⟩ | ⟨e, n2, _⟩
  · rw [e] at h ⊢
    simp only at h ⊢
    unfold Cas.canStep at h ⊢
    rw [Bool.and_eq_true, List.all_eq_true] at h ⊢
    refine ⟨h.1, fun p hp => ?_⟩
    have := h.2 p hp
    unfold Cas.entS at this ⊢
    cases q : p.2 with
    | none => exact absurd q (hts.full _ hm (by rw [e]; rfl) p hp)
    | some v =>
      rw [q] at this
      simp only [decide_eq_true_eq] at this ⊢
      exact m.kn _ _ hr (ht.g p hp) v this
  · rw [e] at h ⊢
    simp only at h ⊢
    unfold Cas.canJoin at h ⊢
    rw [Bool.and_eq_true, Bool.and_eq_true, List.all_eq_true] at h ⊢
    refine ⟨h.1, by rw [Id.nn]; exact decide_eq_true n2, fun p hp => ?_⟩
    have hp1 := ht.g p hp
    have := h.2.2 p hp
    unfold Cas.entJ at this ⊢
    cases q : p.2 with
    | none =>
      rw [q] at this
      simp only at this ⊢
      unfold Cas.alike at this ⊢
      rw [Bool.or_eq_true, decide_eq_true_eq, List.any_eq_true] at this ⊢
      rcases this with z | ⟨v, hv, z⟩
      · exact .inl (m.eq 0 p.1 1 p.1 (by omega) hp1 (by omega) hp1 z)
      · refine .inr ⟨v, m.kn 0 p.1 (by omega) hp1 v hv, ?_⟩
        rw [decide_eq_true_eq] at z ⊢
        exact m.kn 1 p.1 (by omega) hp1 v z
    | some v =>
      rw [q] at this
      simp only [Bool.and_eq_true, decide_eq_true_eq] at this ⊢
      exact ⟨m.kn 0 p.1 (by omega) hp1 v this.1, m.kn 1 p.1 (by omega) hp1 v this.2⟩
theorem Mono.doneO (m : Mono n cols.length c d) {o : Ru × Nat} (ho : o ∈ ts.flatMap (opsOf n)) (hts : RulesV ts cols.length V B) (h : c.doneO o = true) : d.doneO o = true := by
  obtain ⟨hm, q⟩ := mem_ops.mp ho
  have ht := hts.ok _ hm
  unfold Cas.doneO at h ⊢
  rcases q with ⟨w, e, hr⟩ | ⟨e, n2, _⟩
  · rw [e] at h ⊢
    simp only [decide_eq_true_eq] at h ⊢
    exact m.kn _ _ hr ht.c w h
  · rw [e] at h ⊢
    simp only [decide_eq_true_eq] at h ⊢
    exact m.eq 0 _ 1 _ (by omega) ht.c (by omega) ht.c h
structure OpW (ts : List Ru) (cols : List (Option (List Int))) (n : Nat) (V : List Int) (B : Int) (c : Cas) (G : Grps) (os : List (Ru × Nat)) (G' : Grps) (d : Cas) : Prop where
  went : Went ts cols n V B c G' d
  aft : ∀ o ∈ os, c.canO o = true → d.doneO o = true
  new : G' = G ∨ ∃ o ∈ ts.flatMap (opsOf n), c.doneO o = false ∧ d.doneO o = true
end
end DL
set_option maxHeartbeats 400000
namespace DL
open PySem PySem.Spec PyProof.Rows L2
/-! ## whether a case stays open, as the laws ask it -/
section
variable {cols : List (Option (List Int))} {n : Nat} {V : List Int} {B : Int} {c d e : Cas} {ts : List Ru} {g : Goal} {cells : List Cel}
theorem Open.went {G : Grps} (I : Inv cols n V B c) (a : Went ts cols n V B c G d) : Open ts g cells B d ↔ Open ts g cells B c := by
  have n1 : d.n = c.n := by rw [I.nn, a.inv.nn]
  have c1 : d.cols = c.cols := by rw [I.co, a.inv.co]
  unfold Open
  rw [n1, c1]
  constructor
  · rintro ⟨M, s, k, i, h⟩
    exact ⟨M, (a.eqs M (by rw [← I.nn]; exact k)).mp s, k, i, h⟩
  · rintro ⟨M, s, k, i, h⟩
    exact ⟨M, (a.eqs M (by rw [← I.nn]; exact k)).mpr s, k, i, h⟩
theorem Rep.unknown {G : Grps} (h : Rep G c) (hc : Closed c.n c.cols cells) : (cells.find? fun p => (G.has p).2.isEmpty) = c.unknown cells := by
  unfold Cas.unknown
  have : ∀ p ∈ cells, (G.has p).2.isEmpty = (c.fact p.1 p.2).isEmpty := fun p hp => by
    obtain ⟨h1, h2, _⟩ := hc p hp
    rw [Bool.eq_iff_iff, List.isEmpty_iff, List.isEmpty_iff]
    exact h.emp h1 h2
  clear hc
  induction cells with
  | nil => rfl
  | cons p ps ih =>
    rw [List.find?_cons, List.find?_cons, this p (by simp), ih fun x hx => this x (by simp [hx])]
end
end DL
set_option maxHeartbeats 400000
namespace DL
open PySem PySem.Spec PyProof.Rows L2
/-! ## groups stay small -/
def gW (g : Grp) : Nat := g.1.length + 1
def Tidy (N : Nat) (G : Grps) : Prop := (G.map gW).sum ≤ N
theorem sum_two {α : Type} (f : α → Nat) (q p : α → Bool) : ∀ {l : List α}, (∀ x ∈ l, q x = true → p x = true) → ((l.filter q).map f).sum ≤ ((l.filter p).map f).sum
  | [], _ => by simp
  | y :: l, h => by
    have ih := sum_two f q p (l := l) fun x hx => h x (by simp [hx])
    cases e : p y with
    | true =>
      rw [List.filter_cons_of_pos (p := p) (by rw [e]), List.map_cons, List.sum_cons]
      cases e2 : q y with
      | true => rw [List.filter_cons_of_pos (p := q) (by rw [e2]), List.map_cons, List.sum_cons]; omega
      | false => rw [List.filter_cons_of_neg (p := q) (by rw [e2]; decide)]; omega
    | false =>
      have e2 : q y = false := by
        cases e2 : q y with
        | false => rfl
        | true => rw [h y (by simp) e2] at e; cases e
      rw [List.filter_cons_of_neg (p := p) (by rw [e]; decide), List.filter_cons_of_neg (p := q) (by rw [e2]; decide)]
      exact ih
theorem zla {α : Type} (f : α → Nat) (q p : α → Bool) (a : α) (hp : p a = true) (hq : q a = false) : ∀ {l : List α}, (∀ x ∈ l, q x = true → p x = true) → a ∈ l → ((l.filter q).map f).sum + f a ≤ ((l.filter p).map f).sum
  | [], _, h => by cases h
  | y :: l, hh, h => by
    have hl : ∀ x ∈ l, q x = true → p x = true := fun x hx => hh x (by simp [hx])
    rcases List.mem_cons.mp h with z | z
    · subst z
      have := sum_two f q p hl
      rw [List.filter_cons_of_pos (p := p) (by rw [hp]), List.map_cons, List.sum_cons, List.filter_cons_of_neg (p := q) (by rw [hq]; decide)]
      omega
    · have ih := zla f q p a hp hq hl z
      cases e : p y with
      | true =>
        rw [List.filter_cons_of_pos (p := p) (by rw [e]), List.map_cons, List.sum_cons]
        cases e2 : q y with
        | true => rw [List.filter_cons_of_pos (p := q) (by rw [e2]), List.map_cons, List.sum_cons]; omega
        | false => rw [List.filter_cons_of_neg (p := q) (by rw [e2]; decide)]; omega
      | false =>
        have e2 : q y = false := by
          cases e2 : q y with
          | false => rfl
          | true => rw [hh y (by simp) e2] at e; cases e
        rw [List.filter_cons_of_neg (p := p) (by rw [e]; decide), List.filter_cons_of_neg (p := q) (by rw [e2]; decide)]
        exact ih
theorem zgr {α : Type} (f : α → Nat) (p : α → Bool) : ∀ l : List α, ((l.filter p).map f).sum ≤ (l.map f).sum
  | [] => by simp
  | y :: l => by
    have := zgr f p l
    rw [List.filter_cons, List.map_cons, List.sum_cons]
    split
    · rw [List.map_cons, List.sum_cons]; omega
    · omega
theorem Tidy.learn {N : Nat} {G : Grps} (h : Tidy N G) (p : Cel) (v : Int) : Tidy N (G.learn p v) := by
  unfold Tidy Grps.learn at *
  rw [List.map_map]
  exact h
theorem Tidy.join {N : Nat} {G : Grps} (h : Tidy N G) {p q : Cel} (hp : G.has p ∈ G) (hq : G.has q ∈ G) : Tidy N (G.join p q) := by
  unfold Grps.join
  by_cases e : G.has p = G.has q
  · rw [if_pos e]; exact h
  · rw [if_neg e]
    unfold Tidy at *
    rw [List.map_append, List.sum_append, List.map_singleton, List.sum_singleton]
    have a := zla gW (fun x => decide (x ≠ G.has p) && decide (x ≠ G.has q)) (fun x => decide (x ≠ G.has q)) (G.has p) (by simpa using e) (by simp) (l := G) (fun x _ z => (Bool.and_eq_true _ _ ▸ z : _ ∧ _).2) hp
    have b := zla gW (fun x => decide (x ≠ G.has q)) (fun _ => true) (G.has q) rfl (by simp) (l := G) (fun _ _ _ => rfl) hq
    have c := zgr gW (fun _ => true) G
    have w1 : gW ((G.has p).1 ++ (G.has q).1, sset ((G.has p).2 ++ (G.has q).2)) = (G.has p).1.length + (G.has q).1.length + 1 := by unfold gW; rw [List.length_append]
    rw [w1]
    unfold gW at a b c h ⊢
    omega
theorem Tidy.len {N : Nat} {G : Grps} (h : Tidy N G) : G.length ≤ N := by
  have : ∀ l : Grps, l.length ≤ (l.map gW).sum := fun l => by
    induction l with
    | nil => simp
    | cons y l ih => rw [List.map_cons, List.sum_cons, List.length_cons]; unfold gW at *; omega
  exact Nat.le_trans (this G) h
end DL
set_option maxHeartbeats 400000
namespace DL
open PySem PySem.Spec PyProof.Rows L2
/-! ## the case of a rule, as groups -/
structure RepI (cols : List (Option (List Int))) (n : Nat) (V : List Int) (B : Int) (N : Nat) (G : Grps) (c : Cas) : Prop where
  rep : Rep G c
  inv : Inv cols n V B c
  tid : Tidy N G
section
variable {cols : List (Option (List Int))} {n N : Nat} {V : List Int} {B : Int}
end
end DL
set_option maxHeartbeats 4000000
namespace DL
open PySem PySem.Spec PyProof.Rows L2
variable [Mode]
section
variable {X : Cx} {W : WX} {e a b c : Expr} {es : List Expr} {pos p pos2 : Pos} {K : PySem.W.Frag} {ι : List Addr} {F H : Hp} {S : zae} {mg : Str → Option Value}
/-! ## tuple(range(n)) -/
end
end DL
set_option maxHeartbeats 4000000
namespace PySem
namespace DLZip
open Sem (wp)
section
variable {prog : Program} {w : World} {A : Around} {E : Value → Shared → Prop} {s : Shared} {z TI TO T i1 i2 : Addr} {fp1 fp2 : List Addr} {n1 n2 i : Nat} {P1 P2 : Nat → Value → Prop} {St1 St2 : Nat → Heap → Prop}
theorem next_held {f : Bool} {oT : Obj} {Q : Value → Shared → Prop} (S : ZipSep2 z TI TO i1 i2 fp1 fp2) (D1 : Draws prog w A i1 fp1 n1 P1 St1) (D2 : Draws prog w A i2 fp2 n2 P2 St2)
    (hz : IsZipHeld s.heap z TI TO T f) (hT : s.heap.get? T = some oT) (hTI : IsTupOf2 s.heap TI (.ref i1) (.ref i2)) (st1 : St1 i s.heap) (st2 : St2 i s.heap) (l1 : i < n1) (l2 : i < n2)
    (hQ : ∀ x1 x2 h' tk, P1 i x1 → P2 i x2 → IsZipHeld h' z TI TO T true → St1 (i + 1) h' → St2 (i + 1) h' → IsTupOf2 h' s.heap.objs.size x1 x2 → h'.objs.size = s.heap.objs.size + 1 →
      (∀ c o, c ≠ z → c ≠ i1 → c ≠ i2 → s.heap.get? c = some o → h'.get? c = some o) → Q (.ref s.heap.objs.size) { s with heap := h', toks := tk }) :
    wpAny (model prog w) A (Builtin.«zip.__next__» ⟨[.ref z], []⟩) (fun fin s' => ∃ v, fin = .done (.ret v) ∧ Q v s') E s := by
  obtain ⟨hp, g, d, tk0, os⟩ := s
  show wpAny _ _ (field (.ref z) 2 >>= _) _ _ _
  refine wpAny_bind (wpAny_field hz rfl (x := .bool false) rfl ?_)
  show wpAny _ _ (field (.ref z) 3 >>= _) _ _ _
  refine wpAny_bind (wpAny_field hz rfl (x := .ref TI) rfl ?_)
  refine wpAny_bind (wpAny_seqItems hTI rfl ?_)
  show wpAny _ _ (Builtin.SmallTypes.ownedTupleIsFree (.ref z) >>= _) _ _ _
  refine wpAny_bind (wpAny_tupleHeld_zip hz hT fun g0 hz0 hs0 => ?_)
  replace hs0 : Heap.SameBut z hp g0 := hs0
  simp only [Bool.false_eq_true, if_false]
  refine wpAny_bind ?_
  rw [← Array.forIn_toList]
  simp only [List.forIn_cons, List.forIn_nil]
  refine wpAny_bind (wpAny_bind (wpAny_holding ?_))
  show wpAny _ _ (Builtin.SmallTypes.nextOf (.ref i1) >>= _) _ _ ⟨g0, g, d, tk0, os⟩
  refine wpAny_bind (D1.item i _ _ _ l1 (D1.over st1 hs0 S.zf1) fun x1 p1 tk1 hx1 sn1 hp1 => wpAny_pure ?_)
  replace hp1 : Heap.SameBut i1 g0 p1 := hp1
  refine wpAny_pure ?_
  refine wpAny_bind (wpAny_bind (wpAny_holding ?_))
  show wpAny _ _ (Builtin.SmallTypes.nextOf (.ref i2) >>= _) _ _ ⟨p1, g, d, tk1, os⟩
  refine wpAny_bind (D2.item i _ _ _ l2 (D2.over (D2.over st2 hs0 S.zf2) hp1 S.sep1_2) fun x2 p2 tk2 hx2 sn2 hp2 => wpAny_pure ?_)
  replace hp2 : Heap.SameBut i2 p1 p2 := hp2
  refine wpAny_pure (wpAny_pure ?_)
  show wpAny _ _ (newTuple [x1, x2] >>= _) _ _ ⟨p2, g, d, tk2, os⟩
  refine wpAny_bind (wpAny_newTuple ?_)
  have hsz : p2.objs.size = hp.objs.size := by rw [hp2.1, hp1.1, hs0.1]
  have hz3 : IsZipHeld p2 z TI TO T true := hp2.extBut _ _ S.zi2 (hp1.extBut _ _ S.zi1 hz0)
  have hk : ∀ c o, c ≠ z → c ≠ i1 → c ≠ i2 → hp.get? c = some o → p2.get? c = some o := fun c o c1 c2 c3 e => hp2.extBut _ _ c3 (hp1.extBut _ _ c2 (hs0.extBut _ _ c1 e))
  have j1 : St1 (i + 1) p2 := D1.over sn1 hp2 S.sep2_1
  have hp' : IsTupOf2 (p2.push { cls := .type "tuple", data := .seq #[x1, x2] }) p2.objs.size x1 x2 := Heap.get?_push_size _ rfl
  have hz4 : (p2.push { cls := .type "tuple", data := .seq #[x1, x2] }).objs.size = p2.objs.size + 1 := Heap.size_push ..
  refine wpAny_pure ⟨_, rfl, ?_⟩
  show Q (.ref p2.objs.size) ⟨p2.push { cls := .type "tuple", data := .seq #[x1, x2] }, g, d, tk2, os⟩
  rw [hsz] at hp' hz4 ⊢
  exact hQ x1 x2 _ tk2 hx1 hx2 (Heap.get?_push_of_some _ hz3) (D1.frame _ _ _ j1 fun b _ o e => Heap.get?_push_of_some _ e) (D2.frame _ _ _ sn2 fun b _ o e => Heap.get?_push_of_some _ e) hp' hz4
    fun c o c1 c2 c3 e => Heap.get?_push_of_some _ (hk c o c1 c2 c3 e)
theorem end_held {f : Bool} {oT : Obj} {Q : Fin → Shared → Prop} (S : ZipSep2 z TI TO i1 i2 fp1 fp2) (D1 : Draws prog w A i1 fp1 n1 P1 St1) (D2 : Draws prog w A i2 fp2 n2 P2 St2)
    (hz : IsZipHeld s.heap z TI TO T f) (hT : s.heap.get? T = some oT) (hTI : IsTupOf2 s.heap TI (.ref i1) (.ref i2)) (st1 : St1 i s.heap) (st2 : St2 i s.heap) (l1 : i ≤ n1) (l2 : i ≤ n2) (hend : i = n1 ∨ i = n2)
    (hE : ∀ h' tk e, (∀ c o, c ≠ z → c ≠ i1 → c ≠ i2 → s.heap.get? c = some o → h'.get? c = some o) → (∃ o, h'.get? e = some o ∧ o.cls = .type "StopIteration") → E (.ref e) { s with heap := h', toks := tk }) :
    wpAny (model prog w) A (Builtin.«zip.__next__» ⟨[.ref z], []⟩) Q E s := by
  obtain ⟨hp, g, d, tk0, os⟩ := s
  show wpAny _ _ (field (.ref z) 2 >>= _) _ _ _
  refine wpAny_bind (wpAny_field hz rfl (x := .bool false) rfl ?_)
  show wpAny _ _ (field (.ref z) 3 >>= _) _ _ _
  refine wpAny_bind (wpAny_field hz rfl (x := .ref TI) rfl ?_)
  refine wpAny_bind (wpAny_seqItems hTI rfl ?_)
  show wpAny _ _ (Builtin.SmallTypes.ownedTupleIsFree (.ref z) >>= _) _ _ _
  refine wpAny_bind (wpAny_tupleHeld_zip hz hT fun g0 hz0 hs0 => ?_)
  replace hs0 : Heap.SameBut z hp g0 := hs0
  simp only [Bool.false_eq_true, if_false]
  refine wpAny_bind ?_
  rw [← Array.forIn_toList]
  simp only [List.forIn_cons, List.forIn_nil]
  refine wpAny_bind (wpAny_bind (wpAny_holding ?_))
  show wpAny _ _ (Builtin.SmallTypes.nextOf (.ref i1) >>= _) _ _ ⟨g0, g, d, tk0, os⟩
  by_cases h1 : i = n1
  · subst h1
    refine wpAny_bind (D1.done _ _ _ (D1.over st1 hs0 S.zf1) fun h' e hq he => ?_)
    replace hq : Heap.ExtBut i1 g0 h' := hq
    exact hE h' tk0 e (fun c o c1 c2 _ x => hq _ _ c2 (hs0.extBut _ _ c1 x)) he
  · have h2 : i = n2 := hend.resolve_left h1
    subst h2
    refine wpAny_bind (D1.item i _ _ _ (by omega) (D1.over st1 hs0 S.zf1) fun x1 p1 tk1 hx1 sn1 hp1 => wpAny_pure ?_)
    replace hp1 : Heap.SameBut i1 g0 p1 := hp1
    refine wpAny_pure ?_
    refine wpAny_bind (wpAny_bind (wpAny_holding ?_))
    show wpAny _ _ (Builtin.SmallTypes.nextOf (.ref i2) >>= _) _ _ ⟨p1, g, d, tk1, os⟩
    refine wpAny_bind (D2.done _ _ _ (D2.over (D2.over st2 hs0 S.zf2) hp1 S.sep1_2) fun h' e hq he => ?_)
    replace hq : Heap.ExtBut i2 p1 h' := hq
    exact hE h' tk1 e (fun c o c1 c2 c3 x => hq _ _ c3 (hp1.extBut _ _ c2 (hs0.extBut _ _ c1 x))) he
theorem pyNext_held {f : Bool} {oT : Obj} {Q : Option Value → Shared → Prop} (S : ZipSep2 z TI TO i1 i2 fp1 fp2) (D1 : Draws prog w A.in1 i1 fp1 n1 P1 St1) (D2 : Draws prog w A.in1 i2 fp2 n2 P2 St2)
    (hz : IsZipHeld s.heap z TI TO T f) (hT : s.heap.get? T = some oT) (hTI : IsTupOf2 s.heap TI (.ref i1) (.ref i2)) (st1 : St1 i s.heap) (st2 : St2 i s.heap) (l1 : i < n1) (l2 : i < n2)
    (hQ : ∀ x1 x2 h' tk, P1 i x1 → P2 i x2 → IsZipHeld h' z TI TO T true → St1 (i + 1) h' → St2 (i + 1) h' → IsTupOf2 h' s.heap.objs.size x1 x2 → h'.objs.size = s.heap.objs.size + 1 →
      (∀ c o, c ≠ z → c ≠ i1 → c ≠ i2 → s.heap.get? c = some o → h'.get? c = some o) → Q (some (.ref s.heap.objs.size)) { s with heap := h', toks := tk }) :
    wpAny (model prog w) A (pyNext (.ref z)) Q E s := by
  have hTy : s.TypeIs (.ref z) "zip" := ⟨_, hz, rfl⟩
  unfold pyNext
  exact wpAny_bind (wpAny_attempt (wpAny_callSpecial?_slot (name := Str.ofString "__next__") hTy F.slot_zip_next
    (wpAny_call_entry F.slot_zip_next hTy F.entry_zip_next
      (next_held S D1 D2 hz hT hTI st1 st2 l1 l2 fun x1 x2 h' tk a1 a2 a3 a4 a5 a6 a7 a8 => wpAny_pure (hQ x1 x2 h' tk a1 a2 a3 a4 a5 a6 a7 a8)) (F.args_zip_next_1 _))))
theorem zij {f : Bool} {oT : Obj} {Q : Option Value → Shared → Prop} (S : ZipSep2 z TI TO i1 i2 fp1 fp2) (D1 : Draws prog w A.in1 i1 fp1 n1 P1 St1) (D2 : Draws prog w A.in1 i2 fp2 n2 P2 St2)
    (hz : IsZipHeld s.heap z TI TO T f) (hT : s.heap.get? T = some oT) (hTI : IsTupOf2 s.heap TI (.ref i1) (.ref i2)) (st1 : St1 i s.heap) (st2 : St2 i s.heap) (l1 : i ≤ n1) (l2 : i ≤ n2) (hend : i = n1 ∨ i = n2)
    (hQ : ∀ h' tk, (∀ c o, c ≠ z → c ≠ i1 → c ≠ i2 → s.heap.get? c = some o → h'.get? c = some o) → Q none { s with heap := h', toks := tk }) :
    wpAny (model prog w) A (pyNext (.ref z)) Q E s := by
  have hTy : s.TypeIs (.ref z) "zip" := ⟨_, hz, rfl⟩
  unfold pyNext
  refine wpAny_bind (wpAny_attempt (wpAny_callSpecial?_slot (name := Str.ofString "__next__") hTy F.slot_zip_next
    (wpAny_call_entry F.slot_zip_next hTy F.entry_zip_next (end_held S D1 D2 hz hT hTI st1 st2 l1 l2 hend fun h' tk e hk he => ?_) (F.args_zip_next_1 _))))
  obtain ⟨o, ho, hc⟩ := he
  refine wpAny_bind (wpAny_isInstance (T := "StopIteration") (b := true) ⟨o, ho, hc⟩ isSubtype_stop ?_)
  exact wpAny_pure (hQ _ _ hk)
theorem up {a b lim : Nat} (h : a < lim) (k : lim ≤ b) : b ≠ a := by omega
def At (z TI TO i1 i2 : Addr) (St1 St2 : Nat → Heap → Prop) (lim : Nat) (i : Nat) (h : Heap) : Prop :=
  IsTupOf2 h TI (.ref i1) (.ref i2) ∧ St1 i h ∧ St2 i h ∧ ((IsZip h z TI TO .none ∧ ∃ a b, IsTupOf2 h TO a b) ∨ ∃ T f oT, IsZipHeld h z TI TO T f ∧ h.get? T = some oT ∧ lim ≤ T)
def Made (P1 P2 : Nat → Value → Prop) (lim : Nat) (h : Heap) (ps : List (Addr × Value × Value)) (i : Nat) : Prop :=
  ps.length = i ∧ (ps.map (·.1)).Nodup ∧ ∀ j p, ps[j]? = some p → lim ≤ p.1 ∧ IsTupOf2 h p.1 p.2.1 p.2.2 ∧ P1 j p.2.1 ∧ P2 j p.2.2
abbrev listAt (h : Heap) (S : Addr) (ps : List (Addr × Value × Value)) (c : Nat) : Prop := h.get? S = some { cls := .type "list", dict := none, data := .seq (ps.map fun p => Value.ref p.1).toArray c, slots := #[] }
theorem Made.keep {lim : Nat} {h h' : Heap} {ps : List (Addr × Value × Value)} (m : Made P1 P2 lim h ps i) (k : ∀ b o, lim ≤ b → h.get? b = some o → h'.get? b = some o) : Made P1 P2 lim h' ps i :=
  ⟨m.1, m.2.1, fun j p e => let ⟨a, b, c⟩ := m.2.2 j p e; ⟨a, k _ _ a b, c⟩⟩
theorem Made.snoc {lim : Nat} {h : Heap} {ps : List (Addr × Value × Value)} (m : Made P1 P2 lim h ps i) {a : Addr} {x y : Value} (hl : lim ≤ a) (ht : IsTupOf2 h a x y) (p1 : P1 i x) (p2 : P2 i y) (hn : ∀ p ∈ ps, p.1 ≠ a) : Made P1 P2 lim h (ps ++ [(a, x, y)]) (i + 1) := by
  refine ⟨by simp [m.1], ?_, fun j p e => ?_⟩
  · rw [List.map_append, List.nodup_append]
    refine ⟨m.2.1, by simp, fun u hu v hv => ?_⟩
    obtain ⟨p, hp, rfl⟩ := List.mem_map.mp hu
    simp only [List.map_cons, List.map_nil, List.mem_cons, List.not_mem_nil, or_false] at hv
    subst hv
    exact hn p hp
  · rw [List.getElem?_append] at e
    split at e
    · exact m.2.2 j p e
    · rename_i hj
      have hj' : ¬ j < i := by rw [← m.1]; exact hj
      cases hd : j - ps.length with
      | zero =>
        rw [hd] at e
        simp only [List.getElem?_cons_zero, Option.some.injEq] at e
        subst e
        have : j = i := by rw [m.1] at hd; omega
        subst this
        exact ⟨hl, ht, p1, p2⟩
      | succ k => rw [hd] at e; simp at e
end
section
variable {prog : Program} {w : World} {A : Around} {R : Result → Shared → Prop} {z TI TO i1 i2 S : Addr} {fp1 fp2 : List Addr} {n1 n2 : Nat} {P1 P2 : Nat → Value → Prop} {St1 St2 : Nat → Heap → Prop} {lim : Nat}
theorem At.over (D1 : Draws prog w A i1 fp1 n1 P1 St1) (D2 : Draws prog w A i2 fp2 n2 P2 St2) {i : Nat} {h h' : Heap} (st : At z TI TO i1 i2 St1 St2 lim i h) (hS : S < lim) (s1 : S ∉ fp1) (s2 : S ∉ fp2) (s3 : S ≠ z) (s4 : S ≠ TI) (s5 : S ≠ TO)
    (hk : ∀ b o, b ≠ S → h.get? b = some o → h'.get? b = some o) : At z TI TO i1 i2 St1 St2 lim i h' := by
  obtain ⟨hTI, st1, st2, hz⟩ := st
  refine ⟨hk _ _ (Ne.symm s4) hTI, D1.frame _ _ _ st1 fun b hb o e => hk b o (fun q => s1 (q ▸ hb)) e, D2.frame _ _ _ st2 fun b hb o e => hk b o (fun q => s2 (q ▸ hb)) e, ?_⟩
  rcases hz with ⟨hz, a, b, hTO⟩ | ⟨T, f, oT, hz, hT, hl⟩
  · exact .inl ⟨hk _ _ (Ne.symm s3) hz, a, b, hk _ _ (Ne.symm s5) hTO⟩
  · exact .inr ⟨T, f, oT, hk _ _ (Ne.symm s3) hz, hk _ _ (up hS hl) hT, hl⟩
theorem loop (Z : ZipSep2 z TI TO i1 i2 fp1 fp2) (D1 : Draws prog w A.in1.in1 i1 fp1 n1 P1 St1) (D2 : Draws prog w A.in1.in1 i2 fp2 n2 P2 St2) (hn : min n1 n2 ≤ sizeLine) (hS : S < lim) (hz : z < lim) (hTO : TO < lim) (hi1 : i1 < lim) (hi2 : i2 < lim)
    (s1 : S ∉ fp1) (s2 : S ∉ fp2) (s3 : S ≠ z) (s4 : S ≠ TI) (s5 : S ≠ TO) (res : Value) :
    ∀ (k i : Nat) (s : Shared) (ps : List (Addr × Value × Value)) (c : Nat), min n1 n2 - i = k → i ≤ min n1 n2 → lim ≤ s.heap.objs.size → At z TI TO i1 i2 St1 St2 lim i s.heap → listAt s.heap S ps c → Made P1 P2 lim s.heap ps i →
    (∀ h' tk ps' c', (∀ b o, b ∉ [S, z, TO, i1, i2] → s.heap.get? b = some o → h'.get? b = some o) → listAt h' S ps' c' → Made P1 P2 lim h' ps' (min n1 n2) → R (.ok (.ret res)) { s with heap := h', toks := tk }) →
    codeAny (model prog w) A (.builtin "list.extend.loop" ⟨[.ref S, .ref z, res], []⟩) R s := by
  have hSi1 : S ≠ i1 := fun e => s1 (e ▸ Z.mem1)
  have hSi2 : S ≠ i2 := fun e => s2 (e ▸ Z.mem2)
  intro k
  induction k with
  | zero =>
    intro i s ps c hk hi hl st hL m hR
    have hin : i = min n1 n2 := by omega
    refine codeAny_builtin F.entry_extend_loop ?_
    rw [Around.under_plainId F.plain_extend_loop _]
    show wpAny _ A.in1 (pyNext (.ref z) >>= _) _ _ s
    obtain ⟨hTI, st1, st2, zz⟩ := st
    rcases zz with ⟨zz, a, b, tt⟩ | ⟨T, f, oT, zz, hT, hlT⟩
    · refine wpAny_bind (wpAny_pyNext_zipD2_end Z D1 D2 zz hTI tt st1 st2 (by omega) (by omega) (by omega) fun h' tk hq => wpAny_pure ?_)
      refine hR h' tk ps c (fun b o hb e => ?_) (hq _ _ s3 s5 hSi1 hSi2 hL) ((hin ▸ m).keep fun b o hb e => hq _ _ (up hz hb) (up hTO hb) (up hi1 hb) (up hi2 hb) e)
      simp only [List.mem_cons, List.not_mem_nil, or_false, not_or] at hb
      exact hq b o hb.2.1 hb.2.2.1 hb.2.2.2.1 hb.2.2.2.2 e
    · refine wpAny_bind (zij Z D1 D2 zz hT hTI st1 st2 (by omega) (by omega) (by omega) fun h' tk hq => wpAny_pure ?_)
      refine hR h' tk ps c (fun b o hb e => ?_) (hq _ _ s3 hSi1 hSi2 hL) ((hin ▸ m).keep fun b o hb e => hq _ _ (up hz hb) (up hi1 hb) (up hi2 hb) e)
      simp only [List.mem_cons, List.not_mem_nil, or_false, not_or] at hb
      exact hq b o hb.2.1 hb.2.2.2.1 hb.2.2.2.2 e
  | succ k ih =>
    intro i s ps c hk hi hl st hL m hR
    obtain ⟨hp, g, d, tk0, os⟩ := s
    have hlt : i < min n1 n2 := by omega
    refine codeAny_builtin F.entry_extend_loop ?_
    rw [Around.under_plainId F.plain_extend_loop _]
    show wpAny _ A.in1 (pyNext (.ref z) >>= _) _ _ _
    have key : ∀ x1 x2 h' tk, P1 i x1 → P2 i x2 → IsTupOf2 h' hp.objs.size x1 x2 → h'.objs.size = hp.objs.size + 1 → At z TI TO i1 i2 St1 St2 lim (i + 1) h' → (∀ c o, c ≠ z → c ≠ TO → c ≠ i1 → c ≠ i2 → hp.get? c = some o → h'.get? c = some o) →
        wpAny (model prog w) A.in1 (updateSeq S (·.push (.ref hp.objs.size)) >>= fun _ => again (.builtin "list.extend.loop" ⟨[.ref S, .ref z, res], []⟩))
          (fun fin s' => match fin with | .done f => R (.ok f) s' | .again c' => c'.quiet = true ∧ codeAny (model prog w) A c' R s') (fun e s' => R (.error e) s') ⟨h', g, d, tk, os⟩ := by
      intro x1 x2 h' tk hx1 hx2 ht hsz st' hq
      have hS' : listAt h' S ps c := hq _ _ s3 s5 hSi1 hSi2 hL
      refine wpAny_bind ?_
      refine wpAny_updateSeq (s := ⟨h', g, d, tk, os⟩) hS' rfl (wpAny_pure ⟨plainId_quiet F.plain_extend_loop _, ?_⟩)
        (by rw [List.size_toArray, List.length_map, m.1]; omega) (by show (Array.push _ _).size ≤ sizeLine + 1; rw [Array.size_push, List.size_toArray, List.length_map, m.1]; omega)
      have hup : ∀ b o, b ≠ S → h'.get? b = some o → (h'.update S (Obj.mapSeq fun x => x.push (.ref hp.objs.size))).get? b = some o := fun b o hb e => (Heap.get?_update_other _ _ (Ne.symm hb)).trans e
      have hsz2 : (h'.update S (Obj.mapSeq fun x => x.push (.ref hp.objs.size))).objs.size = h'.objs.size := (Heap.SameBut.update ..).1
      have hS2 := Heap.get?_update_self (Obj.mapSeq fun x => x.push (.ref hp.objs.size)) hS' rfl
      have m1 : Made P1 P2 lim h' ps i := m.keep fun b o hb e => hq b o (up hz hb) (up hTO hb) (up hi1 hb) (up hi2 hb) e
      have m2 : Made P1 P2 lim h' (ps ++ [(hp.objs.size, x1, x2)]) (i + 1) := m1.snoc hl ht hx1 hx2 fun p hp' => by
        obtain ⟨j, hj⟩ := List.mem_iff_getElem?.mp hp'
        exact Nat.ne_of_lt (Heap.lt_size (m.2.2 j p hj).2.1)
      obtain ⟨c2, hc2⟩ : ∃ c2, listAt (h'.update S (Obj.mapSeq fun x => x.push (.ref hp.objs.size))) S (ps ++ [(hp.objs.size, x1, x2)]) c2 := ⟨_, by
        show Heap.get? _ _ = _
        rw [hS2]
        simp only [Obj.mapSeq, List.map_append, List.map_cons, List.map_nil, List.push_toArray]
        rfl⟩
      refine ih (i + 1) ⟨h'.update S (Obj.mapSeq fun x => x.push (.ref hp.objs.size)), g, d, tk, os⟩ (ps ++ [(hp.objs.size, x1, x2)]) c2 (by omega) hlt ?_ ?_ ?_ ?_ ?_
      · show lim ≤ (h'.update S (Obj.mapSeq fun x => x.push (.ref hp.objs.size))).objs.size
        rw [hsz2, hsz]
        have : lim ≤ hp.objs.size := hl
        omega
      · exact st'.over D1 D2 hS s1 s2 s3 s4 s5 hup
      · exact hc2
      · exact m2.keep fun b o hb e => hup b o (up hS hb) e
      · intro h2 tk2 ps' c' hk2 hL2 m3
        refine hR h2 tk2 ps' c' (fun b o hb e => hk2 b o hb (hup b o (fun q => hb (by simp [q])) ?_)) hL2 m3
        simp only [List.mem_cons, List.not_mem_nil, or_false, not_or] at hb
        exact hq b o hb.2.1 hb.2.2.1 hb.2.2.2.1 hb.2.2.2.2 e
    obtain ⟨hTI, st1, st2, zz⟩ := st
    rcases zz with ⟨zz, a, b, tt⟩ | ⟨T, f, oT, zz, hT, hlT⟩
    · refine wpAny_bind (wpAny_pyNext_zipD2_item Z D1 D2 zz hTI tt st1 st2 (by omega) (by omega) fun x1 x2 h' tk a1 a2 a3 a4 a5 a6 a7 a8 hq => ?_)
      exact key x1 x2 h' tk a1 a2 a7 a8 ⟨hq _ _ Z.TIz Z.TITO Z.TIi1 Z.TIi2 hTI, a5, a6, .inr ⟨_, false, _, a3, a7, hl⟩⟩ hq
    · refine wpAny_bind (pyNext_held Z D1 D2 zz hT hTI st1 st2 (by omega) (by omega) fun x1 x2 h' tk a1 a2 a3 a5 a6 a7 a8 hq => ?_)
      exact key x1 x2 h' tk a1 a2 a7 a8 ⟨hq _ _ Z.TIz Z.TIi1 Z.TIi2 hTI, a5, a6, .inr ⟨T, true, oT, a3, hq _ _ (up hz hlT) (up hi1 hlT) (up hi2 hlT) hT, hlT⟩⟩ fun c o c1 _ c3 c4 e => hq c o c1 c3 c4 e
end
end DLZip
end PySem
set_option maxHeartbeats 4000000
namespace PySem
namespace DLZip
open Sem (wp)
/-! ## a list or a tuple that a zip walks -/
def sAt (t : Bool) (a : Addr) (xs : Array Value) (h : Heap) : Prop := match t with | false => h.IsList a xs | true => h.IsTuple a xs
def sSt (t : Bool) (it a : Addr) (xs : Array Value) (i : Nat) (h : Heap) : Prop := match t with
  | false => h.IsListIter it a i ∧ h.IsList a xs
  | true => h.IsTupleIter it a i ∧ h.IsTuple a xs
theorem sAt.keeps {t : Bool} {a : Addr} {xs : Array Value} {h h' : Heap} (x : sAt t a xs h) (k : ∀ b o, h.get? b = some o → h'.get? b = some o) : sAt t a xs h' := by
  cases t
  · exact (begins_list a xs).keeps _ _ x k
  · exact (begins_tuple a xs).keeps _ _ x k
theorem sAt.lt {t : Bool} {a : Addr} {xs : Array Value} {h : Heap} (x : sAt t a xs h) : a < h.objs.size := by
  cases t
  · obtain ⟨o, e, _⟩ := x; exact Heap.lt_size e
  · obtain ⟨o, e, _⟩ := x; exact Heap.lt_size e
section
variable {prog : Program} {w : World} {A : Around} {E : Value → Shared → Prop} {s : Shared}
structure ZipNew (n l1 l2 : Addr) (t1 t2 : Bool) (xs ys : Array Value) (h : Heap) : Prop where
  z : IsZip h (n + 4) (n + 2) (n + 3) .none
  ti : IsTupOf2 h (n + 2) (.ref n) (.ref (n + 1))
  to : IsTupOf2 h (n + 3) .none .none
  a : sSt t1 n l1 xs 0 h
  b : sSt t2 (n + 1) l2 ys 0 h
  size : h.objs.size = n + 5
theorem sSt.keeps {t : Bool} {it a : Addr} {xs : Array Value} {i : Nat} {h h' : Heap} (x : sSt t it a xs i h) (k : ∀ b o, h.get? b = some o → h'.get? b = some o) : sSt t it a xs i h' := by
  cases t
  · exact ⟨x.1.at fun o e => k _ o e, x.2.at fun o e => k _ o e⟩
  · exact ⟨x.1.at fun o e => k _ o e, x.2.at fun o e => k _ o e⟩
theorem ZipNew.push {n l1 l2 : Addr} {t1 t2 : Bool} {xs ys : Array Value} {h h' : Heap} (z : ZipNew n l1 l2 t1 t2 xs ys h) (k : ∀ b o, h.get? b = some o → h'.get? b = some o) (lim : Nat) :
    At (n + 4) (n + 2) (n + 3) n (n + 1) (sSt t1 n l1 xs) (sSt t2 (n + 1) l2 ys) lim 0 h' :=
  ⟨k _ _ z.ti, z.a.keeps k, z.b.keeps k, .inl ⟨k _ _ z.z, _, _, k _ _ z.to⟩⟩
end
end DLZip
end PySem
set_option maxHeartbeats 4000000
namespace DL
open PySem PySem.Spec PyProof.Rows L2
variable [Mode]
/-! ## list(zip(a, b)) -/
section
variable {X : Cx} {pins : List (Addr × Obj)} {σ : L2.St} {H F : Hp} {s : Shared} {K : PySem.W.Frag} {ι : List Addr} {S : zae}
end
section
variable {X : Cx} {W : WX} {e a b c : Expr} {ta tb : TE} {p p2 pos pos2 : Pos}
end
end DL
set_option maxHeartbeats 4000000
namespace DL
open PySem PySem.Spec PyProof.Rows L2
variable [Mode]
/-! ## {"step": 4, "join": 3}[x] -/
section
variable {X : Cx} {W : WX} {b : Expr} {pos dpos : Pos} {f : XFn}
end
end DL
set_option maxHeartbeats 4000000
namespace DL
open PySem PySem.Spec PyProof.Rows L2
variable [Mode]
/-! ## NAME.get(k, x) of a table at the module's top: texts to ints -/
section
variable {X : Cx} {W : WX} {e f : Expr} {np apos cpos : Pos} {ty tx : TE} {n : Str} {D : List (Str × Int)}
end
/-! ## in the head -/
end DL
set_option maxHeartbeats 4000000
namespace DL
open PySem PySem.Spec PyProof.Rows L2
variable [Mode]
/-! ## f(*y): y a tuple of as many items as f has parameters -/
section
variable {X : Cx} {W : WX} {e : Expr} {sp_ p pos : Pos}
end
end DL
set_option maxHeartbeats 8000000
namespace PySem
namespace DLSetW
open L2 PyProof.Rows DLSetT
section
variable {P : Program} {w : World} {A : Around} {E : Value → Shared → Prop} {s : Shared}
structure SetW (P : Program) (w : World) (h : Heap) (a : Addr) (L : List (Addr × List Int)) : Prop where
  ex : ∃ (es : Array (Int × Value)) (ep : Nat) (t : SetTable), SetAt h a es ep t ∧ es.toList = rowsOf P w L ∧ t.fits es.size = true ∧ Ris t.place.toList ∧ (w.params.followText "set-order" = true ∨ t.led = true)
  nd : (L.map (·.2)).Nodup
  few : L.length ≤ 64
theorem SetW.of {a : Addr} {L : List (Addr × List Int)} {es : Array (Int × Value)} {ep : Nat} {t : SetTable} (R : SetTR P w s.heap a L es ep t) : SetW P w s.heap a L := by
  obtain ⟨o, g1, g2, g3⟩ := R.ob
  exact ⟨⟨es, ep, t, ⟨o, g1, g2.1, g3⟩, R.rows, R.fits, R.tab.ris, R.led⟩, R.nd, Nat.le_of_lt R.few⟩
end
end DLSetW
end PySem
set_option maxHeartbeats 8000000
namespace PySem
namespace DLSetW
open L2 PyProof.Rows DLSetT
section
variable {P : Program} {w : World} {A : Around} {E : Value → Shared → Prop} {s : Shared}
theorem SetW.keep {h g : Heap} {a : Addr} {L : List (Addr × List Int)} (R : SetW P w h a L) (k : ∀ o, h.get? a = some o → g.get? a = some o) : SetW P w g a L := by
  obtain ⟨⟨es, ep, t, ⟨o, q, r⟩, z⟩, nd, few⟩ := R
  exact ⟨⟨es, ep, t, ⟨o, k o q, r⟩, z⟩, nd, few⟩
end
end DLSetW
end PySem
set_option maxHeartbeats 8000000
namespace PySem
namespace DLSetW
open L2 PyProof.Rows DLSetT PySem.W
section
variable {P : Program} {w : World} {A : Around} {E : Value → Shared → Prop} {s : Shared}
end
end DLSetW
end PySem
set_option maxHeartbeats 8000000
namespace PySem
namespace DLSetW
open L2 PyProof.Rows DLSetT
section
variable {P : Program} {w : World} {A : Around} {E : Value → Shared → Prop} {s : Shared}
end
end DLSetW
end PySem
namespace DL
open PySem PySem.Spec PyProof.Rows L2 PySem.DLSetW
variable [Mode]
section
variable {X : Cx} {W : WX} {e a b c : Expr} {es : List Expr} {pos p : Pos} {K : PySem.W.Frag} {ι : List Addr} {F H : Hp} {S : zae} {mg : Str → Option Value}
end
end DL
set_option maxHeartbeats 4000000
namespace DL
open PySem PySem.Spec PyProof.Rows L2
variable [Mode]
section
variable {X : Cx} {W : WX} {e a b c : Expr} {es : List Expr} {pos p : Pos} {K : PySem.W.Frag} {ι : List Addr} {F H : Hp} {S : zae} {mg : Str → Option Value}
/-! ## a, b, c = a tuple or a list that is left as it is -/
end
end DL
set_option maxHeartbeats 4000000
namespace DL
open PySem PySem.Spec PyProof.Rows L2
section
variable {X : Cx} {W : WX} {e a b c : Expr} {es : List Expr} {pos p : Pos} {K : PySem.W.Frag} {ι : List Addr} {F H : Hp} {S : zae} {mg : Str → Option Value}
/-! ## bool(x) -/
end
end DL
set_option maxHeartbeats 4000000
namespace DL
open PySem PySem.Spec PyProof.Rows L2
variable [Mode]
section
variable {X : Cx} {W : WX} {e a b c : Expr} {es : List Expr} {pos p : Pos} {K : PySem.W.Frag} {ι : List Addr} {F H : Hp} {S : zae} {mg : Str → Option Value}
/-! ## err.f, of a kept exception -/
/-! ## the __init__ of an error with a thing of its own -/
def spXi (K : PySem.W.Frag) (C : Addr) (f : Str) : Sp := fun vs H Q _ => ∃ (a : Addr) (y : V), vs = [.ref a, y] ∧ OexC K C ∧ PySem.W.findIn K (.ref C) f = some none ∧ H a = some (exo a C none) ∧
  ∀ dx, H dx = none → dx ≠ a → Q .non (upd (upd H dx (exd dx [(f, y)])) a (exo a C (some dx)))
structure XcD (K : PySem.W.Frag) (mg : Str → Option Value) (x f : Str) : Prop where
  mg : mg x = some (.ref (He.ga K x))
  T : OexC K (He.ga K x)
  no : PySem.W.findIn K (.ref (He.ga K x)) f = some none
structure XrD (K : PySem.W.Frag) (mg : Str → Option Value) (x : Str) : Prop where
  mg : mg x = some (.ref (He.ga K x))
  kg : PySem.W.specialIn K (.ref (He.ga K x)) "__getattribute__" = some (some (.builtin "type.__getattribute__"))
  tR : PySem.W.typeIn K (.ref (He.ga K x)) = some (.type "type")
  rR : PySem.W.readsIn K (He.ga K x) (.type "type") = true
  vV : PySem.W.findCls K (.ref (He.ga K x)) (.type "type") "__init__" = some (.val (.builtin "ValueError.__init__"))
structure XRaw (P : Program) (w : World) (K : PySem.W.Frag) (mg : Str → Option Value) (base : Heap) (x f : Str) : Prop where
  ex : ∃ fi fd ps, FnOk P w K mg base CX0 1 fi fd ps (spXi K (He.ga K x) f) ∧ PySem.W.findIn K (.ref (He.ga K x)) "__init__" = some (some (.ref fi)) ∧ PySem.W.typeIn K (.ref fi) = some (.type "function") ∧ Binds K fd ps []
  c : XcD K mg x f
/-! ## raise C(e) -/
/-! ## what the head must show of it -/
end
end DL
set_option maxHeartbeats 4000000
namespace DL
open PySem PySem.Spec PyProof.Rows L2
/-! ## repr is one-to-one on data without texts -/
def sh (d : PyData) : List Nat := d.shown.cps.toList
def kd : PyData → Nat
  | .none => 78 | .bool true => 84 | .bool false => 70 | .int _ => 0 | .str _ => 1 | .list _ => 91 | .tuple _ => 40 | .dict _ => 123
end DL
set_option maxHeartbeats 4000000
namespace DL
open PySem PySem.Spec PyProof.Rows L2
local instance (priority := 2000) smI2 : Mode := SM
/-! # A live dict whose keys are texts or ints -/
def keyOf : D → Option Key
  | .int i => some (.inl i)
  | .str x => some (.inr x)
  | _ => none
theorem zic (k : Key) : keyOf (kyD k) = some k := by
  cases k <;> rfl
def pkS : D → Option Key
  | .tup [kd, _] => keyOf kd
  | _ => none
def getS (ps : List D) (k : Key) : Option D := match ps.find? (fun p => decide (pkS p = some k)) with
  | some (.tup [_, v]) => some v
  | _ => none
def setS1 (k : Key) (vd : D) : D → D
  | .tup [kd, v] => if keyOf kd = some k then .tup [kd, vd] else .tup [kd, v]
  | d => d
def putS (ps : List D) (k : Key) (vd : D) : List D := if (ps.any fun p => decide (pkS p = some k)) = true then ps.map (setS1 k vd) else ps ++ [.tup [kyD k, vd]]
def mergeS (ps more : List D) : List D := more.foldl (fun acc p => match p with
  | .tup [kd, v] => (match keyOf kd with
    | some k => putS acc k v
    | none => acc)
  | _ => acc) ps
section
variable {K : PySem.W.Frag} {ι : List Addr} {F H : Hp} {a : Addr}
inductive PairK (K : PySem.W.Frag) (ι : List Addr) (F : Hp) : List (Key × V) → List D → Prop
  | nil : PairK K ι F [] []
  | cons {k : Key} {v : V} {d : D} {xs : List (Key × V)} {ds : List D} : SpV K ι F v d → PairK K ι F xs ds → PairK K ι F ((k, v) :: xs) (.tup [kyD k, d] :: ds)
theorem PairK.length {xs : List (Key × V)} {ds : List D} (p : PairK K ι F xs ds) : xs.length = ds.length := by
  induction p with
  | nil => rfl
  | cons _ _ ih => simp [ih]
theorem PairK.sp {xs : List (Key × V)} {ds : List D} (p : PairK K ι F xs ds) : SpO K ι F a (.dK xs) (.str "{}" :: ds) := by
  have : ∃ (ks : List Key) (vs : List V) (es : List D), ks.length = vs.length ∧ SpVs K ι F vs es ∧ xs = ks.zip vs ∧ ds = (ks.zip es).map fun p => .tup [kyD p.1, p.2] := by
    induction p with
    | nil => exact ⟨[], [], [], rfl, .nil, rfl, rfl⟩
    | @cons k v d xs ds h _ ih =>
      obtain ⟨ks, vs, es, h1, h2, rfl, rfl⟩ := ih
      exact ⟨k :: ks, v :: vs, d :: es, by simp [h1], .cons h h2, rfl, rfl⟩
  obtain ⟨ks, vs, es, h1, h2, rfl, rfl⟩ := this
  exact .dic h1 h2
theorem PairK.of_zip : ∀ {ks : List Key} {vs : List V} {es : List D}, ks.length = vs.length → SpVs K ι F vs es → PairK K ι F (ks.zip vs) ((ks.zip es).map fun p => .tup [kyD p.1, p.2])
  | [], _, _, h, s => by
    cases s with
    | nil => exact .nil
    | cons _ _ => simp at h
  | k :: ks, _, _, h, s => by
    cases s with
    | nil => simp at h
    | cons a b => exact .cons a (PairK.of_zip (by simpa using h) b)
theorem SpO.pairK {o : HO} {ds : List D} (s : SpO K ι F a o (.str "{}" :: ds)) : ∃ xs, o = .dK xs ∧ PairK K ι F xs ds := by
  generalize e : D.str "{}" :: ds = es at s
  cases s with
  | ins _ h0 _ _ =>
    injection e with e1 e2
    injection e1 with e1
    subst e1
    exact absurd (by decide) h0
  | dic h1 h2 =>
    injection e with e1 e2
    subst e2
    exact ⟨_, rfl, .of_zip h1 h2⟩
  | dnk _ =>
    injection e with e1 e2
    injection e1 with e1
    exact absurd e1 (by decide)
theorem PairK.any {xs : List (Key × V)} {ds : List D} (p : PairK K ι F xs ds) (k : Key) : (xs.any fun kv => decide (kv.1 = k)) = (ds.any fun p => decide (pkS p = some k)) := by
  induction p with
  | nil => rfl
  | cons h _ ih =>
    simp only [List.any_cons, ih, pkS, zic, Option.some.injEq]
theorem PairK.set {xs : List (Key × V)} {ds : List D} (p : PairK K ι F xs ds) {k : Key} {v : V} {d : D} (h : SpV K ι F v d) : PairK K ι F (xs.map fun kv => if kv.1 = k then (kv.1, v) else kv) (ds.map (setS1 k d)) := by
  induction p with
  | nil => exact .nil
  | @cons k' v' d' xs ds h' _ ih =>
    simp only [List.map_cons, setS1, zic, Option.some.injEq]
    by_cases e : k' = k
    · subst e
      simp only [if_true]
      exact .cons h ih
    · simp only [e, if_false]
      exact .cons h' ih
theorem PairK.snoc {xs : List (Key × V)} {ds : List D} (p : PairK K ι F xs ds) {k : Key} {v : V} {d : D} (h : SpV K ι F v d) : PairK K ι F (xs ++ [(k, v)]) (ds ++ [.tup [kyD k, d]]) := by
  induction p with
  | nil => exact .cons h .nil
  | cons h' _ ih => exact .cons h' ih
theorem PairK.put {xs : List (Key × V)} {ds : List D} (p : PairK K ι F xs ds) {k : Key} {v : V} {d : D} (h : SpV K ι F v d) : PairK K ι F (putK xs k v) (putS ds k d) := by
  unfold putK putS
  rw [p.any k]
  split
  · exact p.set h
  · exact p.snoc h
theorem PairK.get {xs : List (Key × V)} {ds : List D} (p : PairK K ι F xs ds) (k : Key) : (∃ v d, valV xs k = some v ∧ getS ds k = some d ∧ SpV K ι F v d) ∨ (valV xs k = none ∧ getS ds k = none) := by
  induction p with
  | nil => exact .inr ⟨rfl, rfl⟩
  | @cons k' v' d' xs ds h' _ ih =>
    unfold valV getS at ih ⊢
    simp only [List.find?_cons, pkS, zic, Option.some.injEq]
    by_cases e : k' = k
    · simp only [e, decide_true]
      exact .inl ⟨v', d', rfl, rfl, h'⟩
    · simp only [e, decide_false]
      exact ih
theorem PairK.merge {xs : List (Key × V)} {ds : List D} (p : PairK K ι F xs ds) : ∀ {ys : List (Key × V)} {es : List D}, PairK K ι F ys es → PairK K ι F (mergeK xs ys) (mergeS ds es) := by
  intro ys es q
  induction q generalizing xs ds with
  | nil => exact p
  | @cons k v d ys es h _ ih =>
    unfold mergeK mergeS at ih ⊢
    simp only [List.foldl_cons, zic]
    exact ih (p.put h)
theorem PairK.mono {ι' : List Addr} {F' : Hp} (pr : ι <+: ι') (sm : Same F F') {xs : List (Key × V)} {ds : List D} (p : PairK K ι F xs ds) : PairK K ι' F' xs ds := by
  induction p with
  | nil => exact .nil
  | cons h _ ih => exact .cons (h.mono pr sm) ih
end
/-! ## {"a": x, ..} -/
section
variable {X : Cx} {W : WX} {e a b c : Expr} {pos p pos' dpos : Pos} {K : PySem.W.Frag} {ι : List Addr} {F H : Hp} {S : zae} {mg : Str → Option Value}
def dispR : List XFn → zar → zae → Res (List D)
  | [], _, S => .ok [] S
  | f :: fs, ρ, S => (f ρ S).bind fun x S1 => match x with
    | .dat d => (dispR fs ρ S1).bind fun ds S2 => .ok (d :: ds) S2
    | _ => .bad
def xDisp (ks : List Str) (fs : List XFn) : XFn := fun ρ S => (dispR fs ρ S).bind fun ds S1 => .ok (.spc (S1.length + 1)) (S1 ++ [none, some (.str "{}" :: mergeS [] ((ks.zip ds).map fun p => .tup [.str p.1, p.2]))])
inductive DispD (X : Cx) (W : WX) (dpos : Pos) : List (Option Expr) → List Expr → List Str → List XFn → List (TE × TE) → Prop
  | nil : DispD X W dpos [] [] [] [] []
  | cons {k v : Expr} {ks : List (Option Expr)} {vs : List Expr} {x : Str} {xs : List Str} {f : XFn} {fs : List XFn} {trs : List (TE × TE)} : PE X k (tC (.str x)) → DE X W v f → DispD X W dpos ks vs xs fs trs → DispD X W dpos (some k :: ks) (v :: vs) (x :: xs) (f :: fs) ((tC (.str x), tD X W f) :: trs)
theorem DispD.pps {ks : List (Option Expr)} {vs : List Expr} {xs : List Str} {fs : List XFn} {trs : List (TE × TE)} (d : DispD X W dpos ks vs xs fs trs) : PPs X dpos ks vs trs := by
  induction d with
  | nil => exact pps_nil
  | cons hk hv _ ih => exact pps_cons hk hv.pe ih
theorem DispD.run {ks : List (Option Expr)} {vs : List Expr} {xs : List Str} {fs : List XFn} {trs : List (TE × TE)} (d : DispD X W dpos ks vs xs fs trs) :
    ∀ {ι : List Addr} {F : Hp} {ρ : zar} {S : zae} {σ : L2.St} {H : Hp} {Qp : List (V × V) → Hp → Prop}, RR X.K ι F ρ S σ H →
    Post X.K X.mg (fun c d H' => W c d σ H') ι F H (dispR fs ρ S) (fun ds ι1 F1 H1 => ∀ us, WdA X.K F1 us ds → us.length = xs.length → Qp ((xs.zip us).map fun q => (V.str q.1, q.2)) H1) → tPairs trs σ H Qp := by
  induction d with
  | nil => exact fun r h => h _ _ _ .refl r.st [] .nil rfl
  | @cons k0 v0 ks vs x xs f fs trs h0 hv _ ih =>
    intro ι F ρ S σ H Qp r h
    show tC (.str x) σ H fun y H1 => tD X W f σ H1 fun z H2 => tPairs trs σ H2 fun ps H3 => Qp ((y, z) :: ps) H3
    refine tD.bind (g := fun ρ x S1 => match x with | .dat d => (dispR fs ρ S1).bind fun ds S2 => .ok (d :: ds) S2 | _ => .bad) r h fun v dv ι1 F1 S1 H1 r1 w1 g1 h1 => ?_
    split at h1
    · rename_i d
      have w1' : Wd X.K F1 v d := w1
      refine ih r1 ?_
      cases q : dispR fs ρ S1 with
      | ok ds S2 =>
        rw [q] at h1
        exact fun ι2 F2 H2 g2 st2 us wa hl => h1 ι2 F2 H2 g2 st2 (v :: us) (.cons (w1'.mono g2.sf) wa) (by simp [hl])
      | ex c S2 => rw [q] at h1; exact h1
      | bad => rw [q] at h1; exact h1
    · exact h1.elim
theorem pairK_zip {F1 : Hp} : ∀ {xs : List Str} {us : List V} {ds : List D}, us.length = xs.length → WdA K F1 us ds → PairK K ι F1 ((xs.zip us).map fun q => (Sum.inr q.1, q.2)) ((xs.zip ds).map fun p => .tup [.str p.1, p.2])
  | [], _, _, h, w => by
    cases w with
    | nil => exact .nil
    | cons _ _ => simp at h
  | x :: xs, _, _, h, w => by
    cases w with
    | nil => simp at h
    | cons a b => exact .cons (k := .inr x) (.dat a) (pairK_zip (by simpa using h) b)
theorem sp_take {p : Addr} {o0 o : HO} {ds : List D} (st : StR K ι F S H) (hp : H p = some o0) (nl : ∀ xs, o0 ≠ .lst xs) (nt : ∀ ps, o0 ≠ .tbl ps) (ne : ∀ φ, o0 ≠ .ext φ) (hF : F p = none) (nι : p ∉ ι) (ho : SpO K (ι ++ [p, p]) F p o ds) :
    StR K (ι ++ [p, p]) F (S ++ [none, some ds]) (upd H p o) ∧ WV K (ι ++ [p, p]) F (.ref p) (.spc (S.length + 1)) := by
  have sl := st.len
  have pr : ι <+: ι ++ [p, p] := List.prefix_append _ _
  have i1 : (ι ++ [p, p])[ι.length]? = some p := by simp
  have i2 : (ι ++ [p, p])[ι.length + 1]? = some p := by simp
  have nf : ∀ k, k < ι.length → ∀ c, ι[k]? = some c → c ≠ p := fun k hk c e z => nι (z ▸ List.mem_of_getElem? e)
  refine ⟨StC.sm ⟨fun b u e => ?_, by simp [sl], fun b hb => ?_, fun k es e fi => ?_, fun k es e nf => ?_, ?_, st.tf, fun k es e nf => ?_⟩, p, by rw [← sl]; exact i2, rfl, fun z => z ι.length (by omega) (by rw [← sl, i1, i2])⟩
  · rw [upd_ne (fun z => by rw [z, hF] at e; cases e)]; exact st.sub b u e
  · rcases List.mem_append.mp hb with z | z
    · exact zfy (st.full b z)
    · simp at z; subst z; rw [upd_same]; exact fun z => nomatch z
  · by_cases hk : k < S.length
    · rw [List.getElem?_append_left hk] at e
      have hk' : k < ι.length := by omega
      obtain ⟨a1, vs, q1, q2, q3, q4⟩ := st.cell k es e ((IsFst.pre pr hk').mp fi)
      have n : a1 ≠ p := fun z => by rw [z, hp] at q2; exact nl _ (Option.some.inj q2)
      exact ⟨a1, vs, by rw [List.getElem?_append_left hk']; exact q1, by rw [upd_ne n]; exact q2, q3, q4⟩
    · have h' := (List.getElem?_eq_some_iff.mp e).1
      simp at h'
      rcases Nat.lt_or_ge S.length k with q | q
      · have : k = S.length + 1 := by omega
        subst this
        exact absurd (show (ι ++ [p, p])[ι.length]? = (ι ++ [p, p])[S.length + 1]? by rw [← sl, i1, i2]) (fi ι.length (by omega))
      · have : k = S.length := by omega
        subst this
        simp at e
  · by_cases hk : k < S.length
    · rw [List.getElem?_append_left hk] at e
      have hk' : k < ι.length := by omega
      obtain ⟨a1, q1, q2⟩ := st.spec k es e fun z => nf ((IsFst.pre pr hk').mpr z)
      have n : a1 ≠ p := fun z => nι (z ▸ List.mem_of_getElem? q1)
      exact ⟨a1, by rw [List.getElem?_append_left hk']; exact q1, q2.move pr (Same.refl _) fun o e _ _ => ⟨by rw [upd_ne n]; exact e, fun f => f⟩⟩
    · have h' := (List.getElem?_eq_some_iff.mp e).1
      simp at h'
      rcases Nat.lt_or_ge S.length k with q | q
      · have : k = S.length + 1 := by omega
        subst this
        rw [List.getElem?_append_right (by omega)] at e
        simp at e
        subst e
        exact ⟨p, by rw [← sl]; exact i2, hF, o, upd_same, ho⟩
      · have : k = S.length := by omega
        subst this
        simp at e
  · exact st.tb.upd (fun o e => by rw [hp] at e; cases e; exact ⟨nt, ne⟩) o
  · by_cases hk : k < S.length
    · rw [List.getElem?_append_left hk] at e
      have hk' : k < ι.length := by omega
      exact (IsSnd.pre pr hk').mpr (st.snd k es e fun z => nf ((IsFst.pre pr hk').mpr z))
    · have h' := (List.getElem?_eq_some_iff.mp e).1
      simp at h'
      rcases Nat.lt_or_ge S.length k with q | q
      · have : k = S.length + 1 := by omega
        subst this
        refine ⟨ι.length, by omega, by rw [← sl, i1, i2], fun j hj z => ?_⟩
        rw [i1, List.getElem?_append_left hj] at z
        exact nι (List.mem_of_getElem? z)
      · have : k = S.length := by omega
        subst this
        simp at e
theorem grow_take {ι1 : List Addr} {F1 H1 : Hp} {p : Addr} {o0 o : HO} (hp : H p = none) (hF : F p = none) (g : Grow ι F (upd H p o0) ι1 F1 H1) : Grow ι F H (ι1 ++ [p, p]) F1 (upd H1 p o) := by
  have n : ∀ b u, H b = some u → b ≠ p := fun b u e z => by rw [z, hp] at e; cases e
  refine ⟨g.pre.trans (List.prefix_append _ _), g.sf, fun b u e t m => ?_, fun b u e t t2 f m => ?_, fun b hb => ?_, fun b e => ?_⟩
  · rw [upd_ne (n b u e)]
    exact g.keep b u (by rw [upd_ne (n b u e)]; exact e) t m
  · exact g.new b u (by rw [upd_ne (n b u e)]; exact e) t t2 f m
  · rcases List.mem_append.mp hb with z | z
    · rcases g.nio b z with z | z
      · exact .inl z
      · exact .inr (zbu z)
    · simp at z; subst z; exact .inr hp
  · exact zbu (g.dom b (zbu e))
theorem de_disp (hne : True) {keys : List (Option Expr)} {values : List Expr} {xs : List Str} {fs : List XFn} {trs : List (TE × TE)} (d : DispD X W dpos keys values xs fs trs) (hall : keys.all (·.isSome) = true := by rfl)
    (hl : keys.length = values.length := by rfl) (h0 : keys ≠ [] := by exact List.cons_ne_nil _ _) (h15 : keys.length ≤ 15 := by decide) (hx : xs.length ≤ 15 := by decide) : DE X W (.Dict keys values dpos) (xDisp xs fs) := by
  refine ⟨PE.weak (pe_disp d.pps hall hl h0 h15) fun σ H Q ⟨ι, F, ρ, S, r, h⟩ => fun p hp => ?_⟩
  have hF : F p = none := by
    cases q : F p with
    | none => rfl
    | some o => rw [r.st.sub p o q] at hp; cases hp
  have nι : p ∉ ι := fun m => r.st.full p m hp
  have r0 := r.slots (zda hp (.dK [])) (r.st.alone hp (.dK []))
  refine d.run r0 ?_
  unfold xDisp at h
  cases q : dispR fs ρ S with
  | bad => rw [q] at h; exact h.elim
  | ex c S1 => rw [q] at h; exact fun C ι1 F1 H1 g1 st1 m => h C ι1 F1 H1 ((zda hp (.dK [])).trans g1) st1 m
  | ok ds S1 =>
    rw [q] at h
    intro ι1 F1 H1 g1 st1 us wa hlu
    have hH1 : H1 p = some (.dK []) := g1.keep p _ upd_same (fun _ z => nomatch z) nι
    have nι1 : p ∉ ι1 := fun m => by
      rcases g1.nio p m with z | z
      · exact nι z
      · rw [upd_same] at z; cases z
    have hF1 : F1 p = none := g1.new p _ upd_same (fun _ z => nomatch z) (fun _ z => nomatch z) hF nι
    refine ⟨hH1, (xs.zip us).map fun q => (Sum.inr q.1, q.2), by rw [List.map_map]; rfl, by rw [List.length_map, List.length_zip]; omega, ?_⟩
    have pk : PairK X.K (ι1 ++ [p, p]) F1 (mergeK [] ((xs.zip us).map fun q => (Sum.inr q.1, q.2))) (mergeS [] ((xs.zip ds).map fun p => .tup [.str p.1, p.2])) := PairK.merge .nil (pairK_zip hlu wa)
    obtain ⟨st2, w2⟩ := sp_take st1 hH1 (fun _ z => nomatch z) (fun _ z => nomatch z) (fun _ z => nomatch z) hF1 nι1 (o := .dK (mergeK [] ((xs.zip us).map fun q => (Sum.inr q.1, q.2)))) pk.sp
    exact h _ _ _ (grow_take hp hF g1) st2 _ w2
/-! ## d[k], d.get(k, x), d[k] = v -/
def dvOf : D → DV
  | .ptr j => .obj j
  | d => .dat d
theorem spv_dv {v : V} {d : D} (h : SpV K ι F v d) : WV K ι F v (dvOf d) := by
  cases h with
  | ptr h f => exact ⟨_, h, rfl, f⟩
  | dat h =>
    cases d with
    | ptr j => cases h
    | _ => exact h
def zkh (S : zae) (x : DV) : Option (Nat × List D) := match spcOf S x with
  | some (k, .str w :: ps) => if w = "{}" then some (k, ps) else none
  | _ => none
theorem txt_at {x : DV} {k : Nat} {ps : List D} {v : V} (st : StR K ι F S H) (w : WV K ι F v x) (e : zkh S x = some (k, ps)) : ∃ a xs, v = .ref a ∧ ι[k]? = some a ∧ ¬ IsFst ι k ∧ F a = none ∧ H a = some (.dK xs) ∧ PairK K ι F xs ps ∧ S[k]? = some (some (.str "{}" :: ps)) := by
  unfold zkh at e
  split at e
  · rename_i k' w' ps' q
    split at e
    · rename_i hw
      subst hw
      cases e
      obtain ⟨a, h1, h2, h3, ⟨h4, o, h5, h6⟩, h7⟩ := spc_at st w q
      obtain ⟨xs, rfl, h8⟩ := h6.pairK
      exact ⟨a, xs, h1, h2, h3, h4, h5, h8, h7⟩
    · cases e
  · cases e
def keyV : DV → Option Key
  | .dat d => keyOf d
  | _ => none
theorem key_at {x : DV} {k : Key} {v : V} (w : WV K ι F v x) (e : keyV x = some k) : v = kV k := by
  cases x with
  | dat d =>
    have w' : Wd K F v d := w
    cases d with
    | int i => cases w'; cases e; rfl
    | str x => cases w'; cases e; rfl
    | _ => cases e
  | _ => cases e
def getOr (x y z : DV) (S : zae) : Res DV := match zkh S x, keyV y with
  | some (_, ps), some k => (match getS ps k with
    | some d => .ok (dvOf d) S
    | none => .ok z S)
  | _, _ => .bad
def isTxt (x : DV) (S : zae) : Bool := (zkh S x).isSome
def xGetS2 (fd fk fz : XFn) : XFn := fun ρ S => (fd ρ S).bind fun x S1 => bif isTxt x S1 then (fk ρ S1).bind fun y S2 => (fz ρ S2).bind fun z S3 => getOr x y z S3 else .bad
theorem de_getS2 {o e f : Expr} {apos cpos : Pos} {fd fk fz : XFn} (hu : X.A.units + 1 < cLine) (ho : DE X W o fd) (hi : DE X W e fk) (hf : DE X W f fz) (hm : M2 X o (Str.ofString "get") apos e f cpos) : DE X W (.Call (.Attribute o (Str.ofString "get") apos) [e, f] [] cpos) (xGetS2 fd fk fz) := by
  refine ⟨PE.weak (pe_dget2 hu ho.pe hi.pe hf.pe hm) fun σ H Q ⟨ι, F, ρ, S, r, h⟩ => ?_⟩
  refine tD.bind (g := fun ρ x S1 => bif isTxt x S1 then (fk ρ S1).bind fun y S2 => (fz ρ S2).bind fun z S3 => getOr x y z S3 else .bad) r h fun v dv ι1 F1 S1 H1 r1 w1 g1 h1 => ?_
  cases hT : isTxt dv S1 with
  | false => rw [hT] at h1; exact h1.elim
  | true =>
    rw [hT] at h1
    obtain ⟨⟨k0, ps0⟩, e0⟩ := Option.isSome_iff_exists.mp hT
    obtain ⟨a, xs0, rfl, b1, b2, b3, b4, b5, b6⟩ := txt_at r1.st w1 e0
    refine ⟨a, rfl, .inl ⟨xs0, .inl b4⟩, ?_⟩
    refine tD.bind (g := fun ρ y S2 => (fz ρ S2).bind fun z S3 => getOr dv y z S3) r1 h1 fun u du ι2 F2 S2 H2 r2 w2 g2 h2 => ?_
    refine tD.bind (g := fun ρ z S3 => getOr dv du z S3) r2 h2 fun z dz ι3 F3 S3 H3 r3 w3 g3 h3 => ?_
    have w1' := (w1.grow g2).grow g3
    have w2' := w2.grow g3
    unfold getOr at h3
    split at h3
    · rename_i k ps key e1 e2
      obtain ⟨a', xs, ea, c1, c2, c3, c4, c5, c6⟩ := txt_at r3.st w1' e1
      cases ea
      obtain rfl := key_at w2' e2
      rcases c5.get key with ⟨v, d', q1, q2, q3⟩ | ⟨q1, q2⟩
      · rw [q2] at h3
        exact ⟨some v, .inl ⟨xs, key, .inl c4, rfl, q1.symm⟩, h3 _ _ _ .refl r3.st _ (spv_dv q3)⟩
      · rw [q2] at h3
        exact ⟨none, .inl ⟨xs, key, .inl c4, rfl, q1.symm⟩, h3 _ _ _ .refl r3.st _ w3⟩
    · exact h3.elim
def zhm (x y v : DV) (ρ : zar) (S : zae) : RS := match zkh S x, keyV y, v with
  | some (k, ps), some key, .dat d => if ps.length < sizeLine then .nx ρ (S.set k (some (.str "{}" :: putS ps key d))) else .bad
  | _, _, _ => .bad
def sPutS (fd fk fv : XFn) : SFn := fun ρ S => (fv ρ S).bindS ρ fun v S1 => (fd ρ S1).bindS ρ fun x S2 => (fk ρ S2).bindS ρ fun y S3 => zhm x y v ρ S3
theorem ds_putS {o i value : Expr} {fd fk fv : XFn} (hu : X.A.units + 1 < cLine) (ho : DE X W o fd) (hi : DE X W i fk) (hv : DE X W value fv) (hs : swapsWith value (some (.Subscript o i pos')) pos.line X.env = pure false := by rfl) :
    DS X W (.Assign [.Subscript o i pos'] value pos) (sPutS fd fk fv) := by
  refine ⟨_, ps_dput hu ho.pe hi.pe hv.pe hs, fun D σ H ⟨ι, F, ρ, S, r, h⟩ => ?_⟩
  refine tD.bindS (g := fun ρ v S1 => (fd ρ S1).bindS ρ fun x S2 => (fk ρ S2).bindS ρ fun y S3 => zhm x y v ρ S3) r h fun v dv ι1 F1 S1 H1 r1 w1 g1 h1 => ?_
  refine tD.bindS (g := fun ρ x S2 => (fk ρ S2).bindS ρ fun y S3 => zhm x y dv ρ S3) r1 h1 fun x dx ι2 F2 S2 H2 r2 w2 g2 h2 => ?_
  refine tD.bindS (g := fun ρ y S3 => zhm dx y dv ρ S3) r2 h2 fun y dy ι3 F3 S3 H3 r3 w3 g3 h3 => ?_
  unfold zhm at h3
  split at h3
  · rename_i k ps key d e1 e2
    split at h3
    · rename_i hl
      obtain ⟨a, xs, rfl, b1, b2, b3, b4, b5, b6⟩ := txt_at r3.st (w2.grow g3) e1
      obtain rfl := key_at w3 e2
      have pk := b5.put (k := key) (v := v) (d := d) (.dat ((w1.grow g2).grow g3))
      have gp := grow_spc (F := F3) (H := H3) (o := HO.dK (putK xs key v)) b1
      refine ⟨a, _, rfl, .inl ⟨xs, key, b4, rfl, by rw [b5.length]; exact hl, rfl⟩, ?_⟩
      exact h3 σ ι3 F3 _ gp (r3.slots gp (r3.st.putS b1 b2 b3 b4 (fun xs z => nomatch z) b6 pk.sp (r3.st.tb.upd (fun o e => by rw [b4] at e; cases e; exact ⟨fun _ z => (nomatch z), fun _ z => (nomatch z)⟩) _)))
    · exact h3.elim
  · exact h3.elim
end
theorem fn_law {q : Bool} {P : Program} {w : World} {K : PySem.W.Frag} {mg : Str → Option Value} {base : Heap} {k n m : Nat} {f : Addr} {fd : FuncData} {x qual : Str} {params : Arguments} {body : List Stmt} {scope : Scope} {N ps : List Str} {g : SFn} (Fd : FunD K x qual params body scope [] [] f fd) (Sc : FnScope N ps scope)
    (hn : ps.length = n) (hm : N.length = m)
    (hbody : ∀ (cdv : Value) (A : Around) (outer : List Env) (s : Shared) (H : Hp) (E : XK), RoomH k (A.deeper (envOfC qual scope s.heap.objs.size f cdv)) → A.guards = some [] →
      DSs (cxQ q P w K mg base N qual scope f cdv A outer s H E) (fun cls d _ H => E cls d H) body g) : FnQ q P w K mg base (k + 1) f fd ps (@spD PM K mg n (sealF (zk0 m g))) := by
  have Fg := fn_S Fd Sc hn hm hbody
  exact ⟨fun vs H Q E h => Fg.len vs H Q E (spD_seal h), fun A outer s H args us vs Q E hr hq hG e0 hbd rel h => Fg.run A outer s H args us vs Q E hr hq hG e0 hbd rel (spD_seal h)⟩
end DL
set_option maxHeartbeats 0
namespace T18
open PySem PySem.Spec PyProof.Rows L2 DL
def zdw : Str → Option Bool := catT [("RuleError", true), ("InvalidColumns", true), ("InvalidRow", true), ("InvalidTable", true), ("InvalidRule", true), ("InvalidRules", true), ("InvalidSettled", true), ("InvalidNumber", true), ("InvalidValue", true), ("NotAtPeace", true)]
def isi_InvalidColumns : List (Str × Bool) := [("RuleError", false), ("InvalidColumns", true), ("InvalidRow", false), ("InvalidTable", false), ("InvalidRule", false), ("InvalidRules", false), ("InvalidSettled", false), ("InvalidNumber", false), ("InvalidValue", false), ("NotAtPeace", false)]
def zbd : List (Str × Bool) := [("RuleError", false), ("InvalidColumns", false), ("InvalidRow", false), ("InvalidTable", false), ("InvalidRule", false), ("InvalidRules", false), ("InvalidSettled", false), ("InvalidNumber", true), ("InvalidValue", false), ("NotAtPeace", false)]
def zbm : List (Str × Bool) := [("RuleError", false), ("InvalidColumns", false), ("InvalidRow", true), ("InvalidTable", false), ("InvalidRule", false), ("InvalidRules", false), ("InvalidSettled", false), ("InvalidNumber", false), ("InvalidValue", false), ("NotAtPeace", false)]
def zbk : List (Str × Bool) := [("RuleError", false), ("InvalidColumns", false), ("InvalidRow", false), ("InvalidTable", false), ("InvalidRule", true), ("InvalidRules", false), ("InvalidSettled", false), ("InvalidNumber", false), ("InvalidValue", false), ("NotAtPeace", false)]
def zbg : List (Str × Bool) := [("RuleError", false), ("InvalidColumns", false), ("InvalidRow", false), ("InvalidTable", false), ("InvalidRule", false), ("InvalidRules", true), ("InvalidSettled", false), ("InvalidNumber", false), ("InvalidValue", false), ("NotAtPeace", false)]
def za4 : List (Str × Bool) := [("RuleError", false), ("InvalidColumns", false), ("InvalidRow", false), ("InvalidTable", false), ("InvalidRule", false), ("InvalidRules", false), ("InvalidSettled", true), ("InvalidNumber", false), ("InvalidValue", false), ("NotAtPeace", false)]
def zbh : List (Str × Bool) := [("RuleError", false), ("InvalidColumns", false), ("InvalidRow", false), ("InvalidTable", true), ("InvalidRule", false), ("InvalidRules", false), ("InvalidSettled", false), ("InvalidNumber", false), ("InvalidValue", false), ("NotAtPeace", false)]
def zhj : SFn := (sRet (xAnd (xIsi "int" (xVar 0)) (xNot (xIsi "bool" (xVar 0)))))
def zdl : Fn := za6 1 zhj
def zhs : SFn := (sRet (xAnd (xN zdl (zaa (xVar 0) aNil)) (zhx (o2 dLe) (o2 dLe) (xVar 1) (xVar 0) (xVar 2))))
def zcm : Fn := za6 3 zhs
def zj2 : SFn := (sRet (xAnd (xN zdl (zaa (xVar 0) aNil)) (x2 (o2 dGe) (xVar 0) (xC (.int 0)))))
def zew : Fn := za6 1 zj2
def ziz : SFn := (sSeq (sIf (tBl (x2 (o2 dIsN) (xVar 0) (xC .non))) (sRet (xC (.bl true))) sNil)
    (sSeq (sIf (tOr_ (tNo (tTr (xIsi "tuple" (xVar 0)))) (tNo (tBl (zhx (o2 dLe) (o2 dLe) (xC (.int 1)) (xN (o1 dLen) (zaa (xVar 0) aNil)) (xC (.int 3)))))) (sRet (xC (.bl false))) sNil)
    (sSeq (sIf (tNo (tTr (xN (o1 dAll) (zaa (xN1 (lLc (lIt (xVar 0)) [1] (gNm 1) zff (xN zew (zaa (xVar 1) aNil)))) aNil)))) (sRet (xC (.bl false))) sNil)
    (sRet (x2 (o2 dEq) (xN (o1 zjg) (zaa (xVar 0) aNil)) (xN1 (zgt (xVar 0))))))))
def ze7 : Fn := za6 2 ziz
def zg2 : SFn := (sRet (xAnd (xN zew (zaa (xVar 1) aNil)) (xOr (x2 (o2 dIsN) (xVar 0) (xC .non)) (x2 (o2 dIn) (xVar 1) (xVar 0)))))
def zcq : Fn := za6 2 zg2
def zht : SFn := (sSeq (sIf (tOr_ (tNo (tTr (xIsi "tuple" (xVar 0)))) (tNo (tBl (zhx (o2 dLe) (o2 dLe) (xC (.int 1)) (xN (o1 dLen) (zaa (xVar 0) aNil)) (xC (.int 4)))))) (sRet (xC (.bl false))) sNil)
    (sSeq (sIf (tNo (tTr (xN (o1 dAll) (zaa (xN1 (lLc (lIt (xVar 0)) [1] (gNm 1) zff (xN ze7 (zaa (xVar 1) aNil)))) aNil)))) (sRet (xC (.bl false))) sNil)
    (sRet (x2 (o2 dLe) (xN (o1 dLen) (zaa (xN1 (lLc (lIt (xVar 0)) [1] (gNm 1) (tBl (x2 (o2 zkc) (xVar 1) (xC .non))) (xVar 1))) aNil)) (xC (.int 2))))))
def zek : Fn := za6 2 zht
def zjf : SFn := (sSeq (sIf (tOr_ (tNo (tTr (xIsi "tuple" (xVar 1)))) (tBl (x2 (o2 dNe) (xN (o1 dLen) (zaa (xVar 1) aNil)) (xN (o1 dLen) (zaa (xVar 0) aNil))))) (sRet (xC (.bl false))) sNil)
    (sRet (xN (o1 dAll) (zaa (xN1 (lLc (lZip (xVar 0) (xVar 1)) [2, 3] (gTp (gCo (gNm 2) (gCo (gNm 3) gNo))) zff (xN zcq (zaa (xVar 2) (zaa (xVar 3) aNil))))) aNil))))
def zd6 : Fn := za6 4 zjf
def zgz : SFn := (sSeq (sIf (tOr_ (tNo (tTr (xIsi "tuple" (xVar 1)))) (tBl (x2 (o2 dGt) (xN (o1 dLen) (zaa (xVar 1) aNil)) (xC (.int 8))))) (sRet (xC (.bl false))) sNil)
    (sRet (xN (o1 dAll) (zaa (xN1 (lLc (lIt (xVar 1)) [2] (gNm 2) zff (xN zd6 (zaa (xVar 0) (zaa (xVar 2) aNil))))) aNil))))
def zdt : Fn := za6 3 zgz
def zex : SFn := (sIf (tNo (tTr (xN zek (zaa (xVar 0) aNil)))) (zf5 "InvalidColumns") sNil)
def za2 : Fn := za6 1 zex
def zg9 : SFn := (sIf (tNo (tTr (xN zd6 (zaa (xVar 0) (zaa (xVar 1) aNil))))) (zf5 "InvalidRow") sNil)
def zc3 : Fn := za6 2 zg9
def zfs : SFn := (sIf (tNo (tTr (xN zdt (zaa (xVar 0) (zaa (xVar 1) aNil))))) (zf5 "InvalidTable") sNil)
def zb_ : Fn := za6 2 zfs
def zka : SFn := (sSeq (sIf (tOr_ (tNo (tTr (xIsi "tuple" (xVar 1)))) (tOr_ (tBl (x2 (o2 dNe) (xN (o1 dLen) (zaa (xVar 1) aNil)) (xC (.int 2)))) (tNo (tTr (xN zcm (zaa (x2 (o2 dIx) (xVar 1) (xC (.int 0))) (zaa (xC (.int 0)) (zaa (x2 (o2 dSub) (xN (o1 dLen) (zaa (xVar 0) aNil)) (xC (.int 1))) aNil)))))))) (sRet (xC (.bl false))) sNil)
    (sRet (xOr (x2 (o2 dIsN) (x2 (o2 dIx) (xVar 1) (xC (.int 1))) (xC .non)) (xN zcq (zaa (x2 (o2 dIx) (xVar 0) (x2 (o2 dIx) (xVar 1) (xC (.int 0)))) (zaa (x2 (o2 dIx) (xVar 1) (xC (.int 1))) aNil))))))
def zfx : Fn := za6 2 zka
def zj3 : SFn := (sSeq (sIf (tOr_ (tNo (tTr (xIsi "tuple" (xVar 1)))) (tNo (tTr (xN (o1 dAll) (zaa (xN1 (lLc (lIt (xVar 1)) [3] (gNm 3) zff (xN zfx (zaa (xVar 0) (zaa (xVar 3) aNil))))) aNil))))) (sRet (xC (.bl false))) sNil)
    (sSeq (sSet 2 (xN1 (lLc (lIt (xVar 1)) [3] (gNm 3) zff (x2 (o2 dIx) (xVar 3) (xC (.int 0))))))
    (sRet (x2 (o2 dEq) (xVar 2) (xN1 (zgt (xVar 2)))))))
def zfw : Fn := za6 4 zj3
def zhn : SFn := (sSeq (sIf (tOr_ (tNo (tTr (xIsi "tuple" (xVar 1)))) (tOr_ (tBl (x2 (o2 dNe) (xN (o1 dLen) (zaa (xVar 1) aNil)) (xC (.int 3)))) (tNo (tTr (xN zfw (zaa (xVar 0) (zaa (x2 (o2 dIx) (xVar 1) (xC (.int 0))) aNil))))))) (sRet (xC (.bl false))) sNil)
    (sSeq (sTg (gTp (gCo (gNm 2) (gCo (gNm 3) (gCo (gNm 4) gNo)))) (xVar 1))
    (sSeq (sIf (tOr_ (tNo (tTr (xN zcm (zaa (xVar 3) (zaa (xC (.int 0)) (zaa (x2 (o2 dSub) (xN (o1 dLen) (zaa (xVar 0) aNil)) (xC (.int 1))) aNil)))))) (tBl (x2 (o2 dIn) (xVar 3) (xN1 (lLc (lIt (xVar 2)) [5] (gNm 5) zff (x2 (o2 dIx) (xVar 5) (xC (.int 0)))))))) (sRet (xC (.bl false))) sNil)
    (sSeq (sIf (tBl (x2 (o2 dIsN) (xVar 4) (xC .non))) (sRet (xC (.bl true))) sNil)
    (sRet (xAnd (xN zcq (zaa (x2 (o2 dIx) (xVar 0) (xVar 3)) (zaa (xVar 4) aNil))) (xN (o1 dAll) (zaa (xN1 (lLc (lIt (xVar 2)) [5] (gNm 5) zff (x2 (o2 zkc) (x2 (o2 dIx) (xVar 5) (xC (.int 1))) (xC .non)))) aNil))))))))
def zcz : Fn := za6 6 zhn
def zjb : SFn := (sSeq (sIf (tOr_ (tNo (tTr (xIsi "tuple" (xVar 1)))) (tBl (x2 (o2 dGt) (xN (o1 dLen) (zaa (xVar 1) aNil)) (xC (.int 8))))) (sRet (xC (.bl false))) sNil)
    (sRet (xN (o1 dAll) (zaa (xN1 (lLc (lIt (xVar 1)) [2] (gNm 2) zff (xN zcz (zaa (xVar 0) (zaa (xVar 2) aNil))))) aNil))))
def ze2 : Fn := za6 3 zjb
def zf9 : SFn := (sIf (tNo (tTr (xN zcz (zaa (xVar 0) (zaa (xVar 1) aNil))))) (zf5 "InvalidRule") sNil)
def zbw : Fn := za6 2 zf9
def zfo : SFn := (sSeq (zc9 (xN za2 (zaa (xVar 0) aNil)))
    (sIf (tNo (tTr (xN ze2 (zaa (xVar 0) (zaa (xVar 1) aNil))))) (zf5 "InvalidRules") sNil))
def zaw : Fn := za6 2 zfo
def zgk : SFn := (sSeq (zc9 (xN za2 (zaa (xVar 0) aNil)))
    (sSeq (zc9 (xN zbw (zaa (xVar 0) (zaa (xVar 1) aNil))))
    (sSeq (zc9 (xN zc3 (zaa (xVar 0) (zaa (xVar 2) aNil))))
    (sRet xBad))))
def zdi : Fn := za6 3 zgk
def zie : SFn := (sSeq (zc9 (xN zaw (zaa (xVar 0) (zaa (xVar 1) aNil))))
    (sSeq (zc9 (xN zb_ (zaa (xVar 0) (zaa (xVar 2) aNil))))
    (sRet xBad)))
def zeg : Fn := za6 3 zie
def zk1 : SFn := (sSeq (zc9 (xN za2 (zaa (xVar 0) aNil)))
    (sSeq (zc9 (xN zbw (zaa (xVar 0) (zaa (xVar 1) aNil))))
    (sSeq (zc9 (xN zb_ (zaa (xVar 0) (zaa (xVar 2) aNil))))
    (sRet xBad))))
def zfp : Fn := za6 3 zk1
def zed : SFn := (sSeq (zc9 (xN zaw (zaa (xVar 0) (zaa (xVar 1) aNil))))
    (sSeq (zc9 (xN zb_ (zaa (xVar 0) (zaa (xVar 2) aNil))))
    (sRet xBad)))
def zc_ : Fn := za6 3 zed
def zei : SFn := (sSeq (zc9 (xN zaw (zaa (xVar 0) (zaa (xVar 1) aNil))))
    (sSeq (zc9 (xN zb_ (zaa (xVar 0) (zaa (xVar 2) aNil))))
    (sSeq (sSet 3 (xN (o1 dLen) (zaa xBad aNil)))
    (sRet (xIf (tBl (x2 (o2 dEq) (xVar 3) (xC (.int 0)))) (xC .non) xBad)))))
def zca : Fn := za6 4 zei
def zcn : SFn := (sSeq (zc9 (xN zaw (zaa (xVar 0) (zaa (xVar 1) aNil))))
    (sSeq (zc9 (xN zb_ (zaa (xVar 0) (zaa (xVar 2) aNil))))
    (sSeq (sIf (tNo (tTr (xN zcm (zaa (xVar 3) (zaa (xC (.int 1)) (zaa (xC (.int 8)) aNil)))))) (zf5 "InvalidNumber") sNil)
    (sRet xBad))))
def zbf : Fn := za6 5 zcn
def zeo : SFn := (sSeq (zc9 (xN za2 (zaa (xVar 0) aNil)))
    (sSeq (zc9 (xN zbw (zaa (xVar 0) (zaa (xVar 1) aNil))))
    (sSeq (sIf (tNo (tTr (xN zcz (zaa (xVar 0) (zaa (xVar 2) aNil))))) (zf5 "InvalidValue") sNil)
    (sRet xBad))))
def zch : Fn := za6 3 zeo
def zhh : SFn := (sSeq (zc9 (xN zaw (zaa (xVar 0) (zaa (xVar 1) aNil))))
    (sRet xBad))
def zdz : Fn := za6 2 zhh
def s_cover : SFn := (sSeq (zc9 (xN zaw (zaa (xVar 0) (zaa (xVar 1) aNil))))
    (sSeq (zc9 xBad)
    (sRet xBad)))
def zhg : Fn := za6 2 s_cover
def zhf : SFn := (sSeq (zc9 (xN zaw (zaa (xVar 0) (zaa (xVar 1) aNil))))
    (sSeq (zc9 xBad)
    (sRet (x2 (o2 dIsN) xBad (xC .non)))))
def zd0 : Fn := za6 3 zhf
def zdv : SFn := (sSeq (zc9 (xN za2 (zaa (xVar 0) aNil)))
    (sSeq (zc9 (xN zb_ (zaa (xVar 0) (zaa (xVar 1) aNil))))
    (sSeq (sIf (tNo (tTr (xN zcm (zaa (xVar 2) (zaa (xC (.int 1)) (zaa (xC (.int 8)) aNil)))))) (zf5 "InvalidNumber") sNil)
    (sRet xBad))))
def zb2 : Fn := za6 3 zdv
def zf6 : SFn := (sSeq (sIf (tBl (x2 (o2 dGe) (xVar 0) (x2 (o2 dPow) (xC (.int 10)) (xC (.int 18))))) (sRet (xVar 0)) sNil)
    (sSeq (sSet 2 (xLst (zaa (xC (.int 2147483629)) (zaa (xC (.int 2147483587)) (zaa (xC (.int 2147483579)) (zaa (xC (.int 2147483563)) (zaa (xC (.int 2147483549)) (zaa (xC (.int 2147483543)) (zaa (xC (.int 2147483497)) aNil)))))))))
    (sSeq (sSet 2 (x2 (o2 dAdd) (xVar 2) (xLst (zaa (xC (.int 2147483489)) (zaa (xC (.int 2147483477)) (zaa (xC (.int 2147483423)) (zaa (xC (.int 2147483399)) (zaa (xC (.int 2147483353)) (zaa (xC (.int 2147483323)) aNil)))))))))
    (sSeq (sSet 3 (x2 (o2 dAdd) (x2 (o2 dAdd) (x2 (o2 zb6) (x2 (o2 dMod) (xN (o1 dInt) (zaa (xVar 0) aNil)) (xC (.int 1000000007))) (x2 (o2 dAdd) (x2 (o2 zb6) (xC (.int 2)) (xVar 1)) (xC (.int 69069)))) (x2 (o2 zb6) (xVar 1) (xC (.int 40503)))) (xC (.int 977))))
    (sSeq (sSet 4 (x2 (o2 dMod) (xN (o1 dInt) (zaa (x2 (o2 dPow) (xVar 3) (xC (.int 3))) aNil)) (x2 (o2 dIx) (xVar 2) (x2 (o2 dMod) (xN (o1 dInt) (zaa (xVar 1) aNil)) (xC (.int 13))))))
    (sSeq (sSet 5 (x2 (o2 dAdd) (x2 (o2 dMod) (xN (o1 dInt) (zaa (xVar 0) aNil)) (xC (.int 65537))) (xC (.int 5))))
    (sSeq (sSet 6 (x2 (o2 dMod) (xN (o1 dInt) (zaa (x2 (o2 dPow) (x2 (o2 dAdd) (x2 (o2 zb6) (xVar 4) (x2 (o2 dAdd) (xVar 1) (xC (.int 3)))) (xVar 5)) (xC (.int 5))) aNil)) (x2 (o2 dIx) (xVar 2) (x2 (o2 dMod) (xN (o1 dInt) (zaa (x2 (o2 dAdd) (xVar 1) (xC (.int 5))) aNil)) (xC (.int 13))))))
    (sSeq (sSet 7 (x2 (o2 dMod) (xN (o1 dInt) (zaa (x2 (o2 dPow) (x2 (o2 dAdd) (x2 (o2 dAdd) (xVar 6) (x2 (o2 dMod) (xN (o1 dInt) (zaa (xVar 4) aNil)) (xC (.int 1009)))) (xVar 1)) (xC (.int 3))) aNil)) (x2 (o2 dIx) (xVar 2) (x2 (o2 dMod) (xN (o1 dInt) (zaa (x2 (o2 dAdd) (xVar 1) (xC (.int 7))) aNil)) (xC (.int 13))))))
    (sRet (x2 (o2 dAdd) (x2 (o2 zb6) (x2 (o2 dAdd) (x2 (o2 zb6) (xVar 4) (xC (.int 2147483647))) (xVar 6)) (xC (.int 2147483647))) (xVar 7)))))))))))
def zdf : Fn := za6 8 zf6
def zcu : SFn := (sPut (xVar 1) (x2 (o2 dMod) (xN (o1 dInt) (zaa (xVar 2) aNil)) (xC (.int 12))) (x2 (o2 dAdd) (x2 (o2 dIx) (xVar 1) (x2 (o2 dMod) (xN (o1 dInt) (zaa (xVar 2) aNil)) (xC (.int 12)))) (xVar 3)))
def zhz : SFn := (sSeq (sNew 1 (lList (xSl (xVar 0) pNo (pEx (xC (.int 12))))))
    (sSeq (sFor (lEnum (xSl (xVar 0) (pEx (xC (.int 12))) (pEx (xC (.int 63))))) (gTp (gCo (gNm 2) (gCo (gNm 3) gNo))) zcu)
    (sSeq (sFrz 1) (sRetN (lLst (zaa (xVar 1) (zaa (xC (.int 0)) (zaa (xC (.int 0)) aNil))))))))
def zdn : Fn := za6 4 zhz
def zhq : SFn := (sSeq (sIf (tBl (x2 (o2 dLt) (x2 (o2 dIx) (xVar 0) (xC (.int 2))) (xVar 1))) (sSeq (sSet 3 (x2 (o2 dIx) (xVar 0) (xC (.int 1))))
    (sSeq (sSet 4 (xC (.int 0)))
    (sSeq (sIf (tBl (x2 (o2 dLt) (xVar 3) (xN (o1 dLen) (zaa (x2 (o2 dIx) (xVar 0) (xC (.int 0))) aNil)))) (sSet 4 (x2 (o2 dIx) (x2 (o2 dIx) (xVar 0) (xC (.int 0))) (xVar 3))) (sIf (tBl (x2 (o2 dGt) (xN (o1 dLen) (zaa (x2 (o2 dIx) (xVar 0) (xC (.int 0))) aNil)) (xC (.int 0)))) (sSet 4 (x2 (o2 dMod) (xN (o1 dInt) (zaa (x2 (o2 dIx) (x2 (o2 dIx) (xVar 0) (xC (.int 0))) (x2 (o2 dMod) (xN (o1 dInt) (zaa (x2 (o2 dAdd) (x2 (o2 zb6) (xVar 3) (xC (.int 5))) (xC (.int 3))) aNil)) (xN (o1 dLen) (zaa (x2 (o2 dIx) (xVar 0) (xC (.int 0))) aNil)))) aNil)) (x2 (o2 dAdd) (x2 (o2 dPow) (xC (.int 10)) (xC (.int 17))) (xVar 3)))) sNil))
    (sSeq (sPut (xVar 0) (xC (.int 1)) (x2 (o2 dAdd) (xVar 3) (xC (.int 1))))
    (sPut (xVar 0) (xC (.int 2)) (xN zdf (zaa (xVar 4) (zaa (xVar 3) aNil)))))))) sNil)
    (sSeq (sSet 2 (x2 (o2 dMod) (xN (o1 dInt) (zaa (x2 (o2 dIx) (xVar 0) (xC (.int 2))) aNil)) (xVar 1)))
    (sSeq (sPut (xVar 0) (xC (.int 2)) (x2 (o2 dDiv) (x2 (o2 dIx) (xVar 0) (xC (.int 2))) (xVar 1)))
    (sRet (xVar 2)))))
def zay : Fn := za6 5 zhq
def zhi : SFn := (sSeq (sPut (xVar 0) (xC (.int 2)) (xC (.int 0)))
    (sRet (xVar 0)))
def zc0 : Fn := za6 1 zhi
def zg_ : SFn := (sRet (x2 (o2 dIx) (xVar 1) (xN zay (zaa (xVar 0) (zaa (xN (o1 dLen) (zaa (xVar 1) aNil)) aNil)))))
def zaz : Fn := za6 2 zg_
def zcr : SFn := (sSeq (sSet 5 (xN1 (zgt (xN1 (lLc (lRg1 (zaa (x2 (o2 dAdd) (xC (.int 1)) (xN zay (zaa (xVar 0) (zaa (xC (.int 3)) aNil)))) aNil)) [6] (gNm 6) zff (xN zay (zaa (xVar 0) (zaa (xC (.int 4)) aNil))))))))
    (sIf (tAn (tBl (x2 (o2 dLt) (xVar 4) (xC (.int 2)))) (tBl (x2 (o2 dEq) (xN zay (zaa (xVar 0) (zaa (xC (.int 3)) aNil))) (xC (.int 0))))) (sSeq (sSet 4 (x2 (o2 dAdd) (xVar 4) (xC (.int 1))))
    (sSet 3 (x2 (o2 dAdd) (xVar 3) (xTup (zaa (xN (o1 zfl) (zaa (xVar 5) aNil)) aNil))))) (sSet 3 (x2 (o2 dAdd) (xVar 3) (xTup (zaa (xC .non) aNil))))))
def zfq : SFn := (sSeq (sTg (gTp (gCo (gNm 3) (gCo (gNm 4) gNo))) (xTup (zaa (xTup aNil) (zaa (xC (.int 0)) aNil))))
    (sSeq (sFor (lRg1 (zaa (x2 (o2 dAdd) (xC (.int 1)) (xN zay (zaa (xVar 0) (zaa (xVar 1) aNil)))) aNil)) (gNm 2) zcr)
    (sRet (xVar 3))))
def zck : Fn := za6 7 zfq
def zg0 : SFn := (sSeq (sIf (tBl (x2 (o2 dIsN) (xVar 1) (xC .non))) (sRet (xN zaz (zaa (xVar 0) (zaa (xLst (zaa (xC (.int 0)) (zaa (xC (.int 1)) (zaa (xC (.int 2)) (zaa (xC (.int 0)) (zaa (xC (.int 1)) (zaa (xC (.int 2)) (zaa (xC (.int 3)) (zaa (x2 (o2 dPow) (xC (.int 10)) (xC (.int 29))) (zaa (x2 (o2 dAdd) (x2 (o2 dPow) (xC (.int 10)) (xC (.int 29))) (xC (.int 1))) aNil)))))))))) aNil)))) sNil)
    (sRet (xN zaz (zaa (xVar 0) (zaa (xVar 1) aNil)))))
def zbv : Fn := za6 2 zg0
def zjc : SFn := (sRet (xN (o1 zfl) (zaa (xN1 (lLc (lIt (xVar 1)) [2] (gNm 2) zff (xN zbv (zaa (xVar 0) (zaa (xVar 2) aNil))))) aNil)))
def zco : Fn := za6 3 zjc
def zdd : SFn := (sSeq (sSet 6 (xN zay (zaa (xVar 0) (zaa (xC (.int 5)) aNil))))
    (sIf (tAn (tBl (x2 (o2 dNe) (xVar 5) (xVar 2))) (tBl (x2 (o2 dLt) (xVar 6) (xC (.int 2))))) (sSet 4 (x2 (o2 dAdd) (xVar 4) (xTup (zaa (xTup (zaa (xVar 5) (zaa (xN zbv (zaa (xVar 0) (zaa (x2 (o2 dIx) (xVar 1) (xVar 5)) aNil))) aNil))) aNil)))) (sIf (tAn (tBl (x2 (o2 dNe) (xVar 5) (xVar 2))) (tAn (tBl (x2 (o2 dEq) (xVar 6) (xC (.int 2)))) (tBl (x2 (o2 dIsN) (xVar 3) (xC .non))))) (sSet 4 (x2 (o2 dAdd) (xVar 4) (xTup (zaa (xTup (zaa (xVar 5) (zaa (xC .non) aNil))) aNil)))) sNil)))
def zhy : SFn := (sSeq (sSet 2 (xN zay (zaa (xVar 0) (zaa (xN (o1 dLen) (zaa (xVar 1) aNil)) aNil))))
    (sSeq (sSet 3 (xN zaz (zaa (xVar 0) (zaa (xLst (zaa (xC .non) (zaa (xC .non) (zaa (xN zbv (zaa (xVar 0) (zaa (x2 (o2 dIx) (xVar 1) (xVar 2)) aNil))) aNil)))) aNil))))
    (sSeq (sSet 4 (xTup aNil))
    (sSeq (sFor (lRg1 (zaa (xN (o1 dLen) (zaa (xVar 1) aNil)) aNil)) (gNm 5) zdd)
    (sRet (xTup (zaa (xVar 4) (zaa (xVar 2) (zaa (xVar 3) aNil)))))))))
def zb5 : Fn := za6 7 zhy
def zi7 : SFn := (sSeq (sSet 2 (xLst (zaa (xNeg (xC (.int 1))) (zaa (xC .non) (zaa (xC (.bl true)) (zaa (xC (.str "0")) (zaa (xTup (zaa (xC (.int 0)) aNil)) (zaa (xLst (zaa (xC (.int 1)) aNil)) aNil))))))))
    (sSeq (sIf (tBl (x2 (o2 zkc) (xVar 1) (xC .non))) (sSet 2 (x2 (o2 dAdd) (xVar 2) (x2 (o2 zb6) (xN1 (lLc (lIt (xLst (zaa (xC (.int 0)) (zaa (xC (.int 1)) (zaa (xC (.int 2)) (zaa (xC (.int 3)) (zaa (xC (.int 9)) (zaa (x2 (o2 dPow) (xC (.int 10)) (xC (.int 9))) aNil)))))))) [3] (gNm 3) (tBl (x2 (o2 dNin) (xVar 3) (xVar 1))) (xVar 3))) (xC (.int 2))))) sNil)
    (sRet (xN zaz (zaa (xVar 0) (zaa (xVar 2) aNil))))))
def zcc : Fn := za6 4 zi7
def zd3 : SFn := (sSeq (sNew 2 (lList (xN zco (zaa (xVar 0) (zaa (xVar 1) aNil)))))
    (sSeq (sSet 3 (xN zay (zaa (xVar 0) (zaa (xN (o1 dLen) (zaa (xVar 2) aNil)) aNil))))
    (sSeq (sPut (xVar 2) (xVar 3) (xN zcc (zaa (xVar 0) (zaa (x2 (o2 dIx) (xVar 1) (xVar 3)) aNil))))
    (sRet (xN (o1 zfl) (zaa (xVar 2) aNil))))))
def zbx : Fn := za6 4 zd3
def zbj : SFn := (sSeq (sSet 5 (xN zcc (zaa (xVar 0) (zaa (x2 (o2 dIx) (xVar 1) (xVar 6)) aNil))))
    (sIf (tBl (x2 (o2 dNe) (xVar 6) (xVar 8))) (sSeq (sSet 5 (xIf (tBl (x2 (o2 dIsN) (xVar 5) (xC .non))) (xNeg (xC (.int 1))) (xVar 5)))
    (sSeq (sSet 10 (xN (o1 zfl) (zaa (xN1 (lLc (lIt (xVar 7)) [12] (gNm 12) (tBl (x2 (o2 dLt) (x2 (o2 dIx) (xVar 12) (xC (.int 0))) (xVar 6))) (xVar 12))) aNil)))
    (sSeq (sSet 11 (xN (o1 zfl) (zaa (xN1 (lLc (lIt (xVar 7)) [12] (gNm 12) (tBl (x2 (o2 dGt) (x2 (o2 dIx) (xVar 12) (xC (.int 0))) (xVar 6))) (xVar 12))) aNil)))
    (sSeq (sNew 4 (lCat (xVar 4) (x2 (o2 zb6) (xLst (zaa (xTup (zaa (x2 (o2 dAdd) (x2 (o2 dAdd) (xVar 10) (xTup (zaa (xTup (zaa (xVar 6) (zaa (xVar 5) aNil))) aNil))) (xVar 11)) (zaa (xVar 8) (zaa (xVar 9) aNil)))) aNil)) (xC (.int 2)))))
    (sSeq (sApp (xVar 4) (xTup (zaa (xTup (zaa (xTup (zaa (xVar 6) (zaa (xC .non) aNil))) aNil)) (zaa (xVar 8) (zaa (xN zbv (zaa (xVar 0) (zaa (x2 (o2 dIx) (xVar 1) (xVar 8)) aNil))) aNil)))))
    (sApp (xVar 4) (xTup (zaa (xTup (zaa (xTup (zaa (xVar 6) (zaa (xC .non) aNil))) (zaa (xTup (zaa (xVar 6) (zaa (xC .non) aNil))) aNil))) (zaa (xVar 8) (zaa (xC .non) aNil)))))))))) sNil))
def zf_ : SFn := (sSeq (sSet 2 (xN (o1 dLen) (zaa (xVar 1) aNil)))
    (sSeq (sSet 3 (x2 (o2 dAdd) (xVar 2) (xN zay (zaa (xVar 0) (zaa (xC (.int 3)) aNil)))))
    (sSeq (sTg (gTp (gCo (gNm 7) (gCo (gNm 8) (gCo (gNm 9) gNo)))) (xN zb5 (zaa (xVar 0) (zaa (xVar 1) aNil))))
    (sSeq (sNew 4 (lLst (zaa (xC .non) (zaa (xLst aNil) (zaa (xC (.str "x")) (zaa (xC (.int 7)) (zaa (xC (.bl true)) (zaa (xTup (zaa (xC .non) aNil)) (zaa (xTup (zaa (xTup aNil) (zaa (xVar 3) (zaa (xC .non) aNil)))) (zaa (xTup (zaa (xTup aNil) (zaa (xNeg (xC (.int 1))) (zaa (xC .non) aNil)))) (zaa (xTup (zaa (xTup aNil) (zaa (xC (.bl true)) (zaa (xC .non) aNil)))) aNil)))))))))))
    (sSeq (sNew 4 (lCat (xVar 4) (xLst (zaa (xTup (zaa (xTup aNil) (zaa (xC (.int 0)) aNil))) (zaa (xTup (zaa (xLst aNil) (zaa (xC (.int 0)) (zaa (xC .non) aNil)))) (zaa (xTup (zaa (xTup (zaa (xTup (zaa (xVar 3) (zaa (xC (.int 0)) aNil))) aNil)) (zaa (xC (.int 0)) (zaa (xC .non) aNil)))) (zaa (xTup (zaa (xTup (zaa (xTup (zaa (xC (.int 0)) aNil)) aNil)) (zaa (xC (.int 0)) (zaa (xC .non) aNil)))) aNil)))))))
    (sSeq (sNew 4 (lCat (xVar 4) (xLst (zaa (xTup (zaa (xTup (zaa (xC .non) aNil)) (zaa (xC (.int 0)) (zaa (xC .non) aNil)))) (zaa (xTup (zaa (xTup aNil) (zaa (xC (.int 0)) (zaa (xC (.str "0")) aNil)))) (zaa (xTup (zaa (xTup (zaa (xTup (zaa (xC (.int 0)) (zaa (xC .non) aNil))) aNil)) (zaa (xC (.int 0)) (zaa (xC .non) aNil)))) aNil))))))
    (sSeq (sApp (xVar 4) (xN (o1 zjg) (zaa (xTup (zaa (xVar 7) (zaa (xVar 8) (zaa (xVar 9) aNil)))) aNil)))
    (sSeq (sSet 5 (xN zcc (zaa (xVar 0) (zaa (x2 (o2 dIx) (xVar 1) (xVar 8)) aNil))))
    (sSeq (sNew 4 (lCat (xVar 4) (x2 (o2 zb6) (xLst (zaa (xTup (zaa (xVar 7) (zaa (xVar 8) (zaa (xIf (tBl (x2 (o2 zkc) (xVar 5) (xC .non))) (xVar 5) (xNeg (xC (.int 1)))) aNil)))) aNil)) (xC (.int 4)))))
    (sSeq (sFor (lRg1 (zaa (xVar 2) aNil)) (gNm 6) zbj)
    (sSeq (sIf (tBl (x2 (o2 dEq) (xVar 2) (xC (.int 3)))) (sNew 4 (lCat (xVar 4) (x2 (o2 zb6) (xLst (zaa (xTup (zaa (xTup (zaa (xTup (zaa (xC (.int 1)) (zaa (xC .non) aNil))) (zaa (xTup (zaa (xC (.int 0)) (zaa (xC .non) aNil))) aNil))) (zaa (xC (.int 2)) (zaa (xC .non) aNil)))) aNil)) (xC (.int 3))))) sNil)
    (sRet (xN zaz (zaa (xVar 0) (zaa (xVar 4) aNil)))))))))))))))
def zcf : Fn := za6 13 zf_
def zcy : SFn := (sSeq (sPar 5 6 (xN (o1 dLen) (zaa (xVar 2) aNil)) (xN zco (zaa (xVar 0) (zaa (xVar 2) aNil))))
    (sSeq (sSet 3 (xLst (zaa (xC .non) (zaa (xLst aNil) (zaa (xC (.str "x")) (zaa (xC (.int 7)) (zaa (xC (.bl true)) (zaa (xTup (zaa (xC .non) aNil)) aNil))))))))
    (sSeq (sIf (tBl (x2 (o2 dEq) (xVar 1) (xC (.str "columns")))) (sSeq (sSet 7 (x2 (o2 dAdd) (xSl (xVar 3) pNo (pEx (xC (.int 5)))) (xLst (zaa (xTup aNil) (zaa (x2 (o2 zb6) (xTup (zaa (xC .non) aNil)) (xC (.int 5))) (zaa (xTup (zaa (xTup aNil) aNil)) (zaa (xTup (zaa (xTup (zaa (xC (.int 1)) (zaa (xC (.int 0)) aNil))) aNil)) (zaa (xTup (zaa (xTup (zaa (xC (.int 0)) (zaa (xC (.int 1)) (zaa (xC (.int 2)) (zaa (xC (.int 3)) aNil))))) aNil)) (zaa (xTup (zaa (xTup (zaa (xC (.int 0)) aNil)) (zaa (xTup (zaa (xC (.int 0)) aNil)) (zaa (xTup (zaa (xC (.int 0)) aNil)) aNil)))) aNil)))))))))
    (sRet (xN zaz (zaa (xVar 0) (zaa (x2 (o2 dAdd) (xVar 7) (xLst (zaa (xLst (zaa (xC .non) aNil)) (zaa (xTup (zaa (xTup (zaa (xNeg (xC (.int 1))) aNil)) aNil)) (zaa (xTup (zaa (xTup (zaa (xC (.bl true)) aNil)) aNil)) aNil))))) aNil))))) sNil)
    (sSeq (sIf (tBl (x2 (o2 dEq) (xVar 1) (xC (.str "rule")))) (sRet (xN zcf (zaa (xVar 0) (zaa (xVar 2) aNil)))) sNil)
    (sSeq (sIf (tBl (x2 (o2 dEq) (xVar 1) (xC (.str "rules")))) (sSeq (sPar 8 9 (xN zcf (zaa (xVar 0) (zaa (xVar 2) aNil))) (xN zb5 (zaa (xVar 0) (zaa (xVar 2) aNil))))
    (sSeq (sSet 7 (xLst (zaa (x2 (o2 zb6) (xTup (zaa (xVar 9) aNil)) (xC (.int 9))) (zaa (xVar 9) (zaa (xLst (zaa (xVar 9) aNil)) (zaa (xTup (zaa (xVar 8) aNil)) (zaa (xTup (zaa (xVar 9) (zaa (xVar 8) aNil))) aNil)))))))
    (sRet (xN zaz (zaa (xVar 0) (zaa (x2 (o2 dAdd) (x2 (o2 dAdd) (xVar 3) (xVar 7)) (xLst (zaa (xTup (zaa (xVar 8) (zaa (xVar 9) aNil))) (zaa (xTup (zaa (xVar 9) (zaa (xVar 8) (zaa (xVar 9) aNil)))) aNil)))) aNil)))))) sNil)
    (sSeq (sIf (tBl (x2 (o2 dEq) (xVar 1) (xC (.str "row")))) (sSeq (sSet 8 (xN zbx (zaa (xVar 0) (zaa (xVar 2) aNil))))
    (sSeq (sSet 7 (x2 (o2 dAdd) (xLst (zaa (xTup aNil) (zaa (x2 (o2 dAdd) (xVar 6) (xSl (xVar 6) pNo (pEx (xC (.int 1))))) (zaa (xSl (xVar 6) (pEx (xC (.int 1))) pNo) (zaa (xN (o1 zjg) (zaa (xVar 6) aNil)) aNil))))) (x2 (o2 zb6) (xLst (zaa (xVar 8) aNil)) (xC (.int 6)))))
    (sRet (xN zaz (zaa (xVar 0) (zaa (x2 (o2 dAdd) (xSl (xVar 3) pNo (pEx (xC (.int 5)))) (xVar 7)) aNil)))))) sNil)
    (sSeq (sIf (tBl (x2 (o2 dEq) (xVar 1) (xC (.str "table")))) (sSeq (sSet 8 (xN zbx (zaa (xVar 0) (zaa (xVar 2) aNil))))
    (sSeq (sSet 7 (xLst (zaa (x2 (o2 zb6) (xTup (zaa (xVar 6) aNil)) (xC (.int 9))) (zaa (x2 (o2 dAdd) (xVar 6) (xTup (zaa (xC (.int 0)) aNil))) (zaa (xTup (zaa (x2 (o2 dAdd) (xVar 6) (xTup (zaa (xC (.int 0)) aNil))) aNil)) (zaa (xTup (zaa (xVar 8) aNil)) (zaa (xTup (zaa (xVar 6) (zaa (xVar 8) aNil))) aNil)))))))
    (sSeq (sSet 7 (x2 (o2 dAdd) (xVar 7) (xLst (zaa (xTup (zaa (xVar 8) (zaa (xVar 6) aNil))) (zaa (xTup (zaa (xVar 6) (zaa (xVar 8) (zaa (xVar 6) aNil)))) (zaa (xLst (zaa (xVar 6) aNil)) (zaa (xTup (zaa (xTup aNil) aNil)) aNil)))))))
    (sRet (xN zaz (zaa (xVar 0) (zaa (x2 (o2 dAdd) (x2 (o2 dAdd) (xVar 3) (xVar 7)) (xLst (zaa (xTup (zaa (xVar 6) (zaa (xN (o1 zjg) (zaa (xVar 6) aNil)) aNil))) aNil))) aNil))))))) sNil)
    (sSeq (sSet 4 (x2 (o2 dAdd) (xVar 5) (xN zay (zaa (xVar 0) (zaa (xC (.int 3)) aNil)))))
    (sSeq (sIf (tBl (x2 (o2 dEq) (xVar 1) (xC (.str "settled")))) (sSeq (sSet 7 (xLst (zaa (xTup (zaa (xC (.int 0)) (zaa (xC (.int 0)) aNil))) (zaa (xTup (zaa (xVar 4) aNil)) (zaa (xTup (zaa (xNeg (xC (.int 1))) aNil)) (zaa (xTup (zaa (xC (.bl true)) aNil)) (zaa (xTup (zaa (xC (.str "0")) aNil)) (zaa (xLst (zaa (xC (.int 0)) aNil)) (zaa (xTup (zaa (xC (.int 0)) (zaa (xVar 4) aNil))) (zaa (xTup (zaa (xC (.int 1)) (zaa (xC (.int 0)) aNil))) aNil))))))))))
    (sRet (xN zaz (zaa (xVar 0) (zaa (x2 (o2 dAdd) (xVar 3) (xVar 7)) aNil))))) sNil)
    (sRet (xN zaz (zaa (xVar 0) (zaa (xLst (zaa (xC .non) (zaa (xC (.int 0)) (zaa (xC (.int 9)) (zaa (xNeg (xC (.int 1))) (zaa (xC (.bl true)) (zaa (xC (.str "1")) (zaa (xTup (zaa (xC (.int 1)) aNil)) (zaa (xLst (zaa (xC (.int 1)) aNil)) (zaa (x2 (o2 dPow) (xC (.int 10)) (xC (.int 20))) aNil)))))))))) aNil)))))))))))))
def zba : Fn := za6 10 zcy
def zcl : SFn := (sSeq (sSet 1 (xLst (zaa (zjx isi_InvalidColumns (xVar 0)) (zaa (zjx zbg (xVar 0)) aNil))))
    (sSeq (sSet 1 (x2 (o2 dAdd) (xVar 1) (xLst (zaa (zjx zbk (xVar 0)) aNil))))
    (sSeq (sSet 1 (x2 (o2 dAdd) (xVar 1) (xLst (zaa (zjx zbh (xVar 0)) (zaa (zjx zbm (xVar 0)) aNil)))))
    (sSeq (sSet 1 (x2 (o2 dAdd) (xVar 1) (xLst (zaa (zjx zbd (xVar 0)) (zaa (zjx za4 (xVar 0)) aNil)))))
    (sSeq (sSet 2 (xLst (zaa (xC (.str "columns")) (zaa (xC (.str "rules")) (zaa (xC (.str "rule")) (zaa (xC (.str "table")) (zaa (xC (.str "row")) (zaa (xC (.str "number")) (zaa (xC (.str "settled")) aNil)))))))))
    (sRet (xIf (tBl (x2 (o2 dEq) (xMth zgn (xVar 1) (.bl true)) (xC (.int 1)))) (x2 (o2 dIx) (xVar 2) (xMth zgw (xVar 1) (.bl true))) (xC (.str "other")))))))))
def za9 : Fn := za6 3 zcl
def zan : SFn := (sSeq (sIf (tBl (x2 (o2 dEq) (xVar 0) (xC (.int 0)))) (sRet (xN zeg (zaa (x2 (o2 dIx) (xVar 1) (xC (.int 0))) (zaa (x2 (o2 dIx) (xVar 1) (xC (.int 1))) (zaa (x2 (o2 dIx) (xVar 1) (xC (.int 2))) aNil))))) sNil)
    (sSeq (sIf (tBl (x2 (o2 dEq) (xVar 0) (xC (.int 1)))) (sRet (xN zfp (zaa (x2 (o2 dIx) (xVar 1) (xC (.int 0))) (zaa (x2 (o2 dIx) (xVar 1) (xC (.int 1))) (zaa (x2 (o2 dIx) (xVar 1) (xC (.int 2))) aNil))))) sNil)
    (sSeq (sIf (tBl (x2 (o2 dEq) (xVar 0) (xC (.int 2)))) (sRet (xN zc_ (zaa (x2 (o2 dIx) (xVar 1) (xC (.int 0))) (zaa (x2 (o2 dIx) (xVar 1) (xC (.int 1))) (zaa (x2 (o2 dIx) (xVar 1) (xC (.int 2))) aNil))))) sNil)
    (sSeq (sIf (tBl (x2 (o2 dEq) (xVar 0) (xC (.int 3)))) (sRet (xN zdz (zaa (x2 (o2 dIx) (xVar 1) (xC (.int 0))) (zaa (x2 (o2 dIx) (xVar 1) (xC (.int 1))) aNil)))) sNil)
    (sSeq (sIf (tBl (x2 (o2 dEq) (xVar 0) (xC (.int 4)))) (sRet (xN zhg (zaa (x2 (o2 dIx) (xVar 1) (xC (.int 0))) (zaa (x2 (o2 dIx) (xVar 1) (xC (.int 1))) aNil)))) sNil)
    (sSeq (sIf (tBl (x2 (o2 dEq) (xVar 0) (xC (.int 5)))) (sRet (xN zd0 (zaa (x2 (o2 dIx) (xVar 1) (xC (.int 0))) (zaa (x2 (o2 dIx) (xVar 1) (xC (.int 1))) (zaa (xC .non) aNil))))) sNil)
    (sSeq (sIf (tBl (x2 (o2 dEq) (xVar 0) (xC (.int 6)))) (sRet (xN zch (zaa (x2 (o2 dIx) (xVar 1) (xC (.int 0))) (zaa (x2 (o2 dIx) (xVar 1) (xC (.int 1))) (zaa (xC .non) aNil))))) sNil)
    (sSeq (sIf (tBl (x2 (o2 dEq) (xVar 0) (xC (.int 7)))) (sRet (xN zb2 (zaa (x2 (o2 dIx) (xVar 1) (xC (.int 0))) (zaa (x2 (o2 dIx) (xVar 1) (xC (.int 1))) (zaa (x2 (o2 dIx) (xVar 1) (xC (.int 2))) aNil))))) sNil)
    (sSeq (sIf (tBl (x2 (o2 dEq) (xVar 0) (xC (.int 8)))) (sRet (xN zdi (zaa (x2 (o2 dIx) (xVar 1) (xC (.int 0))) (zaa (x2 (o2 dIx) (xVar 1) (xC (.int 1))) (zaa (x2 (o2 dIx) (xVar 1) (xC (.int 2))) aNil))))) sNil)
    (sSeq (sIf (tBl (x2 (o2 dEq) (xVar 0) (xC (.int 9)))) (sRet (xN zca (zaa (x2 (o2 dIx) (xVar 1) (xC (.int 0))) (zaa (x2 (o2 dIx) (xVar 1) (xC (.int 1))) (zaa (x2 (o2 dIx) (xVar 1) (xC (.int 2))) aNil))))) sNil)
    (sRet (xN zbf (zaa (x2 (o2 dIx) (xVar 1) (xC (.int 0))) (zaa (x2 (o2 dIx) (xVar 1) (xC (.int 1))) (zaa (x2 (o2 dIx) (xVar 1) (xC (.int 2))) (zaa (x2 (o2 dIx) (xVar 1) (xC (.int 3))) (zaa (xC .non) aNil)))))))))))))))))
def zai : Fn := za6 2 zan
def zhw : SFn := (sSeq (sPar 3 4 (xC .non) (xN (o1 zkw) (zaa (xVar 1) aNil)))
    (sSeq (sTryK (zc9 (xN zai (zaa (xVar 0) (zaa (xVar 1) aNil)))) zdw 2 3)
    (sSeq (sIf (tBl (x2 (o2 dNeS) (xN (o1 zkw) (zaa (xVar 1) aNil)) (xVar 4))) (sRet (xC (.str "changed"))) sNil)
    (sRet (xIf (tBl (x2 (oIsNo false) (xVar 3) (xC .non))) (xC (.str "value")) (xN za9 (zaa (xVar 3) aNil)))))))
def zc1 : Fn := za6 5 zhw
def zil : SFn := (sIf (tOr_ (tBl (x2 (o2 dEq) (xVar 9) (xVar 7))) (tBl (x2 (o2 dEq) (xN (zec zay) (zaa (xVar 1) (zaa (xC (.int 2)) aNil))) (xC (.int 0))))) (sPut (xVar 8) (xVar 9) (xN (zec zba) (zaa (xVar 1) (zaa (x2 (o2 dIx) (x2 (o2 dIx) (xVar 2) (xVar 6)) (xVar 9)) (zaa (xVar 4) aNil))))) sNil)
def zkx : SFn := (sSeq (sNew 8 (lLc (lIt (x2 (o2 dIx) (xVar 2) (xVar 6))) [10] (gNm 10) zff (xGetS2 (xVar 5) (xVar 10) (xC (.int 1)))))
    (sSeq (sFor (lRg2 (zaa (xVar 7) (zaa (xN (o1 dLen) (zaa (xVar 8) aNil)) aNil))) (gNm 9) zil)
    (sSeq (sFrz 8) (sIf (tBl (x2 (o2 dNe) (xN (zec zc1) (zaa (xVar 6) (zaa (xVar 8) aNil))) (x2 (o2 dIx) (x2 (o2 dIx) (xVar 2) (xVar 6)) (xVar 7)))) (sRet (xC (.bl false))) sNil))))
def zlb : SFn := (sFor (lRg1 (zaa (xN (o1 dLen) (zaa (x2 (o2 dIx) (xVar 2) (xVar 6)) aNil)) aNil)) (gNm 7) zkx)
def zk6 : SFn := (sSeq (sSet 4 (xN (zec zck) (zaa (xN (zec zc0) (zaa (xVar 1) aNil)) (zaa (xC (.int 4)) aNil))))
    (sSeq (sSet 5 (xDisp ["columns", "rules", "rule", "table"] [(xVar 4), (xTup aNil), (xN (zec zb5) (zaa (xVar 1) (zaa (xVar 4) aNil))), (xTup aNil)]))
    (sSeq (sPutS (xVar 5) (xC (.str "row")) (xN (zec zco) (zaa (xVar 1) (zaa (xVar 4) aNil))))
    (sFor (lRg1 (zaa (xC (.int 11)) aNil)) (gNm 6) zlb))))
def s_law : SFn := (sSeq (sSet 1 (xN (zec zdn) (zaa (xVar 0) aNil)))
    (sSeq (sNew 2 (lLst (zaa (xLst (zaa (xC (.str "columns")) (zaa (xC (.str "rules")) (zaa (xC (.str "table")) aNil)))) (zaa (xLst (zaa (xC (.str "columns")) (zaa (xC (.str "rule")) (zaa (xC (.str "table")) aNil)))) (zaa (xLst (zaa (xC (.str "columns")) (zaa (xC (.str "rules")) (zaa (xC (.str "table")) aNil)))) aNil)))))
    (sSeq (sNew 2 (lCat (x2 (o2 dAdd) (xVar 2) (x2 (o2 zb6) (xLst (zaa (xLst (zaa (xC (.str "columns")) (zaa (xC (.str "rules")) aNil))) aNil)) (xC (.int 3)))) (xLst (zaa (xLst (zaa (xC (.str "columns")) (zaa (xC (.str "rule")) aNil))) (zaa (xLst (zaa (xC (.str "columns")) (zaa (xC (.str "table")) (zaa (xC (.str "number")) aNil)))) aNil)))))
    (sSeq (sApp (xVar 2) (xLst (zaa (xC (.str "columns")) (zaa (xC (.str "rule")) (zaa (xC (.str "row")) aNil)))))
    (sSeq (sNew 2 (lCat (xVar 2) (xLst (zaa (xLst (zaa (xC (.str "columns")) (zaa (xC (.str "rules")) (zaa (xC (.str "table")) aNil)))) (zaa (xLst (zaa (xC (.str "columns")) (zaa (xC (.str "rules")) (zaa (xC (.str "table")) (zaa (xC (.str "number")) aNil))))) aNil)))))
    (sSeq (sFor (lRg1 (zaa (xC (.int 8)) aNil)) (gNm 3) zk6)
    (sRet (xC (.bl true)))))))))
def gS_law : Fn := zk0 11 s_law
def g_law : Fn := sealF gS_law
end T18
namespace DL
open PySem PySem.Spec PyProof.Rows L2
/-! a hook that looks at given addresses alone -/
/-! ## what the head looks at -/
def tabB (K : PySem.W.Frag) (x : Str) : Bool := match K.lookup (He.ga K x) with
  | some ⟨_, _, .func fd, _⟩ => (match (fd.code : Value) with
    | .ref c => (match K.lookup c with
      | some ⟨.type T, _, .fields vs, _⟩ => (match (vs[11]? : Option Value), (vs.getD 11 Value.none : Value), (vs.getD 18 Value.none : Value), (vs.getD 7 Value.none : Value), (vs.getD 9 Value.none : Value), (vs.getD 10 Value.none : Value) with
        | some (.ref P), .ref P', .str _ _, .int _ _, .bool _, .int _ _ => decide (T = "code") && decide (P = P') && decide (c ≠ P) && decide (P ≠ mainGlobals) && (match PySem.W.nsIn K mainGlobals "__builtins__" with
          | some (some (.ref bm)) => decide (bm ≠ builtinsNs) && decide (bm ≠ mainGlobals) && decide (bm ≠ P) && (match K.lookup bm with
            | some ⟨.type M, some d, .plain, _⟩ => decide (M = "module") && decide (d = builtinsNs)
            | _ => false)
          | _ => false)
        | _, _, _, _, _, _ => false)
      | _ => false)
    | _ => false)
  | _ => false
theorem tab_ok {K : PySem.W.Frag} {x : Str} (h : tabB K x = true) : ∃ (c P : Addr) (oc : Value) (od : Option Addr) (fd : FuncData) (osl : Array (Option Value)) (oc2 : Option Addr) (sl2 : Array (Option Value)) (vs : Array Value) (file : Str) (tf : Tok) (flags : Int) (tg : Tok) (inF : Bool) (text : Int) (tt : Tok) (bm : Addr) (sl3 : Array (Option Value)),
    K.lookup (He.ga K x) = some ⟨oc, od, .func fd, osl⟩ ∧ fd.code = .ref c ∧ K.lookup c = some ⟨.type "code", oc2, .fields vs, sl2⟩ ∧ vs[11]? = some (.ref P) ∧ vs.getD 11 .none = .ref P ∧ vs.getD 18 .none = .str file tf ∧ vs.getD 7 .none = .int flags tg ∧ vs.getD 9 .none = .bool inF ∧ vs.getD 10 .none = .int text tt ∧ c ≠ P ∧ P ≠ mainGlobals ∧
    PySem.W.nsIn K mainGlobals "__builtins__" = some (some (.ref bm)) ∧ bm ≠ builtinsNs ∧ bm ≠ mainGlobals ∧ bm ≠ P ∧ K.lookup bm = some ⟨.type "module", some builtinsNs, .plain, sl3⟩ := by
  unfold tabB at h
  split at h
  · rename_i oc od fd osl h1
    split at h
    · rename_i c h2
      split at h
      · rename_i T oc2 vs sl2 h3
        split at h
        · rename_i P P' file tf flags tg inF text tt h4 h5 h6 h7 h8 h9
          simp only [Bool.and_eq_true, decide_eq_true_eq] at h
          obtain ⟨⟨⟨⟨hT, hP⟩, n1⟩, n2⟩, h⟩ := h
          subst hT
          subst hP
          split at h
          · rename_i bm k1
            simp only [Bool.and_eq_true, decide_eq_true_eq] at h
            obtain ⟨⟨⟨m1, m2⟩, m3⟩, h⟩ := h
            split at h
            · rename_i M d sl3 k5
              simp only [Bool.and_eq_true, decide_eq_true_eq] at h
              obtain ⟨e1, e2⟩ := h
              subst e1
              subst e2
              exact ⟨c, P, oc, od, fd, osl, oc2, sl2, vs, file, tf, flags, tg, inF, text, tt, bm, sl3, h1, h2, h3, h4, h5, h6, h7, h8, h9, n1, n2, k1, m1, m2, m3, k5⟩
            · cases h
          · cases h
        · cases h
      · cases h
    · cases h
  · cases h
theorem tabs_of {K : PySem.W.Frag} {x : Str} {c P : Addr} {oc : Value} {od : Option Addr} {fd : FuncData} {osl : Array (Option Value)} {cl : Value} {oc2 : Option Addr} {sl2 : Array (Option Value)} {vs : Array Value} (h1 : K.lookup (He.ga K x) = some ⟨oc, od, .func fd, osl⟩) (h2 : fd.code = .ref c) (h3 : K.lookup c = some ⟨cl, oc2, .fields vs, sl2⟩) (h4 : vs[11]? = some (.ref P)) : tabOf K x = [P] := by
  unfold tabOf
  have h5 : vs.toList[11]? = some (.ref P) := by rw [← h4]; simp
  simp only [h1, h2, h3, h5]
def zfb (K : PySem.W.Frag) : PySem.W.Frag := K.filter fun p => !((zb4 K).contains p.1)
theorem zgf (l : List Addr) (a : Addr) : ∀ K : PySem.W.Frag, (K.filter fun p => !(l.contains p.1)).lookup a = if l.contains a then none else K.lookup a
  | [] => by simp
  | (b, o) :: K => by
    have ih := zgf l a K
    by_cases hb : l.contains b = true
    · rw [List.filter_cons_of_neg (by simp only [hb]; decide), ih]
      by_cases e : a = b
      · subst e
        rw [if_pos hb, if_pos hb]
      · have : (a == b) = false := by simpa using e
        rw [List.lookup_cons, this]
    · have hb' : l.contains b = false := by simpa using hb
      rw [List.filter_cons_of_pos (by simp only [hb']; decide), List.lookup_cons, List.lookup_cons, ih]
      by_cases e : a = b
      · subst e
        simp only [if_neg hb]
      · have : (a == b) = false := by simpa using e
        rw [this]
theorem dropT_in {K : PySem.W.Frag} {h : Heap} (X : K.In h) : (zfb K).In h := fun a o e => by
  unfold zfb at e
  rw [zgf] at e
  split at e
  · cases e
  · exact X a o e
def zk8 : Option Obj → Bool
  | some ⟨.none, none, .fields vs, sl⟩ => decide (vs.size = 0) && decide (sl.size = 0)
  | _ => false
theorem emptyTab_ok {o : Option Obj} (h : zk8 o = true) : o = some { cls := .none, data := .fields #[] } := by
  unfold zk8 at h
  split at h
  · rename_i vs sl
    simp only [Bool.and_eq_true, decide_eq_true_eq] at h
    obtain ⟨h1, h2⟩ := h
    have e1 : vs = #[] := Array.eq_empty_of_size_eq_zero h1
    have e2 : sl = #[] := Array.eq_empty_of_size_eq_zero h2
    subst e1
    subst e2
    rfl
  · cases h
def tabLB (K : PySem.W.Frag) : Bool := decide (tabsP (zfb K) = tabsP K) && ((zb4 K).all (fun P => zk8 (K.lookup P)) && lamNs.all fun x => (decide (tabOf (zfb K) x = []) || tabB (zfb K) x))
theorem tabL_ok {K : PySem.W.Frag} {h : Heap} (X : K.In h) (b : tabLB K = true) : TabLook (zfb K) h := by
  unfold tabLB at b
  simp only [Bool.and_eq_true, Bool.or_eq_true, List.all_eq_true, decide_eq_true_eq] at b
  obtain ⟨b1, b2, b3⟩ := b
  have b4 : zb4 (zfb K) = zb4 K := by unfold zb4; rw [b1]
  intro P hP
  have hP2 := hP
  rw [b4] at hP2
  refine ⟨X _ _ (emptyTab_ok (b2 P hP2)), ?_, ?_⟩
  · obtain ⟨p, hp, e⟩ := List.mem_map.mp hP
    obtain ⟨x, hx, hq⟩ := List.mem_flatMap.mp hp
    obtain ⟨P2, hP3, e2⟩ := List.mem_map.mp hq
    have e3 : P2 = P := by rw [← e, ← e2]
    subst e3
    rcases b3 x hx with z | z
    · rw [z] at hP3; cases hP3
    · obtain ⟨c, P', oc, od, fd, osl, oc2, sl2, vs, file, tf, flags, tg, inF, text, tt, bm, sl3, h1, h2, h3, h4, _⟩ := tab_ok z
      rw [tabs_of h1 h2 h3 h4, List.mem_singleton] at hP3
      subst hP3
      exact ⟨c, _, vs, dropT_in X _ _ h3, rfl, rfl, h4⟩
  · unfold zfb
    rw [zgf, if_pos (List.contains_iff_mem.mpr hP2)]
def obsT (fa : List He.Fa) (fn : List He.DefD) (ex : PySem.W.Frag → Bool) (as : List Addr) (g : Addr → Option Obj) : He.AlD × Bool := (He.obsD fa fn (zfb (He.frG g as)), ex (zfb (He.frG g as)) && tabLB (He.frG g as))
def hookT (fa : List He.Fa) (fn : List He.DefD) (ex : PySem.W.Frag → Bool) (as : List Addr) : PySem.W.Hook where
  α := He.AlD × Bool
  obs := fun s => obsT fa fn ex as s.heap.get?
  val := fun _ => (He.valD fn, true)
  says := fun _ h => ∃ K : PySem.W.Frag, K.In h ∧ He.SaysD fa fn K ∧ ex K = true ∧ TabLook K h
  of := fun _ s e => by
    have e1 : He.obsD fa fn (zfb (He.frG s.heap.get? as)) = He.valD fn := congrArg (fun z : He.AlD × Bool => z.1) e
    have e2 : (ex (zfb (He.frG s.heap.get? as)) && tabLB (He.frG s.heap.get? as)) = true := congrArg (fun z : He.AlD × Bool => z.2) e
    rw [Bool.and_eq_true] at e2
    exact ⟨_, dropT_in He.frG_in, e1, e2.1, tabL_ok He.frG_in e2.2⟩
  keeps := fun _ _ _ ⟨K, hK, c, x, t⟩ k => ⟨K, PySem.W.Frag.In.keeps hK k, c, x, fun P hP => by
    obtain ⟨t1, ⟨c0, o, vs, t2, t3, t4, t5⟩, t6⟩ := t P hP
    exact ⟨k _ _ t1, ⟨c0, o, vs, k _ _ t2, t3, t4, t5⟩, t6⟩⟩
theorem obsT_eq {fa : List He.Fa} {fn : List He.DefD} {ex : PySem.W.Frag → Bool} {as : List Addr} {g : Addr → Option Obj} {s : Shared} (h : ∀ a, g a = s.heap.get? a) : obsT fa fn ex as g = (hookT fa fn ex as).obs s := by
  have e : g = s.heap.get? := funext h
  rw [e] <;> rfl
def kit1 (K : PySem.W.Frag) (tv : Value) (t : List (Str × Bool)) : Bool := t.all fun q => decide (PySem.W.kitOne K (.ref (He.ga K q.1)) tv = some q.2)
def kits1 (K : PySem.W.Frag) (ys : List (Str × List (Str × Bool))) : Bool := ys.all fun y => kit1 K (.ref (He.ga K y.1)) y.2
theorem kit1_ok {K : PySem.W.Frag} {cs : List Str} {tv : Value} {t : List (Str × Bool)} (h : cs.all (excB K) = true) (m : t.all (fun q => cs.contains q.1) = true) (k : kit1 K tv t = true) : kitB K tv t = true := by
  unfold kitB
  unfold kit1 at k
  rw [List.all_eq_true] at h k m ⊢
  intro q hq
  rw [Bool.and_eq_true]
  exact ⟨h _ (List.contains_iff_mem.mp (m q hq)), k q hq⟩
theorem kits1_ok {K : PySem.W.Frag} {cs : List Str} {ys : List (Str × List (Str × Bool))} (h : cs.all (excB K) = true) (m : ys.all (fun y => y.2.all fun q => cs.contains q.1) = true) (k : kits1 K ys = true) : kitsB K ys = true := by
  unfold kitsB
  unfold kits1 at k
  rw [List.all_eq_true] at k m ⊢
  exact fun y hy => kit1_ok h (m y hy) (k y hy)
theorem run2 {σ α β γ : Type} {o : Option σ} {f : σ → α} {g : σ → β} {h : σ → γ} {a : α} {b : β} {c : γ} (A : o.map (fun s => (f s, g s)) = some (a, b)) (B : o.map (fun s => h s) = some c) : o.map (fun s => (f s, g s, h s)) = some (a, b, c) := by
  cases o with
  | none => cases A
  | some s =>
    simp only [Option.map_some, Option.some.injEq, Prod.mk.injEq] at A B ⊢
    exact ⟨A.1, A.2, B⟩
end DL
set_option maxHeartbeats 0
namespace T18
open PySem PySem.Spec PyProof.Rows L2 DL
def topR (i : Nat) : Stmt := PySem.Challenge.pw_whererules_k18_refusals.main.body.getD i (.Pass ⟨0, 0, 0, 0⟩)
def mkD (x : Str) (i : Nat) : He.DefD := ⟨(x, none), x, x, defArgs (topR i), defBody (topR i), defScope (topR i), [], []⟩
def mkM (x : Str) (j : Nat) : He.DefD := ⟨("Case", some x), x, "Case." ++ x, defArgs (mth (topR 52) j), defBody (mth (topR 52) j), defScope (mth (topR 52) j), [], []⟩
def fn : List He.DefD := ([mkD "is_integer" 12, mkD "is_between" 13, mkD "is_value" 17, mkD "is_column" 18, mkD "is_value_of" 19, mkD "is_columns" 20, mkD "is_row_of" 21, mkD "is_table_of" 22, mkD "require_columns" 23, mkD "require_row" 24, mkD "require_table" 25, mkD "is_entry" 28, mkD "is_given" 29, mkD "is_rule_of" 30, mkD "are_rules" 31, mkD "require_rule" 34, mkD "require_rules" 35, mkD "matches" 36, mkD "breaks" 46, mkD "holds" 47, mkD "fewest_out" 48, mkD "count_tree" 49, mkD "is_count_tree" 50, mkD "more_general" 80, mkD "needless" 81, mkD "cover" 82, mkD "is_cover" 83, mkD "found_rules" 89, mkD "_law_spread" 91, mkD "_law_open" 92] : List He.DefD) ++ ([mkD "_law_take" 93, mkD "_law_anew" 94, mkD "_law_one" 95, mkD "_law_columns" 96, mkD "_law_value" 97, mkD "_law_row" 98, mkD "_law_rule" 99, mkD "_law_off" 100, mkD "_law_spoiled_row" 101, mkD "_law_bad_rule" 102, mkD "_law_bad" 103, mkD "_law_word" 104, mkD "_law_do" 105, mkD "_law_told" 106, mkD "law" 107, mkM "__init__" 0, mkM "copied" 1, mkM "known" 2, mkM "learn" 3, mkM "join" 4, mkM "are_alike" 5, mkM "is_clash" 6] : List He.DefD)
def fa : List He.Fa := ([.free "all", .free "any", .free "bool", .free "dict", .free "enumerate", .free "int", .free "isinstance", .free "len", .free "list", .free "range", .free "repr", .free "set", .free "sorted", .free "tuple", .free "zip", .int "MOST_COLUMNS" 4, .int "MOST_ROWS" 8, .int "MOST_RULES" 8, .glo "InvalidColumns", .exc "InvalidColumns", .glo "InvalidNumber", .exc "InvalidNumber", .glo "InvalidRow", .exc "InvalidRow", .glo "InvalidRule", .exc "InvalidRule", .glo "InvalidRules", .exc "InvalidRules", .glo "InvalidTable", .exc "InvalidTable"] : List He.Fa) ++ ([.glo "InvalidValue", .exc "InvalidValue", .glo "RuleError", .glo "InvalidColumns", .glo "InvalidRow", .glo "InvalidTable", .glo "InvalidRule", .glo "InvalidRules", .glo "InvalidSettled", .glo "InvalidNumber", .glo "InvalidValue", .glo "NotAtPeace", .glo "RuleError", .exm "NotAtPeace" "RuleError" true, .exm "InvalidValue" "RuleError" true, .exm "InvalidNumber" "RuleError" true, .exm "InvalidSettled" "RuleError" true, .exm "InvalidRules" "RuleError" true, .exm "InvalidRule" "RuleError" true, .exm "InvalidTable" "RuleError" true, .exm "InvalidRow" "RuleError" true, .exm "InvalidColumns" "RuleError" true, .exm "RuleError" "RuleError" true, .glo "is_integer", .glo "is_between", .glo "is_value", .glo "is_column", .glo "is_value_of", .glo "is_columns", .glo "is_row_of"] : List He.Fa) ++ ([.glo "is_table_of", .glo "require_columns", .glo "require_row", .glo "require_table", .glo "is_entry", .glo "is_given", .glo "is_rule_of", .glo "are_rules", .glo "require_rule", .glo "require_rules", .glo "matches", .glo "breaks", .glo "holds", .glo "fewest_out", .glo "count_tree", .glo "is_count_tree", .glo "more_general", .glo "needless", .glo "cover", .glo "is_cover", .glo "found_rules", .glo "_law_spread", .glo "_law_open", .glo "_law_take", .glo "_law_anew", .glo "_law_one", .glo "_law_columns", .glo "_law_value", .glo "_law_row", .glo "_law_rule"] : List He.Fa) ++ ([.glo "_law_off", .glo "_law_spoiled_row", .glo "_law_bad_rule", .glo "_law_bad", .glo "_law_word", .glo "_law_do", .glo "_law_told", .glo "law", .glo "Case", .cls "Case", .noat "Case" "columns", .noat "Case" "count", .noat "Case" "labels", .noat "Case" "facts", .mkr "Case", .meth "Case" "copied", .meth "Case" "known", .meth "Case" "learn", .meth "Case" "join", .meth "Case" "are_alike", .meth "Case" "is_clash"] : List He.Fa)
def loose : List Str := (["is_integer", "is_between", "is_value", "is_column", "is_value_of", "is_columns", "is_row_of", "is_table_of", "require_columns", "require_row", "require_table", "is_entry", "is_given", "is_rule_of", "are_rules", "does_match", "are_equal", "require_rule", "require_rules", "matches", "find_rule_breaks", "does_hold", "find_breaks", "find_subsets", "find_fewest_out", "find_left", "find_count_tree", "is_count_tree_of", "breaks", "holds"] : List Str) ++ (["fewest_out", "count_tree", "is_count_tree", "is_goal", "can_step", "can_join", "stepped", "joined", "learned", "find_next", "find_unknown", "find_closed_cells", "find_leaves", "find_open", "find_rows", "find_named", "find_case", "find_goal", "is_implied", "find_row", "is_more_general", "find_next_general", "find_general", "find_needless", "find_cover", "find_cover_fault", "require_peace", "more_general", "needless", "cover"] : List Str) ++ (["is_cover", "find_givens", "find_candidates", "is_good", "find_found", "found_rules", "_law_spread", "_law_open", "_law_take", "_law_anew", "_law_one", "_law_columns", "_law_value", "_law_row", "_law_rule", "_law_off", "_law_spoiled_row", "_law_bad_rule", "_law_bad", "_law_word", "_law_do", "_law_told", "RuleError", "InvalidColumns", "InvalidRow", "InvalidTable", "InvalidRule", "InvalidRules", "InvalidSettled", "InvalidNumber"] : List Str) ++ (["InvalidValue", "NotAtPeace", "MOST_COLUMNS", "MOST_ROWS", "MOST_RULES", "Case"] : List Str)
abbrev R : PySem.W.OpenRow := PySem.W.OpenLaw.row PySem.Challenge.rw_whererules_k18_refusals
def ys : List (Str × List (Str × Bool)) := [("InvalidColumns", isi_InvalidColumns), ("InvalidNumber", zbd), ("InvalidRow", zbm), ("InvalidRule", zbk), ("InvalidRules", zbg), ("InvalidSettled", za4), ("InvalidTable", zbh)]
def xs_ : List Str := isi_InvalidColumns.map (·.1)
def ex (K : PySem.W.Frag) : Bool := xs_.all (excB K) && (kits1 K ys && (kit1 K (.type "ValueError") [] && casB K))
theorem exo_0 {K : PySem.W.Frag} (h : ex K = true) : xs_.all (excB K) = true ∧ kits1 K ys = true ∧ kit1 K (.type "ValueError") [] = true ∧ casB K = true := by
  unfold ex at h
  simpa only [Bool.and_eq_true] using h
theorem exo_1 {K : PySem.W.Frag} (h : ex K = true) : kitsB K ys = true := kits1_ok (exo_0 h).1 (by decide +kernel) (exo_0 h).2.1
theorem exo_c {K : PySem.W.Frag} (h : ex K = true) : casB K = true := (exo_0 h).2.2.2
def as_ : List Addr := ([3, 6, 4, 24, 37, 49, 61, 73, 85, 97, 109, 121, 133, 142, 149, 156, 161, 168, 173, 178, 183, 190, 197, 204, 211, 216, 221, 226, 231, 236] : List Addr) ++ ([243, 250, 257, 262, 269, 274, 279, 284, 289, 294, 299, 306, 313, 320, 327, 334, 387, 398, 403, 410, 417, 424, 431, 438, 445, 450, 457, 464, 469, 474] : List Addr) ++ ([481, 488, 495, 502, 507, 512, 519, 524, 529, 534, 541, 548, 555, 562, 569, 574, 579, 584, 589, 596, 603, 610, 617, 624, 631, 636, 643, 648, 655, 660] : List Addr) ++ ([667, 672, 679, 686, 693, 700, 705, 0, 23, 36, 48, 60, 72, 84, 96, 108, 120, 132, 141, 148, 155, 160, 167, 172, 177, 182, 189, 196, 203, 210] : List Addr) ++ ([215, 220, 225, 230, 235, 242, 249, 256, 261, 268, 273, 278, 283, 288, 293, 298, 305, 312, 319, 326, 333, 386, 397, 402, 409, 416, 423, 430, 437, 444] : List Addr) ++ ([449, 456, 463, 468, 473, 480, 487, 494, 501, 506, 511, 518, 523, 528, 533, 540, 547, 554, 561, 568, 573, 578, 583, 588, 595, 602, 609, 616, 623, 630] : List Addr) ++ ([635, 642, 647, 654, 659, 666, 671, 678, 685, 692, 699, 704, 22, 25, 35, 47, 59, 71, 83, 95, 107, 119, 131, 136, 137, 138, 139, 140, 143, 144] : List Addr) ++ ([145, 146, 147, 150, 151, 152, 153, 154, 157, 158, 159, 162, 163, 164, 165, 166, 169, 170, 171, 174, 175, 176, 179, 180, 181, 184, 185, 186, 187, 188] : List Addr) ++ ([191, 192, 193, 194, 195, 198, 199, 200, 201, 202, 205, 206, 207, 208, 209, 212, 213, 214, 217, 218, 219, 222, 223, 224, 227, 228, 229, 232, 233, 234] : List Addr) ++ ([237, 238, 239, 240, 241, 244, 245, 246, 247, 248, 251, 252, 253, 254, 255, 258, 259, 260, 263, 264, 265, 266, 267, 270, 271, 272, 275, 276, 277, 280] : List Addr) ++ ([281, 282, 285, 286, 287, 290, 291, 292, 295, 296, 297, 300, 301, 302, 303, 304, 307, 308, 309, 310, 311, 314, 315, 316, 317, 318, 321, 322, 323, 324] : List Addr) ++ ([325, 328, 329, 330, 331, 332, 348, 353, 360, 367, 374, 379, 384, 385, 388, 389, 392, 393, 394, 395, 396, 399, 400, 401, 404, 405, 406, 407, 408, 411] : List Addr) ++ ([412, 413, 414, 415, 418, 419, 420, 421, 422, 425, 426, 427, 428, 429, 432, 433, 434, 435, 436, 439, 440, 441, 442, 443, 446, 447, 448, 451, 452, 453] : List Addr) ++ ([454, 455, 458, 459, 460, 461, 462, 465, 466, 467, 470, 471, 472, 475, 476, 477, 478, 479, 482, 483, 484, 485, 486, 489, 490, 491, 492, 493, 496, 497] : List Addr) ++ ([498, 499, 500, 503, 504, 505, 508, 509, 510, 513, 514, 515, 516, 517, 520, 521, 522, 525, 526, 527, 530, 531, 532, 535, 536, 537, 538, 539, 542, 543] : List Addr) ++ ([544, 545, 546, 549, 550, 551, 552, 553, 556, 557, 558, 559, 560, 563, 564, 565, 566, 567, 570, 571, 572, 575, 576, 577, 580, 581, 582, 585, 586, 587] : List Addr) ++ ([590, 591, 592, 593, 594, 597, 598, 599, 600, 601, 604, 605, 606, 607, 608, 611, 612, 613, 614, 615, 618, 619, 620, 621, 622, 625, 626, 627, 628, 629] : List Addr) ++ ([632, 633, 634, 637, 638, 639, 640, 641, 644, 645, 646, 649, 650, 651, 652, 653, 656, 657, 658, 661, 662, 663, 664, 665, 668, 669, 670, 673, 674, 675] : List Addr) ++ ([676, 677, 680, 681, 682, 683, 684, 687, 688, 689, 690, 691, 694, 695, 696, 697, 698, 701, 702, 703, 347, 352, 359, 366, 373, 378, 383, 342, 343, 344] : List Addr) ++ ([345, 346, 349, 350, 351, 354, 355, 356, 357, 358, 361, 362, 363, 364, 365, 368, 369, 370, 371, 372, 375, 376, 377, 380, 381, 382] : List Addr)
abbrev hk : PySem.W.Hook := DL.hookT fa fn ex as_
def ob (s : PySem.W.SharedT) : He.AlD × Bool := DL.obsT fa fn ex as_ (HandSHeadRun.getT s)
theorem ob_eq (s : PySem.W.SharedT) : ob s = hk.obs s.abs := DL.obsT_eq (HandSHeadRun.getT_eq s)
open PySem PySem.W PySem.Calls PyProof.Rows in
theorem runA (w : World) (os : OsState) : (HandSHeadRun.endF (HandSHeadRun.stepQ (HandSHeadRun.denQ HandSHeadRun.tabQ) R.prog w) 20000 R.prog w os).map (fun s => (HandSHeadRun.looksF R.prog (boot_heap w.params) s.abs, HandSHeadRun.seenQ (PySem.W.view R.prog [107]) loose (importedModules R.prog.main.body) (fun s => xlAt (PySem.W.view R.prog [107]) [] s && recOk R.toRowW.records s) s.abs)) = some (true, openGood (PySem.W.view R.prog [107]) loose) := by
  kernel_rfl
open PySem PySem.W PySem.Calls PyProof.Rows in
theorem runC1 (w : World) (os : OsState) : (HandSHeadRun.endF (HandSHeadRun.stepQ (HandSHeadRun.denQ HandSHeadRun.tabQ) R.prog w) 20000 R.prog w os).map (fun s => (fa.all fun f => f.ok (DL.zfb (He.frG (HandSHeadRun.getT s) as_))) && (fn.take 26).all fun d => d.ok (DL.zfb (He.frG (HandSHeadRun.getT s) as_))) = some true := by
  kernel_rfl
open PySem PySem.W PySem.Calls PyProof.Rows in
theorem runC2 (w : World) (os : OsState) : (HandSHeadRun.endF (HandSHeadRun.stepQ (HandSHeadRun.denQ HandSHeadRun.tabQ) R.prog w) 20000 R.prog w os).map (fun s => (fn.drop 26).all fun d => d.ok (DL.zfb (He.frG (HandSHeadRun.getT s) as_))) = some true := by
  kernel_rfl
open PySem PySem.W PySem.Calls PyProof.Rows in
theorem runC3 (w : World) (os : OsState) : (HandSHeadRun.endF (HandSHeadRun.stepQ (HandSHeadRun.denQ HandSHeadRun.tabQ) R.prog w) 20000 R.prog w os).map (fun s => fn.map fun d => He.fnW (DL.zfb (He.frG (HandSHeadRun.getT s) as_)) d.at_) = some (fn.map He.DefD.val) := by
  kernel_rfl
theorem runJ {σ : Type} {o : Option σ} {K : σ → PySem.W.Frag} {fa : List He.Fa} {fn : List He.DefD} (h : Nat) (A : o.map (fun s => (fa.all fun f => f.ok (K s)) && (fn.take h).all fun d => d.ok (K s)) = some true) (B : o.map (fun s => (fn.drop h).all fun d => d.ok (K s)) = some true) (C : o.map (fun s => fn.map fun d => He.fnW (K s) d.at_) = some (fn.map He.DefD.val)) : o.map (fun s => He.obsD fa fn (K s)) = some (He.valD fn) := by
  cases o with
  | none => exact absurd A (by simp)
  | some s =>
    have A : ((fa.all fun f => f.ok (K s)) && (fn.take h).all fun d => d.ok (K s)) = true := Option.some.inj A
    have B : ((fn.drop h).all fun d => d.ok (K s)) = true := Option.some.inj B
    have C : (fn.map fun d => He.fnW (K s) d.at_) = fn.map He.DefD.val := Option.some.inj C
    rw [Bool.and_eq_true] at A
    have e : (fn.all fun d => d.ok (K s)) = true := by
      rw [← List.take_append_drop h fn, List.all_append, A.2, B]
      rfl
    show some ((fa.all fun f => f.ok (K s)) && fn.all fun d => d.ok (K s), fn.map fun d => He.fnW (K s) d.at_) = some (true, fn.map He.DefD.val)
    rw [A.1, e, C]
    rfl
open PySem PySem.W PySem.Calls PyProof.Rows in
theorem runB1 (w : World) (os : OsState) : (HandSHeadRun.endF (HandSHeadRun.stepQ (HandSHeadRun.denQ HandSHeadRun.tabQ) R.prog w) 20000 R.prog w os).map (fun s => He.obsD fa fn (DL.zfb (He.frG (HandSHeadRun.getT s) as_))) = some (He.valD fn) := runJ 26 (runC1 w os) (runC2 w os) (runC3 w os)
open PySem PySem.W PySem.Calls PyProof.Rows in
theorem runB2 (w : World) (os : OsState) : (HandSHeadRun.endF (HandSHeadRun.stepQ (HandSHeadRun.denQ HandSHeadRun.tabQ) R.prog w) 20000 R.prog w os).map (fun s => ex (DL.zfb (He.frG (HandSHeadRun.getT s) as_)) && DL.tabLB (He.frG (HandSHeadRun.getT s) as_)) = some true := by
  kernel_rfl
theorem runP {σ α β : Type} {o : Option σ} {f : σ → α} {g : σ → β} {a : α} {b : β} (A : o.map f = some a) (B : o.map g = some b) : o.map (fun s => (f s, g s)) = some (a, b) := by
  cases o with
  | none => exact absurd A (by simp)
  | some s =>
    have A := Option.some.inj A
    have B := Option.some.inj B
    show some (f s, g s) = _
    rw [A, B]
open PySem PySem.W PySem.Calls PyProof.Rows in
theorem runB (w : World) (os : OsState) : (HandSHeadRun.endF (HandSHeadRun.stepQ (HandSHeadRun.denQ HandSHeadRun.tabQ) R.prog w) 20000 R.prog w os).map (fun s => ob s) = some (hk.val w) := runP (runB1 w os) (runB2 w os)
theorem run (w : World) : HandSHeadRun.RunEq R (PySem.W.view R.prog [107]) hk ob 20000 loose w := fun os => DL.run2 (runA w os) (runB w os)
end T18
set_option maxHeartbeats 0
namespace T18
open PySem PySem.Spec PyProof.Rows L2 DL
def top (i : Nat) : Stmt := PySem.Challenge.pw_whererules_k18_refusals.main.body.getD i (.Pass ⟨0, 0, 0, 0⟩)
structure Txt (K : PySem.W.Frag) (mg : Str → Option Value) : Prop where
  b_all : mg "all" = none
  b_any : mg "any" = none
  b_bool : mg "bool" = none
  b_dict : mg "dict" = none
  b_enumerate : mg "enumerate" = none
  b_int : mg "int" = none
  b_isinstance : mg "isinstance" = none
  b_len : mg "len" = none
  b_list : mg "list" = none
  b_range : mg "range" = none
  b_repr : mg "repr" = none
  b_set : mg "set" = none
  b_sorted : mg "sorted" = none
  b_tuple : mg "tuple" = none
  b_zip : mg "zip" = none
  i_MOST_COLUMNS : ∃ t, mg "MOST_COLUMNS" = some (.int 4 t)
  i_MOST_ROWS : ∃ t, mg "MOST_ROWS" = some (.int 8 t)
  i_MOST_RULES : ∃ t, mg "MOST_RULES" = some (.int 8 t)
  e_InvalidColumns : ExcD K mg "InvalidColumns"
  e_InvalidNumber : ExcD K mg "InvalidNumber"
  e_InvalidRow : ExcD K mg "InvalidRow"
  e_InvalidRule : ExcD K mg "InvalidRule"
  e_InvalidRules : ExcD K mg "InvalidRules"
  e_InvalidTable : ExcD K mg "InvalidTable"
  e_InvalidValue : ExcD K mg "InvalidValue"
  c_RuleError : CatD K mg "RuleError" zdw
  y_InvalidColumns : IsiD K mg "InvalidColumns" isi_InvalidColumns
  y_InvalidNumber : IsiD K mg "InvalidNumber" zbd
  y_InvalidRow : IsiD K mg "InvalidRow" zbm
  y_InvalidRule : IsiD K mg "InvalidRule" zbk
  y_InvalidRules : IsiD K mg "InvalidRules" zbg
  y_InvalidSettled : IsiD K mg "InvalidSettled" za4
  y_InvalidTable : IsiD K mg "InvalidTable" zbh
  k_RuleError : ∀ c, (zdw c).isSome = true → mg c = some (.ref (He.ga K c))
  cas : CasK K
  cg : mg "Case" = some (.ref (He.ga K "Case"))
  m_init : ∃ f fd, FunD K "__init__" "Case.__init__" (defArgs (mth (top 52) 0)) (defBody (mth (top 52) 0)) (defScope (mth (top 52) 0)) [] [] f fd ∧ Mk K (He.ga K "Case") f
  m_copied : ∃ f fd, FunD K "copied" "Case.copied" (defArgs (mth (top 52) 1)) (defBody (mth (top 52) 1)) (defScope (mth (top 52) 1)) [] [] f fd ∧ Meth K (He.ga K "Case") "copied" f
  m_known : ∃ f fd, FunD K "known" "Case.known" (defArgs (mth (top 52) 2)) (defBody (mth (top 52) 2)) (defScope (mth (top 52) 2)) [] [] f fd ∧ Meth K (He.ga K "Case") "known" f
  m_learn : ∃ f fd, FunD K "learn" "Case.learn" (defArgs (mth (top 52) 3)) (defBody (mth (top 52) 3)) (defScope (mth (top 52) 3)) [] [] f fd ∧ Meth K (He.ga K "Case") "learn" f
  m_join : ∃ f fd, FunD K "join" "Case.join" (defArgs (mth (top 52) 4)) (defBody (mth (top 52) 4)) (defScope (mth (top 52) 4)) [] [] f fd ∧ Meth K (He.ga K "Case") "join" f
  m_are_alike : ∃ f fd, FunD K "are_alike" "Case.are_alike" (defArgs (mth (top 52) 5)) (defBody (mth (top 52) 5)) (defScope (mth (top 52) 5)) [] [] f fd ∧ Meth K (He.ga K "Case") "are_alike" f
  m_is_clash : ∃ f fd, FunD K "is_clash" "Case.is_clash" (defArgs (mth (top 52) 6)) (defBody (mth (top 52) 6)) (defScope (mth (top 52) 6)) [] [] f fd ∧ Meth K (He.ga K "Case") "is_clash" f
  d_is_integer : ∃ f fd, FunD K "is_integer" "is_integer" (defArgs (top 12)) (defBody (top 12)) (defScope (top 12)) [] [] f fd ∧ mg "is_integer" = some (.ref f)
  d_is_between : ∃ f fd, FunD K "is_between" "is_between" (defArgs (top 13)) (defBody (top 13)) (defScope (top 13)) [] [] f fd ∧ mg "is_between" = some (.ref f)
  d_is_value : ∃ f fd, FunD K "is_value" "is_value" (defArgs (top 17)) (defBody (top 17)) (defScope (top 17)) [] [] f fd ∧ mg "is_value" = some (.ref f)
  d_is_column : ∃ f fd, FunD K "is_column" "is_column" (defArgs (top 18)) (defBody (top 18)) (defScope (top 18)) [] [] f fd ∧ mg "is_column" = some (.ref f)
  d_is_value_of : ∃ f fd, FunD K "is_value_of" "is_value_of" (defArgs (top 19)) (defBody (top 19)) (defScope (top 19)) [] [] f fd ∧ mg "is_value_of" = some (.ref f)
  d_is_columns : ∃ f fd, FunD K "is_columns" "is_columns" (defArgs (top 20)) (defBody (top 20)) (defScope (top 20)) [] [] f fd ∧ mg "is_columns" = some (.ref f)
  d_is_row_of : ∃ f fd, FunD K "is_row_of" "is_row_of" (defArgs (top 21)) (defBody (top 21)) (defScope (top 21)) [] [] f fd ∧ mg "is_row_of" = some (.ref f)
  d_is_table_of : ∃ f fd, FunD K "is_table_of" "is_table_of" (defArgs (top 22)) (defBody (top 22)) (defScope (top 22)) [] [] f fd ∧ mg "is_table_of" = some (.ref f)
  d_require_columns : ∃ f fd, FunD K "require_columns" "require_columns" (defArgs (top 23)) (defBody (top 23)) (defScope (top 23)) [] [] f fd ∧ mg "require_columns" = some (.ref f)
  d_require_row : ∃ f fd, FunD K "require_row" "require_row" (defArgs (top 24)) (defBody (top 24)) (defScope (top 24)) [] [] f fd ∧ mg "require_row" = some (.ref f)
  d_require_table : ∃ f fd, FunD K "require_table" "require_table" (defArgs (top 25)) (defBody (top 25)) (defScope (top 25)) [] [] f fd ∧ mg "require_table" = some (.ref f)
  d_is_entry : ∃ f fd, FunD K "is_entry" "is_entry" (defArgs (top 28)) (defBody (top 28)) (defScope (top 28)) [] [] f fd ∧ mg "is_entry" = some (.ref f)
  d_is_given : ∃ f fd, FunD K "is_given" "is_given" (defArgs (top 29)) (defBody (top 29)) (defScope (top 29)) [] [] f fd ∧ mg "is_given" = some (.ref f)
  d_is_rule_of : ∃ f fd, FunD K "is_rule_of" "is_rule_of" (defArgs (top 30)) (defBody (top 30)) (defScope (top 30)) [] [] f fd ∧ mg "is_rule_of" = some (.ref f)
  d_are_rules : ∃ f fd, FunD K "are_rules" "are_rules" (defArgs (top 31)) (defBody (top 31)) (defScope (top 31)) [] [] f fd ∧ mg "are_rules" = some (.ref f)
  d_require_rule : ∃ f fd, FunD K "require_rule" "require_rule" (defArgs (top 34)) (defBody (top 34)) (defScope (top 34)) [] [] f fd ∧ mg "require_rule" = some (.ref f)
  d_require_rules : ∃ f fd, FunD K "require_rules" "require_rules" (defArgs (top 35)) (defBody (top 35)) (defScope (top 35)) [] [] f fd ∧ mg "require_rules" = some (.ref f)
  d_matches : ∃ f fd, FunD K "matches" "matches" (defArgs (top 36)) (defBody (top 36)) (defScope (top 36)) [] [] f fd ∧ mg "matches" = some (.ref f)
  d_breaks : ∃ f fd, FunD K "breaks" "breaks" (defArgs (top 46)) (defBody (top 46)) (defScope (top 46)) [] [] f fd ∧ mg "breaks" = some (.ref f)
  d_holds : ∃ f fd, FunD K "holds" "holds" (defArgs (top 47)) (defBody (top 47)) (defScope (top 47)) [] [] f fd ∧ mg "holds" = some (.ref f)
  d_fewest_out : ∃ f fd, FunD K "fewest_out" "fewest_out" (defArgs (top 48)) (defBody (top 48)) (defScope (top 48)) [] [] f fd ∧ mg "fewest_out" = some (.ref f)
  d_count_tree : ∃ f fd, FunD K "count_tree" "count_tree" (defArgs (top 49)) (defBody (top 49)) (defScope (top 49)) [] [] f fd ∧ mg "count_tree" = some (.ref f)
  d_is_count_tree : ∃ f fd, FunD K "is_count_tree" "is_count_tree" (defArgs (top 50)) (defBody (top 50)) (defScope (top 50)) [] [] f fd ∧ mg "is_count_tree" = some (.ref f)
  d_more_general : ∃ f fd, FunD K "more_general" "more_general" (defArgs (top 80)) (defBody (top 80)) (defScope (top 80)) [] [] f fd ∧ mg "more_general" = some (.ref f)
  d_needless : ∃ f fd, FunD K "needless" "needless" (defArgs (top 81)) (defBody (top 81)) (defScope (top 81)) [] [] f fd ∧ mg "needless" = some (.ref f)
  d_cover : ∃ f fd, FunD K "cover" "cover" (defArgs (top 82)) (defBody (top 82)) (defScope (top 82)) [] [] f fd ∧ mg "cover" = some (.ref f)
  d_is_cover : ∃ f fd, FunD K "is_cover" "is_cover" (defArgs (top 83)) (defBody (top 83)) (defScope (top 83)) [] [] f fd ∧ mg "is_cover" = some (.ref f)
  d_found_rules : ∃ f fd, FunD K "found_rules" "found_rules" (defArgs (top 89)) (defBody (top 89)) (defScope (top 89)) [] [] f fd ∧ mg "found_rules" = some (.ref f)
  d_l_law_spread : ∃ f fd, FunD K "_law_spread" "_law_spread" (defArgs (top 91)) (defBody (top 91)) (defScope (top 91)) [] [] f fd ∧ mg "_law_spread" = some (.ref f)
  d_l_law_open : ∃ f fd, FunD K "_law_open" "_law_open" (defArgs (top 92)) (defBody (top 92)) (defScope (top 92)) [] [] f fd ∧ mg "_law_open" = some (.ref f)
  d_l_law_take : ∃ f fd, FunD K "_law_take" "_law_take" (defArgs (top 93)) (defBody (top 93)) (defScope (top 93)) [] [] f fd ∧ mg "_law_take" = some (.ref f)
  d_l_law_anew : ∃ f fd, FunD K "_law_anew" "_law_anew" (defArgs (top 94)) (defBody (top 94)) (defScope (top 94)) [] [] f fd ∧ mg "_law_anew" = some (.ref f)
  d_l_law_one : ∃ f fd, FunD K "_law_one" "_law_one" (defArgs (top 95)) (defBody (top 95)) (defScope (top 95)) [] [] f fd ∧ mg "_law_one" = some (.ref f)
  d_l_law_columns : ∃ f fd, FunD K "_law_columns" "_law_columns" (defArgs (top 96)) (defBody (top 96)) (defScope (top 96)) [] [] f fd ∧ mg "_law_columns" = some (.ref f)
  d_l_law_value : ∃ f fd, FunD K "_law_value" "_law_value" (defArgs (top 97)) (defBody (top 97)) (defScope (top 97)) [] [] f fd ∧ mg "_law_value" = some (.ref f)
  d_l_law_row : ∃ f fd, FunD K "_law_row" "_law_row" (defArgs (top 98)) (defBody (top 98)) (defScope (top 98)) [] [] f fd ∧ mg "_law_row" = some (.ref f)
  d_l_law_rule : ∃ f fd, FunD K "_law_rule" "_law_rule" (defArgs (top 99)) (defBody (top 99)) (defScope (top 99)) [] [] f fd ∧ mg "_law_rule" = some (.ref f)
  d_l_law_off : ∃ f fd, FunD K "_law_off" "_law_off" (defArgs (top 100)) (defBody (top 100)) (defScope (top 100)) [] [] f fd ∧ mg "_law_off" = some (.ref f)
  d_l_law_spoiled_row : ∃ f fd, FunD K "_law_spoiled_row" "_law_spoiled_row" (defArgs (top 101)) (defBody (top 101)) (defScope (top 101)) [] [] f fd ∧ mg "_law_spoiled_row" = some (.ref f)
  d_l_law_bad_rule : ∃ f fd, FunD K "_law_bad_rule" "_law_bad_rule" (defArgs (top 102)) (defBody (top 102)) (defScope (top 102)) [] [] f fd ∧ mg "_law_bad_rule" = some (.ref f)
  d_l_law_bad : ∃ f fd, FunD K "_law_bad" "_law_bad" (defArgs (top 103)) (defBody (top 103)) (defScope (top 103)) [] [] f fd ∧ mg "_law_bad" = some (.ref f)
  d_l_law_word : ∃ f fd, FunD K "_law_word" "_law_word" (defArgs (top 104)) (defBody (top 104)) (defScope (top 104)) [] [] f fd ∧ mg "_law_word" = some (.ref f)
  d_l_law_do : ∃ f fd, FunD K "_law_do" "_law_do" (defArgs (top 105)) (defBody (top 105)) (defScope (top 105)) [] [] f fd ∧ mg "_law_do" = some (.ref f)
  d_l_law_told : ∃ f fd, FunD K "_law_told" "_law_told" (defArgs (top 106)) (defBody (top 106)) (defScope (top 106)) [] [] f fd ∧ mg "_law_told" = some (.ref f)
  d_law : ∃ f fd, FunD K "law" "law" (defArgs (top 107)) (defBody (top 107)) (defScope (top 107)) [] [] f fd ∧ mg "law" = some (.ref f)
variable {P : Program} {w : World} {K : PySem.W.Frag} {mg : Str → Option Value} {base : Heap}
theorem zke : FnScope (["value"] : List Str) (["value"] : List Str) (defScope (top 12)) := ⟨rfl, rfl, rfl, by decide +kernel, rfl, by decide +kernel, by decide +kernel⟩
theorem zg7 (T : Txt K mg) : Def P w K mg base 1 "is_integer" 1 zdl := zb1 T.d_is_integer zke (fun _ _ _ _ _ _ us hl => match us, hl with | [_], _ => rfl) (fun f cdv A outer s H E hr hG =>
    (zaj (zao (de_and (zf8 (zab (i := 0)) T.b_isinstance T.b_int (by decide +kernel)) (zir (de_not (zf8 (zab (i := 0)) T.b_isinstance T.b_bool (by decide +kernel))))))))
theorem zkz : FnScope (["value", "least", "most"] : List Str) (["value", "least", "most"] : List Str) (defScope (top 13)) := ⟨rfl, rfl, rfl, by decide +kernel, rfl, by decide +kernel, by decide +kernel⟩
theorem zdu (T : Txt K mg) : Def P w K mg base 2 "is_between" 3 zcm := zb1 T.d_is_between zkz (fun _ _ _ _ _ _ us hl => match us, hl with | [_, _, _], _ => rfl) (fun f cdv A outer s H E hr hG =>
    (zaj (zao (de_and (zak (zg7 T) (hr.mono (by decide)) hG (takes_of rfl rfl rfl rfl) (za_ (zab (i := 0)) zac) (hlen := (zad zal))) (zir (de_chain op_le op_le zje zje (zab (i := 1)) (zab (i := 0)) (zab (i := 2))))))))
theorem sc_is_value : FnScope (["value"] : List Str) (["value"] : List Str) (defScope (top 17)) := ⟨rfl, rfl, rfl, by decide +kernel, rfl, by decide +kernel, by decide +kernel⟩
theorem zjd (T : Txt K mg) : Def P w K mg base 2 "is_value" 1 zew := zb1 T.d_is_value sc_is_value (fun _ _ _ _ _ _ us hl => match us, hl with | [_], _ => rfl) (fun f cdv A outer s H E hr hG =>
    (zaj (zao (de_and (zak (zg7 T) (hr.mono (by decide)) hG (takes_of rfl rfl rfl rfl) (za_ (zab (i := 0)) zac) (hlen := (zad zal))) (zir (zgq op_ge dGe_ok (zab (i := 0)) zag))))))
theorem sc_is_column : FnScope (["value", "one"] : List Str) (["value"] : List Str) (defScope (top 18)) := ⟨rfl, rfl, rfl, by decide +kernel, rfl, by decide +kernel, by decide +kernel⟩
theorem ok_is_column (T : Txt K mg) : Def P w K mg base 3 "is_column" 1 ze7 := zb1 T.d_is_column sc_is_column (fun _ _ _ _ _ _ us hl => match us, hl with | [_], _ => rfl) (fun f cdv A outer s H E hr hG =>
    (zaf (zbt (za0 op_isN zfm (zab (i := 0)) za7) (zaj (zao zea)) zaq)
    (zaf (zbt (zh7 (zci (zeb (zf8 (zab (i := 0)) T.b_isinstance T.b_tuple (by decide +kernel)))) (zf3 (zci (dt_chain op_le op_le zje zje zag (zax call_len zby T.b_len (by decide +kernel) (za_ (zab (i := 0)) zac)) zag)))).dt (zaj (zao zea)) zaq)
    (zaf (zbt (zci (zeb (zax (cr_all rfl) zgb T.b_all (by decide +kernel) (za_ (zg5 (own := [("one", 1)]) rfl sc_is_column.nd (zel (zab (i := 0))) (blkOk_by (N := ["value", "one"]) (sc := defScope (top 18)) (by decide +kernel)) (fun _ _ _ _ _ => (zbc (i := 1) sc_is_column.nd)) (fun _ _ _ _ _ => zdp) (fun _ _ _ _ _ => (zak (zjd T) (hr.mono (by decide)) hG takes0 (za_ (zab (i := 1)) zac) (hlen := (zad zal))))).de zac)))) (zaj (zao zea)) zaq)
    (zaj (zao (zgq (zbs (ru64 hr)) zce (zbb call_list_of zif T.b_list (by decide +kernel) (za_ (zab (i := 0)) zac)) (zhb rfl (zab (i := 0)) T.b_sorted T.b_set).de)))))))
theorem zjt : FnScope (["column", "value"] : List Str) (["column", "value"] : List Str) (defScope (top 19)) := ⟨rfl, rfl, rfl, by decide +kernel, rfl, by decide +kernel, by decide +kernel⟩
theorem zen (T : Txt K mg) : Def P w K mg base 3 "is_value_of" 2 zcq := zb1 T.d_is_value_of zjt (fun _ _ _ _ _ _ us hl => match us, hl with | [_, _], _ => rfl) (fun f cdv A outer s H E hr hG =>
    (zaj (zao (de_and (zak (zjd T) (hr.mono (by decide)) hG (takes_of rfl rfl rfl rfl) (za_ (zab (i := 1)) zac) (hlen := (zad zal))) (zir (de_or (zgq op_isN zfm (zab (i := 0)) za7) (zir (zgq (op_inDD (ru65 hr)) dIn_ok (zab (i := 1)) (zab (i := 0))))))))))
theorem sc_is_columns : FnScope (["value", "column"] : List Str) (["value"] : List Str) (defScope (top 20)) := ⟨rfl, rfl, rfl, by decide +kernel, rfl, by decide +kernel, by decide +kernel⟩
theorem zkk (T : Txt K mg) : Def P w K mg base 4 "is_columns" 1 zek := zb1 T.d_is_columns sc_is_columns (fun _ _ _ _ _ _ us hl => match us, hl with | [_], _ => rfl) (fun f cdv A outer s H E hr hG =>
    (zaf (zbt (zh7 (zci (zeb (zf8 (zab (i := 0)) T.b_isinstance T.b_tuple (by decide +kernel)))) (zf3 (zci (dt_chain op_le op_le zje zje zag (zax call_len zby T.b_len (by decide +kernel) (za_ (zab (i := 0)) zac)) (DL.zer (by rfl) T.i_MOST_COLUMNS))))).dt (zaj (zao zea)) zaq)
    (zaf (zbt (zci (zeb (zax (cr_all rfl) zgb T.b_all (by decide +kernel) (za_ (zg5 (own := [("column", 1)]) rfl sc_is_columns.nd (zel (zab (i := 0))) (blkOk_by (N := ["value", "column"]) (sc := defScope (top 20)) (by decide +kernel)) (fun _ _ _ _ _ => (zbc (i := 1) sc_is_columns.nd)) (fun _ _ _ _ _ => zdp) (fun _ _ _ _ _ => (zak (ok_is_column T) (hr.mono (by decide)) hG takes0 (za_ (zab (i := 1)) zac) (hlen := (zad zal))))).de zac)))) (zaj (zao zea)) zaq)
    (zaj (zao (zgq op_le zje (zax call_len zby T.b_len (by decide +kernel) (za_ (zg5 (own := [("column", 1)]) rfl sc_is_columns.nd (zel (zab (i := 0))) (blkOk_by (N := ["value", "column"]) (sc := defScope (top 20)) (by decide +kernel)) (fun _ _ _ _ _ => (zbc (i := 1) sc_is_columns.nd)) (fun _ _ _ _ _ => (zkf (za0 op_notN zib (zab (i := 1)) za7))) (fun _ _ _ _ _ => (zab (i := 1)))).de zac)) zag))))))
theorem sc_is_row_of : FnScope (["columns", "value", "column", "one"] : List Str) (["columns", "value"] : List Str) (defScope (top 21)) := ⟨rfl, rfl, rfl, by decide +kernel, rfl, by decide +kernel, by decide +kernel⟩
theorem zhl (T : Txt K mg) : Def P w K mg base 4 "is_row_of" 2 zd6 := zb1 T.d_is_row_of sc_is_row_of (fun _ _ _ _ _ _ us hl => match us, hl with | [_, _], _ => rfl) (fun f cdv A outer s H E hr hG =>
    (zaf (zbt (zh7 (zci (zeb (zf8 (zab (i := 1)) T.b_isinstance T.b_tuple (by decide +kernel)))) (zf3 (za0 (zfn (ru64 hr)) zih (zax call_len zby T.b_len (by decide +kernel) (za_ (zab (i := 1)) zac)) (zax call_len zby T.b_len (by decide +kernel) (za_ (zab (i := 0)) zac))))).dt (zaj (zao zea)) zaq)
    (zaj (zao (zax (cr_all rfl) zgb T.b_all (by decide +kernel) (za_ (zg5 (own := [("column", 2), ("one", 3)]) rfl sc_is_row_of.nd (di_zip (zab (i := 0)) (zab (i := 1)) T.b_zip) (blkOk_by (N := ["columns", "value", "column", "one"]) (sc := defScope (top 21)) (by decide +kernel)) (fun _ _ _ _ _ => (dg_tup rfl (zcv (zbc (i := 2) sc_is_row_of.nd) (zcv (zbc (i := 3) sc_is_row_of.nd) zik)) (zcg (zcg zg6)))) (fun _ _ _ _ _ => zdp) (fun _ _ _ _ _ => (zak (zen T) (hr.mono (by decide)) hG takes0 (za_ (zab (i := 2)) (za_ (zab (i := 3)) zac)) (hlen := (zad (zad zal)))))).de zac))))))
theorem sc_is_table_of : FnScope (["columns", "value", "row"] : List Str) (["columns", "value"] : List Str) (defScope (top 22)) := ⟨rfl, rfl, rfl, by decide +kernel, rfl, by decide +kernel, by decide +kernel⟩
theorem zjj (T : Txt K mg) : Def P w K mg base 5 "is_table_of" 2 zdt := zb1 T.d_is_table_of sc_is_table_of (fun _ _ _ _ _ _ us hl => match us, hl with | [_, _], _ => rfl) (fun f cdv A outer s H E hr hG =>
    (zaf (zbt (zh7 (zci (zeb (zf8 (zab (i := 1)) T.b_isinstance T.b_tuple (by decide +kernel)))) (zf3 (za0 op_gt dGt_ok (zax call_len zby T.b_len (by decide +kernel) (za_ (zab (i := 1)) zac)) (DL.zer (by rfl) T.i_MOST_ROWS)))).dt (zaj (zao zea)) zaq)
    (zaj (zao (zax (cr_all rfl) zgb T.b_all (by decide +kernel) (za_ (zg5 (own := [("row", 2)]) rfl sc_is_table_of.nd (zel (zab (i := 1))) (blkOk_by (N := ["columns", "value", "row"]) (sc := defScope (top 22)) (by decide +kernel)) (fun _ _ _ _ _ => (zbc (i := 2) sc_is_table_of.nd)) (fun _ _ _ _ _ => zdp) (fun _ _ _ _ _ => (zak (zhl T) (hr.mono (by decide)) hG takes0 (za_ (zab (i := 0)) (za_ (zab (i := 2)) zac)) (hlen := (zad (zad zal)))))).de zac))))))
theorem zgy : FnScope (["value"] : List Str) (["value"] : List Str) (defScope (top 23)) := ⟨rfl, rfl, rfl, by decide +kernel, rfl, by decide +kernel, by decide +kernel⟩
theorem zb3 (T : Txt K mg) : Def P w K mg base 5 "require_columns" 1 za2 := zb1 T.d_require_columns zgy (fun _ _ _ _ _ _ us hl => match us, hl with | [_], _ => rfl) (fun f cdv A outer s H E hr hG =>
    (zaj (zbt (zci (zeb (zak (zkk T) (hr.mono (by decide)) hG (takes_of rfl rfl rfl rfl) (za_ (zab (i := 0)) zac) (hlen := (zad zal))))) (zaj (zef rfl (takes_of rfl rfl rfl rfl) T.e_InvalidColumns)) zaq)))
theorem zju : FnScope (["columns", "value"] : List Str) (["columns", "value"] : List Str) (defScope (top 24)) := ⟨rfl, rfl, rfl, by decide +kernel, rfl, by decide +kernel, by decide +kernel⟩
theorem zjr (T : Txt K mg) : Def P w K mg base 5 "require_row" 2 zc3 := zb1 T.d_require_row zju (fun _ _ _ _ _ _ us hl => match us, hl with | [_, _], _ => rfl) (fun f cdv A outer s H E hr hG =>
    (zaj (zbt (zci (zeb (zak (zhl T) (hr.mono (by decide)) hG (takes_of rfl rfl rfl rfl) (za_ (zab (i := 0)) (za_ (zab (i := 1)) zac)) (hlen := (zad (zad zal)))))) (zaj (zef rfl (takes_of rfl rfl rfl rfl) T.e_InvalidRow)) zaq)))
theorem zh6 : FnScope (["columns", "value"] : List Str) (["columns", "value"] : List Str) (defScope (top 25)) := ⟨rfl, rfl, rfl, by decide +kernel, rfl, by decide +kernel, by decide +kernel⟩
theorem zb0 (T : Txt K mg) : Def P w K mg base 6 "require_table" 2 zb_ := zb1 T.d_require_table zh6 (fun _ _ _ _ _ _ us hl => match us, hl with | [_, _], _ => rfl) (fun f cdv A outer s H E hr hG =>
    (zaj (zbt (zci (zeb (zak (zjj T) (hr.mono (by decide)) hG (takes_of rfl rfl rfl rfl) (za_ (zab (i := 0)) (za_ (zab (i := 1)) zac)) (hlen := (zad (zad zal)))))) (zaj (zef rfl (takes_of rfl rfl rfl rfl) T.e_InvalidTable)) zaq)))
theorem sc_is_entry : FnScope (["columns", "value"] : List Str) (["columns", "value"] : List Str) (defScope (top 28)) := ⟨rfl, rfl, rfl, by decide +kernel, rfl, by decide +kernel, by decide +kernel⟩
theorem ok_is_entry (T : Txt K mg) : Def P w K mg base 4 "is_entry" 2 zfx := zb1 T.d_is_entry sc_is_entry (fun _ _ _ _ _ _ us hl => match us, hl with | [_, _], _ => rfl) (fun f cdv A outer s H E hr hG =>
    (zaf (zbt (zh7 (zci (zeb (zf8 (zab (i := 1)) T.b_isinstance T.b_tuple (by decide +kernel)))) (zh7 (za0 (zfn (ru64 hr)) zih (zax call_len zby T.b_len (by decide +kernel) (za_ (zab (i := 1)) zac)) zag) (zf3 (zci (zeb (zak (zdu T) (hr.mono (by decide)) hG (takes_of rfl rfl rfl rfl) (za_ (za8 (zab (i := 1)) zag) (za_ zag (za_ (zau op_sub dSub_ok (zax call_len zby T.b_len (by decide +kernel) (za_ (zab (i := 0)) zac)) zag) zac))) (hlen := (zad (zad (zad zal)))))))))).dt (zaj (zao zea)) zaq)
    (zaj (zao (de_or (zgq op_isN zfm (za8 (zab (i := 1)) zag) za7) (zir (zak (zen T) (hr.mono (by decide)) hG (takes_of rfl rfl rfl rfl) (za_ (za8 (zab (i := 0)) (za8 (zab (i := 1)) zag)) (za_ (za8 (zab (i := 1)) zag) zac)) (hlen := (zad (zad zal))))))))))
theorem sc_is_given : FnScope (["columns", "value", "numbers", "entry"] : List Str) (["columns", "value"] : List Str) (defScope (top 29)) := ⟨rfl, rfl, rfl, by decide +kernel, rfl, by decide +kernel, by decide +kernel⟩
theorem ok_is_given (T : Txt K mg) : Def P w K mg base 5 "is_given" 2 zfw := zb1 T.d_is_given sc_is_given (fun _ _ _ _ _ _ us hl => match us, hl with | [_, _], _ => rfl) (fun f cdv A outer s H E hr hG =>
    (zaf (zbt (zh7 (zci (zeb (zf8 (zab (i := 1)) T.b_isinstance T.b_tuple (by decide +kernel)))) (zf3 (zci (zeb (zax (cr_all rfl) zgb T.b_all (by decide +kernel) (za_ (zg5 (own := [("entry", 3)]) rfl sc_is_given.nd (zel (zab (i := 1))) (blkOk_by (N := ["columns", "value", "numbers", "entry"]) (sc := defScope (top 29)) (by decide +kernel)) (fun _ _ _ _ _ => (zbc (i := 3) sc_is_given.nd)) (fun _ _ _ _ _ => zdp) (fun _ _ _ _ _ => (zak (ok_is_entry T) (hr.mono (by decide)) hG takes0 (za_ (zab (i := 0)) (za_ (zab (i := 3)) zac)) (hlen := (zad (zad zal)))))).de zac)))))).dt (zaj (zao zea)) zaq)
    (zaf (ds_setLc (i := 2) (own := [("entry", 3)]) rfl sc_is_given.nd (zel (zab (i := 1))) (blkOk_by (N := ["columns", "value", "numbers", "entry"]) (sc := defScope (top 29)) (by decide +kernel)) (fun _ _ _ _ _ => (zbc (i := 3) sc_is_given.nd)) (fun _ _ _ _ _ => zdp) (fun _ _ _ _ _ => (za8 (zab (i := 3)) zag)))
    (zaj (zao (zgq (zbs (ru64 hr)) zce (zab (i := 2)) (zhb rfl (zab (i := 2)) T.b_sorted T.b_set).de))))))
theorem sc_is_rule_of : FnScope (["columns", "value", "given", "column", "want", "entry"] : List Str) (["columns", "value"] : List Str) (defScope (top 30)) := ⟨rfl, rfl, rfl, by decide +kernel, rfl, by decide +kernel, by decide +kernel⟩
theorem ze3 (T : Txt K mg) : Def P w K mg base 6 "is_rule_of" 2 zcz := zb1 T.d_is_rule_of sc_is_rule_of (fun _ _ _ _ _ _ us hl => match us, hl with | [_, _], _ => rfl) (fun f cdv A outer s H E hr hG =>
    (zaf (zbt (zh7 (zci (zeb (zf8 (zab (i := 1)) T.b_isinstance T.b_tuple (by decide +kernel)))) (zh7 (za0 (zfn (ru64 hr)) zih (zax call_len zby T.b_len (by decide +kernel) (za_ (zab (i := 1)) zac)) zag) (zf3 (zci (zeb (zak (ok_is_given T) (hr.mono (by decide)) hG (takes_of rfl rfl rfl rfl) (za_ (zab (i := 0)) (za_ (za8 (zab (i := 1)) zag) zac)) (hlen := (zad (zad zal))))))))).dt (zaj (zao zea)) zaq)
    (zaf (ds_tg (zab (i := 1)) (dg_tup rfl (zcv (zbc (i := 2) sc_is_rule_of.nd) (zcv (zbc (i := 3) sc_is_rule_of.nd) (zcv (zbc (i := 4) sc_is_rule_of.nd) zik))) (zcg (zcg (zcg zg6)))))
    (zaf (zbt (zh7 (zci (zeb (zak (zdu T) (hr.mono (by decide)) hG (takes_of rfl rfl rfl rfl) (za_ (zab (i := 3)) (za_ zag (za_ (zau op_sub dSub_ok (zax call_len zby T.b_len (by decide +kernel) (za_ (zab (i := 0)) zac)) zag) zac))) (hlen := (zad (zad (zad zal))))))) (zf3 (za0 (op_inDD (ru65 hr)) dIn_ok (zab (i := 3)) (zg5 (own := [("entry", 5)]) rfl sc_is_rule_of.nd (zel (zab (i := 2))) (blkOk_by (N := ["columns", "value", "given", "column", "want", "entry"]) (sc := defScope (top 30)) (by decide +kernel)) (fun _ _ _ _ _ => (zbc (i := 5) sc_is_rule_of.nd)) (fun _ _ _ _ _ => zdp) (fun _ _ _ _ _ => (za8 (zab (i := 5)) zag))).de))).dt (zaj (zao zea)) zaq)
    (zaf (zbt (za0 op_isN zfm (zab (i := 4)) za7) (zaj (zao zea)) zaq)
    (zaj (zao (de_and (zak (zen T) (hr.mono (by decide)) hG (takes_of rfl rfl rfl rfl) (za_ (za8 (zab (i := 0)) (zab (i := 3))) (za_ (zab (i := 4)) zac)) (hlen := (zad (zad zal)))) (zir (zax (cr_all rfl) zgb T.b_all (by decide +kernel) (za_ (zg5 (own := [("entry", 5)]) rfl sc_is_rule_of.nd (zel (zab (i := 2))) (blkOk_by (N := ["columns", "value", "given", "column", "want", "entry"]) (sc := defScope (top 30)) (by decide +kernel)) (fun _ _ _ _ _ => (zbc (i := 5) sc_is_rule_of.nd)) (fun _ _ _ _ _ => zdp) (fun _ _ _ _ _ => (zgq op_notN zib (za8 (zab (i := 5)) zag) za7))).de zac)))))))))))
theorem sc_are_rules : FnScope (["columns", "value", "rule"] : List Str) (["columns", "value"] : List Str) (defScope (top 31)) := ⟨rfl, rfl, rfl, by decide +kernel, rfl, by decide +kernel, by decide +kernel⟩
theorem ok_are_rules (T : Txt K mg) : Def P w K mg base 7 "are_rules" 2 ze2 := zb1 T.d_are_rules sc_are_rules (fun _ _ _ _ _ _ us hl => match us, hl with | [_, _], _ => rfl) (fun f cdv A outer s H E hr hG =>
    (zaf (zbt (zh7 (zci (zeb (zf8 (zab (i := 1)) T.b_isinstance T.b_tuple (by decide +kernel)))) (zf3 (za0 op_gt dGt_ok (zax call_len zby T.b_len (by decide +kernel) (za_ (zab (i := 1)) zac)) (DL.zer (by rfl) T.i_MOST_RULES)))).dt (zaj (zao zea)) zaq)
    (zaj (zao (zax (cr_all rfl) zgb T.b_all (by decide +kernel) (za_ (zg5 (own := [("rule", 2)]) rfl sc_are_rules.nd (zel (zab (i := 1))) (blkOk_by (N := ["columns", "value", "rule"]) (sc := defScope (top 31)) (by decide +kernel)) (fun _ _ _ _ _ => (zbc (i := 2) sc_are_rules.nd)) (fun _ _ _ _ _ => zdp) (fun _ _ _ _ _ => (zak (ze3 T) (hr.mono (by decide)) hG takes0 (za_ (zab (i := 0)) (za_ (zab (i := 2)) zac)) (hlen := (zad (zad zal)))))).de zac))))))
theorem zix : FnScope (["columns", "value"] : List Str) (["columns", "value"] : List Str) (defScope (top 34)) := ⟨rfl, rfl, rfl, by decide +kernel, rfl, by decide +kernel, by decide +kernel⟩
theorem zd2 (T : Txt K mg) : Def P w K mg base 7 "require_rule" 2 zbw := zb1 T.d_require_rule zix (fun _ _ _ _ _ _ us hl => match us, hl with | [_, _], _ => rfl) (fun f cdv A outer s H E hr hG =>
    (zaj (zbt (zci (zeb (zak (ze3 T) (hr.mono (by decide)) hG (takes_of rfl rfl rfl rfl) (za_ (zab (i := 0)) (za_ (zab (i := 1)) zac)) (hlen := (zad (zad zal)))))) (zaj (zef rfl (takes_of rfl rfl rfl rfl) T.e_InvalidRule)) zaq)))
theorem zh3 : FnScope (["columns", "value"] : List Str) (["columns", "value"] : List Str) (defScope (top 35)) := ⟨rfl, rfl, rfl, by decide +kernel, rfl, by decide +kernel, by decide +kernel⟩
theorem zbr (T : Txt K mg) : Def P w K mg base 8 "require_rules" 2 zaw := zb1 T.d_require_rules zh3 (fun _ _ _ _ _ _ us hl => match us, hl with | [_, _], _ => rfl) (fun f cdv A outer s H E hr hG =>
    (zaf (zbq (zak (zb3 T) (hr.mono (by decide)) hG (takes_of rfl rfl rfl rfl) (za_ (zab (i := 0)) zac) (hlen := (zad zal))))
    (zaj (zbt (zci (zeb (zak (ok_are_rules T) (hr.mono (by decide)) hG (takes_of rfl rfl rfl rfl) (za_ (zab (i := 0)) (za_ (zab (i := 1)) zac)) (hlen := (zad (zad zal)))))) (zaj (zef rfl (takes_of rfl rfl rfl rfl) T.e_InvalidRules)) zaq))))
theorem sc_matches : FnScope (["columns", "rule", "row"] : List Str) (["columns", "rule", "row"] : List Str) (defScope (top 36)) := ⟨rfl, rfl, rfl, by decide +kernel, rfl, by decide +kernel, by decide +kernel⟩
theorem ok_matches (T : Txt K mg) : Def P w K mg base 8 "matches" 3 zdi := zb1 T.d_matches sc_matches (fun _ _ _ _ _ _ us hl => match us, hl with | [_, _, _], _ => rfl) (fun f cdv A outer s H E hr hG =>
    (zaf (zbq (zak (zb3 T) (hr.mono (by decide)) hG (takes_of rfl rfl rfl rfl) (za_ (zab (i := 0)) zac) (hlen := (zad zal))))
    (zaf (zbq (zak (zd2 T) (hr.mono (by decide)) hG (takes_of rfl rfl rfl rfl) (za_ (zab (i := 0)) (za_ (zab (i := 1)) zac)) (hlen := (zad (zad zal)))))
    (zaf (zbq (zak (zjr T) (hr.mono (by decide)) hG (takes_of rfl rfl rfl rfl) (za_ (zab (i := 0)) (za_ (zab (i := 2)) zac)) (hlen := (zad (zad zal)))))
    (zaj (zao zeh))))))
theorem sc_breaks : FnScope (["columns", "rules", "table"] : List Str) (["columns", "rules", "table"] : List Str) (defScope (top 46)) := ⟨rfl, rfl, rfl, by decide +kernel, rfl, by decide +kernel, by decide +kernel⟩
theorem ok_breaks (T : Txt K mg) : Def P w K mg base 9 "breaks" 3 zeg := zb1 T.d_breaks sc_breaks (fun _ _ _ _ _ _ us hl => match us, hl with | [_, _, _], _ => rfl) (fun f cdv A outer s H E hr hG =>
    (zaf (zbq (zak (zbr T) (hr.mono (by decide)) hG (takes_of rfl rfl rfl rfl) (za_ (zab (i := 0)) (za_ (zab (i := 1)) zac)) (hlen := (zad (zad zal)))))
    (zaf (zbq (zak (zb0 T) (hr.mono (by decide)) hG (takes_of rfl rfl rfl rfl) (za_ (zab (i := 0)) (za_ (zab (i := 2)) zac)) (hlen := (zad (zad zal)))))
    (zaj (zao zeh)))))
theorem sc_holds : FnScope (["columns", "rule", "table"] : List Str) (["columns", "rule", "table"] : List Str) (defScope (top 47)) := ⟨rfl, rfl, rfl, by decide +kernel, rfl, by decide +kernel, by decide +kernel⟩
theorem ok_holds (T : Txt K mg) : Def P w K mg base 8 "holds" 3 zfp := zb1 T.d_holds sc_holds (fun _ _ _ _ _ _ us hl => match us, hl with | [_, _, _], _ => rfl) (fun f cdv A outer s H E hr hG =>
    (zaf (zbq (zak (zb3 T) (hr.mono (by decide)) hG (takes_of rfl rfl rfl rfl) (za_ (zab (i := 0)) zac) (hlen := (zad zal))))
    (zaf (zbq (zak (zd2 T) (hr.mono (by decide)) hG (takes_of rfl rfl rfl rfl) (za_ (zab (i := 0)) (za_ (zab (i := 1)) zac)) (hlen := (zad (zad zal)))))
    (zaf (zbq (zak (zb0 T) (hr.mono (by decide)) hG (takes_of rfl rfl rfl rfl) (za_ (zab (i := 0)) (za_ (zab (i := 2)) zac)) (hlen := (zad (zad zal)))))
    (zaj (zao zeh))))))
theorem zkl : FnScope (["columns", "rules", "table"] : List Str) (["columns", "rules", "table"] : List Str) (defScope (top 48)) := ⟨rfl, rfl, rfl, by decide +kernel, rfl, by decide +kernel, by decide +kernel⟩
theorem zk3 (T : Txt K mg) : Def P w K mg base 9 "fewest_out" 3 zc_ := zb1 T.d_fewest_out zkl (fun _ _ _ _ _ _ us hl => match us, hl with | [_, _, _], _ => rfl) (fun f cdv A outer s H E hr hG =>
    (zaf (zbq (zak (zbr T) (hr.mono (by decide)) hG (takes_of rfl rfl rfl rfl) (za_ (zab (i := 0)) (za_ (zab (i := 1)) zac)) (hlen := (zad (zad zal)))))
    (zaf (zbq (zak (zb0 T) (hr.mono (by decide)) hG (takes_of rfl rfl rfl rfl) (za_ (zab (i := 0)) (za_ (zab (i := 2)) zac)) (hlen := (zad (zad zal)))))
    (zaj (zao zeh)))))
theorem sc_count_tree : FnScope (["columns", "rules", "table", "number"] : List Str) (["columns", "rules", "table"] : List Str) (defScope (top 49)) := ⟨rfl, rfl, rfl, by decide +kernel, rfl, by decide +kernel, by decide +kernel⟩
theorem zky (T : Txt K mg) : Def P w K mg base 9 "count_tree" 3 zca := zb1 T.d_count_tree sc_count_tree (fun _ _ _ _ _ _ us hl => match us, hl with | [_, _, _], _ => rfl) (fun f cdv A outer s H E hr hG =>
    (zaf (zbq (zak (zbr T) (hr.mono (by decide)) hG (takes_of rfl rfl rfl rfl) (za_ (zab (i := 0)) (za_ (zab (i := 1)) zac)) (hlen := (zad (zad zal)))))
    (zaf (zbq (zak (zb0 T) (hr.mono (by decide)) hG (takes_of rfl rfl rfl rfl) (za_ (zab (i := 0)) (za_ (zab (i := 2)) zac)) (hlen := (zad (zad zal)))))
    (zaf (za1 (i := 3) (zax call_len zby T.b_len (by decide +kernel) (za_ zeh zac)) sc_count_tree.nd)
    (zaj (zao (de_if (za0 (zbs (ru64 hr)) zce (zab (i := 3)) zag) za7 zeh)))))))
theorem zh1 : FnScope (["columns", "rules", "table", "number", "value"] : List Str) (["columns", "rules", "table", "number", "value"] : List Str) (defScope (top 50)) := ⟨rfl, rfl, rfl, by decide +kernel, rfl, by decide +kernel, by decide +kernel⟩
theorem zh2 (T : Txt K mg) : Def P w K mg base 9 "is_count_tree" 5 zbf := zb1 T.d_is_count_tree zh1 (fun _ _ _ _ _ _ us hl => match us, hl with | [_, _, _, _, _], _ => rfl) (fun f cdv A outer s H E hr hG =>
    (zaf (zbq (zak (zbr T) (hr.mono (by decide)) hG (takes_of rfl rfl rfl rfl) (za_ (zab (i := 0)) (za_ (zab (i := 1)) zac)) (hlen := (zad (zad zal)))))
    (zaf (zbq (zak (zb0 T) (hr.mono (by decide)) hG (takes_of rfl rfl rfl rfl) (za_ (zab (i := 0)) (za_ (zab (i := 2)) zac)) (hlen := (zad (zad zal)))))
    (zaf (zbt (zci (zeb (zak (zdu T) (hr.mono (by decide)) hG (takes_of rfl rfl rfl rfl) (za_ (zab (i := 3)) (za_ zag (za_ (DL.zer (by rfl) T.i_MOST_ROWS) zac))) (hlen := (zad (zad (zad zal))))))) (zaj (zef rfl (takes_of rfl rfl rfl rfl) T.e_InvalidNumber)) zaq)
    (zaj (zao zeh))))))
theorem zi8 : FnScope (["columns", "rule", "value"] : List Str) (["columns", "rule", "value"] : List Str) (defScope (top 80)) := ⟨rfl, rfl, rfl, by decide +kernel, rfl, by decide +kernel, by decide +kernel⟩
theorem zi3 (T : Txt K mg) : Def P w K mg base 8 "more_general" 3 zch := zb1 T.d_more_general zi8 (fun _ _ _ _ _ _ us hl => match us, hl with | [_, _, _], _ => rfl) (fun f cdv A outer s H E hr hG =>
    (zaf (zbq (zak (zb3 T) (hr.mono (by decide)) hG (takes_of rfl rfl rfl rfl) (za_ (zab (i := 0)) zac) (hlen := (zad zal))))
    (zaf (zbq (zak (zd2 T) (hr.mono (by decide)) hG (takes_of rfl rfl rfl rfl) (za_ (zab (i := 0)) (za_ (zab (i := 1)) zac)) (hlen := (zad (zad zal)))))
    (zaf (zbt (zci (zeb (zak (ze3 T) (hr.mono (by decide)) hG (takes_of rfl rfl rfl rfl) (za_ (zab (i := 0)) (za_ (zab (i := 2)) zac)) (hlen := (zad (zad zal)))))) (zaj (zef rfl (takes_of rfl rfl rfl rfl) T.e_InvalidValue)) zaq)
    (zaj (zao zeh))))))
theorem sc_needless : FnScope (["columns", "rules"] : List Str) (["columns", "rules"] : List Str) (defScope (top 81)) := ⟨rfl, rfl, rfl, by decide +kernel, rfl, by decide +kernel, by decide +kernel⟩
theorem ok_needless (T : Txt K mg) : Def P w K mg base 9 "needless" 2 zdz := zb1 T.d_needless sc_needless (fun _ _ _ _ _ _ us hl => match us, hl with | [_, _], _ => rfl) (fun f cdv A outer s H E hr hG =>
    (zaf (zbq (zak (zbr T) (hr.mono (by decide)) hG (takes_of rfl rfl rfl rfl) (za_ (zab (i := 0)) (za_ (zab (i := 1)) zac)) (hlen := (zad (zad zal)))))
    (zaj (zao zeh))))
theorem sc_cover : FnScope (["columns", "rules"] : List Str) (["columns", "rules"] : List Str) (defScope (top 82)) := ⟨rfl, rfl, rfl, by decide +kernel, rfl, by decide +kernel, by decide +kernel⟩
theorem ok_cover (T : Txt K mg) : Def P w K mg base 9 "cover" 2 zhg := zb1 T.d_cover sc_cover (fun _ _ _ _ _ _ us hl => match us, hl with | [_, _], _ => rfl) (fun f cdv A outer s H E hr hG =>
    (zaf (zbq (zak (zbr T) (hr.mono (by decide)) hG (takes_of rfl rfl rfl rfl) (za_ (zab (i := 0)) (za_ (zab (i := 1)) zac)) (hlen := (zad (zad zal)))))
    (zaf (zbq zeh)
    (zaj (zao zeh)))))
theorem sc_is_cover : FnScope (["columns", "rules", "value"] : List Str) (["columns", "rules", "value"] : List Str) (defScope (top 83)) := ⟨rfl, rfl, rfl, by decide +kernel, rfl, by decide +kernel, by decide +kernel⟩
theorem ok_is_cover (T : Txt K mg) : Def P w K mg base 9 "is_cover" 3 zd0 := zb1 T.d_is_cover sc_is_cover (fun _ _ _ _ _ _ us hl => match us, hl with | [_, _, _], _ => rfl) (fun f cdv A outer s H E hr hG =>
    (zaf (zbq (zak (zbr T) (hr.mono (by decide)) hG (takes_of rfl rfl rfl rfl) (za_ (zab (i := 0)) (za_ (zab (i := 1)) zac)) (hlen := (zad (zad zal)))))
    (zaf (zbq zeh)
    (zaj (zao (zgq op_isN zfm zeh za7))))))
theorem zjo : FnScope (["columns", "table", "number"] : List Str) (["columns", "table", "number"] : List Str) (defScope (top 89)) := ⟨rfl, rfl, rfl, by decide +kernel, rfl, by decide +kernel, by decide +kernel⟩
theorem zjm (T : Txt K mg) : Def P w K mg base 7 "found_rules" 3 zb2 := zb1 T.d_found_rules zjo (fun _ _ _ _ _ _ us hl => match us, hl with | [_, _, _], _ => rfl) (fun f cdv A outer s H E hr hG =>
    (zaf (zbq (zak (zb3 T) (hr.mono (by decide)) hG (takes_of rfl rfl rfl rfl) (za_ (zab (i := 0)) zac) (hlen := (zad zal))))
    (zaf (zbq (zak (zb0 T) (hr.mono (by decide)) hG (takes_of rfl rfl rfl rfl) (za_ (zab (i := 0)) (za_ (zab (i := 1)) zac)) (hlen := (zad (zad zal)))))
    (zaf (zbt (zci (zeb (zak (zdu T) (hr.mono (by decide)) hG (takes_of rfl rfl rfl rfl) (za_ (zab (i := 2)) (za_ zag (za_ (DL.zer (by rfl) T.i_MOST_ROWS) zac))) (hlen := (zad (zad (zad zal))))))) (zaj (zef rfl (takes_of rfl rfl rfl rfl) T.e_InvalidNumber)) zaq)
    (zaj (zao zeh))))))
theorem sc_l_law_spread : FnScope (["_law_cell", "_law_at", "_law_primes", "_law_mixed", "_law_one_here", "_law_rest", "_law_two", "_law_three"] : List Str) (["_law_cell", "_law_at"] : List Str) (defScope (top 91)) := ⟨rfl, rfl, rfl, by decide +kernel, rfl, by decide +kernel, by decide +kernel⟩
theorem ziy (T : Txt K mg) : Def P w K mg base 1 "_law_spread" 2 zdf := zb1 T.d_l_law_spread sc_l_law_spread (fun _ _ _ _ _ _ us hl => match us, hl with | [_, _], _ => rfl) (fun f cdv A outer s H E hr hG =>
    (zaf (zbt (za0 op_ge dGe_ok (zab (i := 0)) (zau op_pow ze1 zag zag)) (zaj (zao (zab (i := 0)))) zaq)
    (zaf (za1 (i := 2) (za5 (za_ zag (za_ zag (za_ zag (za_ zag (za_ zag (za_ zag (za_ zag zac)))))))) sc_l_law_spread.nd)
    (zaf (za1 (i := 2) (zau zat zas (zab (i := 2)) (za5 (za_ zag (za_ zag (za_ zag (za_ zag (za_ zag (za_ zag zac)))))))) sc_l_law_spread.nd)
    (zaf (za1 (i := 3) (zau zat zas (zau zat zas (zau zct zb8 (zau op_mod zc5 (zbb call_int1 zc6 T.b_int (by decide +kernel) (za_ (zab (i := 0)) zac)) zag) (zau zat zas (zau zct zb8 zag (zab (i := 1))) zag)) (zau zct zb8 (zab (i := 1)) zag)) zag) sc_l_law_spread.nd)
    (zaf (za1 (i := 4) (zau op_mod zc5 (zbb call_int1 zc6 T.b_int (by decide +kernel) (za_ (zau op_pow ze1 (zab (i := 3)) zag) zac)) (za8 (zab (i := 2)) (zau op_mod zc5 (zbb call_int1 zc6 T.b_int (by decide +kernel) (za_ (zab (i := 1)) zac)) zag))) sc_l_law_spread.nd)
    (zaf (za1 (i := 5) (zau zat zas (zau op_mod zc5 (zbb call_int1 zc6 T.b_int (by decide +kernel) (za_ (zab (i := 0)) zac)) zag) zag) sc_l_law_spread.nd)
    (zaf (za1 (i := 6) (zau op_mod zc5 (zbb call_int1 zc6 T.b_int (by decide +kernel) (za_ (zau op_pow ze1 (zau zat zas (zau zct zb8 (zab (i := 4)) (zau zat zas (zab (i := 1)) zag)) (zab (i := 5))) zag) zac)) (za8 (zab (i := 2)) (zau op_mod zc5 (zbb call_int1 zc6 T.b_int (by decide +kernel) (za_ (zau zat zas (zab (i := 1)) zag) zac)) zag))) sc_l_law_spread.nd)
    (zaf (za1 (i := 7) (zau op_mod zc5 (zbb call_int1 zc6 T.b_int (by decide +kernel) (za_ (zau op_pow ze1 (zau zat zas (zau zat zas (zab (i := 6)) (zau op_mod zc5 (zbb call_int1 zc6 T.b_int (by decide +kernel) (za_ (zab (i := 4)) zac)) zag)) (zab (i := 1))) zag) zac)) (za8 (zab (i := 2)) (zau op_mod zc5 (zbb call_int1 zc6 T.b_int (by decide +kernel) (za_ (zau zat zas (zab (i := 1)) zag) zac)) zag))) sc_l_law_spread.nd)
    (zaj (zao (zau zat zas (zau zct zb8 (zau zat zas (zau zct zb8 (zab (i := 4)) zag) (zab (i := 6))) zag) (zab (i := 7))))))))))))))
theorem sc_l_law_open : FnScope (["_law_script", "_law_cells", "_law_k", "_law_cell"] : List Str) (["_law_script"] : List Str) (defScope (top 92)) := ⟨rfl, rfl, rfl, by decide +kernel, rfl, by decide +kernel, by decide +kernel⟩
theorem zkg (T : Txt K mg) : Def P w K mg base 1 "_law_open" 1 zdn := zb1 T.d_l_law_open sc_l_law_open (fun _ _ _ _ _ _ us hl => match us, hl with | [_], _ => rfl) (fun f cdv A outer s H E hr hG =>
    (zaf (zfi (i := 1) (ne_list (p2 := ⟨0, 0, 0, 0⟩) (de_sl (zab (i := 0)) dp_no (dp_ex zag)) T.b_list) sc_l_law_open.nd (hf := .inr rfl))
    (zaf (zhp (passes_of rfl) rfl (di_enum (de_sl (zab (i := 0)) (dp_ex zag) (dp_ex zag)) T.b_enumerate) (dg_tup rfl (zcv (zbc (i := 2) sc_l_law_open.nd) (zcv (zbc (i := 3) sc_l_law_open.nd) zik)) (zcg (zcg zg6))) (zaj (zja (zab (i := 1)) (zau op_mod zc5 (zbb call_int1 zc6 T.b_int (by decide +kernel) (za_ (zab (i := 2)) zac)) zag) (zau zat zas (za8 (zab (i := 1)) (zau op_mod zc5 (zbb call_int1 zc6 T.b_int (by decide +kernel) (za_ (zab (i := 2)) zac)) zag)) (zab (i := 3))))))
    (dss_frz (i := 1) (zaj (ds_retN (ne_lst (za_ (zab (i := 1)) (za_ zag (za_ zag zac))))))))))
theorem sc_l_law_take : FnScope (["_law_pen", "_law_many", "_law_found", "_law_at", "_law_cell"] : List Str) (["_law_pen", "_law_many"] : List Str) (defScope (top 93)) := ⟨rfl, rfl, rfl, by decide +kernel, rfl, by decide +kernel, by decide +kernel⟩
theorem zbl (T : Txt K mg) : Def P w K mg base 2 "_law_take" 2 zay := zb1 T.d_l_law_take sc_l_law_take (fun _ _ _ _ _ _ us hl => match us, hl with | [_, _], _ => rfl) (fun f cdv A outer s H E hr hG =>
    (zaf (zbt (za0 op_lt dLt_ok (za8 (zab (i := 0)) zag) (zab (i := 1))) (zaf (za1 (i := 3) (za8 (zab (i := 0)) zag) sc_l_law_take.nd)
    (zaf (za1 (i := 4) zag sc_l_law_take.nd)
    (zaf (zbt (za0 op_lt dLt_ok (zab (i := 3)) (zax call_len zby T.b_len (by decide +kernel) (za_ (za8 (zab (i := 0)) zag) zac))) (zaj (za1 (i := 4) (za8 (za8 (zab (i := 0)) zag) (zab (i := 3))) sc_l_law_take.nd)) (zaj (zbt (za0 op_gt dGt_ok (zax call_len zby T.b_len (by decide +kernel) (za_ (za8 (zab (i := 0)) zag) zac)) zag) (zaj (za1 (i := 4) (zau op_mod zc5 (zbb call_int1 zc6 T.b_int (by decide +kernel) (za_ (za8 (za8 (zab (i := 0)) zag) (zau op_mod zc5 (zbb call_int1 zc6 T.b_int (by decide +kernel) (za_ (zau zat zas (zau zct zb8 (zab (i := 3)) zag) zag) zac)) (zax call_len zby T.b_len (by decide +kernel) (za_ (za8 (zab (i := 0)) zag) zac)))) zac)) (zau zat zas (zau op_pow ze1 zag zag) (zab (i := 3)))) sc_l_law_take.nd)) zaq)))
    (zaf (zja (zab (i := 0)) zag (zau zat zas (zab (i := 3)) zag))
    (zaj (zja (zab (i := 0)) zag (zak (ziy T) (hr.mono (by decide)) hG (takes_of rfl rfl rfl rfl) (za_ (zab (i := 4)) (za_ (zab (i := 3)) zac)) (hlen := (zad (zad zal)))))))))) zaq)
    (zaf (za1 (i := 2) (zau op_mod zc5 (zbb call_int1 zc6 T.b_int (by decide +kernel) (za_ (za8 (zab (i := 0)) zag) zac)) (zab (i := 1))) sc_l_law_take.nd)
    (zaf (zja (zab (i := 0)) zag (zau op_fdivW dDiv_ok (za8 (zab (i := 0)) zag) (zab (i := 1))))
    (zaj (zao (zab (i := 2))))))))
theorem zko : FnScope (["_law_pen"] : List Str) (["_law_pen"] : List Str) (defScope (top 94)) := ⟨rfl, rfl, rfl, by decide +kernel, rfl, by decide +kernel, by decide +kernel⟩
theorem zk9 (T : Txt K mg) : Def P w K mg base 1 "_law_anew" 1 zc0 := zb1 T.d_l_law_anew zko (fun _ _ _ _ _ _ us hl => match us, hl with | [_], _ => rfl) (fun f cdv A outer s H E hr hG =>
    (zaf (zja (zab (i := 0)) zag zag)
    (zaj (zao (zab (i := 0))))))
theorem sc_l_law_one : FnScope (["_law_pen", "_law_some"] : List Str) (["_law_pen", "_law_some"] : List Str) (defScope (top 95)) := ⟨rfl, rfl, rfl, by decide +kernel, rfl, by decide +kernel, by decide +kernel⟩
theorem zbn (T : Txt K mg) : Def P w K mg base 3 "_law_one" 2 zaz := zb1 T.d_l_law_one sc_l_law_one (fun _ _ _ _ _ _ us hl => match us, hl with | [_, _], _ => rfl) (fun f cdv A outer s H E hr hG =>
    (zaj (zao (za8 (zab (i := 1)) (zak (zbl T) (hr.mono (by decide)) hG (takes_of rfl rfl rfl rfl) (za_ (zab (i := 0)) (za_ (zax call_len zby T.b_len (by decide +kernel) (za_ (zab (i := 1)) zac)) zac)) (hlen := (zad (zad zal))))))))
theorem sc_l_law_columns : FnScope (["_law_pen", "_law_most", "_law_k", "_law_found", "_law_closed", "_law_own", "_law_step"] : List Str) (["_law_pen", "_law_most"] : List Str) (defScope (top 96)) := ⟨rfl, rfl, rfl, by decide +kernel, rfl, by decide +kernel, by decide +kernel⟩
theorem zh4 (T : Txt K mg) : Def P w K mg base 3 "_law_columns" 2 zck := zb1 T.d_l_law_columns sc_l_law_columns (fun _ _ _ _ _ _ us hl => match us, hl with | [_, _], _ => rfl) (fun f cdv A outer s H E hr hG =>
    (zaf (ds_tg (zam (za_ (zam zac) (za_ zag zac))) (dg_tup rfl (zcv (zbc (i := 3) sc_l_law_columns.nd) (zcv (zbc (i := 4) sc_l_law_columns.nd) zik)) (zcg (zcg zg6))))
    (zaf (zhp (passes_of rfl) rfl (zd9 (za_ (zau zat zas zag (zak (zbl T) (hr.mono (by decide)) hG (takes_of rfl rfl rfl rfl) (za_ (zab (i := 0)) (za_ (zab (i := 1)) zac)) (hlen := (zad (zad zal))))) zac) T.b_range) (zbc (i := 2) sc_l_law_columns.nd) (zaf (za1 (i := 5) (zhb rfl (zg5 (own := [("_law_step", 6)]) rfl sc_l_law_columns.nd (zd9 (za_ (zau zat zas zag (zak (zbl T) (hr.mono (by decide)) hG (takes_of rfl rfl rfl rfl) (za_ (zab (i := 0)) (za_ zag zac)) (hlen := (zad (zad zal))))) zac) T.b_range) (blkOk_by (N := ["_law_pen", "_law_most", "_law_k", "_law_found", "_law_closed", "_law_own", "_law_step"]) (sc := defScope (top 96)) (by decide +kernel)) (fun _ _ _ _ _ => (zbc (i := 6) sc_l_law_columns.nd)) (fun _ _ _ _ _ => zdp) (fun _ _ _ _ _ => (zak (zbl T) (hr.mono (by decide)) hG takes0 (za_ (zab (i := 0)) (za_ zag zac)) (hlen := (zad (zad zal)))))).de T.b_sorted T.b_set).de sc_l_law_columns.nd)
    (zaj (zbt (dw_and (za0 op_lt dLt_ok (zab (i := 4)) zag) (dw_and1 (za0 (zbs (ru64 hr)) zce (zak (zbl T) (hr.mono (by decide)) hG (takes_of rfl rfl rfl rfl) (za_ (zab (i := 0)) (za_ zag zac)) (hlen := (zad (zad zal)))) zag))).dt (zaf (za1 (i := 4) (zau zat zas (zab (i := 4)) zag) sc_l_law_columns.nd)
    (zaj (za1 (i := 3) (zau zat zas (zab (i := 3)) (zam (za_ (zbb call_tuple_of zfh T.b_tuple (by decide +kernel) (za_ (zab (i := 5)) zac)) zac))) sc_l_law_columns.nd))) (zaj (za1 (i := 3) (zau zat zas (zab (i := 3)) (zam (za_ za7 zac))) sc_l_law_columns.nd))))))
    (zaj (zao (zab (i := 3)))))))
theorem zjs : FnScope (["_law_pen", "_law_column"] : List Str) (["_law_pen", "_law_column"] : List Str) (defScope (top 97)) := ⟨rfl, rfl, rfl, by decide +kernel, rfl, by decide +kernel, by decide +kernel⟩
theorem zde (T : Txt K mg) : Def P w K mg base 4 "_law_value" 2 zbv := zb1 T.d_l_law_value zjs (fun _ _ _ _ _ _ us hl => match us, hl with | [_, _], _ => rfl) (fun f cdv A outer s H E hr hG =>
    (zaf (zbt (za0 op_isN zfm (zab (i := 1)) za7) (zaj (zao (zak (zbn T) (hr.mono (by decide)) hG (takes_of rfl rfl rfl rfl) (za_ (zab (i := 0)) (za_ (za5 (za_ zag (za_ zag (za_ zag (za_ zag (za_ zag (za_ zag (za_ zag (za_ (zau op_pow ze1 zag zag) (za_ (zau zat zas (zau op_pow ze1 zag zag) zag) zac)))))))))) zac)) (hlen := (zad (zad zal)))))) zaq)
    (zaj (zao (zak (zbn T) (hr.mono (by decide)) hG (takes_of rfl rfl rfl rfl) (za_ (zab (i := 0)) (za_ (zab (i := 1)) zac)) (hlen := (zad (zad zal))))))))
theorem sc_l_law_row : FnScope (["_law_pen", "_law_columns_here", "_law_column"] : List Str) (["_law_pen", "_law_columns_here"] : List Str) (defScope (top 98)) := ⟨rfl, rfl, rfl, by decide +kernel, rfl, by decide +kernel, by decide +kernel⟩
theorem zfk (T : Txt K mg) : Def P w K mg base 5 "_law_row" 2 zco := zb1 T.d_l_law_row sc_l_law_row (fun _ _ _ _ _ _ us hl => match us, hl with | [_, _], _ => rfl) (fun f cdv A outer s H E hr hG =>
    (zaj (zao (zbb call_tuple_of zfh T.b_tuple (by decide +kernel) (za_ (zg5 (own := [("_law_column", 2)]) rfl sc_l_law_row.nd (zel (zab (i := 1))) (blkOk_by (N := ["_law_pen", "_law_columns_here", "_law_column"]) (sc := defScope (top 98)) (by decide +kernel)) (fun _ _ _ _ _ => (zbc (i := 2) sc_l_law_row.nd)) (fun _ _ _ _ _ => zdp) (fun _ _ _ _ _ => (zak (zde T) (hr.mono (by decide)) hG takes0 (za_ (zab (i := 0)) (za_ (zab (i := 2)) zac)) (hlen := (zad (zad zal)))))).de zac)))))
theorem sc_l_law_rule : FnScope (["_law_pen", "_law_columns_here", "_law_column", "_law_want", "_law_given", "_law_k", "_law_road"] : List Str) (["_law_pen", "_law_columns_here"] : List Str) (defScope (top 99)) := ⟨rfl, rfl, rfl, by decide +kernel, rfl, by decide +kernel, by decide +kernel⟩
theorem ze8 (T : Txt K mg) : Def P w K mg base 5 "_law_rule" 2 zb5 := zb1 T.d_l_law_rule sc_l_law_rule (fun _ _ _ _ _ _ us hl => match us, hl with | [_, _], _ => rfl) (fun f cdv A outer s H E hr hG =>
    (zaf (za1 (i := 2) (zak (zbl T) (hr.mono (by decide)) hG (takes_of rfl rfl rfl rfl) (za_ (zab (i := 0)) (za_ (zax call_len zby T.b_len (by decide +kernel) (za_ (zab (i := 1)) zac)) zac)) (hlen := (zad (zad zal)))) sc_l_law_rule.nd)
    (zaf (za1 (i := 3) (zak (zbn T) (hr.mono (by decide)) hG (takes_of rfl rfl rfl rfl) (za_ (zab (i := 0)) (za_ (za5 (za_ za7 (za_ za7 (za_ (zak (zde T) (hr.mono (by decide)) hG (takes_of rfl rfl rfl rfl) (za_ (zab (i := 0)) (za_ (za8 (zab (i := 1)) (zab (i := 2))) zac)) (hlen := (zad (zad zal)))) zac)))) zac)) (hlen := (zad (zad zal)))) sc_l_law_rule.nd)
    (zaf (za1 (i := 4) (zam zac) sc_l_law_rule.nd)
    (zaf (zhp (passes_of rfl) rfl (zd9 (za_ (zax call_len zby T.b_len (by decide +kernel) (za_ (zab (i := 1)) zac)) zac) T.b_range) (zbc (i := 5) sc_l_law_rule.nd) (zaf (za1 (i := 6) (zak (zbl T) (hr.mono (by decide)) hG (takes_of rfl rfl rfl rfl) (za_ (zab (i := 0)) (za_ zag zac)) (hlen := (zad (zad zal)))) sc_l_law_rule.nd)
    (zaj (zbt (dw_and (za0 (zfn (ru64 hr)) zih (zab (i := 5)) (zab (i := 2))) (dw_and1 (za0 op_lt dLt_ok (zab (i := 6)) zag))).dt (zaj (za1 (i := 4) (zau zat zas (zab (i := 4)) (zam (za_ (zam (za_ (zab (i := 5)) (za_ (zak (zde T) (hr.mono (by decide)) hG (takes_of rfl rfl rfl rfl) (za_ (zab (i := 0)) (za_ (za8 (zab (i := 1)) (zab (i := 5))) zac)) (hlen := (zad (zad zal)))) zac))) zac))) sc_l_law_rule.nd)) (zaj (zbt (dw_and (za0 (zfn (ru64 hr)) zih (zab (i := 5)) (zab (i := 2))) (dw_and (za0 (zbs (ru64 hr)) zce (zab (i := 6)) zag) (dw_and1 (za0 op_isN zfm (zab (i := 3)) za7)))).dt (zaj (za1 (i := 4) (zau zat zas (zab (i := 4)) (zam (za_ (zam (za_ (zab (i := 5)) (za_ za7 zac))) zac))) sc_l_law_rule.nd)) zaq))))))
    (zaj (zao (zam (za_ (zab (i := 4)) (za_ (zab (i := 2)) (za_ (zab (i := 3)) zac)))))))))))
theorem sc_l_law_off : FnScope (["_law_pen", "_law_column", "_law_some", "_law_one_here"] : List Str) (["_law_pen", "_law_column"] : List Str) (defScope (top 100)) := ⟨rfl, rfl, rfl, by decide +kernel, rfl, by decide +kernel, by decide +kernel⟩
theorem zft (T : Txt K mg) : Def P w K mg base 4 "_law_off" 2 zcc := zb1 T.d_l_law_off sc_l_law_off (fun _ _ _ _ _ _ us hl => match us, hl with | [_, _], _ => rfl) (fun f cdv A outer s H E hr hG =>
    (zaf (za1 (i := 2) (za5 (za_ (zji zag) (za_ za7 (za_ zea (za_ za3 (za_ (zam (za_ zag zac)) (za_ (za5 (za_ zag zac)) zac))))))) sc_l_law_off.nd)
    (zaf (zbt (za0 op_notN zib (zab (i := 1)) za7) (zaj (za1 (i := 2) (zau zat zas (zab (i := 2)) (zau zct zb8 (zg5 (own := [("_law_one_here", 3)]) rfl sc_l_law_off.nd (zel (za5 (za_ zag (za_ zag (za_ zag (za_ zag (za_ zag (za_ (zau op_pow ze1 zag zag) zac)))))))) (blkOk_by (N := ["_law_pen", "_law_column", "_law_some", "_law_one_here"]) (sc := defScope (top 100)) (by decide +kernel)) (fun _ _ _ _ _ => (zbc (i := 3) sc_l_law_off.nd)) (fun _ _ _ _ _ => (zkf (za0 (op_ninDD (ru65 hr)) dNin_ok (zab (i := 3)) (zab (i := 1))))) (fun _ _ _ _ _ => (zab (i := 3)))).de zag)) sc_l_law_off.nd)) zaq)
    (zaj (zao (zak (zbn T) (hr.mono (by decide)) hG (takes_of rfl rfl rfl rfl) (za_ (zab (i := 0)) (za_ (zab (i := 2)) zac)) (hlen := (zad (zad zal)))))))))
theorem sc_l_law_spoiled_row : FnScope (["_law_pen", "_law_columns_here", "_law_row_here", "_law_at"] : List Str) (["_law_pen", "_law_columns_here"] : List Str) (defScope (top 101)) := ⟨rfl, rfl, rfl, by decide +kernel, rfl, by decide +kernel, by decide +kernel⟩
theorem zdr (T : Txt K mg) : Def P w K mg base 6 "_law_spoiled_row" 2 zbx := zb1 T.d_l_law_spoiled_row sc_l_law_spoiled_row (fun _ _ _ _ _ _ us hl => match us, hl with | [_, _], _ => rfl) (fun f cdv A outer s H E hr hG =>
    (zaf (zfi (i := 2) (ne_list (p2 := ⟨0, 0, 0, 0⟩) (zak (zfk T) (hr.mono (by decide)) hG (takes_of rfl rfl rfl rfl) (za_ (zab (i := 0)) (za_ (zab (i := 1)) zac)) (hlen := (zad (zad zal)))) T.b_list) sc_l_law_spoiled_row.nd (hf := .inr rfl))
    (zaf (za1 (i := 3) (zak (zbl T) (hr.mono (by decide)) hG (takes_of rfl rfl rfl rfl) (za_ (zab (i := 0)) (za_ (zax call_len zby T.b_len (by decide +kernel) (za_ (zab (i := 2)) zac)) zac)) (hlen := (zad (zad zal)))) sc_l_law_spoiled_row.nd)
    (zaf (zja (zab (i := 2)) (zab (i := 3)) (zak (zft T) (hr.mono (by decide)) hG (takes_of rfl rfl rfl rfl) (za_ (zab (i := 0)) (za_ (za8 (zab (i := 1)) (zab (i := 3))) zac)) (hlen := (zad (zad zal)))))
    (zaj (zao (zbb call_tuple_of zfh T.b_tuple (by decide +kernel) (za_ (zab (i := 2)) zac))))))))
theorem sc_l_law_bad_rule : FnScope (["_law_pen", "_law_columns_here", "_law_many", "_law_over", "_law_some", "_law_odd", "_law_k", "_law_given", "_law_column", "_law_want", "_law_ahead", "_law_behind", "_law_entry"] : List Str) (["_law_pen", "_law_columns_here"] : List Str) (defScope (top 102)) := ⟨rfl, rfl, rfl, by decide +kernel, rfl, by decide +kernel, by decide +kernel⟩
theorem zet (T : Txt K mg) : Def P w K mg base 6 "_law_bad_rule" 2 zcf := zb1 T.d_l_law_bad_rule sc_l_law_bad_rule (fun _ _ _ _ _ _ us hl => match us, hl with | [_, _], _ => rfl) (fun f cdv A outer s H E hr hG =>
    (zaf (za1 (i := 2) (zax call_len zby T.b_len (by decide +kernel) (za_ (zab (i := 1)) zac)) sc_l_law_bad_rule.nd)
    (zaf (za1 (i := 3) (zau zat zas (zab (i := 2)) (zak (zbl T) (hr.mono (by decide)) hG (takes_of rfl rfl rfl rfl) (za_ (zab (i := 0)) (za_ zag zac)) (hlen := (zad (zad zal))))) sc_l_law_bad_rule.nd)
    (zaf (ds_tg (zak (ze8 T) (hr.mono (by decide)) hG (takes_of rfl rfl rfl rfl) (za_ (zab (i := 0)) (za_ (zab (i := 1)) zac)) (hlen := (zad (zad zal)))) (dg_tup rfl (zcv (zbc (i := 7) sc_l_law_bad_rule.nd) (zcv (zbc (i := 8) sc_l_law_bad_rule.nd) (zcv (zbc (i := 9) sc_l_law_bad_rule.nd) zik))) (zcg (zcg (zcg zg6)))))
    (zaf (zfi (i := 4) (ne_lst (za_ za7 (za_ (za5 zac) (za_ za3 (za_ zag (za_ zea (za_ (zam (za_ za7 zac)) (za_ (zam (za_ (zam zac) (za_ (zab (i := 3)) (za_ za7 zac)))) (za_ (zam (za_ (zam zac) (za_ (zji zag) (za_ za7 zac)))) (za_ (zam (za_ (zam zac) (za_ zea (za_ za7 zac)))) zac)))))))))) sc_l_law_bad_rule.nd (hf := .inr rfl))
    (zaf (zfi (i := 4) (zim (zab (i := 4)) (za5 (za_ (zam (za_ (zam zac) (za_ zag zac))) (za_ (zam (za_ (za5 zac) (za_ zag (za_ za7 zac)))) (za_ (zam (za_ (zam (za_ (zam (za_ (zab (i := 3)) (za_ zag zac))) zac)) (za_ zag (za_ za7 zac)))) (za_ (zam (za_ (zam (za_ (zam (za_ zag zac)) zac)) (za_ zag (za_ za7 zac)))) zac)))))) sc_l_law_bad_rule.nd (hf := .inr rfl))
    (zaf (zfi (i := 4) (zim (zab (i := 4)) (za5 (za_ (zam (za_ (zam (za_ za7 zac)) (za_ zag (za_ za7 zac)))) (za_ (zam (za_ (zam zac) (za_ zag (za_ za3 zac)))) (za_ (zam (za_ (zam (za_ (zam (za_ zag (za_ za7 zac))) zac)) (za_ zag (za_ za7 zac)))) zac))))) sc_l_law_bad_rule.nd (hf := .inr rfl))
    (zaf (zg8 (zab (i := 4)) (zbb call_list_of zif T.b_list (by decide +kernel) (za_ (zam (za_ (zab (i := 7)) (za_ (zab (i := 8)) (za_ (zab (i := 9)) zac)))) zac)))
    (zaf (za1 (i := 5) (zak (zft T) (hr.mono (by decide)) hG (takes_of rfl rfl rfl rfl) (za_ (zab (i := 0)) (za_ (za8 (zab (i := 1)) (zab (i := 8))) zac)) (hlen := (zad (zad zal)))) sc_l_law_bad_rule.nd)
    (zaf (zfi (i := 4) (zim (zab (i := 4)) (zau zct zb8 (za5 (za_ (zam (za_ (zab (i := 7)) (za_ (zab (i := 8)) (za_ (de_if (za0 op_notN zib (zab (i := 5)) za7) (zab (i := 5)) (zji zag)) zac)))) zac)) zag)) sc_l_law_bad_rule.nd (hf := .inr rfl))
    (zaf (zhp (passes_of rfl) rfl (zd9 (za_ (zab (i := 2)) zac) T.b_range) (zbc (i := 6) sc_l_law_bad_rule.nd) (zaf (za1 (i := 5) (zak (zft T) (hr.mono (by decide)) hG (takes_of rfl rfl rfl rfl) (za_ (zab (i := 0)) (za_ (za8 (zab (i := 1)) (zab (i := 6))) zac)) (hlen := (zad (zad zal)))) sc_l_law_bad_rule.nd)
    (zaj (zbt (za0 (zfn (ru64 hr)) zih (zab (i := 6)) (zab (i := 8))) (zaf (za1 (i := 5) (de_if (za0 op_isN zfm (zab (i := 5)) za7) (zji zag) (zab (i := 5))) sc_l_law_bad_rule.nd)
    (zaf (za1 (i := 10) (zbb call_tuple_of zfh T.b_tuple (by decide +kernel) (za_ (zg5 (own := [("_law_entry", 12)]) rfl sc_l_law_bad_rule.nd (zel (zab (i := 7))) (blkOk_by (N := ["_law_pen", "_law_columns_here", "_law_many", "_law_over", "_law_some", "_law_odd", "_law_k", "_law_given", "_law_column", "_law_want", "_law_ahead", "_law_behind", "_law_entry"]) (sc := defScope (top 102)) (by decide +kernel)) (fun _ _ _ _ _ => (zbc (i := 12) sc_l_law_bad_rule.nd)) (fun _ _ _ _ _ => (zkf (za0 op_lt dLt_ok (za8 (zab (i := 12)) zag) (zab (i := 6))))) (fun _ _ _ _ _ => (zab (i := 12)))).de zac)) sc_l_law_bad_rule.nd)
    (zaf (za1 (i := 11) (zbb call_tuple_of zfh T.b_tuple (by decide +kernel) (za_ (zg5 (own := [("_law_entry", 12)]) rfl sc_l_law_bad_rule.nd (zel (zab (i := 7))) (blkOk_by (N := ["_law_pen", "_law_columns_here", "_law_many", "_law_over", "_law_some", "_law_odd", "_law_k", "_law_given", "_law_column", "_law_want", "_law_ahead", "_law_behind", "_law_entry"]) (sc := defScope (top 102)) (by decide +kernel)) (fun _ _ _ _ _ => (zbc (i := 12) sc_l_law_bad_rule.nd)) (fun _ _ _ _ _ => (zkf (za0 op_gt dGt_ok (za8 (zab (i := 12)) zag) (zab (i := 6))))) (fun _ _ _ _ _ => (zab (i := 12)))).de zac)) sc_l_law_bad_rule.nd)
    (zaf (zfi (i := 4) (zim (zab (i := 4)) (zau zct zb8 (za5 (za_ (zam (za_ (zau zat zas (zau zat zas (zab (i := 10)) (zam (za_ (zam (za_ (zab (i := 6)) (za_ (zab (i := 5)) zac))) zac))) (zab (i := 11))) (za_ (zab (i := 8)) (za_ (zab (i := 9)) zac)))) zac)) zag)) sc_l_law_bad_rule.nd (hf := .inr rfl))
    (zaf (zg8 (zab (i := 4)) (zam (za_ (zam (za_ (zam (za_ (zab (i := 6)) (za_ za7 zac))) zac)) (za_ (zab (i := 8)) (za_ (zak (zde T) (hr.mono (by decide)) hG (takes_of rfl rfl rfl rfl) (za_ (zab (i := 0)) (za_ (za8 (zab (i := 1)) (zab (i := 8))) zac)) (hlen := (zad (zad zal)))) zac)))))
    (zaj (zg8 (zab (i := 4)) (zam (za_ (zam (za_ (zam (za_ (zab (i := 6)) (za_ za7 zac))) (za_ (zam (za_ (zab (i := 6)) (za_ za7 zac))) zac))) (za_ (zab (i := 8)) (za_ za7 zac))))))))))) zaq))))
    (zaf (zbt (za0 (zbs (ru64 hr)) zce (zab (i := 2)) zag) (zaj (zfi (i := 4) (zim (zab (i := 4)) (zau zct zb8 (za5 (za_ (zam (za_ (zam (za_ (zam (za_ zag (za_ za7 zac))) (za_ (zam (za_ zag (za_ za7 zac))) zac))) (za_ zag (za_ za7 zac)))) zac)) zag)) sc_l_law_bad_rule.nd (hf := .inr rfl))) zaq)
    (zaj (zao (zak (zbn T) (hr.mono (by decide)) hG (takes_of rfl rfl rfl rfl) (za_ (zab (i := 0)) (za_ (zab (i := 4)) zac)) (hlen := (zad (zad zal))))))))))))))))))
theorem sc_l_law_bad : FnScope (["_law_pen", "_law_kind", "_law_columns_here", "_law_wide", "_law_over", "_law_many", "_law_row_here", "_law_some", "_law_bad_here", "_law_good"] : List Str) (["_law_pen", "_law_kind", "_law_columns_here"] : List Str) (defScope (top 103)) := ⟨rfl, rfl, rfl, by decide +kernel, rfl, by decide +kernel, by decide +kernel⟩
theorem ok_l_law_bad (T : Txt K mg) : Def P w K mg base 7 "_law_bad" 3 zba := zb1 T.d_l_law_bad sc_l_law_bad (fun _ _ _ _ _ _ us hl => match us, hl with | [_, _, _], _ => rfl) (fun f cdv A outer s H E hr hG =>
    (zaf (ds_par (i := 5) (j := 6) rfl (zax call_len zby T.b_len (by decide +kernel) (za_ (zab (i := 2)) zac)) (zak (zfk T) (hr.mono (by decide)) hG (takes_of rfl rfl rfl rfl) (za_ (zab (i := 0)) (za_ (zab (i := 2)) zac)) (hlen := (zad (zad zal)))) sc_l_law_bad.nd)
    (zaf (za1 (i := 3) (za5 (za_ za7 (za_ (za5 zac) (za_ za3 (za_ zag (za_ zea (za_ (zam (za_ za7 zac)) zac))))))) sc_l_law_bad.nd)
    (zaf (zbt (za0 (zbs (ru64 hr)) zce (zab (i := 1)) za3) (zaf (za1 (i := 7) (zau zat zas (de_sl (zab (i := 3)) dp_no (dp_ex zag)) (za5 (za_ (zam zac) (za_ (zau zct zb8 (zam (za_ za7 zac)) zag) (za_ (zam (za_ (zam zac) zac)) (za_ (zam (za_ (zam (za_ zag (za_ zag zac))) zac)) (za_ (zam (za_ (zam (za_ zag (za_ zag (za_ zag (za_ zag zac))))) zac)) (za_ (zam (za_ (zam (za_ zag zac)) (za_ (zam (za_ zag zac)) (za_ (zam (za_ zag zac)) zac)))) zac)))))))) sc_l_law_bad.nd)
    (zaj (zao (zak (zbn T) (hr.mono (by decide)) hG (takes_of rfl rfl rfl rfl) (za_ (zab (i := 0)) (za_ (zau zat zas (zab (i := 7)) (za5 (za_ (za5 (za_ za7 zac)) (za_ (zam (za_ (zam (za_ (zji zag) zac)) zac)) (za_ (zam (za_ (zam (za_ zea zac)) zac)) zac))))) zac)) (hlen := (zad (zad zal))))))) zaq)
    (zaf (zbt (za0 (zbs (ru64 hr)) zce (zab (i := 1)) za3) (zaj (zao (zak (zet T) (hr.mono (by decide)) hG (takes_of rfl rfl rfl rfl) (za_ (zab (i := 0)) (za_ (zab (i := 2)) zac)) (hlen := (zad (zad zal)))))) zaq)
    (zaf (zbt (za0 (zbs (ru64 hr)) zce (zab (i := 1)) za3) (zaf (ds_par (i := 8) (j := 9) rfl (zak (zet T) (hr.mono (by decide)) hG (takes_of rfl rfl rfl rfl) (za_ (zab (i := 0)) (za_ (zab (i := 2)) zac)) (hlen := (zad (zad zal)))) (zak (ze8 T) (hr.mono (by decide)) hG (takes_of rfl rfl rfl rfl) (za_ (zab (i := 0)) (za_ (zab (i := 2)) zac)) (hlen := (zad (zad zal)))) sc_l_law_bad.nd)
    (zaf (za1 (i := 7) (za5 (za_ (zau zct zb8 (zam (za_ (zab (i := 9)) zac)) zag) (za_ (zab (i := 9)) (za_ (za5 (za_ (zab (i := 9)) zac)) (za_ (zam (za_ (zab (i := 8)) zac)) (za_ (zam (za_ (zab (i := 9)) (za_ (zab (i := 8)) zac))) zac)))))) sc_l_law_bad.nd)
    (zaj (zao (zak (zbn T) (hr.mono (by decide)) hG (takes_of rfl rfl rfl rfl) (za_ (zab (i := 0)) (za_ (zau zat zas (zau zat zas (zab (i := 3)) (zab (i := 7))) (za5 (za_ (zam (za_ (zab (i := 8)) (za_ (zab (i := 9)) zac))) (za_ (zam (za_ (zab (i := 9)) (za_ (zab (i := 8)) (za_ (zab (i := 9)) zac)))) zac)))) zac)) (hlen := (zad (zad zal)))))))) zaq)
    (zaf (zbt (za0 (zbs (ru64 hr)) zce (zab (i := 1)) za3) (zaf (za1 (i := 8) (zak (zdr T) (hr.mono (by decide)) hG (takes_of rfl rfl rfl rfl) (za_ (zab (i := 0)) (za_ (zab (i := 2)) zac)) (hlen := (zad (zad zal)))) sc_l_law_bad.nd)
    (zaf (za1 (i := 7) (zau zat zas (za5 (za_ (zam zac) (za_ (zau zat zas (zab (i := 6)) (de_sl (zab (i := 6)) dp_no (dp_ex zag))) (za_ (de_sl (zab (i := 6)) (dp_ex zag) dp_no) (za_ (zbb call_list_of zif T.b_list (by decide +kernel) (za_ (zab (i := 6)) zac)) zac))))) (zau zct zb8 (za5 (za_ (zab (i := 8)) zac)) zag)) sc_l_law_bad.nd)
    (zaj (zao (zak (zbn T) (hr.mono (by decide)) hG (takes_of rfl rfl rfl rfl) (za_ (zab (i := 0)) (za_ (zau zat zas (de_sl (zab (i := 3)) dp_no (dp_ex zag)) (zab (i := 7))) zac)) (hlen := (zad (zad zal)))))))) zaq)
    (zaf (zbt (za0 (zbs (ru64 hr)) zce (zab (i := 1)) za3) (zaf (za1 (i := 8) (zak (zdr T) (hr.mono (by decide)) hG (takes_of rfl rfl rfl rfl) (za_ (zab (i := 0)) (za_ (zab (i := 2)) zac)) (hlen := (zad (zad zal)))) sc_l_law_bad.nd)
    (zaf (za1 (i := 7) (za5 (za_ (zau zct zb8 (zam (za_ (zab (i := 6)) zac)) zag) (za_ (zau zat zas (zab (i := 6)) (zam (za_ zag zac))) (za_ (zam (za_ (zau zat zas (zab (i := 6)) (zam (za_ zag zac))) zac)) (za_ (zam (za_ (zab (i := 8)) zac)) (za_ (zam (za_ (zab (i := 6)) (za_ (zab (i := 8)) zac))) zac)))))) sc_l_law_bad.nd)
    (zaf (za1 (i := 7) (zau zat zas (zab (i := 7)) (za5 (za_ (zam (za_ (zab (i := 8)) (za_ (zab (i := 6)) zac))) (za_ (zam (za_ (zab (i := 6)) (za_ (zab (i := 8)) (za_ (zab (i := 6)) zac)))) (za_ (za5 (za_ (zab (i := 6)) zac)) (za_ (zam (za_ (zam zac) zac)) zac)))))) sc_l_law_bad.nd)
    (zaj (zao (zak (zbn T) (hr.mono (by decide)) hG (takes_of rfl rfl rfl rfl) (za_ (zab (i := 0)) (za_ (zau zat zas (zau zat zas (zab (i := 3)) (zab (i := 7))) (za5 (za_ (zam (za_ (zab (i := 6)) (za_ (zbb call_list_of zif T.b_list (by decide +kernel) (za_ (zab (i := 6)) zac)) zac))) zac))) zac)) (hlen := (zad (zad zal))))))))) zaq)
    (zaf (za1 (i := 4) (zau zat zas (zab (i := 5)) (zak (zbl T) (hr.mono (by decide)) hG (takes_of rfl rfl rfl rfl) (za_ (zab (i := 0)) (za_ zag zac)) (hlen := (zad (zad zal))))) sc_l_law_bad.nd)
    (zaf (zbt (za0 (zbs (ru64 hr)) zce (zab (i := 1)) za3) (zaf (za1 (i := 7) (za5 (za_ (zam (za_ zag (za_ zag zac))) (za_ (zam (za_ (zab (i := 4)) zac)) (za_ (zam (za_ (zji zag) zac)) (za_ (zam (za_ zea zac)) (za_ (zam (za_ za3 zac)) (za_ (za5 (za_ zag zac)) (za_ (zam (za_ zag (za_ (zab (i := 4)) zac))) (za_ (zam (za_ zag (za_ zag zac))) zac))))))))) sc_l_law_bad.nd)
    (zaj (zao (zak (zbn T) (hr.mono (by decide)) hG (takes_of rfl rfl rfl rfl) (za_ (zab (i := 0)) (za_ (zau zat zas (zab (i := 3)) (zab (i := 7))) zac)) (hlen := (zad (zad zal))))))) zaq)
    (zaj (zao (zak (zbn T) (hr.mono (by decide)) hG (takes_of rfl rfl rfl rfl) (za_ (zab (i := 0)) (za_ (za5 (za_ za7 (za_ zag (za_ zag (za_ (zji zag) (za_ zea (za_ za3 (za_ (zam (za_ zag zac)) (za_ (za5 (za_ zag zac)) (za_ (zau op_pow ze1 zag zag) zac)))))))))) zac)) (hlen := (zad (zad zal))))))))))))))))
theorem sc_l_law_word : FnScope (["_law_caught", "_law_some", "_law_words"] : List Str) (["_law_caught"] : List Str) (defScope (top 104)) := ⟨rfl, rfl, rfl, by decide +kernel, rfl, by decide +kernel, by decide +kernel⟩
theorem zkm (T : Txt K mg) : Def P w K mg base 1 "_law_word" 1 za9 := zb1 T.d_l_law_word sc_l_law_word (fun _ _ _ _ _ _ us hl => match us, hl with | [_], _ => rfl) (fun f cdv A outer s H E hr hG =>
    (zaf (za1 (i := 1) (za5 (za_ (zgc (zab (i := 0)) T.b_isinstance T.y_InvalidColumns) (za_ (zgc (zab (i := 0)) T.b_isinstance T.y_InvalidRules) zac))) sc_l_law_word.nd)
    (zaf (za1 (i := 1) (zau zat zas (zab (i := 1)) (za5 (za_ (zgc (zab (i := 0)) T.b_isinstance T.y_InvalidRule) zac))) sc_l_law_word.nd)
    (zaf (za1 (i := 1) (zau zat zas (zab (i := 1)) (za5 (za_ (zgc (zab (i := 0)) T.b_isinstance T.y_InvalidTable) (za_ (zgc (zab (i := 0)) T.b_isinstance T.y_InvalidRow) zac)))) sc_l_law_word.nd)
    (zaf (za1 (i := 1) (zau zat zas (zab (i := 1)) (za5 (za_ (zgc (zab (i := 0)) T.b_isinstance T.y_InvalidNumber) (za_ (zgc (zab (i := 0)) T.b_isinstance T.y_InvalidSettled) zac)))) sc_l_law_word.nd)
    (zaf (za1 (i := 2) (za5 (za_ za3 (za_ za3 (za_ za3 (za_ za3 (za_ za3 (za_ za3 (za_ za3 zac)))))))) sc_l_law_word.nd)
    (zaj (zao (de_if (za0 (zbs (ru64 hr)) zce (de_countB (ru65 hr) (zab (i := 1))) zag) (za8 (zab (i := 2)) (de_indexB (ru65 hr) (zab (i := 1)))) za3)))))))))
theorem sc_l_law_do : FnScope (["_law_sort", "_law_own"] : List Str) (["_law_sort", "_law_own"] : List Str) (defScope (top 105)) := ⟨rfl, rfl, rfl, by decide +kernel, rfl, by decide +kernel, by decide +kernel⟩
theorem ok_l_law_do (T : Txt K mg) : Def P w K mg base 10 "_law_do" 2 zai := zb1 T.d_l_law_do sc_l_law_do (fun _ _ _ _ _ _ us hl => match us, hl with | [_, _], _ => rfl) (fun f cdv A outer s H E hr hG =>
    (zaf (zbt (za0 (zbs (ru64 hr)) zce (zab (i := 0)) zag) (zaj (zao (zak (ok_breaks T) (hr.mono (by decide)) hG (takes_of rfl rfl rfl rfl) (za_ (za8 (zab (i := 1)) zag) (za_ (za8 (zab (i := 1)) zag) (za_ (za8 (zab (i := 1)) zag) zac))) (hlen := (zad (zad (zad zal))))))) zaq)
    (zaf (zbt (za0 (zbs (ru64 hr)) zce (zab (i := 0)) zag) (zaj (zao (zak (ok_holds T) (hr.mono (by decide)) hG (takes_of rfl rfl rfl rfl) (za_ (za8 (zab (i := 1)) zag) (za_ (za8 (zab (i := 1)) zag) (za_ (za8 (zab (i := 1)) zag) zac))) (hlen := (zad (zad (zad zal))))))) zaq)
    (zaf (zbt (za0 (zbs (ru64 hr)) zce (zab (i := 0)) zag) (zaj (zao (zak (zk3 T) (hr.mono (by decide)) hG (takes_of rfl rfl rfl rfl) (za_ (za8 (zab (i := 1)) zag) (za_ (za8 (zab (i := 1)) zag) (za_ (za8 (zab (i := 1)) zag) zac))) (hlen := (zad (zad (zad zal))))))) zaq)
    (zaf (zbt (za0 (zbs (ru64 hr)) zce (zab (i := 0)) zag) (zaj (zao (zak (ok_needless T) (hr.mono (by decide)) hG (takes_of rfl rfl rfl rfl) (za_ (za8 (zab (i := 1)) zag) (za_ (za8 (zab (i := 1)) zag) zac)) (hlen := (zad (zad zal)))))) zaq)
    (zaf (zbt (za0 (zbs (ru64 hr)) zce (zab (i := 0)) zag) (zaj (zao (zak (ok_cover T) (hr.mono (by decide)) hG (takes_of rfl rfl rfl rfl) (za_ (za8 (zab (i := 1)) zag) (za_ (za8 (zab (i := 1)) zag) zac)) (hlen := (zad (zad zal)))))) zaq)
    (zaf (zbt (za0 (zbs (ru64 hr)) zce (zab (i := 0)) zag) (zaj (zao (zak (ok_is_cover T) (hr.mono (by decide)) hG (takes_of rfl rfl rfl rfl) (za_ (za8 (zab (i := 1)) zag) (za_ (za8 (zab (i := 1)) zag) (za_ za7 zac))) (hlen := (zad (zad (zad zal))))))) zaq)
    (zaf (zbt (za0 (zbs (ru64 hr)) zce (zab (i := 0)) zag) (zaj (zao (zak (zi3 T) (hr.mono (by decide)) hG (takes_of rfl rfl rfl rfl) (za_ (za8 (zab (i := 1)) zag) (za_ (za8 (zab (i := 1)) zag) (za_ za7 zac))) (hlen := (zad (zad (zad zal))))))) zaq)
    (zaf (zbt (za0 (zbs (ru64 hr)) zce (zab (i := 0)) zag) (zaj (zao (zak (zjm T) (hr.mono (by decide)) hG (takes_of rfl rfl rfl rfl) (za_ (za8 (zab (i := 1)) zag) (za_ (za8 (zab (i := 1)) zag) (za_ (za8 (zab (i := 1)) zag) zac))) (hlen := (zad (zad (zad zal))))))) zaq)
    (zaf (zbt (za0 (zbs (ru64 hr)) zce (zab (i := 0)) zag) (zaj (zao (zak (ok_matches T) (hr.mono (by decide)) hG (takes_of rfl rfl rfl rfl) (za_ (za8 (zab (i := 1)) zag) (za_ (za8 (zab (i := 1)) zag) (za_ (za8 (zab (i := 1)) zag) zac))) (hlen := (zad (zad (zad zal))))))) zaq)
    (zaf (zbt (za0 (zbs (ru64 hr)) zce (zab (i := 0)) zag) (zaj (zao (zak (zky T) (hr.mono (by decide)) hG (takes_of rfl rfl rfl rfl) (za_ (za8 (zab (i := 1)) zag) (za_ (za8 (zab (i := 1)) zag) (za_ (za8 (zab (i := 1)) zag) zac))) (hlen := (zad (zad (zad zal))))))) zaq)
    (zaj (zao (zak (zh2 T) (hr.mono (by decide)) hG (takes_of rfl rfl rfl rfl) (za_ (za8 (zab (i := 1)) zag) (za_ (za8 (zab (i := 1)) zag) (za_ (za8 (zab (i := 1)) zag) (za_ (za8 (zab (i := 1)) zag) (za_ za7 zac))))) (hlen := (zad (zad (zad (zad (zad zal))))))))))))))))))))
theorem sc_l_law_told : FnScope (["_law_sort", "_law_own", "e", "_law_caught", "_law_kept"] : List Str) (["_law_sort", "_law_own"] : List Str) (defScope (top 106)) := ⟨rfl, rfl, rfl, by decide +kernel, rfl, by decide +kernel, by decide +kernel⟩
theorem zkj (T : Txt K mg) : Def P w K mg base 11 "_law_told" 2 zc1 := zb1 T.d_l_law_told sc_l_law_told (fun _ _ _ _ _ _ us hl => match us, hl with | [_, _], _ => rfl) (fun f cdv A outer s H E hr hG =>
    (zaf (ds_par (i := 3) (j := 4) rfl za7 (zax (cr_repr hG (ru64 hr)) dRepr_ok T.b_repr (by decide +kernel) (za_ (zab (i := 1)) zac)) sc_l_law_told.nd)
    (zaf (ds_tryKeep (i := 2) (j := 3) rfl rfl sc_l_law_told.nd rfl (takes_of rfl rfl rfl rfl) (fun _ _ _ t_ p_ => (zaj (zbq (zak (ok_l_law_do T) (hr.mono (by decide)) hG t_ (za_ (zab (i := 0)) (za_ (zab (i := 1)) zac)) (hlen := (zad (zad zal))))))) T.c_RuleError T.k_RuleError rfl (hil := show 2 < 5 by decide))
    (zaf (zbt (za0 (op_neS (ru64 hr)) dNeS_ok (zax (cr_repr hG (ru64 hr)) dRepr_ok T.b_repr (by decide +kernel) (za_ (zab (i := 1)) zac)) (zab (i := 4))) (zaj (zao za3)) zaq)
    (zaj (zao (de_if (za0 op_isN oIs_ok (zab (i := 3)) za7) za3 (zak (zkm T) (hr.mono (by decide)) hG (takes_of rfl rfl rfl rfl) (za_ (zab (i := 3)) zac) (hlen := (zad zal))))))))))
section
local instance (priority := 2000) : Mode := SM
theorem sc_law : FnScope (["_law_script", "_law_pen", "_law_kinds", "_law_turn", "_law_columns_here", "_law_good", "_law_sort", "_law_k", "_law_own", "_law_j", "_law_kind"] : List Str) (["_law_script"] : List Str) (defScope (top 107)) := ⟨rfl, rfl, rfl, by decide +kernel, rfl, by decide +kernel, by decide +kernel⟩
theorem bd_law (T : Txt K mg) (f : Addr) (cdv : Value) (A : Around) (outer : List Env) (s : Shared) (H : Hp) (E : XK) (hr : RoomH 11 (A.deeper (envOfC "law" (defScope (top 107)) s.heap.objs.size f cdv))) (hG : A.guards = some []) :
    DSs (cxOf (L2.CX P w) P w K mg base (["_law_script", "_law_pen", "_law_kinds", "_law_turn", "_law_columns_here", "_law_good", "_law_sort", "_law_k", "_law_own", "_law_j", "_law_kind"] : List Str) "law" (defScope (top 107)) f cdv A outer s H E) (fun cls d _ H => E cls d H) (defBody (top 107)) s_law :=
    (zaf (za1 (i := 1) (zak (zee (zkg T)) (hr.mono (by decide)) hG (takes_of rfl rfl rfl rfl) (za_ (zab (i := 0)) zac) (hlen := (zad zal))) sc_law.nd)
    (zaf (zfi (i := 2) (ne_lst (za_ (za5 (za_ za3 (za_ za3 (za_ za3 zac)))) (za_ (za5 (za_ za3 (za_ za3 (za_ za3 zac)))) (za_ (za5 (za_ za3 (za_ za3 (za_ za3 zac)))) zac)))) sc_law.nd (hf := .inr rfl))
    (zaf (zfi (i := 2) (zim (zau zat zas (zab (i := 2)) (zau zct zb8 (za5 (za_ (za5 (za_ za3 (za_ za3 zac))) zac)) zag)) (za5 (za_ (za5 (za_ za3 (za_ za3 zac))) (za_ (za5 (za_ za3 (za_ za3 (za_ za3 zac)))) zac)))) sc_law.nd (hf := .inr rfl))
    (zaf (zg8 (zab (i := 2)) (za5 (za_ za3 (za_ za3 (za_ za3 zac)))))
    (zaf (zfi (i := 2) (zim (zab (i := 2)) (za5 (za_ (za5 (za_ za3 (za_ za3 (za_ za3 zac)))) (za_ (za5 (za_ za3 (za_ za3 (za_ za3 (za_ za3 zac))))) zac)))) sc_law.nd (hf := .inr rfl))
    (zaf (zhp (passes_of rfl) rfl (zd9 (za_ zag zac) T.b_range) (zbc (i := 3) sc_law.nd) (zaf (za1 (i := 4) (zak (zee (zh4 T)) (hr.mono (by decide)) hG (takes_of rfl rfl rfl rfl) (za_ (zak (zee (zk9 T)) (hr.mono (by decide)) hG (takes_of rfl rfl rfl rfl) (za_ (zab (i := 1)) zac) (hlen := (zad zal))) (za_ zag zac)) (hlen := (zad (zad zal)))) sc_law.nd)
    (zaf (za1 (i := 5) (de_disp trivial (DispD.cons pe_str (zab (i := 4)) (DispD.cons pe_str (zam zac) (DispD.cons pe_str (zak (zee (ze8 T)) (hr.mono (by decide)) hG (takes_of rfl rfl rfl rfl) (za_ (zab (i := 1)) (za_ (zab (i := 4)) zac)) (hlen := (zad (zad zal)))) (DispD.cons pe_str (zam zac) DispD.nil))))) sc_law.nd)
    (zaf (ds_putS (ru1 hr) (zab (i := 5)) za3 (zak (zee (zfk T)) (hr.mono (by decide)) hG (takes_of rfl rfl rfl rfl) (za_ (zab (i := 1)) (za_ (zab (i := 4)) zac)) (hlen := (zad (zad zal)))))
    (zaj (zhp (passes_of rfl) rfl (zd9 (za_ zag zac) T.b_range) (zbc (i := 6) sc_law.nd) (zaj (zhp (passes_of rfl) rfl (zd9 (za_ (zax call_len zby T.b_len (by decide +kernel) (za_ (za8 (zab (i := 2)) (zab (i := 6))) zac)) zac) T.b_range) (zbc (i := 7) sc_law.nd) (zaf (ds_newLc (i := 8) (own := [("_law_kind", 10)]) rfl sc_law.nd (zel (za8 (zab (i := 2)) (zab (i := 6)))) (blkOk_by (N := ["_law_script", "_law_pen", "_law_kinds", "_law_turn", "_law_columns_here", "_law_good", "_law_sort", "_law_k", "_law_own", "_law_j", "_law_kind"]) (sc := defScope (top 107)) (by decide +kernel)) (fun _ _ _ _ _ => (zbc (i := 10) sc_law.nd)) (fun _ _ _ _ _ => zdp) (fun _ _ _ _ _ => (de_getS2 (ru1 hr) (zab (i := 5)) (zab (i := 10)) zag ⟨rfl, rfl, rfl, rfl⟩)))
    (zaf (zhp (passes_of rfl) rfl (di_range2 (za_ (zab (i := 7)) (za_ (zax call_len zby T.b_len (by decide +kernel) (za_ (zab (i := 8)) zac)) zac)) T.b_range) (zbc (i := 9) sc_law.nd) (zaj (zbt (zh7 (za0 (zbs (ru64 hr)) zce (zab (i := 9)) (zab (i := 7))) (zf3 (za0 (zbs (ru64 hr)) zce (zak (zee (zbl T)) (hr.mono (by decide)) hG (takes_of rfl rfl rfl rfl) (za_ (zab (i := 1)) (za_ zag zac)) (hlen := (zad (zad zal)))) zag))).dt (zaj (zja (zab (i := 8)) (zab (i := 9)) (zak (zee (ok_l_law_bad T)) (hr.mono (by decide)) hG (takes_of rfl rfl rfl rfl) (za_ (zab (i := 1)) (za_ (za8 (za8 (zab (i := 2)) (zab (i := 6))) (zab (i := 9))) (za_ (zab (i := 4)) zac))) (hlen := (zad (zad (zad zal))))))) zaq)))
    (dss_frz (i := 8) (zaj (zbt (za0 (zfn (ru64 hr)) zih (zak (zee (zkj T)) (hr.mono (by decide)) hG (takes_of rfl rfl rfl rfl) (za_ (zab (i := 6)) (za_ (zab (i := 8)) zac)) (hlen := (zad (zad zal)))) (za8 (za8 (zab (i := 2)) (zab (i := 6))) (zab (i := 7)))) (zaj (zao zea)) zaq)))))))))))))
    (zaj (zao zea))))))))
end
end T18
set_option maxHeartbeats 0
namespace T18
open PySem PySem.Spec PyProof.Rows L2 DL
theorem txt_of {K : PySem.W.Frag} {h : Heap} {mg : Str → Option Value} (X : K.In h) (G : h.Ns mainGlobals mg) (c : He.SaysD fa fn K) (xo : ex K = true) : Txt K mg where
  b_all := He.free_ok X G (c.fact 0 (f := .free "all") rfl)
  b_any := He.free_ok X G (c.fact 1 (f := .free "any") rfl)
  b_bool := He.free_ok X G (c.fact 2 (f := .free "bool") rfl)
  b_dict := He.free_ok X G (c.fact 3 (f := .free "dict") rfl)
  b_enumerate := He.free_ok X G (c.fact 4 (f := .free "enumerate") rfl)
  b_int := He.free_ok X G (c.fact 5 (f := .free "int") rfl)
  b_isinstance := He.free_ok X G (c.fact 6 (f := .free "isinstance") rfl)
  b_len := He.free_ok X G (c.fact 7 (f := .free "len") rfl)
  b_list := He.free_ok X G (c.fact 8 (f := .free "list") rfl)
  b_range := He.free_ok X G (c.fact 9 (f := .free "range") rfl)
  b_repr := He.free_ok X G (c.fact 10 (f := .free "repr") rfl)
  b_set := He.free_ok X G (c.fact 11 (f := .free "set") rfl)
  b_sorted := He.free_ok X G (c.fact 12 (f := .free "sorted") rfl)
  b_tuple := He.free_ok X G (c.fact 13 (f := .free "tuple") rfl)
  b_zip := He.free_ok X G (c.fact 14 (f := .free "zip") rfl)
  i_MOST_COLUMNS := He.int_ok X G (c.fact 15 (f := .int "MOST_COLUMNS" 4) rfl)
  i_MOST_ROWS := He.int_ok X G (c.fact 16 (f := .int "MOST_ROWS" 8) rfl)
  i_MOST_RULES := He.int_ok X G (c.fact 17 (f := .int "MOST_RULES" 8) rfl)
  e_InvalidColumns := zge X G (c.fact 18 (f := .glo "InvalidColumns") rfl) (c.fact 19 (f := .exc "InvalidColumns") rfl)
  e_InvalidNumber := zge X G (c.fact 20 (f := .glo "InvalidNumber") rfl) (c.fact 21 (f := .exc "InvalidNumber") rfl)
  e_InvalidRow := zge X G (c.fact 22 (f := .glo "InvalidRow") rfl) (c.fact 23 (f := .exc "InvalidRow") rfl)
  e_InvalidRule := zge X G (c.fact 24 (f := .glo "InvalidRule") rfl) (c.fact 25 (f := .exc "InvalidRule") rfl)
  e_InvalidRules := zge X G (c.fact 26 (f := .glo "InvalidRules") rfl) (c.fact 27 (f := .exc "InvalidRules") rfl)
  e_InvalidTable := zge X G (c.fact 28 (f := .glo "InvalidTable") rfl) (c.fact 29 (f := .exc "InvalidTable") rfl)
  e_InvalidValue := zge X G (c.fact 30 (f := .glo "InvalidValue") rfl) (c.fact 31 (f := .exc "InvalidValue") rfl)
  c_RuleError := catD_of X G (c.fact 42 (f := .glo "RuleError") rfl) (.cons (c.fact 32 (f := .glo "RuleError") rfl) (c.fact 52 (f := .exm "RuleError" "RuleError" true) rfl) (.cons (c.fact 33 (f := .glo "InvalidColumns") rfl) (c.fact 51 (f := .exm "InvalidColumns" "RuleError" true) rfl) (.cons (c.fact 34 (f := .glo "InvalidRow") rfl) (c.fact 50 (f := .exm "InvalidRow" "RuleError" true) rfl) (.cons (c.fact 35 (f := .glo "InvalidTable") rfl) (c.fact 49 (f := .exm "InvalidTable" "RuleError" true) rfl) (.cons (c.fact 36 (f := .glo "InvalidRule") rfl) (c.fact 48 (f := .exm "InvalidRule" "RuleError" true) rfl) (.cons (c.fact 37 (f := .glo "InvalidRules") rfl) (c.fact 47 (f := .exm "InvalidRules" "RuleError" true) rfl) (.cons (c.fact 38 (f := .glo "InvalidSettled") rfl) (c.fact 46 (f := .exm "InvalidSettled" "RuleError" true) rfl) (.cons (c.fact 39 (f := .glo "InvalidNumber") rfl) (c.fact 45 (f := .exm "InvalidNumber" "RuleError" true) rfl) (.cons (c.fact 40 (f := .glo "InvalidValue") rfl) (c.fact 44 (f := .exm "InvalidValue" "RuleError" true) rfl) (.cons (c.fact 41 (f := .glo "NotAtPeace") rfl) (c.fact 43 (f := .exm "NotAtPeace" "RuleError" true) rfl) .nil))))))))))
  y_InvalidColumns := zgi X G (c.fact 33 (f := .glo "InvalidColumns") rfl) (exo_1 xo) (List.mem_of_getElem? (i := 0) rfl)
  y_InvalidNumber := zgi X G (c.fact 39 (f := .glo "InvalidNumber") rfl) (exo_1 xo) (List.mem_of_getElem? (i := 1) rfl)
  y_InvalidRow := zgi X G (c.fact 34 (f := .glo "InvalidRow") rfl) (exo_1 xo) (List.mem_of_getElem? (i := 2) rfl)
  y_InvalidRule := zgi X G (c.fact 36 (f := .glo "InvalidRule") rfl) (exo_1 xo) (List.mem_of_getElem? (i := 3) rfl)
  y_InvalidRules := zgi X G (c.fact 37 (f := .glo "InvalidRules") rfl) (exo_1 xo) (List.mem_of_getElem? (i := 4) rfl)
  y_InvalidSettled := zgi X G (c.fact 38 (f := .glo "InvalidSettled") rfl) (exo_1 xo) (List.mem_of_getElem? (i := 5) rfl)
  y_InvalidTable := zgi X G (c.fact 35 (f := .glo "InvalidTable") rfl) (exo_1 xo) (List.mem_of_getElem? (i := 6) rfl)
  k_RuleError := catG X G ["RuleError", "InvalidColumns", "InvalidRow", "InvalidTable", "InvalidRule", "InvalidRules", "InvalidSettled", "InvalidNumber", "InvalidValue", "NotAtPeace"] (fun x hx => by
    simp only [List.mem_cons, List.not_mem_nil, or_false] at hx
    rcases hx with rfl | rfl | rfl | rfl | rfl | rfl | rfl | rfl | rfl | rfl
    · exact c.fact 32 (f := .glo "RuleError") rfl
    · exact c.fact 33 (f := .glo "InvalidColumns") rfl
    · exact c.fact 34 (f := .glo "InvalidRow") rfl
    · exact c.fact 35 (f := .glo "InvalidTable") rfl
    · exact c.fact 36 (f := .glo "InvalidRule") rfl
    · exact c.fact 37 (f := .glo "InvalidRules") rfl
    · exact c.fact 38 (f := .glo "InvalidSettled") rfl
    · exact c.fact 39 (f := .glo "InvalidNumber") rfl
    · exact c.fact 40 (f := .glo "InvalidValue") rfl
    · exact c.fact 41 (f := .glo "NotAtPeace") rfl)
  d_is_integer := let ⟨fd, F⟩ := c.def_ 0 (d := mkD "is_integer" 12) rfl; ⟨_, fd, F, He.glo_ok X G (c.fact 53 (f := .glo "is_integer") rfl)⟩
  d_is_between := let ⟨fd, F⟩ := c.def_ 1 (d := mkD "is_between" 13) rfl; ⟨_, fd, F, He.glo_ok X G (c.fact 54 (f := .glo "is_between") rfl)⟩
  d_is_value := let ⟨fd, F⟩ := c.def_ 2 (d := mkD "is_value" 17) rfl; ⟨_, fd, F, He.glo_ok X G (c.fact 55 (f := .glo "is_value") rfl)⟩
  d_is_column := let ⟨fd, F⟩ := c.def_ 3 (d := mkD "is_column" 18) rfl; ⟨_, fd, F, He.glo_ok X G (c.fact 56 (f := .glo "is_column") rfl)⟩
  d_is_value_of := let ⟨fd, F⟩ := c.def_ 4 (d := mkD "is_value_of" 19) rfl; ⟨_, fd, F, He.glo_ok X G (c.fact 57 (f := .glo "is_value_of") rfl)⟩
  d_is_columns := let ⟨fd, F⟩ := c.def_ 5 (d := mkD "is_columns" 20) rfl; ⟨_, fd, F, He.glo_ok X G (c.fact 58 (f := .glo "is_columns") rfl)⟩
  d_is_row_of := let ⟨fd, F⟩ := c.def_ 6 (d := mkD "is_row_of" 21) rfl; ⟨_, fd, F, He.glo_ok X G (c.fact 59 (f := .glo "is_row_of") rfl)⟩
  d_is_table_of := let ⟨fd, F⟩ := c.def_ 7 (d := mkD "is_table_of" 22) rfl; ⟨_, fd, F, He.glo_ok X G (c.fact 60 (f := .glo "is_table_of") rfl)⟩
  d_require_columns := let ⟨fd, F⟩ := c.def_ 8 (d := mkD "require_columns" 23) rfl; ⟨_, fd, F, He.glo_ok X G (c.fact 61 (f := .glo "require_columns") rfl)⟩
  d_require_row := let ⟨fd, F⟩ := c.def_ 9 (d := mkD "require_row" 24) rfl; ⟨_, fd, F, He.glo_ok X G (c.fact 62 (f := .glo "require_row") rfl)⟩
  d_require_table := let ⟨fd, F⟩ := c.def_ 10 (d := mkD "require_table" 25) rfl; ⟨_, fd, F, He.glo_ok X G (c.fact 63 (f := .glo "require_table") rfl)⟩
  d_is_entry := let ⟨fd, F⟩ := c.def_ 11 (d := mkD "is_entry" 28) rfl; ⟨_, fd, F, He.glo_ok X G (c.fact 64 (f := .glo "is_entry") rfl)⟩
  d_is_given := let ⟨fd, F⟩ := c.def_ 12 (d := mkD "is_given" 29) rfl; ⟨_, fd, F, He.glo_ok X G (c.fact 65 (f := .glo "is_given") rfl)⟩
  d_is_rule_of := let ⟨fd, F⟩ := c.def_ 13 (d := mkD "is_rule_of" 30) rfl; ⟨_, fd, F, He.glo_ok X G (c.fact 66 (f := .glo "is_rule_of") rfl)⟩
  d_are_rules := let ⟨fd, F⟩ := c.def_ 14 (d := mkD "are_rules" 31) rfl; ⟨_, fd, F, He.glo_ok X G (c.fact 67 (f := .glo "are_rules") rfl)⟩
  d_require_rule := let ⟨fd, F⟩ := c.def_ 15 (d := mkD "require_rule" 34) rfl; ⟨_, fd, F, He.glo_ok X G (c.fact 68 (f := .glo "require_rule") rfl)⟩
  d_require_rules := let ⟨fd, F⟩ := c.def_ 16 (d := mkD "require_rules" 35) rfl; ⟨_, fd, F, He.glo_ok X G (c.fact 69 (f := .glo "require_rules") rfl)⟩
  d_matches := let ⟨fd, F⟩ := c.def_ 17 (d := mkD "matches" 36) rfl; ⟨_, fd, F, He.glo_ok X G (c.fact 70 (f := .glo "matches") rfl)⟩
  d_breaks := let ⟨fd, F⟩ := c.def_ 18 (d := mkD "breaks" 46) rfl; ⟨_, fd, F, He.glo_ok X G (c.fact 71 (f := .glo "breaks") rfl)⟩
  d_holds := let ⟨fd, F⟩ := c.def_ 19 (d := mkD "holds" 47) rfl; ⟨_, fd, F, He.glo_ok X G (c.fact 72 (f := .glo "holds") rfl)⟩
  d_fewest_out := let ⟨fd, F⟩ := c.def_ 20 (d := mkD "fewest_out" 48) rfl; ⟨_, fd, F, He.glo_ok X G (c.fact 73 (f := .glo "fewest_out") rfl)⟩
  d_count_tree := let ⟨fd, F⟩ := c.def_ 21 (d := mkD "count_tree" 49) rfl; ⟨_, fd, F, He.glo_ok X G (c.fact 74 (f := .glo "count_tree") rfl)⟩
  d_is_count_tree := let ⟨fd, F⟩ := c.def_ 22 (d := mkD "is_count_tree" 50) rfl; ⟨_, fd, F, He.glo_ok X G (c.fact 75 (f := .glo "is_count_tree") rfl)⟩
  d_more_general := let ⟨fd, F⟩ := c.def_ 23 (d := mkD "more_general" 80) rfl; ⟨_, fd, F, He.glo_ok X G (c.fact 76 (f := .glo "more_general") rfl)⟩
  d_needless := let ⟨fd, F⟩ := c.def_ 24 (d := mkD "needless" 81) rfl; ⟨_, fd, F, He.glo_ok X G (c.fact 77 (f := .glo "needless") rfl)⟩
  d_cover := let ⟨fd, F⟩ := c.def_ 25 (d := mkD "cover" 82) rfl; ⟨_, fd, F, He.glo_ok X G (c.fact 78 (f := .glo "cover") rfl)⟩
  d_is_cover := let ⟨fd, F⟩ := c.def_ 26 (d := mkD "is_cover" 83) rfl; ⟨_, fd, F, He.glo_ok X G (c.fact 79 (f := .glo "is_cover") rfl)⟩
  d_found_rules := let ⟨fd, F⟩ := c.def_ 27 (d := mkD "found_rules" 89) rfl; ⟨_, fd, F, He.glo_ok X G (c.fact 80 (f := .glo "found_rules") rfl)⟩
  d_l_law_spread := let ⟨fd, F⟩ := c.def_ 28 (d := mkD "_law_spread" 91) rfl; ⟨_, fd, F, He.glo_ok X G (c.fact 81 (f := .glo "_law_spread") rfl)⟩
  d_l_law_open := let ⟨fd, F⟩ := c.def_ 29 (d := mkD "_law_open" 92) rfl; ⟨_, fd, F, He.glo_ok X G (c.fact 82 (f := .glo "_law_open") rfl)⟩
  d_l_law_take := let ⟨fd, F⟩ := c.def_ 30 (d := mkD "_law_take" 93) rfl; ⟨_, fd, F, He.glo_ok X G (c.fact 83 (f := .glo "_law_take") rfl)⟩
  d_l_law_anew := let ⟨fd, F⟩ := c.def_ 31 (d := mkD "_law_anew" 94) rfl; ⟨_, fd, F, He.glo_ok X G (c.fact 84 (f := .glo "_law_anew") rfl)⟩
  d_l_law_one := let ⟨fd, F⟩ := c.def_ 32 (d := mkD "_law_one" 95) rfl; ⟨_, fd, F, He.glo_ok X G (c.fact 85 (f := .glo "_law_one") rfl)⟩
  d_l_law_columns := let ⟨fd, F⟩ := c.def_ 33 (d := mkD "_law_columns" 96) rfl; ⟨_, fd, F, He.glo_ok X G (c.fact 86 (f := .glo "_law_columns") rfl)⟩
  d_l_law_value := let ⟨fd, F⟩ := c.def_ 34 (d := mkD "_law_value" 97) rfl; ⟨_, fd, F, He.glo_ok X G (c.fact 87 (f := .glo "_law_value") rfl)⟩
  d_l_law_row := let ⟨fd, F⟩ := c.def_ 35 (d := mkD "_law_row" 98) rfl; ⟨_, fd, F, He.glo_ok X G (c.fact 88 (f := .glo "_law_row") rfl)⟩
  d_l_law_rule := let ⟨fd, F⟩ := c.def_ 36 (d := mkD "_law_rule" 99) rfl; ⟨_, fd, F, He.glo_ok X G (c.fact 89 (f := .glo "_law_rule") rfl)⟩
  d_l_law_off := let ⟨fd, F⟩ := c.def_ 37 (d := mkD "_law_off" 100) rfl; ⟨_, fd, F, He.glo_ok X G (c.fact 90 (f := .glo "_law_off") rfl)⟩
  d_l_law_spoiled_row := let ⟨fd, F⟩ := c.def_ 38 (d := mkD "_law_spoiled_row" 101) rfl; ⟨_, fd, F, He.glo_ok X G (c.fact 91 (f := .glo "_law_spoiled_row") rfl)⟩
  d_l_law_bad_rule := let ⟨fd, F⟩ := c.def_ 39 (d := mkD "_law_bad_rule" 102) rfl; ⟨_, fd, F, He.glo_ok X G (c.fact 92 (f := .glo "_law_bad_rule") rfl)⟩
  d_l_law_bad := let ⟨fd, F⟩ := c.def_ 40 (d := mkD "_law_bad" 103) rfl; ⟨_, fd, F, He.glo_ok X G (c.fact 93 (f := .glo "_law_bad") rfl)⟩
  d_l_law_word := let ⟨fd, F⟩ := c.def_ 41 (d := mkD "_law_word" 104) rfl; ⟨_, fd, F, He.glo_ok X G (c.fact 94 (f := .glo "_law_word") rfl)⟩
  d_l_law_do := let ⟨fd, F⟩ := c.def_ 42 (d := mkD "_law_do" 105) rfl; ⟨_, fd, F, He.glo_ok X G (c.fact 95 (f := .glo "_law_do") rfl)⟩
  d_l_law_told := let ⟨fd, F⟩ := c.def_ 43 (d := mkD "_law_told" 106) rfl; ⟨_, fd, F, He.glo_ok X G (c.fact 96 (f := .glo "_law_told") rfl)⟩
  d_law := let ⟨fd, F⟩ := c.def_ 44 (d := mkD "law" 107) rfl; ⟨_, fd, F, He.glo_ok X G (c.fact 97 (f := .glo "law") rfl)⟩
  cg := He.glo_ok X G (c.fact 98 (f := .glo "Case") rfl)
  cas := casK_of (exo_c xo) (He.cls_ok (c.fact 99 (f := .cls "Case") rfl)) (fun f hf => by
    simp only [List.mem_cons, List.not_mem_nil, or_false] at hf
    rcases hf with rfl | rfl | rfl | rfl
    · exact He.noat_ok (c.fact 100 (f := .noat "Case" "columns") rfl)
    · exact He.noat_ok (c.fact 101 (f := .noat "Case" "count") rfl)
    · exact He.noat_ok (c.fact 102 (f := .noat "Case" "labels") rfl)
    · exact He.noat_ok (c.fact 103 (f := .noat "Case" "facts") rfl))
  m_init := let ⟨fd, F⟩ := c.def_ 45 (d := mkM "__init__" 0) rfl; ⟨_, fd, F, He.mkr_ok (c.fact 104 (f := .mkr "Case") rfl)⟩
  m_copied := let ⟨fd, F⟩ := c.def_ 46 (d := mkM "copied" 1) rfl; ⟨_, fd, F, He.meth_ok (c.fact 105 (f := .meth "Case" "copied") rfl)⟩
  m_known := let ⟨fd, F⟩ := c.def_ 47 (d := mkM "known" 2) rfl; ⟨_, fd, F, He.meth_ok (c.fact 106 (f := .meth "Case" "known") rfl)⟩
  m_learn := let ⟨fd, F⟩ := c.def_ 48 (d := mkM "learn" 3) rfl; ⟨_, fd, F, He.meth_ok (c.fact 107 (f := .meth "Case" "learn") rfl)⟩
  m_join := let ⟨fd, F⟩ := c.def_ 49 (d := mkM "join" 4) rfl; ⟨_, fd, F, He.meth_ok (c.fact 108 (f := .meth "Case" "join") rfl)⟩
  m_are_alike := let ⟨fd, F⟩ := c.def_ 50 (d := mkM "are_alike" 5) rfl; ⟨_, fd, F, He.meth_ok (c.fact 109 (f := .meth "Case" "are_alike") rfl)⟩
  m_is_clash := let ⟨fd, F⟩ := c.def_ 51 (d := mkM "is_clash" 6) rfl; ⟨_, fd, F, He.meth_ok (c.fact 110 (f := .meth "Case" "is_clash") rfl)⟩
end T18
set_option maxHeartbeats 4000000
namespace DL
open PySem PySem.Spec PyProof.Rows L2
/-! # plain laws of the functions -/
def zjq {α : Type} (x : DV) (t e : Res α) : Res α := match x with
  | .dat (.bl b) => bif b then t else e
  | _ => .bad
theorem xAnd_eq (f g : XFn) : xAnd f g = fun ρ S => (f ρ S).bind fun x S1 => zjq x (g ρ S1) (.ok (.dat (.bl false)) S1) := by
  funext ρ S
  unfold xAnd zjq
  congr 1
  funext x S1
  cases x with
  | dat d => cases d with
    | bl b => cases b <;> rfl
    | non => rfl
    | int i => rfl
    | str i => rfl
    | lst i => rfl
    | tup i => rfl
    | cas i => rfl
    | dct i => rfl
    | ptr i => rfl
  | obj k => rfl
  | scr ns => rfl
  | exn c p => rfl
  | fn _ => rfl
  | spc _ => rfl
theorem xOr_eq (f g : XFn) : xOr f g = fun ρ S => (f ρ S).bind fun x S1 => zjq x (.ok (.dat (.bl true)) S1) (g ρ S1) := by
  funext ρ S
  unfold xOr zjq
  congr 1
  funext x S1
  cases x with
  | dat d => cases d with
    | bl b => cases b <;> rfl
    | non => rfl
    | int i => rfl
    | str i => rfl
    | lst i => rfl
    | tup i => rfl
    | cas i => rfl
    | dct i => rfl
    | ptr i => rfl
  | obj k => rfl
  | scr ns => rfl
  | exn c p => rfl
  | fn _ => rfl
  | spc _ => rfl
theorem xChain_eq (o o' : Op2) (f g k : XFn) : zhx o o' f g k = fun ρ S => (f ρ S).bind fun x S1 => (g ρ S1).bind fun y S2 => (o x y S2).bind fun z S3 => zjq z ((k ρ S3).bind fun w S4 => o' y w S4) (.ok (.dat (.bl false)) S3) := by
  funext ρ S
  unfold zhx zjq
  congr 1
  funext x S1
  congr 1
  funext x S1
  congr 1
  funext x S1
  cases x with
  | dat d => cases d with
    | bl b => cases b <;> rfl
    | non => rfl
    | int i => rfl
    | str i => rfl
    | lst i => rfl
    | tup i => rfl
    | cas i => rfl
    | dct i => rfl
    | ptr i => rfl
  | obj k => rfl
  | scr ns => rfl
  | exn c p => rfl
  | fn _ => rfl
  | spc _ => rfl
theorem truth_bl (b : Bool) (S : zae) : zjk (.dat (.bl b)) S = .ok b S := rfl
theorem truth_non (S : zae) : zjk (.dat .non) S = .ok false S := rfl
theorem truth_int (i : Int) (S : zae) : zjk (.dat (.int i)) S = .ok (i != 0) S := rfl
theorem truth_lst (xs : List D) (S : zae) : zjk (.dat (.lst xs)) S = .ok (!xs.isEmpty) S := rfl
theorem truth_tup (xs : List D) (S : zae) : zjk (.dat (.tup xs)) S = .ok (!xs.isEmpty) S := rfl
theorem ends_nx (n : Nat) (ρ : zar) (S : zae) : ends n (.nx ρ S) = .ok (.dat .non) (S.take n) := rfl
theorem ends_rt (n : Nat) (v : DV) (S : zae) : ends n (.rt v S) = zii n v S := rfl
theorem ends_ex (n : Nat) (c : XC) (ρ : zar) (S : zae) : ends n (.ex c ρ S) = .ex c (S.take n) := rfl
theorem leave_dat (n : Nat) (d : D) (S : zae) : zii n (.dat d) S = .ok (.dat d) (S.take n) := rfl
def szB (n : Nat) : Bool := n.ble 16777216
theorem szB_iff {n : Nat} : n ≤ sizeLine ↔ szB n = true := by simp [szB, sizeLine]
theorem mkTup_eq (ds : List DV) (S : zae) : mkTup ds S = match dats ds with
  | some xs => bif szB xs.length then .ok (.dat (.tup xs)) S else .bad
  | none => .bad := by
  unfold mkTup
  cases dats ds with
  | none => rfl
  | some xs =>
    simp only [szB_iff]
    cases szB xs.length <;> rfl
theorem mkLst_eq (ds : List DV) (S : zae) : mkLst ds S = match dats ds with
  | some xs => bif szB xs.length then .ok (.dat (.lst xs)) S else .bad
  | none => .bad := by
  unfold mkLst
  cases dats ds with
  | none => rfl
  | some xs =>
    simp only [szB_iff]
    cases szB xs.length <;> rfl
theorem szB_s : szB 0 = true ∧ szB 1 = true ∧ szB 2 = true ∧ szB 3 = true ∧ szB 4 = true ∧ szB 5 = true ∧ szB 6 = true ∧ szB 7 = true ∧ szB 8 = true ∧ szB 9 = true ∧ szB 10 = true ∧ szB 11 = true ∧ szB 12 = true ∧ szB 13 = true := by decide
/-! ## applied -/
def RS.seq (r : RS) (g : SFn) : RS := match r with
  | .nx ρ' S' => g ρ' S'
  | r => r
theorem seq_nx (ρ : zar) (S : zae) (g : SFn) : (RS.nx ρ S).seq g = g ρ S := rfl
theorem seq_rt (v : DV) (S : zae) (g : SFn) : (RS.rt v S).seq g = .rt v S := rfl
theorem seq_ex (c : XC) (ρ : zar) (S : zae) (g : SFn) : (RS.ex c ρ S).seq g = .ex c ρ S := rfl
theorem seq_bk (ρ : zar) (S : zae) (g : SFn) : (RS.bk ρ S).seq g = .bk ρ S := rfl
theorem seq_ct (ρ : zar) (S : zae) (g : SFn) : (RS.ct ρ S).seq g = .ct ρ S := rfl
theorem seq_cond (b : Bool) (x y : RS) (g : SFn) : (bif b then x else y).seq g = bif b then x.seq g else y.seq g := by cases b <;> rfl
theorem ends_cond (n : Nat) (b : Bool) (x y : RS) : ends n (bif b then x else y) = bif b then ends n x else ends n y := by cases b <;> rfl
theorem c_ok {α : Type} (b : Bool) (x y : α) (S : zae) : (bif b then Res.ok x S else Res.ok y S) = Res.ok (bif b then x else y) S := by cases b <;> rfl
theorem c_dat (b : Bool) (x y : D) : (bif b then DV.dat x else DV.dat y) = DV.dat (bif b then x else y) := by cases b <;> rfl
theorem c_bl (b : Bool) (x y : Bool) : (bif b then D.bl x else D.bl y) = D.bl (bif b then x else y) := by cases b <;> rfl
theorem c_int (b : Bool) (x y : Int) : (bif b then D.int x else D.int y) = D.int (bif b then x else y) := by cases b <;> rfl
theorem c_and (b x : Bool) : (bif b then x else false) = (b && x) := by cases b <;> rfl
theorem c_or (b x : Bool) : (bif b then true else x) = (b || x) := by cases b <;> rfl
theorem c_nand (b x : Bool) : (bif b then false else x) = (!b && x) := by cases b <;> rfl
section
variable (ρ : zar) (S : zae) (f g k : XFn) (fa ga : AFn) (fs gs hs : SFn) (t u : TFn) (l : LFn) (G : GFn)
theorem zjz (i : Nat) : xVar i ρ S = match ρ[i]? with
  | some (some dv) => .ok dv S
  | _ => .bad := rfl
theorem a_c (d : D) : xC d ρ S = .ok (.dat d) S := rfl
theorem a_x2 (o : Op2) : x2 o f g ρ S = (f ρ S).bind fun x S1 => (g ρ S1).bind fun y S2 => o x y S2 := rfl
theorem a_o2 (o : D → D → Option D) (x y : D) : o2 o (.dat x) (.dat y) S = res1 (o x y) S := rfl
theorem zg1 (d : D) : res1 (some d) S = .ok (.dat d) S := rfl
theorem a_xN (o : OpN) : xN o fa ρ S = (fa ρ S).bind o := rfl
theorem a_nil : aNil ρ S = .ok [] S := rfl
theorem a_cons : zaa f fa ρ S = (f ρ S).bind fun d S1 => (fa ρ S1).bind fun ds S2 => .ok (d :: ds) S2 := rfl
theorem a_o1 (o : D → Option D) (d : D) : o1 o [.dat d] S = res1 (o d) S := rfl
theorem a_xN1 : xN1 l ρ S = (l ρ S).bind fun ds S1 => .ok (.dat (.lst ds)) S1 := rfl
theorem a_tup : xTup fa ρ S = (fa ρ S).bind mkTup := rfl
theorem a_lst : xLst fa ρ S = (fa ρ S).bind mkLst := rfl
theorem a_tBl : tBl f ρ S = (f ρ S).bind bool1 := rfl
theorem a_tTr : tTr f ρ S = (f ρ S).bind zjk := rfl
theorem a_tNo : tNo t ρ S = (t ρ S).bind fun b S1 => .ok (!b) S1 := rfl
theorem a_tAn : tAn t u ρ S = (t ρ S).bind fun b S1 => bif b then u ρ S1 else .ok false S1 := by
  show (t ρ S).bind _ = _
  congr 1
  funext b S1
  cases b <;> rfl
theorem a_tOr : tOr_ t u ρ S = (t ρ S).bind fun b S1 => bif b then .ok true S1 else u ρ S1 := by
  show (t ρ S).bind _ = _
  congr 1
  funext b S1
  cases b <;> rfl
theorem a_bool1 (b : Bool) : bool1 (.dat (.bl b)) S = .ok b S := rfl
theorem a_boolK {α : Type} (b : Bool) (x y : Res α) : zjq (.dat (.bl b)) x y = bif b then x else y := rfl
theorem a_and : xAnd f g ρ S = (f ρ S).bind fun x S1 => zjq x (g ρ S1) (.ok (.dat (.bl false)) S1) := by rw [xAnd_eq]
theorem a_or : xOr f g ρ S = (f ρ S).bind fun x S1 => zjq x (.ok (.dat (.bl true)) S1) (g ρ S1) := by rw [xOr_eq]
theorem a_chain (o o' : Op2) : zhx o o' f g k ρ S = (f ρ S).bind fun x S1 => (g ρ S1).bind fun y S2 => (o x y S2).bind fun z S3 => zjq z ((k ρ S3).bind fun w S4 => o' y w S4) (.ok (.dat (.bl false)) S3) := by rw [xChain_eq]
theorem a_not : xNot f ρ S = (f ρ S).bind nDV := rfl
theorem a_nDV (b : Bool) : nDV (.dat (.bl b)) S = .ok (.dat (.bl (!b))) S := rfl
theorem a_neg : xNeg f ρ S = (f ρ S).bind neg1 := rfl
theorem a_neg1 (i : Int) : neg1 (.dat (.int i)) S = .ok (.dat (.int (-i))) S := rfl
theorem a_if : xIf t f g ρ S = (t ρ S).bind fun b S1 => bif b then f ρ S1 else g ρ S1 := by
  show (t ρ S).bind _ = _
  congr 1
  funext b S1
  cases b <;> rfl
theorem a_isi (T : String) : xIsi T f ρ S = (f ρ S).bind (oIsi T) := rfl
theorem a_oIsi (T : String) (d : D) : oIsi T (.dat d) S = .ok (.dat (.bl (isiB T d))) S := rfl
theorem a_it : lIt f ρ S = (f ρ S).bind zhr := rfl
theorem a_items_l (xs : List D) : zhr (.dat (.lst xs)) S = .ok xs S := rfl
theorem a_items_t (xs : List D) : zhr (.dat (.tup xs)) S = .ok xs S := rfl
theorem a_yes : zff ρ S = .ok true S := rfl
theorem a_seq : sSeq fs gs ρ S = (fs ρ S).seq gs := rfl
theorem a_nils : sNil ρ S = .nx ρ S := rfl
theorem a_ret : sRet f ρ S = (f ρ S).bindS ρ fun v S1 => .rt v S1 := rfl
theorem a_set (i : Nat) : sSet i f ρ S = (f ρ S).bindS ρ fun v S1 => .nx (ρ.set i (some v)) S1 := rfl
theorem a_expr : zc9 f ρ S = (f ρ S).bindS ρ fun _ S1 => .nx ρ S1 := rfl
theorem a_sif : sIf t fs gs ρ S = (t ρ S).bindS ρ fun b S1 => bif b then fs ρ S1 else gs ρ S1 := by
  show (t ρ S).bindS ρ _ = _
  congr 1
  funext b S1
  cases b <;> rfl
theorem a_raise (c : Str) : zf5 c ρ S = .ex c ρ S := rfl
theorem a_par (i j : Nat) : sPar i j f g ρ S = (f ρ S).bindS ρ fun x S1 => (g ρ S1).bindS ρ fun y S2 => .nx ((ρ.set i (some x)).set j (some y)) S2 := rfl
theorem a_tg : sTg G f ρ S = (f ρ S).bindS ρ fun v S1 => match v with
  | .dat d => (match G d ρ with
    | some ρ' => .nx ρ' S1
    | none => .bad)
  | _ => .bad := rfl
theorem a_fn (N : Nat) (ds : List DV) : za6 N fs ds S = ends S.length (fs (ds.map some ++ List.replicate (N - ds.length) none) S) := rfl
theorem a_gNm (i : Nat) (d : D) : gNm i d ρ = some (ρ.set i (some (.dat d))) := rfl
theorem a_gTp (q : GsFn) (ds : List D) : gTp q (.tup ds) ρ = q ds ρ := rfl
theorem a_gNo : gNo [] ρ = some ρ := rfl
theorem a_gCo (q : GsFn) (d : D) (ds : List D) : gCo G q (d :: ds) ρ = (G d ρ).bind (q ds) := rfl
theorem a_for : sFor l G fs ρ S = (l ρ S).bindS ρ fun ds S1 => zgg G fs ds ρ S1 := rfl
theorem a_lc (own : List Nat) : lLc l own G t f ρ S = (l ρ S).bind fun ds S1 => bif szB ds.length then lcGo G t f (zjl ρ own) ds S1 else .bad := by
  show (l ρ S).bind _ = _
  congr 1
  funext ds S1
  simp only [szB_iff]
  cases szB ds.length <;> rfl
theorem a_rg1 : lRg1 fa ρ S = (fa ρ S).bind rng1 := rfl
theorem a_rg2 : lRg2 fa ρ S = (fa ρ S).bind rng2 := rfl
theorem a_new (i : Nat) : sNew i l ρ S = (l ρ S).bindS ρ fun ds S1 => .nx (ρ.set i (some (.obj S1.length))) (S1 ++ [some ds]) := rfl
theorem a_llst : lLst fa ρ S = (fa ρ S).bind fun ds S1 => match dats ds with
  | some xs => bif szB xs.length then .ok xs S1 else .bad
  | none => .bad := by
  show (fa ρ S).bind _ = _
  congr 1
  funext ds S1
  cases dats ds with
  | none => rfl
  | some xs =>
    simp only [szB_iff]
    cases szB xs.length <;> rfl
theorem a_dats0 : dats [] = some [] := rfl
theorem a_dats1 (d : D) (r : List DV) : dats (.dat d :: r) = (dats r).map (d :: ·) := rfl
theorem a_ret1 (r : List D) (d : D) : (some r).map (d :: ·) = some (d :: r) := rfl
theorem a_wipe0 : zjl ρ [] = ρ := rfl
theorem a_wipe1 (i : Nat) (r : List Nat) : zjl ρ (i :: r) = (zjl ρ r).set i none := rfl
theorem a_sl (l h : PFn) : xSl f l h ρ S = (f ρ S).bind fun x S1 => (l ρ S1).bind fun lo S2 => (h ρ S2).bind fun hi S3 => oSl x lo hi S3 := rfl
theorem a_pNo : pNo ρ S = .ok none S := rfl
theorem a_pEx : pEx f ρ S = (f ρ S).bind asInt := rfl
theorem a_asInt (i : Int) : asInt (.dat (.int i)) S = .ok (some i) S := rfl
theorem a_frz0 (i : Nat) : sFrz i ρ S = match ρ[i]? with
  | some (some x) => (match zcs S x with
    | some (k, ds) => .nx (ρ.set i (some (.dat (.lst ds)))) (S.set k none)
    | none => .bad)
  | _ => .bad := rfl
theorem a_zip : lZip f g ρ S = (f ρ S).bind fun x S1 => (g ρ S1).bind fun y S2 => zip2 x y S2 := rfl
theorem zip2_t (xs ys : List D) : zip2 (.dat (.tup xs)) (.dat (.tup ys)) S = .ok (zipD xs ys) S := rfl
theorem zip2_l (xs ys : List D) : zip2 (.dat (.lst xs)) (.dat (.lst ys)) S = .ok (zipD xs ys) S := rfl
theorem a_enum : lEnum f ρ S = (f ρ S).bind enum1 := rfl
theorem enum1_l (xs : List D) : enum1 (.dat (.lst xs)) S = .ok (zh5 xs) S := rfl
theorem enum1_t (xs : List D) : enum1 (.dat (.tup xs)) S = .ok (zh5 xs) S := rfl
theorem a_sort : zgt f ρ S = (f ρ S).bind sortS := rfl
theorem a_rd (d : D) : rd S (.dat d) = some d := rfl
end
theorem zc4 {G : GFn} {t : TFn} {f : XFn} {ρ : zar} {S : zae} {q : D → D} : ∀ (xs : List D), (∀ a ∈ xs, ∃ ρ1, G a ρ = some ρ1 ∧ t ρ1 S = .ok true S ∧ f ρ1 S = .ok (.dat (q a)) S) → lcGo G t f ρ xs S = .ok (xs.map q) S
  | [], _ => rfl
  | a :: r, h => by
    obtain ⟨ρ1, h1, h2, h3⟩ := h a (List.mem_cons_self ..)
    have ih := zc4 (G := G) (t := t) (f := f) (ρ := ρ) (S := S) (q := q) r fun b hb => h b (List.mem_cons_of_mem _ hb)
    simp only [List.map_cons, lcGo, h1, h2, h3, Res.bindN_ok, if_true, ih]
theorem zhu {G : GFn} {t : TFn} {f : XFn} {ρ : zar} {S : zae} {q : D → D} {p : D → Bool} : ∀ (xs : List D), (∀ a ∈ xs, ∃ ρ1, G a ρ = some ρ1 ∧ t ρ1 S = .ok (p a) S ∧ (p a = true → f ρ1 S = .ok (.dat (q a)) S)) → lcGo G t f ρ xs S = .ok ((xs.filter p).map q) S
  | [], _ => rfl
  | a :: r, h => by
    obtain ⟨ρ1, h1, h2, h3⟩ := h a (List.mem_cons_self ..)
    have ih := zhu (G := G) (t := t) (f := f) (ρ := ρ) (S := S) (q := q) (p := p) r fun b hb => h b (List.mem_cons_of_mem _ hb)
    cases hp : p a with
    | false => simp only [lcGo, h1, h2, hp, Res.bindN_ok, ih, List.filter_cons, Bool.false_eq_true, if_false]
    | true => simp only [List.map_cons, lcGo, h1, h2, h3 hp, hp, Res.bindN_ok, if_true, ih, List.filter_cons]
theorem zkp {G : GFn} {t : TFn} {f : XFn} {ρ : zar} {S : zae} {α : Type} {enc : α → D} {q : α → D} : ∀ (xs : List α), (∀ a ∈ xs, ∃ ρ1, G (enc a) ρ = some ρ1 ∧ t ρ1 S = .ok true S ∧ f ρ1 S = .ok (.dat (q a)) S) → lcGo G t f ρ (xs.map enc) S = .ok (xs.map q) S
  | [], _ => rfl
  | a :: r, h => by
    obtain ⟨ρ1, h1, h2, h3⟩ := h a (List.mem_cons_self ..)
    have ih := zkp (G := G) (t := t) (f := f) (ρ := ρ) (S := S) (enc := enc) (q := q) r fun b hb => h b (List.mem_cons_of_mem _ hb)
    simp only [List.map_cons, lcGo, h1, h2, h3, Res.bindN_ok, if_true, ih]
theorem zey {G : GFn} {t : TFn} {f : XFn} {ρ : zar} {S : zae} {α : Type} {enc : α → D} {q : α → D} {p : α → Bool} : ∀ (xs : List α), (∀ a ∈ xs, ∃ ρ1, G (enc a) ρ = some ρ1 ∧ t ρ1 S = .ok (p a) S ∧ (p a = true → f ρ1 S = .ok (.dat (q a)) S)) → lcGo G t f ρ (xs.map enc) S = .ok ((xs.filter p).map q) S
  | [], _ => rfl
  | a :: r, h => by
    obtain ⟨ρ1, h1, h2, h3⟩ := h a (List.mem_cons_self ..)
    have ih := zey (G := G) (t := t) (f := f) (ρ := ρ) (S := S) (enc := enc) (q := q) (p := p) r fun b hb => h b (List.mem_cons_of_mem _ hb)
    cases hp : p a with
    | false => simp only [List.map_cons, lcGo, h1, h2, hp, Res.bindN_ok, ih, List.filter_cons, Bool.false_eq_true, if_false]
    | true => simp only [List.map_cons, lcGo, h1, h2, h3 hp, hp, Res.bindN_ok, if_true, ih, List.filter_cons]
theorem zi9 {α : Type} (p : α → Bool) : ∀ xs : List α, zfu (xs.map fun a => .bl (p a)) = some (xs.map p)
  | [] => rfl
  | a :: r => by simp [zfu, zi9 p r]
theorem ze5 {α : Type} (p : α → Bool) (xs : List α) : dAll (.lst (xs.map fun a => .bl (p a))) = some (.bl (xs.all p)) := by
  simp [dAll, zi9, List.all_map, Function.comp_def]
/-! ## isinstance -/
def D.isI : D → Bool | .int _ => true | .bl _ => true | _ => false
def D.isB : D → Bool | .bl _ => true | _ => false
def D.isT : D → Bool | .tup _ => true | _ => false
def D.isL : D → Bool | .lst _ => true | _ => false
def D.isS : D → Bool | .str _ => true | _ => false
theorem isi_int (d : D) : isiB "int" d = d.isI := by cases d <;> rfl
theorem isi_bool (d : D) : isiB "bool" d = d.isB := by cases d <;> rfl
theorem isi_tuple (d : D) : isiB "tuple" d = d.isT := by cases d <;> rfl
theorem isi_list (d : D) : isiB "list" d = d.isL := by cases d <;> rfl
theorem isi_str (d : D) : isiB "str" d = d.isS := by cases d <;> rfl
/-! ## operators -/
theorem dLt_i (i j : Int) : dLt (.int i) (.int j) = some (.bl (decide (i < j))) := rfl
theorem dLe_i (i j : Int) : dLe (.int i) (.int j) = some (.bl (decide (i ≤ j))) := rfl
theorem dGt_i (i j : Int) : dGt (.int i) (.int j) = some (.bl (decide (i > j))) := rfl
theorem dGe_i (i j : Int) : dGe (.int i) (.int j) = some (.bl (decide (i ≥ j))) := rfl
theorem dAdd_i (i j : Int) : dAdd (.int i) (.int j) = some (.int (i + j)) := rfl
theorem dSub_i (i j : Int) : dSub (.int i) (.int j) = some (.int (i - j)) := rfl
def D.isN : D → Bool | .non => true | _ => false
theorem dIsN_eq (d : D) : dIsN d .non = some (.bl d.isN) := by cases d <;> rfl
theorem dNotN_eq (d : D) : zkc d .non = some (.bl (!d.isN)) := by cases d <;> rfl
theorem dLen_l (xs : List D) : dLen (.lst xs) = some (.int xs.length) := rfl
theorem dLen_t (xs : List D) : dLen (.tup xs) = some (.int xs.length) := rfl
theorem dIx_l (xs : List D) (i : Int) : dIx (.lst xs) (.int i) = atI xs i := rfl
theorem dIx_t (xs : List D) (i : Int) : dIx (.tup xs) (.int i) = atI xs i := rfl
theorem dList_l (xs : List D) : zjg (.lst xs) = some (.lst xs) := rfl
theorem dList_t (xs : List D) : zjg (.tup xs) = some (.lst xs) := rfl
theorem dTuple_l (xs : List D) : zfl (.lst xs) = some (.tup xs) := rfl
theorem dTuple_t (xs : List D) : zfl (.tup xs) = some (.tup xs) := rfl
/-! ## == of data without zjk values -/
/-! ## where == is served -/
mutual
def D.fit : Nat → D → Bool
  | _, .non => true
  | _, .bl _ => true
  | _, .int _ => true
  | _, .str x => PyData.strOk x
  | _, .cas _ => false
  | _, .dct _ => false
  | _, .ptr _ => false
  | 0, .lst _ => false
  | 0, .tup _ => false
  | n + 1, .lst xs => D.fits n xs
  | n + 1, .tup xs => D.fits n xs
def D.fits : Nat → List D → Bool
  | _, [] => true
  | n, x :: xs => D.fit n x && D.fits n xs
end
theorem fits_iff {n : Nat} : ∀ {xs : List D}, D.fits n xs = true ↔ ∀ x ∈ xs, x.fit n = true
  | [] => by simp [D.fits]
  | x :: xs => by simp [D.fits, fits_iff (xs := xs)]
mutual
theorem zio : ∀ (n : Nat) (d : D), d.fit n = true → d.py.canLay0 = true ∧ d.py.depth ≤ n
  | _, .non, _ => by simp [D.py, PyData.canLay0, PyData.depth]
  | _, .bl _, _ => by simp [D.py, PyData.canLay0, PyData.depth]
  | _, .int _, _ => by simp [D.py, PyData.canLay0, PyData.depth]
  | n, .str x, h => by cases n <;> (simp only [D.fit] at h; simp [D.py, PyData.canLay0, PyData.depth, h])
  | 0, .lst _, h => by simp [D.fit] at h
  | 0, .tup _, h => by simp [D.fit] at h
  | n, .cas _, h => by cases n <;> simp [D.fit] at h
  | n, .dct _, h => by cases n <;> simp [D.fit] at h
  | n, .ptr _, h => by cases n <;> simp [D.fit] at h
  | n + 1, .lst xs, h => by
    have := fits_py n xs (by simpa [D.fit] using h)
    simp only [D.py, PyData.canLay0, PyData.depth]
    exact ⟨this.1, by omega⟩
  | n + 1, .tup xs, h => by
    have := fits_py n xs (by simpa [D.fit] using h)
    simp only [D.py, PyData.canLay0, PyData.depth]
    exact ⟨this.1, by omega⟩
theorem fits_py : ∀ (n : Nat) (ds : List D), D.fits n ds = true → PyData.canLayAll0 (D.pys ds) = true ∧ PyData.depthAll (D.pys ds) ≤ n
  | _, [], _ => by simp [D.pys, PyData.canLayAll0, PyData.depthAll]
  | n, x :: xs, h => by
    have h' : x.fit n = true ∧ D.fits n xs = true := by simpa [D.fits] using h
    have a := zio n x h'.1
    have b := fits_py n xs h'.2
    simp only [D.pys, PyData.canLayAll0, PyData.depthAll, a.1, b.1, Bool.and_self, true_and]
    omega
end
theorem dEq_fit {n m : Nat} {a b : D} (ha : a.fit n = true) (hb : b.fit m = true) (h : n ≤ 64 := by decide) : dEq a b = some (.bl (dEqB a b)) := by
  have p := zio n a ha
  have q := zio m b hb
  have : canEq a b = true := by
    simp only [canEq, p.1, q.1, Bool.true_and, decide_eq_true_eq]
    omega
  simp only [dEq, this, if_true]
theorem dNe_fit {n m : Nat} {a b : D} (ha : a.fit n = true) (hb : b.fit m = true) (h : n ≤ 64 := by decide) : dNe a b = some (.bl (!dEqB a b)) := by
  have p := zio n a ha
  have q := zio m b hb
  have : canEq a b = true := by
    simp only [canEq, p.1, q.1, Bool.true_and, decide_eq_true_eq]
    omega
  simp only [dNe, this, if_true]
theorem zis {n m : Nat} {a : D} {xs : List D} (ha : a.fit n = true) (hb : D.fits m xs = true) (h : n ≤ 64) : canIn a xs = true := by
  have p := zio n a ha
  have q := fits_py m xs hb
  simp only [canIn, p.1, q.1, Bool.true_and, decide_eq_true_eq]
  omega
theorem dIn_l {n m : Nat} {a : D} {xs : List D} (ha : a.fit n = true) (hb : D.fits m xs = true) (h : n ≤ 64 := by decide) : dIn a (.lst xs) = some (.bl (dInB a xs)) := by simp only [dIn, zis ha hb h, if_true]
theorem dIn_t {n m : Nat} {a : D} {xs : List D} (ha : a.fit n = true) (hb : D.fits m xs = true) (h : n ≤ 64 := by decide) : dIn a (.tup xs) = some (.bl (dInB a xs)) := by simp only [dIn, zis ha hb h, if_true]
theorem dNin_t {n m : Nat} {a : D} {xs : List D} (ha : a.fit n = true) (hb : D.fits m xs = true) (h : n ≤ 64 := by decide) : dNin a (.tup xs) = some (.bl (!dInB a xs)) := by simp only [dNin, zis ha hb h, if_true]
theorem zah (i j : Int) : dEq (.int i) (.int j) = some (.bl (i == j)) := dEq_fit (n := 0) (m := 0) rfl rfl
theorem dNe_ii (i j : Int) : dNe (.int i) (.int j) = some (.bl (!(i == j))) := dNe_fit (n := 0) (m := 0) rfl rfl
theorem eqs_ints : ∀ a b : List Int, PyData.eqvAll (D.pys (a.map .int)) (D.pys (b.map .int)) = decide (a = b)
  | [], [] => by simp [D.pys, PyData.eqvAll]
  | [], _ :: _ => by simp [D.pys, PyData.eqvAll]
  | _ :: _, [] => by simp [D.pys, PyData.eqvAll]
  | x :: xs, y :: ys => by
    simp only [List.map_cons, D.pys, D.py, PyData.eqvAll, PyData.eqv, eqs_ints xs ys, List.cons.injEq, Bool.decide_and]
    congr 1
theorem zes (n : Nat) : ∀ a : List Int, D.fits n (a.map .int) = true
  | [] => rfl
  | x :: xs => by simp only [List.map_cons, D.fits, D.fit, zes n xs, Bool.and_self]
theorem dEq_ints (a b : List Int) : dEq (.lst (a.map .int)) (.lst (b.map .int)) = some (.bl (decide (a = b))) := by
  rw [dEq_fit (n := 1) (m := 1) (by simp only [D.fit, zes]) (by simp only [D.fit, zes])]
  simp only [dEqB, D.py, PyData.eqv, eqs_ints]
theorem zdb : ∀ a : List Int, zfa (a.map .int) = some a
  | [] => rfl
  | x :: xs => by simp only [List.map_cons, zfa, zdb xs, Option.map_some]
theorem sort_ints (a : List Int) (h : a.length < 64) (S : zae) : sortS (.dat (.lst (a.map .int))) S = .ok ((sset a).map .int) S := by simp only [sortS, rd, zdb, if_pos h]
theorem sort_intsT (a : List Int) (h : a.length < 64) (S : zae) : sortS (.dat (.tup (a.map .int))) S = .ok ((sset a).map .int) S := by simp only [sortS, rd, zdb, if_pos h]
theorem zg3 (i : Int) (a : List Int) : dInB (.int i) (a.map .int) = decide (i ∈ a) := by
  induction a with
  | nil => rfl
  | cons x xs ih =>
    simp only [dInB, List.map_cons, List.any_cons] at ih ⊢
    rw [ih]
    simp only [dEqB, D.py, PyData.eqv, List.mem_cons, Bool.decide_or]
    congr 1
    by_cases h : x = i
    · subst h; simp
    · have h2 : ¬ i = x := fun e => h e.symm
      simp [h, h2]
theorem lit2 : (((0 : Nat) : Int) == 2) = false ∧ (((1 : Nat) : Int) == 2) = false ∧ (((2 : Nat) : Int) == 2) = true ∧ (((3 : Nat) : Int) == 2) = false := ⟨rfl, rfl, rfl, rfl⟩
theorem lit3 : (((0 : Nat) : Int) == 3) = false ∧ (((1 : Nat) : Int) == 3) = false ∧ (((2 : Nat) : Int) == 3) = false ∧ (((3 : Nat) : Int) == 3) = true := ⟨rfl, rfl, rfl, rfl⟩
/-! ## loops -/
theorem zd8 {α : Type} {enc : α → D} {G : GFn} {f : SFn} (I : List α → zar → zae → Prop) : ∀ (post pre : List α) (ρ : zar) (S : zae), I pre ρ S →
    (∀ pre1 a post1 ρ S, pre ++ post = pre1 ++ a :: post1 → I pre1 ρ S → ∃ ρ1 ρ2 S2, G (enc a) ρ = some ρ1 ∧ (f ρ1 S = .nx ρ2 S2 ∨ f ρ1 S = .ct ρ2 S2) ∧ I (pre1 ++ [a]) ρ2 S2) →
    ∃ ρ' S', zgg G f (post.map enc) ρ S = .nx ρ' S' ∧ I (pre ++ post) ρ' S'
  | [], pre, ρ, S, h0, _ => ⟨ρ, S, rfl, by simpa using h0⟩
  | a :: post, pre, ρ, S, h0, hs => by
    obtain ⟨ρ1, ρ2, S2, e1, e2, h1⟩ := hs pre a post ρ S rfl h0
    obtain ⟨ρ', S', e3, h3⟩ := zd8 (enc := enc) (G := G) (f := f) I post (pre ++ [a]) ρ2 S2 h1 (fun pre1 b post1 ρ S e h => hs pre1 b post1 ρ S (by simpa using e) h)
    refine ⟨ρ', S', ?_, by simpa using h3⟩
    simp only [List.map_cons, zgg, e1]
    rcases e2 with e2 | e2 <;> simp only [e2, e3]
theorem get_end (S0 : zae) (x : Option (List D)) : (S0 ++ [x])[S0.length]? = some x := by simp
theorem zi0 (S0 : zae) (x y : Option (List D)) : (S0 ++ [x]).set S0.length y = S0 ++ [y] := by simp
theorem take_end (S0 : zae) (x : Option (List D)) : (S0 ++ [x]).take S0.length = S0 := by simp
theorem range_map (n : Nat) : zgv 0 n = (List.range n).map fun i => .int ((i : Nat) : Int) := by simp [zgv]
theorem zj6 {n : Nat} (h : n ≤ sizeLine) (S : zae) : rng1 [.dat (.int (n : Nat))] S = .ok ((List.range n).map fun i => .int ((i : Nat) : Int)) S := by
  unfold sizeLine at h
  simp only [rng1, if_pos (show -(2 ^ 62) ≤ (n : Int) ∧ (n : Int) < 2 ^ 62 by omega), Int.toNat_natCast, range_map]
theorem leave_end (S0 : zae) (ds : List D) : zii S0.length (.obj S0.length) (S0 ++ [some ds]) = .ok (.obj S0.length) (S0 ++ [some ds]) := by
  simp only [zii, Nat.lt_irrefl, if_false, get_end, take_end]
theorem zd4 {α : Type} {xs : List α} {n : Nat} (d : α) (h : n < xs.length) : atI xs (n : Nat) = some (xs.getD n d) := by
  have h1 : (n : Int) < xs.length := by omega
  unfold atI ixN
  rw [if_pos (Int.natCast_nonneg n), if_pos h1, List.getD_eq_getElem?_getD]
  simp only [Option.bind_some, Int.toNat_natCast]
  rw [List.getElem?_eq_getElem h]
  rfl
theorem zkb {α : Type} {xs : List α} {n : Nat} (e : α → D) (d : α) (h : n < xs.length) : atI (xs.map e) (n : Nat) = some (e (xs.getD n d)) := by
  rw [zd4 (e d) (by simpa using h)]
  simp [List.getD_eq_getElem?_getD, List.getElem?_map, List.getElem?_eq_getElem h]
theorem zgd {n : Nat} (h : n ≤ 16000000) : n ≤ sizeLine := by unfold sizeLine; omega
theorem zdj {n : Nat} (h : n ≤ 16777216) : szB n = true := szB_iff.mp (by unfold sizeLine; omega)
theorem zev (S0 : zae) (ds : List D) : zcs (S0 ++ [some ds]) (.obj S0.length) = some (S0.length, ds) := by simp only [zcs, get_end]
theorem rd_end (S0 : zae) (ds : List D) : rd (S0 ++ [some ds]) (.obj S0.length) = some (.lst ds) := by simp only [rd, get_end]
theorem a_star (f : XFn) (g : AFn) (ρ : zar) (S : zae) : aStar f g ρ S = (f ρ S).bind fun x S1 => match rd S1 x with
  | some (.lst xs) => (g ρ S1).bind fun ds S2 => .ok (xs.map .dat ++ ds) S2
  | some (.tup xs) => (g ρ S1).bind fun ds S2 => .ok (xs.map .dat ++ ds) S2
  | _ => .bad := rfl
theorem dats_map : ∀ xs : List D, dats (xs.map .dat) = some xs
  | [] => rfl
  | x :: xs => by simp only [List.map_cons, dats, dats_map xs, Option.map_some]
theorem a_leave_end (S0 : zae) (ds : List D) : zii S0.length (.obj S0.length) (S0 ++ [some ds]) = .ok (.obj S0.length) (S0 ++ [some ds]) := leave_end S0 ds
theorem forGo_nil (G : GFn) (f : SFn) (ρ : zar) (S : zae) : zgg G f [] ρ S = .nx ρ S := rfl
/-! ## numbers -/
theorem log2_lt {n k : Nat} (h : n < 2 ^ k) (hk : 0 < k) : n.log2 < k := by
  by_cases hn : n = 0
  · subst hn
    simpa using hk
  · exact (Nat.log2_lt hn).mpr h
theorem zi5 {i j : Int} (hi : i.natAbs < 2 ^ 200) (hj : j.natAbs < 2 ^ 200) : zb6 (.int i) (.int j) = some (.int (i * j)) := by
  have a := log2_lt hi (by decide)
  have b := log2_lt hj (by decide)
  have : i.natAbs.log2 + j.natAbs.log2 < 1000000 := by omega
  simp only [zb6, dMul, if_pos this]
theorem zds {i j : Int} (h : 0 < j) : dMod (.int i) (.int j) = some (.int (i % j)) := by simp only [dMod, if_pos h]
theorem dDiv_i {i j : Int} (h : 0 < j) (h2 : j.natAbs < 2 ^ 200) : dDiv (.int i) (.int j) = some (.int (i / j)) := by
  have := log2_lt h2 (by decide)
  simp only [dDiv, if_pos (show 0 < j ∧ j.natAbs.log2 < 9000 from ⟨h, by omega⟩)]
theorem ziv {i : Int} {j : Nat} (h : i.natAbs < 2 ^ 64) (h2 : j ≤ 1000000) : dPow (.int i) (.int (j : Nat)) = some (.int (i ^ j)) := by
  have : (0 : Int) ≤ (j : Nat) ∧ ((j : Nat) : Int) ≤ 1000000 ∧ i.natAbs < 2 ^ 64 := ⟨by omega, by omega, h⟩
  simp only [dPow, if_pos this, Int.toNat_natCast]
theorem dInt_i (i : Int) : dInt (.int i) = some (.int i) := rfl
theorem zcd {i : Int} (h0 : -1000000000000000000000000000000 ≤ i) (h1 : i ≤ 1000000000000000000000000000000) : i.natAbs < 2 ^ 200 := by
  have : i.natAbs ≤ 1000000000000000000000000000000 := by omega
  exact Nat.lt_of_le_of_lt this (by decide)
theorem zj7 (a b : List D) : dAdd (.lst a) (.lst b) = bif szB (a.length + b.length) then some (.lst (a ++ b)) else none := by
  simp only [dAdd, szB_iff]
  cases szB (a.length + b.length) <;> rfl
theorem zj0 (a b : List D) : dAdd (.tup a) (.tup b) = bif szB (a.length + b.length) then some (.tup (a ++ b)) else none := by
  simp only [dAdd, szB_iff]
  cases szB (a.length + b.length) <;> rfl
theorem a_put (f i g : XFn) (ρ : zar) (S : zae) : sPut f i g ρ S = (g ρ S).bindS ρ fun y S1 => (f ρ S1).bindS ρ fun x S2 => (i ρ S2).bindS ρ fun n S3 => zhe x n y ρ S3 := rfl
/-! ## the pen: the first list of the store -/
def penL (cells : List Int) (a : Nat) (cur : Int) : List D := [.lst (cells.map .int), .int (a : Nat), .int cur]
theorem pen_rd (o : D → D → Option D) (ds : List D) (T : zae) (y : D) : o2 o (.obj 0) (.dat y) (some ds :: T) = res1 (o (.lst ds) y) (some ds :: T) := rfl
theorem pen_0 (cells : List Int) (a : Nat) (cur : Int) : atI (penL cells a cur) 0 = some (.lst (cells.map .int)) := rfl
theorem pen_1 (cells : List Int) (a : Nat) (cur : Int) : atI (penL cells a cur) 1 = some (.int (a : Nat)) := rfl
theorem pen_2 (cells : List Int) (a : Nat) (cur : Int) : atI (penL cells a cur) 2 = some (.int cur) := rfl
theorem pen_p1 (cells : List Int) (a : Nat) (cur : Int) (ρ : zar) (T : zae) : zhe (.obj 0) (.dat (.int 1)) (.dat (.int ((a : Nat) + 1))) ρ (some (penL cells a cur) :: T) = .nx ρ (some (penL cells (a + 1) cur) :: T) := rfl
theorem pen_p2 (cells : List Int) (a : Nat) (cur c : Int) (ρ : zar) (T : zae) : zhe (.obj 0) (.dat (.int 2)) (.dat (.int c)) ρ (some (penL cells a cur) :: T) = .nx ρ (some (penL cells a c) :: T) := rfl
theorem take_cons {α : Type} (x : α) (T : List α) : (x :: T).take (T.length + 1) = x :: T := by simp
def Pen (n : Nat) (T S : zae) : Prop := ∃ cells a cur, S = some (penL cells a cur) :: T ∧ a ≤ n
theorem Pen.mono {n m : Nat} {T S : zae} (h : Pen n T S) (k : n ≤ m) : Pen m T S := by
  obtain ⟨c, a, u, e, l⟩ := h
  exact ⟨c, a, u, e, Nat.le_trans l k⟩
theorem Pen.len {n : Nat} {T S : zae} (h : Pen n T S) : S.length = T.length + 1 := by
  obtain ⟨c, a, u, e, l⟩ := h
  subst e
  rfl
theorem Pen.take {n k : Nat} {T S : zae} (h : Pen n T S) (hk : k = T.length + 1) : S.take k = S := by
  rw [hk, ← h.len, List.take_length]
abbrev LIM : Nat := 2147483648
theorem lc_pen {G : GFn} {t : TFn} {f : XFn} {ρ : zar} {T : zae} {R : D → D → Prop} {c : Nat} : ∀ (ds : List D) (m : Nat) (S : zae), Pen m T S → m + c * ds.length ≤ LIM →
    (∀ d ∈ ds, ∀ m S, Pen m T S → m + c ≤ LIM → ∃ ρ1 z S1, G d ρ = some ρ1 ∧ t ρ1 S = .ok true S ∧ f ρ1 S = .ok (.dat z) S1 ∧ Pen (m + c) T S1 ∧ R d z) →
    ∃ zs S1, lcGo G t f ρ ds S = .ok zs S1 ∧ Pen (m + c * ds.length) T S1 ∧ zs.length = ds.length ∧ ∀ p ∈ ds.zip zs, R p.1 p.2
  | [], m, S, hp, _, _ => ⟨[], S, rfl, hp, rfl, fun p hp => nomatch hp⟩
  | d :: r, m, S, hp, hb, hs => by
    have hb' : m + c + c * r.length ≤ LIM := by simp only [List.length_cons, Nat.mul_succ] at hb; omega
    obtain ⟨ρ1, z, S1, h1, h2, h3, h4, h5⟩ := hs d (List.mem_cons_self ..) m S hp (by omega)
    obtain ⟨zs, S2, e, p2, l2, q2⟩ := lc_pen (G := G) (t := t) (f := f) (ρ := ρ) (R := R) (c := c) r (m + c) S1 h4 hb' fun b hb => hs b (List.mem_cons_of_mem _ hb)
    refine ⟨z :: zs, S2, ?_, ?_, by simp [l2], ?_⟩
    · simp only [lcGo, h1, h2, Res.bindN_ok, if_true, h3, e]
    · simp only [List.length_cons, Nat.mul_succ]
      exact p2.mono (by omega)
    · intro p hp
      simp only [List.zip_cons_cons, List.mem_cons] at hp
      rcases hp with rfl | hp
      · exact h5
      · exact q2 p hp
theorem for_pen {α : Type} {enc : α → D} {G : GFn} {f : SFn} {T : zae} {c : Nat} (J : List α → zar → Prop) : ∀ (post pre : List α) (m : Nat) (ρ : zar) (S : zae), J pre ρ → Pen m T S → m + c * post.length ≤ LIM →
    (∀ pre1 a post1 m ρ S, pre ++ post = pre1 ++ a :: post1 → J pre1 ρ → Pen m T S → m + c ≤ LIM → ∃ ρ1 ρ2 S2, G (enc a) ρ = some ρ1 ∧ f ρ1 S = .nx ρ2 S2 ∧ J (pre1 ++ [a]) ρ2 ∧ Pen (m + c) T S2) →
    ∃ ρ' S', zgg G f (post.map enc) ρ S = .nx ρ' S' ∧ J (pre ++ post) ρ' ∧ Pen (m + c * post.length) T S'
  | [], pre, m, ρ, S, h0, hp, _, _ => ⟨ρ, S, rfl, by simpa using h0, hp⟩
  | a :: post, pre, m, ρ, S, h0, hp, hb, hs => by
    have hb' : m + c + c * post.length ≤ LIM := by simp only [List.length_cons, Nat.mul_succ] at hb; omega
    obtain ⟨ρ1, ρ2, S2, e1, e2, h1, p1⟩ := hs pre a post m ρ S rfl h0 hp (by omega)
    obtain ⟨ρ', S', e3, h3, p3⟩ := for_pen (enc := enc) (G := G) (f := f) (c := c) J post (pre ++ [a]) (m + c) ρ2 S2 h1 p1 hb' (fun pre1 b post1 m ρ S e h => hs pre1 b post1 m ρ S (by simpa using e) h)
    refine ⟨ρ', S', ?_, by simpa using h3, ?_⟩
    · simp only [List.map_cons, zgg, e1, e2, e3]
    · simp only [List.length_cons, Nat.mul_succ]
      exact p3.mono (by omega)
theorem sset_len : ∀ l : List Int, (sset l).length ≤ l.length
  | [] => Nat.le_refl _
  | n :: ns => by
    have ins : ∀ l : List Int, (insS n l).length ≤ l.length + 1 := by
      intro l
      induction l with
      | nil => simp [insS]
      | cons m r ih => simp only [insS]; split <;> (try split) <;> simp <;> omega
    have := ins (sset ns)
    have := sset_len ns
    simp only [sset, List.length_cons]
    omega
theorem sset_idem (l : List Int) : sset (sset l) = sset l := zeq (zcw _) (zcw _) fun k => zdg k _
theorem zjn {l : List Int} (h : l.Pairwise (· < ·)) : sset l = l := zeq (zcw _) h fun k => zdg k _
theorem sset_pos {l : List Int} (h : l ≠ []) : 1 ≤ (sset l).length := by
  cases l with
  | nil => exact absurd rfl h
  | cons n ns =>
    have : n ∈ sset (n :: ns) := (zdg n _).mpr (List.mem_cons_self ..)
    exact List.length_pos_of_mem this
theorem cut_to {α : Type} (xs : List α) (n : Nat) : cutL xs none (some (n : Nat)) = xs.take n := by
  simp only [cutL, HT.sIx_none, HT.sIx_nat, List.drop_zero, Nat.sub_zero]
  rw [List.take_eq_take_iff]
  omega
theorem cut_from {α : Type} (xs : List α) (n : Nat) : cutL xs (some (n : Nat)) none = xs.drop n := by
  simp only [cutL, HT.sIx_none, HT.sIx_nat]
  by_cases h : n ≤ xs.length
  · rw [Nat.min_eq_left h, List.take_of_length_le (by simp)]
  · rw [Nat.min_eq_right (by omega), List.take_of_length_le (by simp), List.drop_eq_nil_of_le (Nat.le_refl _), List.drop_eq_nil_of_le (by omega)]
theorem cut_mid {α : Type} (xs : List α) (n m : Nat) (h : n ≤ m) : cutL xs (some (n : Nat)) (some (m : Nat)) = (xs.drop n).take (m - n) := by
  simp only [cutL, HT.sIx_nat]
  by_cases h1 : n ≤ xs.length
  · rw [Nat.min_eq_left h1, List.take_eq_take_iff]
    simp
    omega
  · have e1 : min n xs.length = xs.length := by omega
    rw [e1, List.drop_eq_nil_of_le (Nat.le_refl _), List.drop_eq_nil_of_le (by omega)]
    simp
theorem rng1_1 {n : Nat} (h : n ≤ 1000000) (S : zae) : rng1 [.dat (.int (1 + (n : Nat)))] S = .ok ((List.range (1 + n)).map fun i => .int ((i : Nat) : Int)) S := by
  have e : (1 + (n : Int)) = ((1 + n : Nat) : Int) := by omega
  rw [e]
  exact zj6 (zgd (by omega)) S
theorem oSl_t (xs : List D) (lo hi : Option Int) (S : zae) : oSl (.dat (.tup xs)) lo hi S = .ok (.dat (.tup (cutL xs lo hi))) S := rfl
theorem oSl_l (xs : List D) (lo hi : Option Int) (S : zae) : oSl (.dat (.lst xs)) lo hi S = .ok (.dat (.lst (cutL xs lo hi))) S := rfl
theorem oSl_s (ns : List Int) (lo hi : Option Int) (S : zae) : oSl (.scr ns) lo hi S = .ok (.dat (.lst ((cutL ns lo hi).map .int))) S := rfl
theorem zi_ {n a : Nat} {pre post : List Nat} (h : List.range n = pre ++ a :: post) : a = pre.length ∧ a < n := by
  have h1 : pre.length < n := by
    have := congrArg List.length h
    simp at this
    omega
  have h2 : (List.range n)[pre.length]? = (pre ++ a :: post)[pre.length]? := by rw [h]
  rw [List.getElem?_range h1] at h2
  simp at h2
  omega
/-! ## repr -/
mutual
def D.tiny : D → Bool
  | .cas _ => false
  | .dct _ => false
  | .ptr _ => false
  | .int i => decide (i.natAbs < 10 ^ 40)
  | .lst xs => D.tinys xs
  | .tup xs => D.tinys xs
  | _ => true
def D.tinys : List D → Bool
  | [] => true
  | x :: xs => D.tiny x && D.tinys xs
end
theorem tinys_iff : ∀ {xs : List D}, D.tinys xs = true ↔ ∀ x ∈ xs, x.tiny = true
  | [] => by simp [D.tinys]
  | x :: xs => by simp [D.tinys, tinys_iff (xs := xs)]
mutual
theorem tiny_py : ∀ (d : D), d.tiny = true → d.py.showable = true ∧ d.py.intsShort 41 = true
  | .non, _ => by simp [D.py, PyData.showable, PyData.intsShort]
  | .bl _, _ => by simp [D.py, PyData.showable, PyData.intsShort]
  | .cas _, h => by simp [D.tiny] at h
  | .dct _, h => by simp [D.tiny] at h
  | .ptr _, h => by simp [D.tiny] at h
  | .str x, _ => by simp [D.py, PyData.showable, PyData.intsShort]
  | .int i, h => by
    simp only [D.tiny, decide_eq_true_eq] at h
    simp only [D.py, PyData.showable, PyData.intsShort, decide_eq_true_eq]
    refine ⟨Nat.lt_of_lt_of_le (log2_lt (k := 200) (Nat.lt_trans h (by decide)) (by decide)) (by decide), ?_⟩
    have e := int_text_length_le10 (k := 40) (by decide) h
    show (Str.ofString (toString i)).length ≤ 41
    rw [PySem.ofString_length]
    exact e
  | .lst xs, h => by
    have := tinys_py xs (by simpa [D.tiny] using h)
    simpa only [D.py, PyData.showable, PyData.intsShort] using this
  | .tup xs, h => by
    have := tinys_py xs (by simpa [D.tiny] using h)
    simpa only [D.py, PyData.showable, PyData.intsShort] using this
theorem tinys_py : ∀ (ds : List D), D.tinys ds = true → PyData.showableAll (D.pys ds) = true ∧ PyData.intsShortAll 41 (D.pys ds) = true
  | [], _ => by simp [D.pys, PyData.showableAll, PyData.intsShortAll]
  | x :: xs, h => by
    have h' : x.tiny = true ∧ D.tinys xs = true := by simpa [D.tinys] using h
    have a := tiny_py x h'.1
    have b := tinys_py xs h'.2
    simp only [D.pys, PyData.showableAll, PyData.intsShortAll, a.1, a.2, b.1, b.2, Bool.and_self, and_self]
end
theorem canRepr_of {n : Nat} {d : D} (h1 : d.fit n = true) (hn : n ≤ 60) (h2 : d.tiny = true) (h3 : d.py.bulk ≤ 300000) : zj_ d = true := by
  have a := zio n d h1
  have b := tiny_py d h2
  have c := PyData.shown_le_bulk 41 (by decide) d.py (PyData.leavesShort_of_canLay0 41 d.py a.1 b.2)
  have e : d.py.shown.length ≤ sizeLine := zgd (by omega)
  have f : d.py.depth ≤ 60 := by omega
  simp only [zj_, a.1, b.1, decide_eq_true e, decide_eq_true f, Bool.and_self]
theorem zfv {c : Nat} : ∀ {xs : List D}, (∀ x ∈ xs, x.py.bulk ≤ c) → PyData.bulkAll (D.pys xs) ≤ xs.length * (c + 1)
  | [], _ => by simp [D.pys, PyData.bulkAll]
  | x :: xs, h => by
    have a := h x (List.mem_cons_self ..)
    have b := zfv (xs := xs) fun y hy => h y (List.mem_cons_of_mem _ hy)
    simp only [D.pys, PyData.bulkAll, List.length_cons, Nat.succ_mul]
    omega
theorem dRepr_of {d : D} (h : zj_ d = true) : zkw d = some (.str d.py.shown) := by simp only [zkw, h, if_true]
theorem o1_end (o : D → Option D) (S0 : zae) (ds : List D) : o1 o [.obj S0.length] (S0 ++ [some ds]) = res1 (o (.lst ds)) (S0 ++ [some ds]) := by simp only [o1, rd_end]
end DL
local macro_rules | `(tactic| simp! only [$xs,*] $[$l:location]?) => `(tactic| simp -implicitDefEqProofs only [DL.a_fn, DL.a_seq, DL.seq_nx, DL.seq_rt, DL.seq_ex, DL.seq_bk, DL.seq_ct, DL.seq_cond, DL.ends_cond, DL.c_ok, DL.c_dat, DL.c_bl, DL.c_int, DL.c_and, DL.c_or, DL.c_nand, DL.a_sif, DL.a_ret, DL.a_set, DL.a_nils, DL.a_tg, DL.a_expr, DL.a_raise, DL.a_par, DL.Res.bind_ok, DL.Res.bind_ex, DL.Res.bindS_ok, DL.Res.bindS_ex, DL.zjz, DL.a_c, DL.a_x2, DL.a_o2, DL.zg1, DL.a_xN, DL.a_cons, DL.a_nil, DL.a_o1, DL.a_xN1, DL.a_tup, DL.a_lst, DL.mkTup_eq, DL.mkLst_eq, DL.a_dats0, DL.a_dats1, DL.a_ret1, DL.a_tBl, DL.a_tTr, DL.a_tNo, DL.a_tAn, DL.a_tOr, DL.a_bool1, DL.truth_bl, DL.truth_non, DL.truth_int, DL.truth_lst, DL.truth_tup, DL.a_and, DL.a_or, DL.a_chain, DL.a_boolK, DL.a_not, DL.a_nDV, DL.a_neg, DL.a_neg1, DL.a_if, DL.a_isi, DL.a_oIsi, DL.isi_int, DL.isi_bool, DL.isi_tuple, DL.isi_list, DL.isi_str, DL.a_it, DL.a_items_l, DL.a_items_t, DL.a_lc, DL.a_wipe0, DL.a_wipe1, DL.a_gNm, DL.a_gTp, DL.a_gCo, DL.a_gNo, DL.a_yes, DL.a_for, DL.a_rg1, DL.a_rg2, DL.a_new, DL.a_llst, DL.a_rd, Option.bind_some, DL.ends_nx, DL.ends_rt, DL.ends_ex, DL.leave_dat, List.map_cons, List.map_nil, List.length_cons, List.length_nil, Nat.reduceSub, Nat.reduceAdd, List.replicate_succ, List.replicate_zero, List.cons_append, List.nil_append, List.append_nil, List.getElem?_cons_zero, List.getElem?_cons_succ, List.set_cons_zero, List.set_cons_succ, List.take_length, cond_true, cond_false, Bool.not_true, Bool.not_false, DL.dLt_i, DL.dLe_i, DL.dGt_i, DL.dGe_i, DL.dAdd_i, DL.dSub_i, DL.dIsN_eq, DL.dNotN_eq, DL.dLen_l, DL.dLen_t, DL.dIx_l, DL.dIx_t, DL.dList_l, DL.dList_t, DL.dTuple_l, DL.dTuple_t, DL.szB_s, DL.o1_end, DL.oSl_t, DL.oSl_l, DL.oSl_s, DL.a_sort, DL.dInt_i, DL.a_put, DL.pen_rd, DL.pen_0, DL.pen_1, DL.pen_2, DL.pen_p1, DL.pen_p2, DL.take_cons, DL.forGo_nil, DL.a_star, DL.dats_map, DL.a_leave_end, Option.map_some, DL.zev, DL.rd_end, DL.zi0, DL.take_end, DL.lit2, DL.lit3, Bool.true_and, Bool.false_and, Bool.and_true, Bool.and_false, Bool.true_or, Bool.false_or, Bool.or_true, Bool.or_false, Bool.not_not, DL.a_sl, DL.a_pNo, DL.a_pEx, DL.a_asInt, DL.a_frz0, DL.a_zip, DL.zip2_t, DL.zip2_l, DL.a_enum, DL.enum1_l, DL.enum1_t, $xs,*] $[$l:location]?)
set_option maxHeartbeats 400000
namespace T18
open PySem PySem.Spec PyProof.Rows L2 DL
theorem atI_in {α : Type} {xs : List α} {i : Int} (h0 : 0 ≤ i) (h1 : i < xs.length) : atI xs i = some (xs[i.toNat]'(by omega)) := by
  unfold atI ixN
  rw [if_pos h0, if_pos h1]
  simp only [Option.bind_some]
  rw [List.getElem?_eq_getElem]
theorem at2_0 {α : Type} (a b : α) : atI [a, b] 0 = some a := rfl
theorem at2_1 {α : Type} (a b : α) : atI [a, b] 1 = some b := rfl
theorem at3_0 {α : Type} (a b c : α) : atI [a, b, c] 0 = some a := rfl
theorem zc7 {α : Type} {xs : List α} {n : Nat} {d : α} (h : n < xs.length) : xs.getD n d ∈ xs := by
  rw [List.getD_eq_getElem?_getD, List.getElem?_eq_getElem h]
  exact List.getElem_mem _
theorem atI_getD {α : Type} {xs : List α} {i : Int} (d : α) (h0 : 0 ≤ i) (h1 : i < xs.length) : atI xs i = some (xs.getD i.toNat d) := by
  rw [atI_in h0 h1, List.getD_eq_getElem?_getD, List.getElem?_eq_getElem (by omega)]
  rfl
theorem zipD_map (xs ys : List D) : zipD xs ys = (xs.zip ys).map fun p => pairD p.1 p.2 := by simp [zipD, List.zip, List.map_zipWith]
theorem enum_map {α : Type} (e : α → D) (xs : List α) : zh5 (xs.map e) = (xs.zipIdx.map fun p => (p.2, p.1)).map fun p => pairD (.int ((p.1 : Nat) : Int)) (e p.2) := by
  unfold zh5
  rw [List.map_map]
  apply List.ext_getElem
  · simp
  · intro i h1 h2
    simp
theorem ints_of {zs : List D} (h : ∀ z ∈ zs, ∃ v : Int, z = .int v) : ∃ r : List Int, zs = r.map .int := by
  induction zs with
  | nil => exact ⟨[], rfl⟩
  | cons z zs ih =>
    obtain ⟨v, rfl⟩ := h z (List.mem_cons_self ..)
    obtain ⟨r, rfl⟩ := ih fun y hy => h y (List.mem_cons_of_mem _ hy)
    exact ⟨v :: r, rfl⟩
theorem a_retN (l : LFn) (ρ : zar) (S : zae) : sRetN l ρ S = (l ρ S).bindS ρ fun ds S1 => .rt (.obj S1.length) (S1 ++ [some ds]) := rfl
theorem a_list (f : XFn) (ρ : zar) (S : zae) : lList f ρ S = (f ρ S).bind fun x S1 => match rd S1 x with
  | some (.lst xs) => .ok xs S1
  | some (.tup xs) => .ok xs S1
  | _ => .bad := rfl
/-! ## try, slices, equality, loops that end early -/
theorem cut_t1 {α : Type} (xs : List α) : cutL xs none (some 1) = xs.take 1 := cut_to xs 1
theorem pen_snoc {n : Nat} {T S : zae} {ds : Option (List D)} : Pen n (T ++ [ds]) S ↔ ∃ S0, S = S0 ++ [ds] ∧ Pen n T S0 := by
  constructor
  · rintro ⟨c, a, u, rfl, h⟩
    exact ⟨some (penL c a u) :: T, rfl, c, a, u, rfl, h⟩
  · rintro ⟨S0, rfl, c, a, u, rfl, h⟩
    exact ⟨c, a, u, rfl, h⟩
mutual
theorem zia : ∀ {n m : Nat} {d : D}, n ≤ m → d.fit n = true → d.fit m = true
  | _, _, .non, _, _ => by simp [D.fit]
  | _, _, .bl _, _, _ => by simp [D.fit]
  | _, _, .int _, _, _ => by simp [D.fit]
  | n, m, .str x, _, h => by cases n <;> cases m <;> simpa [D.fit] using h
  | 0, _, .lst _, _, h => by simp [D.fit] at h
  | 0, _, .tup _, _, h => by simp [D.fit] at h
  | n + 1, 0, _, h, _ => by omega
  | n + 1, m + 1, .lst xs, h, k => by simp only [D.fit] at k ⊢; exact fits_mono (by omega) k
  | n + 1, m + 1, .tup xs, h, k => by simp only [D.fit] at k ⊢; exact fits_mono (by omega) k
theorem fits_mono : ∀ {n m : Nat} {ds : List D}, n ≤ m → D.fits n ds = true → D.fits m ds = true
  | _, _, [], _, _ => by simp [D.fits]
  | n, m, x :: xs, h, k => by
    simp only [D.fits, Bool.and_eq_true] at k ⊢
    exact ⟨zia h k.1, fits_mono h k.2⟩
end
theorem atI_0 (x : D) (l : List D) : atI (x :: l) 0 = some x := by
  rw [atI_in (by decide) (by simp)]
  rfl
theorem pen_cut {n k : Nat} {T U S : zae} (h : Pen n (T ++ U) S) (hk : k = T.length + 1) : Pen n T (S.take k) := by
  obtain ⟨c, a, u, rfl, l⟩ := h
  subst hk
  exact ⟨c, a, u, by simp, l⟩
theorem a_cat (f g : XFn) (ρ : zar) (S : zae) : lCat f g ρ S = (f ρ S).bind fun x S1 => (g ρ S1).bind fun y S2 => cat2 x y S2 := rfl
theorem zh_ (S0 : zae) (ds ys : List D) : cat2 (.obj S0.length) (.dat (.lst ys)) (S0 ++ [some ds]) = bif szB (ds.length + ys.length) then .ok (ds ++ ys) (S0 ++ [some ds]) else .bad := by
  have e : rd (S0 ++ [some ds]) (.dat (.lst ys)) = some (.lst ys) := rfl
  simp only [cat2, rd_end, e, szB_iff]
  cases szB (ds.length + ys.length) <;> rfl
theorem app_pen {i : Nat} {g : XFn} {ρ : zar} {S0 S1 : zae} {ds : List D} {d : D} (hi : ρ[i]? = some (some (.obj S0.length))) (hg : g ρ (S0 ++ [some ds]) = .ok (.dat d) (S1 ++ [some ds])) (h1 : S1.length = S0.length) (hl : ds.length < sizeLine) :
    sApp (xVar i) g ρ (S0 ++ [some ds]) = .nx ρ (S1 ++ [some (ds ++ [d])]) := by
  have e1 : xVar i ρ (S0 ++ [some ds]) = .ok (.obj S0.length) (S0 ++ [some ds]) := by unfold xVar; rw [hi]
  have e2 : zcs (S1 ++ [some ds]) (.obj S0.length) = some (S0.length, ds) := by rw [← h1]; exact zev S1 ds
  simp only [sApp, e1, Res.bindS_ok, zev, hg, putApp, e2, if_pos hl]
  rw [← h1, zi0]
theorem zfj {n : Nat} {T S : zae} {ds : Option (List D)} (h : Pen n (T ++ [ds]) S) : ∃ S0, S = S0 ++ [ds] ∧ Pen n T S0 ∧ S0.length = T.length + 1 := by
  obtain ⟨S0, e, p⟩ := pen_snoc.mp h
  exact ⟨S0, e, p, p.len⟩
theorem zgl (d : D) (S : zae) : zdl [.dat d] S = .ok (.dat (.bl (d.isI && !d.isB))) S := by
  unfold zdl zhj
  simp! only []
def zfc (d : D) (a b : Int) : Bool := match d with | .int i => decide (a ≤ i) && decide (i ≤ b) | _ => false
theorem zdx (d : D) (a b : Int) (S : zae) : zcm [.dat d, .dat (.int a), .dat (.int b)] S = .ok (.dat (.bl (zfc d a b))) S := by
  unfold zcm zhs
  simp! only [zgl]
  cases d <;> simp! only [D.isI, D.isB, zfc]
def zgh : D → Bool | .int i => decide (i ≥ 0) | _ => false
theorem ziu (d : D) (S : zae) : zew [.dat d] S = .ok (.dat (.bl (zgh d))) S := by
  unfold zew zj2
  simp! only [zgl]
  cases d <;> simp! only [D.isI, D.isB, zgh]
theorem vals_ints : ∀ {xs : List D}, xs.all zgh = true → ∃ a : List Int, xs = a.map .int ∧ ∀ i ∈ a, 0 ≤ i
  | [], _ => ⟨[], rfl, by simp⟩
  | x :: xs, h => by
    simp only [List.all_cons, Bool.and_eq_true] at h
    obtain ⟨a, e, p⟩ := vals_ints h.2
    have h1 := h.1
    cases x <;> simp only [zgh, decide_eq_true_eq, Bool.false_eq_true] at h1
    rename_i i
    exact ⟨i :: a, by rw [e]; rfl, by simp only [List.mem_cons]; exact fun j q => q.elim (fun e => e ▸ h1) (p j)⟩
def colB (xs : List D) : Bool := match zfa xs with | some ns => decide (ns = sset ns) | none => false
def ze_ : D → Bool
  | .non => true
  | .tup xs => (decide (1 ≤ (xs.length : Int)) && decide ((xs.length : Int) ≤ 3)) && (xs.all zgh && colB xs)
  | _ => false
theorem is_column_ok (d : D) (S : zae) : ze7 [.dat d] S = .ok (.dat (.bl (ze_ d))) S := by
  unfold ze7 ziz
  simp! only []
  cases d 
  case tup xs =>
    simp! only [D.isN, D.isT, ze_]
    cases h : (decide (1 ≤ (xs.length : Int)) && decide ((xs.length : Int) ≤ 3))
    · simp! only []
    · have hl : szB xs.length = true := by
        rw [← szB_iff]
        simp only [Bool.and_eq_true, decide_eq_true_eq] at h
        unfold sizeLine
        omega
      rw [hl]
      simp! only []
      rw [zc4 (q := fun d => .bl (zgh d)) xs ?h]
      case h => intro d _; exact ⟨_, rfl, rfl, by simp! only [ziu]⟩
      simp! only [ze5]
      cases hv : xs.all zgh
      · simp! only []
      · obtain ⟨a, rfl, ha⟩ := vals_ints hv
        simp! only [a_sort]
        rw [sort_intsT a (by simp only [List.length_map, Bool.and_eq_true, decide_eq_true_eq] at h; omega)]
        simp! only [dEq_ints, colB, zdb]
  all_goals simp! only [D.isN, D.isT, ze_]
theorem zez {c : D} (h : ze_ c = true) : c = .non ∨ ∃ ns : List Int, c = .tup (ns.map .int) ∧ 1 ≤ ns.length ∧ ns.length ≤ 3 ∧ (∀ i ∈ ns, 0 ≤ i) ∧ ns = sset ns := by
  cases c <;> simp only [ze_, Bool.false_eq_true] at h
  · exact .inl rfl
  · simp only [Bool.and_eq_true, decide_eq_true_eq] at h
    obtain ⟨⟨h1, h2⟩, h3, h4⟩ := h
    obtain ⟨a, rfl, ha⟩ := vals_ints h3
    simp only [List.length_map] at h1 h2
    simp only [colB, zdb, decide_eq_true_eq] at h4
    exact .inr ⟨a, rfl, by omega, by omega, ha, h4⟩
def inC (d : D) : D → Bool | .tup xs => dInB d xs | _ => false
def zb7 (c d : D) : Bool := zgh d && (c.isN || inC d c)
theorem zem (c d : D) (hc : ze_ c = true) (S : zae) : zcq [.dat c, .dat d] S = .ok (.dat (.bl (zb7 c d))) S := by
  unfold zcq zg2
  simp! only [ziu]
  cases hv : zgh d
  · simp! only [zb7, hv]
  · rcases zez hc with rfl | ⟨ns, rfl, _⟩
    · simp! only [zb7, hv, D.isN]
    · have : dIn d (.tup (ns.map .int)) = some (.bl (dInB d (ns.map .int))) := dIn_t (n := 1) (m := 0) (by cases d <;> first | rfl | cases hv) (zes 0 ns)
      simp! only [zb7, hv, D.isN, this, inC]
def zav : D → Bool
  | .tup xs => (decide (1 ≤ (xs.length : Int)) && decide ((xs.length : Int) ≤ 4)) && (xs.all ze_ && decide (((xs.filter fun c => !c.isN).length : Int) ≤ 2))
  | _ => false
theorem zk5 (d : D) (S : zae) : zek [.dat d] S = .ok (.dat (.bl (zav d))) S := by
  unfold zek zht
  simp! only []
  cases d
  case tup xs =>
    simp! only [D.isT, zav]
    cases h : (decide (1 ≤ (xs.length : Int)) && decide ((xs.length : Int) ≤ 4))
    · simp! only []
    · have hl : szB xs.length = true := by
        rw [← szB_iff]
        simp only [Bool.and_eq_true, decide_eq_true_eq] at h
        unfold sizeLine
        omega
      rw [hl]
      simp! only []
      rw [zc4 (q := fun d => .bl (ze_ d)) xs ?h]
      case h => intro d _; exact ⟨_, rfl, rfl, by simp! only [is_column_ok]⟩
      simp! only [ze5]
      rw [zhu (p := fun c => !c.isN) (q := id) xs ?h]
      case h => intro d _; exact ⟨_, rfl, by simp! only [], fun _ => by simp! only [id]⟩
      simp! only [List.map_id]
      cases hv : xs.all ze_ <;> simp! only [hl]
  all_goals simp! only [D.isT, zav]
theorem zfr {d : D} (h : zav d = true) : ∃ cs : List D, d = .tup cs ∧ 1 ≤ cs.length ∧ cs.length ≤ 4 ∧ ∀ c ∈ cs, ze_ c = true := by
  cases d <;> simp only [zav, Bool.false_eq_true] at h
  rename_i xs
  simp only [Bool.and_eq_true, decide_eq_true_eq, List.all_eq_true] at h
  exact ⟨xs, rfl, by omega, by omega, h.2.1⟩
theorem zc2 (d : D) (S : zae) : za2 [.dat d] S = bif zav d then .ok (.dat .non) S else .ex "InvalidColumns" S := by
  unfold za2 zex
  simp! only [zk5]
  cases zav d <;> simp! only []
theorem zig {d : D} {a b : Int} (h : zfc d a b = true) : ∃ i, d = .int i ∧ a ≤ i ∧ i ≤ b := by
  cases d <;> simp only [zfc, Bool.false_eq_true, Bool.and_eq_true, decide_eq_true_eq] at h
  exact ⟨_, rfl, h.1, h.2⟩
def zks (cs : List D) : D → D | .int i => cs.getD i.toNat .non | _ => .non
def zd_ (cs : List D) : D → Bool
  | .tup xs => ((xs.length : Int) == cs.length) && (cs.zip xs).all fun p => zb7 p.1 p.2
  | _ => false
theorem zhk (cs : List D) (d : D) (hc : ∀ c ∈ cs, ze_ c = true) (hl : cs.length ≤ 4) (S : zae) : zd6 [.dat (.tup cs), .dat d] S = .ok (.dat (.bl (zd_ cs d))) S := by
  unfold zd6 zjf
  simp! only []
  cases d
  case tup xs =>
    simp! only [D.isT, zd_, dNe_ii]
    have hz : szB (zipD cs xs).length = true := by
      rw [← szB_iff, zipD_map, List.length_map, List.length_zip]
      unfold sizeLine
      omega
    cases h : ((xs.length : Int) == cs.length)
    · simp! only []
    · rw [hz]
      simp! only []
      rw [zipD_map, zkp (q := fun p => .bl (zb7 p.1 p.2)) (cs.zip xs) ?h]
      case h => intro p hp; exact ⟨_, rfl, rfl, by simp! only [zem _ _ (hc _ (List.of_mem_zip hp).1)]⟩
      simp! only [ze5]
  all_goals simp! only [D.isT, zd_]
def zep (cs : List D) : D → Bool
  | .tup xs => !decide ((xs.length : Int) > 8) && xs.all (zd_ cs)
  | _ => false
theorem zjv (cs : List D) (d : D) (hc : ∀ c ∈ cs, ze_ c = true) (hl : cs.length ≤ 4) (S : zae) : zdt [.dat (.tup cs), .dat d] S = .ok (.dat (.bl (zep cs d))) S := by
  unfold zdt zgz
  simp! only []
  cases d
  case tup xs =>
    simp! only [D.isT, zep]
    cases h : decide ((xs.length : Int) > 8)
    · have hz : szB xs.length = true := by
        rw [← szB_iff]
        simp only [decide_eq_false_iff_not] at h
        unfold sizeLine
        omega
      rw [hz]
      simp! only []
      rw [zc4 (q := fun p => .bl (zd_ cs p)) xs ?h]
      case h => intro p hp; exact ⟨_, rfl, rfl, by simp! only [zhk cs _ hc hl]⟩
      simp! only [ze5]
    · simp! only []
  all_goals simp! only [D.isT, zep]
theorem ze9 (cs : List D) (d : D) (hc : ∀ c ∈ cs, ze_ c = true) (hl : cs.length ≤ 4) (S : zae) : zb_ [.dat (.tup cs), .dat d] S = bif zep cs d then .ok (.dat .non) S else .ex "InvalidTable" S := by
  unfold zb_ zfs
  simp! only [zjv cs d hc hl]
  cases zep cs d <;> simp! only []
def zf0 (cs : List D) : D → Bool
  | .tup [a, b] => zfc a 0 (cs.length - 1) && (b.isN || zb7 (zks cs a) b)
  | _ => false
theorem is_entry_ok (cs : List D) (d : D) (hc : ∀ c ∈ cs, ze_ c = true) (S : zae) : zfx [.dat (.tup cs), .dat d] S = .ok (.dat (.bl (zf0 cs d))) S := by
  unfold zfx zka
  simp! only []
  cases d
  case tup xs =>
    simp! only [D.isT, dNe_ii]
    match xs with
    | [] => simp! only [zf0]
    | [a] => simp! only [zf0]
    | a :: b :: c :: r =>
      have : (((a :: b :: c :: r).length : Int) == 2) = false := by simp only [List.length_cons, beq_eq_false_iff_ne]; omega
      simp only [List.length_cons] at this
      simp! only [zf0, this]
    | [a, b] =>
      simp! only [at2_0, at2_1, zdx, zf0]
      cases h : zfc a 0 (cs.length - 1)
      · simp! only []
      · obtain ⟨i, rfl, h0, h1⟩ := zig h
        simp! only [at2_0, at2_1]
        cases hb : b.isN
        · simp! only [at2_0, at2_1, atI_getD .non h0 (show i < cs.length by omega), zem _ _ (hc _ (zc7 (n := i.toNat) (d := D.non) (by omega))), zks]
        · simp! only []
  all_goals simp! only [D.isT, zf0]
def fstI : D → Int | .tup (.int i :: _) => i | _ => 0
def zap : D → List D | .tup xs => xs | .lst xs => xs | _ => []
def zgo (cs : List D) : D → Bool
  | .tup xs => xs.all (zf0 cs) && decide (xs.map fstI = sset (xs.map fstI))
  | _ => false
theorem zga {cs : List D} {d : D} (h : zf0 cs d = true) : ∃ i b, d = .tup [.int i, b] ∧ 0 ≤ i ∧ i < cs.length ∧ (b = .non ∨ zb7 (cs.getD i.toNat .non) b = true) := by
  unfold zf0 at h
  split at h
  · simp only [Bool.and_eq_true] at h
    obtain ⟨i, rfl, h0, h1⟩ := zig h.1
    rename_i b
    refine ⟨i, b, rfl, h0, by omega, ?_⟩
    have h2 := h.2
    cases b <;> first | exact .inl rfl | (right; simpa [D.isN, zks] using h2)
  · cases h
theorem is_given_ok (cs : List D) (d : D) (hc : ∀ c ∈ cs, ze_ c = true) (hd : (zap d).length < 64) (S : zae) : zfw [.dat (.tup cs), .dat d] S = .ok (.dat (.bl (zgo cs d))) S := by
  unfold zfw zj3
  simp! only []
  cases d
  case tup xs =>
    have hz : szB xs.length = true := by
      rw [← szB_iff]
      simp only [zap] at hd
      unfold sizeLine
      omega
    simp! only [D.isT, zgo, hz]
    rw [zc4 (q := fun p => .bl (zf0 cs p)) xs ?h]
    case h => intro p hp; exact ⟨_, rfl, rfl, by simp! only [is_entry_ok cs _ hc]⟩
    simp! only [ze5]
    cases h : xs.all (zf0 cs)
    · simp! only []
    · simp only [List.all_eq_true] at h
      simp! only [hz]
      rw [zc4 (q := fun p => .int (fstI p)) xs ?h]
      case h =>
        intro p hp
        obtain ⟨i, b, rfl, _⟩ := zga (h p hp)
        exact ⟨_, rfl, rfl, by simp! only [at2_0, fstI]⟩
      have e : (xs.map fun p => D.int (fstI p)) = (xs.map fstI).map .int := by simp
      simp! only [a_sort, e]
      rw [sort_ints _ (by simpa [zap] using hd)]
      simp! only [dEq_ints]
  all_goals simp! only [D.isT, zgo]
def zcp (cs : List D) : D → Bool
  | .tup [g, c, w] => zgo cs g && ((zfc c 0 (cs.length - 1) && !(inC c (.tup ((zap g).map fun e => .int (fstI e))))) && (w.isN || (zb7 (zks cs c) w && (zap g).all fun e => match e with | .tup [_, b] => !b.isN | _ => false)))
  | _ => false
theorem isGiv_cases {cs : List D} {d : D} (h : zgo cs d = true) : ∃ xs, d = .tup xs ∧ (∀ x ∈ xs, zf0 cs x = true) ∧ xs.map fstI = sset (xs.map fstI) := by
  cases d <;> simp only [zgo, Bool.false_eq_true, Bool.and_eq_true, decide_eq_true_eq, List.all_eq_true] at h
  exact ⟨_, rfl, h.1, h.2⟩
def zbe (d : D) : Prop := match d with | .tup (g :: _) => (zap g).length < 64 | _ => True
theorem zg4 (cs : List D) (d : D) (hc : ∀ c ∈ cs, ze_ c = true) (hd : zbe d) (S : zae) : zcz [.dat (.tup cs), .dat d] S = .ok (.dat (.bl (zcp cs d))) S := by
  unfold zcz zhn
  simp! only []
  cases d
  case tup xs =>
    simp! only [D.isT, dNe_ii]
    match xs, hd with
    | [], _ => simp! only [zcp]
    | [a], _ => simp! only [zcp]
    | [a, b], _ => simp! only [zcp]
    | a :: b :: c :: e :: r, _ =>
      have : (((a :: b :: c :: e :: r).length : Int) == 3) = false := by simp only [List.length_cons, beq_eq_false_iff_ne]; omega
      simp only [List.length_cons] at this
      simp! only [zcp, this]
    | [g, c, w], hd =>
      simp! only [at3_0, is_given_ok cs g hc hd, zcp]
      cases hg : zgo cs g
      · simp! only []
      · obtain ⟨xs, rfl, hx, _⟩ := isGiv_cases hg
        have hz : szB xs.length = true := by
          rw [← szB_iff]
          simp only [zbe, zap] at hd
          unfold sizeLine
          omega
        simp! only [zdx, zap]
        cases hb : zfc c 0 (cs.length - 1)
        · simp! only []
        · obtain ⟨i, rfl, h0, h1⟩ := zig hb
          simp! only [hz]
          rw [zc4 (q := fun p => .int (fstI p)) xs ?h]
          case h =>
            intro p hp
            obtain ⟨i, b, rfl, _⟩ := zga (hx p hp)
            exact ⟨_, rfl, rfl, by simp! only [at2_0, fstI]⟩
          have e : (xs.map fun p => D.int (fstI p)) = (xs.map fstI).map .int := by simp
          have hin : dIn (.int i) (.lst ((xs.map fstI).map .int)) = some (.bl (dInB (.int i) ((xs.map fstI).map .int))) := dIn_l (n := 0) (m := 0) rfl (zes 0 _)
          simp! only [e, hin, inC]
          cases dInB (.int i) ((xs.map fstI).map .int)
          · simp! only []
            cases hw : w.isN
            · simp! only [atI_getD .non h0 (show i < cs.length by omega), zem _ _ (hc _ (zc7 (n := i.toNat) (d := D.non) (by omega))), zks, hz]
              cases zb7 (cs.getD i.toNat .non) w
              · simp! only []
              · simp! only []
                rw [zc4 (q := fun p => .bl (match p with | .tup [_, b] => !b.isN | _ => false)) xs ?h]
                case h =>
                  intro p hp
                  obtain ⟨i, b, rfl, _⟩ := zga (hx p hp)
                  exact ⟨_, rfl, rfl, by simp! only [at2_1, fstI]⟩
                simp! only [ze5]
            · simp! only []
          · simp! only []
  all_goals simp! only [D.isT, zcp]
theorem zfg (cs : List D) (d : D) (hc : ∀ c ∈ cs, ze_ c = true) (hd : zbe d) (S : zae) : zbw [.dat (.tup cs), .dat d] S = bif zcp cs d then .ok (.dat .non) S else .ex "InvalidRule" S := by
  unfold zbw zf9
  simp! only [zg4 cs d hc hd]
  cases zcp cs d <;> simp! only []
def zcb (cs : List D) : D → Bool
  | .tup xs => !decide ((xs.length : Int) > 8) && xs.all (zcp cs)
  | _ => false
theorem are_rules_ok (cs : List D) (d : D) (hc : ∀ c ∈ cs, ze_ c = true) (hd : ∀ r ∈ zap d, zbe r) (S : zae) : ze2 [.dat (.tup cs), .dat d] S = .ok (.dat (.bl (zcb cs d))) S := by
  unfold ze2 zjb
  simp! only []
  cases d
  case tup xs =>
    simp! only [D.isT, zcb]
    cases h : decide ((xs.length : Int) > 8)
    · have hz : szB xs.length = true := by
        rw [← szB_iff]
        simp only [decide_eq_false_iff_not] at h
        unfold sizeLine
        omega
      rw [hz]
      simp! only []
      rw [zc4 (q := fun p => .bl (zcp cs p)) xs ?h]
      case h => intro p hp; exact ⟨_, rfl, rfl, by simp! only [zg4 cs _ hc (hd p hp)]⟩
      simp! only [ze5]
    · simp! only []
  all_goals simp! only [D.isT, zcb]
theorem zdq (cs d : D) (hd : ∀ r ∈ zap d, zbe r) (S : zae) : zaw [.dat cs, .dat d] S = bif zav cs then (bif zcb (zap cs) d then .ok (.dat .non) S else .ex "InvalidRules" S) else .ex "InvalidColumns" S := by
  unfold zaw zfo
  simp! only [zc2]
  cases h : zav cs
  · simp! only []
  · obtain ⟨xs, rfl, _, _, hc⟩ := zfr h
    simp! only [are_rules_ok xs d hc hd, zap]
    cases zcb xs d <;> simp! only []
abbrev Ent := Nat × Option Int
abbrev Giv := List Ent
structure Rul where
  g : Giv
  c : Nat
  w : Option Int
abbrev Row := List Int
abbrev Tab := List Row
def oD : Option Int → D | none => .non | some i => .int i
def eD (p : Ent) : D := .tup [.int (p.1 : Nat), oD p.2]
def gD (g : Giv) : D := .tup (g.map eD)
def rowD (r : Row) : D := .tup (r.map .int)
def rulD (r : Rul) : D := .tup [gD r.g, .int (r.c : Nat), oD r.w]
def okG (n : Nat) (g : Giv) : Prop := (∀ p ∈ g, p.1 < n) ∧ g.length ≤ 64
theorem oD_isN (o : Option Int) : (oD o).isN = o.isNone := by cases o <;> rfl
structure okR (n : Nat) (r : Rul) : Prop where
  g : okG n r.g
  c : r.c < n
structure okT (n : Nat) (t : Tab) : Prop where
  len : t.length ≤ 8
  row : ∀ r ∈ t, r.length = n
theorem okT.get {n i : Nat} {t : Tab} (h : okT n t) (hi : i < t.length) : (t.getD i []).length = n := h.row _ (zc7 hi)
structure okRs (n : Nat) (rs : List Rul) : Prop where
  len : rs.length ≤ 8
  ok : ∀ r ∈ rs, okR n r
/-! ## rules as data: plain, small -/
theorem oD_fit (n : Nat) (o : Option Int) : (oD o).fit n = true := by cases o <;> cases n <;> rfl
theorem eD_fit (n : Nat) (p : Ent) : (eD p).fit (n + 1) = true := by simp [eD, D.fit, D.fits, oD_fit]
theorem mapE_fit (n : Nat) (g : Giv) : D.fits (n + 1) (g.map eD) = true := fits_iff.mpr fun x hx => by obtain ⟨p, _, rfl⟩ := List.mem_map.mp hx; exact eD_fit n p
theorem gD_fit (n : Nat) (g : Giv) : (gD g).fit (n + 2) = true := by simp only [gD, D.fit, mapE_fit]
theorem rulD_fit (n : Nat) (r : Rul) : (rulD r).fit (n + 3) = true := by simp [rulD, D.fit, D.fits, gD_fit, oD_fit]
end T18
set_option maxHeartbeats 400000
namespace T18
open PySem PySem.Spec PyProof.Rows L2 DL
/-! ## the values that come -/
abbrev BIG : Int := 10000000000000000000000000000000000000000
def POOL : List Int := [0, 1, 2, 3, 5, 100000000000000000000000000000, 100000000000000000000000000001]
theorem pool_lt {v : Int} (h : v ∈ POOL) : 0 ≤ v ∧ v < BIG := by
  simp only [POOL, List.mem_cons, List.not_mem_nil, or_false] at h
  unfold BIG
  rcases h with rfl | rfl | rfl | rfl | rfl | rfl | rfl <;> decide
theorem pool_small {v : Int} (h0 : 0 ≤ v) (h1 : v < 4) : v ∈ POOL := by
  have : v = 0 ∨ v = 1 ∨ v = 2 ∨ v = 3 := by omega
  rcases this with rfl | rfl | rfl | rfl <;> decide
def okC (c : D) : Prop := ze_ c = true ∧ c.tiny = true ∧ ∀ ns : List Int, c = .tup (ns.map .int) → ∀ v ∈ ns, v < 4
def okV (c : D) (v : Int) : Prop := zb7 c (.int v) = true ∧ v ∈ POOL
theorem zgp {v : Int} (h : v ∈ POOL) : (D.int v).tiny = true := by
  have := pool_lt h
  simp only [D.tiny, decide_eq_true_eq]
  have e : (10 : Nat) ^ 40 = 10000000000000000000000000000000000000000 := by decide
  unfold BIG at this
  omega
theorem okV.tiny {c : D} {v : Int} (h : okV c v) : (D.int v).tiny = true := zgp h.2
theorem zkv {n : Nat} (h : n ≤ 1000000) : (D.int (n : Nat)).tiny = true := by
  simp only [D.tiny, decide_eq_true_eq]
  have e : (10 : Nat) ^ 40 = 10000000000000000000000000000000000000000 := by decide
  omega
theorem nn_t {n : Nat} (h : n ≤ 1000000) : decide (((n : Nat) : Int).natAbs < 10 ^ 40) = true := zkv h
theorem okV.t {c : D} {v : Int} (h : okV c v) : decide (v.natAbs < 10 ^ 40) = true := h.tiny
def primes : List Int := [2147483629, 2147483587, 2147483579, 2147483563, 2147483549, 2147483543, 2147483497, 2147483489, 2147483477, 2147483423, 2147483399, 2147483353, 2147483323]
theorem zkd (k : Int) : ∃ p : Int, atI [D.int 2147483629, D.int 2147483587, D.int 2147483579, D.int 2147483563, D.int 2147483549, D.int 2147483543, D.int 2147483497, D.int 2147483489, D.int 2147483477, D.int 2147483423, D.int 2147483399, D.int 2147483353, D.int 2147483323] (k % 13) = some (.int p) ∧ 0 < p ∧ p < 2147483648 := by
  have h0 : 0 ≤ k % 13 := Int.emod_nonneg _ (by decide)
  have h1 : k % 13 < 13 := Int.emod_lt_of_pos _ (by decide)
  have e : atI (primes.map D.int) (((k % 13).toNat : Nat) : Int) = some (D.int (primes.getD (k % 13).toNat 0)) := zkb D.int 0 (by simp [primes]; omega)
  rw [Int.toNat_of_nonneg h0] at e
  have hm : primes.getD (k % 13).toNat 0 ∈ primes := by
    rw [List.getD_eq_getElem?_getD, List.getElem?_eq_getElem (by simp [primes]; omega)]
    exact List.getElem_mem _
  have hb : ∀ p ∈ primes, 0 < p ∧ p < 2147483648 := by decide
  exact ⟨_, e, hb _ hm⟩
theorem p10_18 : dPow (.int 10) (.int 18) = some (.int 1000000000000000000) := ziv (i := 10) (j := 18) (by decide) (by decide)
theorem p10_17 : dPow (.int 10) (.int 17) = some (.int 100000000000000000) := ziv (i := 10) (j := 17) (by decide) (by decide)
theorem p10_29 : dPow (.int 10) (.int 29) = some (.int 100000000000000000000000000000) := ziv (i := 10) (j := 29) (by decide) (by decide)
theorem pow_s {i : Int} (h0 : 0 ≤ i) (h1 : i < 18446744073709551616) : dPow (.int i) (.int 3) = some (.int (i ^ 3)) ∧ dPow (.int i) (.int 5) = some (.int (i ^ 5)) := by
  have : i.natAbs < 2 ^ 64 := by
    have : i.natAbs < 18446744073709551616 := by omega
    exact this
  exact ⟨ziv (j := 3) this (by decide), ziv (j := 5) this (by decide)⟩
theorem zi4 (c : Int) (a : Nat) (ha : a ≤ 2147483648) (S : zae) : ∃ r : Int, zdf [.dat (.int c), .dat (.int (a : Nat))] S = .ok (.dat (.int r)) S := by
  unfold zdf zf6
  simp! only [p10_18]
  cases decide (c ≥ 1000000000000000000)
  · simp! only [zj7]
    have m0 : dMod (.int c) (.int 1000000007) = some (.int (c % 1000000007)) := zds (by decide)
    have m1 : zb6 (.int 2) (.int (a : Nat)) = some (.int (2 * (a : Nat))) := zi5 (zcd (by decide) (by decide)) (zcd (by omega) (by omega))
    have b0 : 0 ≤ c % 1000000007 := Int.emod_nonneg _ (by decide)
    have b1 : c % 1000000007 < 1000000007 := Int.emod_lt_of_pos _ (by decide)
    generalize c % 1000000007 = u at *
    have m2 : zb6 (.int u) (.int (2 * (a : Nat) + 69069)) = some (.int (u * (2 * (a : Nat) + 69069))) := zi5 (zcd (by omega) (by omega)) (zcd (by omega) (by omega))
    have m3 : zb6 (.int (a : Nat)) (.int 40503) = some (.int ((a : Nat) * 40503)) := zi5 (zcd (by omega) (by omega)) (zcd (by decide) (by decide))
    have b2 : 0 ≤ u * (2 * (a : Nat) + 69069) := Int.mul_nonneg b0 (by omega)
    have b3 : u * (2 * (a : Nat) + 69069) ≤ 1000000007 * 4295036365 := Int.mul_le_mul (by omega) (by omega) (by omega) (by decide)
    simp! only [m0, m1, m2, m3]
    generalize u * (2 * (a : Nat) + 69069) = x at *
    have q1 := (pow_s (i := x + (a : Nat) * 40503 + 977) (by omega) (by omega)).1
    have r0 : dMod (.int (a : Nat)) (.int 13) = some (.int (((a : Nat) : Int) % 13)) := zds (by decide)
    obtain ⟨p, ep, p0, p1⟩ := zkd (a : Nat)
    simp! only [q1, r0, ep, zds p0]
    generalize (x + (a : Nat) * 40503 + 977) ^ 3 = y
    have c0 : 0 ≤ y % p := Int.emod_nonneg _ (by omega)
    have c1 : y % p < p := Int.emod_lt_of_pos _ p0
    generalize y % p = one at *
    have n0 : dMod (.int c) (.int 65537) = some (.int (c % 65537)) := zds (by decide)
    have d0 : 0 ≤ c % 65537 := Int.emod_nonneg _ (by decide)
    have d1 : c % 65537 < 65537 := Int.emod_lt_of_pos _ (by decide)
    generalize c % 65537 = v at *
    have m4 : zb6 (.int one) (.int ((a : Nat) + 3)) = some (.int (one * ((a : Nat) + 3))) := zi5 (zcd (by omega) (by omega)) (zcd (by omega) (by omega))
    have b4 : 0 ≤ one * ((a : Nat) + 3) := Int.mul_nonneg c0 (by omega)
    have b5 : one * ((a : Nat) + 3) ≤ 2147483648 * 2147483651 := Int.mul_le_mul (by omega) (by omega) (by omega) (by decide)
    simp! only [n0, m4]
    generalize one * ((a : Nat) + 3) = z at *
    have q2 := (pow_s (i := z + (v + 5)) (by omega) (by omega)).2
    have r1 : dMod (.int ((a : Nat) + 5)) (.int 13) = some (.int ((((a : Nat) : Int) + 5) % 13)) := zds (by decide)
    obtain ⟨p', ep', p0', p1'⟩ := zkd ((a : Nat) + 5)
    simp! only [q2, r1, ep', zds p0']
    generalize (z + (v + 5)) ^ 5 = y
    have c0' : 0 ≤ y % p' := Int.emod_nonneg _ (by omega)
    have c1' : y % p' < p' := Int.emod_lt_of_pos _ p0'
    generalize y % p' = two at *
    have n1 : dMod (.int one) (.int 1009) = some (.int (one % 1009)) := zds (by decide)
    have e0 : 0 ≤ one % 1009 := Int.emod_nonneg _ (by decide)
    have e1 : one % 1009 < 1009 := Int.emod_lt_of_pos _ (by decide)
    simp! only [n1]
    generalize one % 1009 = w at *
    have q3 := (pow_s (i := two + w + (a : Nat)) (by omega) (by omega)).1
    have r2 : dMod (.int ((a : Nat) + 7)) (.int 13) = some (.int ((((a : Nat) : Int) + 7) % 13)) := zds (by decide)
    obtain ⟨p2, ep2, p02, p12⟩ := zkd ((a : Nat) + 7)
    have m5 : zb6 (.int one) (.int 2147483647) = some (.int (one * 2147483647)) := zi5 (zcd (by omega) (by omega)) (zcd (by decide) (by decide))
    have m6 : zb6 (.int (one * 2147483647 + two)) (.int 2147483647) = some (.int ((one * 2147483647 + two) * 2147483647)) := zi5 (zcd (by omega) (by omega)) (zcd (by decide) (by decide))
    simp! only [q3, r2, ep2, zds p02, m5, m6]
    exact ⟨_, rfl⟩
  · simp! only []
    exact ⟨_, rfl⟩
theorem zdo {n : Nat} {T S : zae} (h : Pen n T S) (hn : n ≤ LIM) (m : Int) (m0 : 0 < m) (m1 : m ≤ 1000000000000) : ∃ (r : Nat) (S1 : zae), zay [.obj 0, .dat (.int m)] S = .ok (.dat (.int (r : Nat))) S1 ∧ Pen (n + 1) T S1 ∧ (r : Int) < m := by
  have hn : n ≤ 2147483648 := hn
  obtain ⟨cells, a, cur, rfl, ha⟩ := h
  unfold zay zhq
  simp! only []
  have fin : ∀ (cur : Int), 0 ≤ cur % m ∧ cur % m < m := fun cur => ⟨Int.emod_nonneg _ (by omega), Int.emod_lt_of_pos _ m0⟩
  have dd : ∀ cur : Int, dDiv (.int cur) (.int m) = some (.int (cur / m)) := fun cur => dDiv_i m0 (zcd (by omega) (by omega))
  cases decide (cur < m)
  · simp! only [zds m0, dd]
    exact ⟨(cur % m).toNat, _, by rw [Int.toNat_of_nonneg (fin cur).1], ⟨_, _, _, rfl, by omega⟩, by rw [Int.toNat_of_nonneg (fin cur).1]; exact (fin cur).2⟩
  · simp! only [List.length_map]
    cases h1 : decide (((a : Nat) : Int) < (cells.length : Nat))
    · simp! only [List.length_map]
      cases h2 : decide (((cells.length : Nat) : Int) > 0)
      · simp! only []
        obtain ⟨r, e⟩ := zi4 0 a (by omega) (some (penL cells (a + 1) cur) :: T)
        simp! only [e, zds m0, dd]
        exact ⟨(r % m).toNat, _, by rw [Int.toNat_of_nonneg (fin r).1], ⟨_, _, _, rfl, by omega⟩, by rw [Int.toNat_of_nonneg (fin r).1]; exact (fin r).2⟩
      · have h2 : (0 : Int) < cells.length := by simpa using h2
        have m5 : zb6 (.int (a : Nat)) (.int 5) = some (.int ((a : Nat) * 5)) := zi5 (zcd (by omega) (by omega)) (zcd (by decide) (by decide))
        have i0 : 0 ≤ ((a : Nat) * 5 + 3 : Int) % (cells.length : Nat) := Int.emod_nonneg _ (by omega)
        have i1 : ((a : Nat) * 5 + 3 : Int) % (cells.length : Nat) < (cells.length : Nat) := Int.emod_lt_of_pos _ h2
        have e1 : atI (cells.map .int) (((a : Nat) * 5 + 3 : Int) % (cells.length : Nat)) = some (D.int (cells.getD (((a : Nat) * 5 + 3 : Int) % (cells.length : Nat)).toNat 0)) := by
          have := zkb (xs := cells) (n := (((a : Nat) * 5 + 3 : Int) % (cells.length : Nat)).toNat) D.int 0 (by omega)
          rwa [Int.toNat_of_nonneg i0] at this
        simp! only [m5, List.length_map, zds h2, e1, p10_17, zds (show (0 : Int) < 100000000000000000 + (a : Nat) by omega)]
        obtain ⟨r, e⟩ := zi4 ((cells.getD (((a : Nat) * 5 + 3 : Int) % (cells.length : Nat)).toNat 0) % (100000000000000000 + (a : Nat))) a (by omega) (some (penL cells (a + 1) cur) :: T)
        simp! only [e, zds m0, dd]
        exact ⟨(r % m).toNat, _, by rw [Int.toNat_of_nonneg (fin r).1], ⟨_, _, _, rfl, by omega⟩, by rw [Int.toNat_of_nonneg (fin r).1]; exact (fin r).2⟩
    · have h1 : a < cells.length := by simpa using h1
      simp! only [zkb D.int 0 h1]
      obtain ⟨r, e⟩ := zi4 (cells.getD a 0) a (by omega) (some (penL cells (a + 1) cur) :: T)
      simp! only [e, zds m0, dd]
      exact ⟨(r % m).toNat, _, by rw [Int.toNat_of_nonneg (fin r).1], ⟨_, _, _, rfl, by omega⟩, by rw [Int.toNat_of_nonneg (fin r).1]; exact (fin r).2⟩
theorem anew_ok {n : Nat} {T S : zae} (h : Pen n T S) : ∃ S1, zc0 [.obj 0] S = .ok (.obj 0) S1 ∧ Pen n T S1 := by
  obtain ⟨cells, a, cur, rfl, ha⟩ := h
  unfold zc0 zhi
  simp! only [zii, Nat.zero_lt_succ, if_true]
  exact ⟨_, rfl, _, _, _, rfl, ha⟩
theorem zf7 {n : Nat} {T S : zae} (h : Pen n T S) (hn : n ≤ LIM) (xs : List D) (h0 : 1 ≤ xs.length) (h1 : xs.length ≤ 1000000) (d : D) (hd : d = .lst xs ∨ d = .tup xs) :
    ∃ x S1, zaz [.obj 0, .dat d] S = .ok (.dat x) S1 ∧ Pen (n + 1) T S1 ∧ x ∈ xs := by
  unfold zaz zg_
  obtain ⟨r, S1, e, p, hr⟩ := zdo h hn (xs.length : Nat) (by omega) (by omega)
  have hr : r < xs.length := by omega
  have hx : atI xs (r : Nat) = some (xs.getD r .non) := zd4 .non hr
  refine ⟨xs.getD r .non, S1, ?_, p, zc7 hr⟩
  rcases hd with rfl | rfl <;> simp! only [e, hx, p.take h.len]
theorem zid {n : Nat} {T S : zae} (h : Pen n T S) (hn : n ≤ LIM) (c : D) (hc : okC c) : ∃ (v : Int) (S1 : zae), zbv [.obj 0, .dat c] S = .ok (.dat (.int v)) S1 ∧ Pen (n + 1) T S1 ∧ okV c v := by
  unfold zbv zg0
  rcases zez hc.1 with rfl | ⟨ns, rfl, l0, l1, hns, _⟩
  · simp! only [D.isN, p10_29]
    obtain ⟨x, S1, e, p, hx⟩ := zf7 h hn [D.int 0, D.int 1, D.int 2, D.int 0, D.int 1, D.int 2, D.int 3, D.int 100000000000000000000000000000, D.int (100000000000000000000000000000 + 1)] (by simp) (by simp) _ (.inl rfl)
    simp! only [e, p.take h.len]
    have : ∃ v : Int, x = .int v ∧ 0 ≤ v ∧ v ∈ POOL := by
      simp only [List.mem_cons, List.not_mem_nil, or_false] at hx
      rcases hx with rfl | rfl | rfl | rfl | rfl | rfl | rfl | rfl | rfl <;> exact ⟨_, rfl, by decide⟩
    obtain ⟨v, rfl, hv⟩ := this
    exact ⟨v, S1, rfl, p, by simp [zb7, zgh, D.isN, hv.1], hv.2⟩
  · simp! only [D.isN]
    obtain ⟨x, S1, e, p, hx⟩ := zf7 h hn (ns.map .int) (by simpa using l0) (by simp; omega) _ (.inr rfl)
    simp! only [e, p.take h.len]
    obtain ⟨v, hv, rfl⟩ := List.mem_map.mp hx
    refine ⟨v, S1, rfl, p, by simp [zb7, zgh, D.isN, inC, zg3, hv, hns v hv], ?_⟩
    exact pool_small (hns v hv) (hc.2.2 ns rfl v hv)
def isC (c : D) : Bool := !c.isN
theorem columns_body {n : Nat} {T S : zae} (h : Pen n T S) (hn : n + 5 ≤ LIM) (cs : List D) (k : Nat) (o1 o2 o5 o6 : Option DV) (hcs : ∀ c ∈ cs, okC c) (hl : cs.length ≤ 8) (hk : (cs.filter isC).length = k) (hk2 : k ≤ 2) :
    ∃ (cs' : List D) (k' : Nat) (p5 p6 : Option DV) (S1 : zae), zcr [some (.obj 0), o1, o2, some (.dat (.tup cs)), some (.dat (.int (k : Nat))), o5, o6] S = .nx [some (.obj 0), o1, o2, some (.dat (.tup cs')), some (.dat (.int (k' : Nat))), p5, p6] S1 ∧
      Pen (n + 5) T S1 ∧ cs'.length = cs.length + 1 ∧ (∀ c ∈ cs', okC c) ∧ (cs'.filter isC).length = k' ∧ k' ≤ 2 := by
  unfold zcr
  obtain ⟨r, S1, e, p, hr⟩ := zdo h (by omega) 3 (by decide) (by decide)
  simp! only [e, rng1_1 (show r ≤ 1000000 by omega), List.length_map, List.length_range, zdj (show 1 + r ≤ 16777216 by omega)]
  obtain ⟨zs, S2, e2, p2, l2, q2⟩ := lc_pen (G := gNm 6) (t := zff) (f := xN zay (zaa (xVar 0) (zaa (xC (.int 4)) aNil))) (ρ := [some (.obj 0), o1, o2, some (.dat (.tup cs)), some (.dat (.int (k : Nat))), o5, none]) (T := T) (R := fun _ z => ∃ v : Int, z = .int v ∧ 0 ≤ v ∧ v < 4) (c := 1) ((List.range (1 + r)).map fun i => .int ((i : Nat) : Int)) (n + 1) S1 p (by simp; omega) (by
    intro c hcs m S hp hm
    obtain ⟨v, S1, e, p, hv⟩ := zdo hp (by omega) 4 (by decide) (by decide)
    exact ⟨_, .int ((v : Nat) : Int), S1, rfl, rfl, by simp! only [e], p, ⟨_, rfl, by omega, by omega⟩⟩)
  simp only [List.length_map, List.length_range] at l2 p2
  have hz : ∀ z ∈ zs, ∃ v : Int, z = .int v ∧ 0 ≤ v ∧ v < 4 := fun z hz => by
    obtain ⟨i, hi, rfl⟩ := List.mem_iff_getElem.mp hz
    exact q2 (((List.range (1 + r)).map fun i => D.int ((i : Nat) : Int))[i]'(by simp; omega), zs[i]) (by rw [List.mem_iff_getElem]; exact ⟨i, by simp; omega, by simp⟩)
  obtain ⟨ns, rfl⟩ := ints_of (zs := zs) fun z h => ⟨_, (hz z h).choose_spec.1⟩
  have hpos : ∀ v ∈ ns, 0 ≤ v ∧ v < 4 := fun v hv => by
    obtain ⟨u, e, h⟩ := hz (.int v) (List.mem_map_of_mem hv)
    cases e
    exact h
  simp only [List.length_map] at l2
  simp! only [e2, a_sort, sort_ints ns (by omega)]
  have good : okC (.tup ((sset ns).map .int)) := by
    refine ⟨?_, tinys_iff.mpr fun x hx => by
      obtain ⟨v, hv, rfl⟩ := List.mem_map.mp hx
      have := hpos v ((zdg v ns).mp hv)
      have e := zkv (n := v.toNat) (by omega)
      rwa [Int.toNat_of_nonneg this.1] at e, fun ms e v hv => by
      have e2 : (sset ns).map D.int = ms.map D.int := by injection e
      have : D.int v ∈ (sset ns).map D.int := by rw [e2]; exact List.mem_map_of_mem hv
      obtain ⟨u, hu, e3⟩ := List.mem_map.mp this
      cases e3
      exact (hpos v ((zdg v ns).mp hu)).2⟩
    have a1 := sset_len ns
    have a2 := sset_pos (l := ns) (by intro e; subst e; simp at l2; omega)
    simp only [ze_, List.length_map, colB, zdb, sset_idem, decide_true, Bool.and_true, Bool.and_eq_true, decide_eq_true_eq, List.all_eq_true]
    refine ⟨by omega, fun z hz => ?_⟩
    obtain ⟨v, hv, rfl⟩ := List.mem_map.mp hz
    simp [zgh, (hpos v ((zdg v ns).mp hv)).1]
  have add1 : ∀ c : D, dAdd (.tup cs) (.tup [c]) = some (.tup (cs ++ [c])) := fun c => by
    rw [zj0]
    simp only [List.length_cons, List.length_nil, zdj (show cs.length + (0 + 1) ≤ 16777216 by omega), cond_true]
  have hnon : okC .non := ⟨rfl, rfl, fun ms e => nomatch e⟩
  have memb : ∀ c, okC c → ∀ d ∈ cs ++ [c], okC d := fun c hc d hd => by
    rcases List.mem_append.mp hd with h | h
    · exact hcs d h
    · simp at h; exact h ▸ hc
  by_cases hk3 : k < 2
  · have e3 : decide (((k : Nat) : Int) < 2) = true := by simp; omega
    obtain ⟨r3, S3, e4, p4, hr3⟩ := zdo p2 (by omega) 3 (by decide) (by decide)
    simp! only [e3, e4, zah]
    cases h0 : (((r3 : Nat) : Int) == 0)
    · simp! only [add1]
      exact ⟨_, k, _, _, _, rfl, p4.mono (by omega), by simp, memb _ hnon, by simp [isC, D.isN, ← hk], hk2⟩
    · simp! only [add1]
      exact ⟨_, k + 1, _, _, _, rfl, p4.mono (by omega), by simp, memb _ good, by simp [isC, D.isN, ← hk], by omega⟩
  · have e3 : decide (((k : Nat) : Int) < 2) = false := by simp; omega
    simp! only [e3, add1]
    exact ⟨_, k, _, _, _, rfl, p2.mono (by omega), by simp, memb _ hnon, by simp [isC, D.isN, ← hk], hk2⟩
theorem columns_ok {n : Nat} {T S : zae} (h : Pen n T S) (hn : n + 21 ≤ LIM) : ∃ (cs : List D) (S1 : zae), zck [.obj 0, .dat (.int 4)] S = .ok (.dat (.tup cs)) S1 ∧ Pen (n + 21) T S1 ∧ zav (.tup cs) = true ∧ ∀ c ∈ cs, okC c := by
  unfold zck zfq
  obtain ⟨r, S1, e, p, hr⟩ := zdo h (by omega) 4 (by decide) (by decide)
  simp! only [e, rng1_1 (show r ≤ 1000000 by omega)]
  obtain ⟨ρ', S2, e2, ⟨o2, cs, k, o5, o6, rfl, hl, hcs, hk, hk2⟩, p2⟩ := for_pen (enc := fun i : Nat => D.int ((i : Nat) : Int)) (G := gNm 2) (f := zcr) (T := T) (c := 5)
    (fun pre ρ => ∃ o2 cs k o5 o6, ρ = [some (.obj 0), some (.dat (.int 4)), o2, some (.dat (.tup cs)), some (.dat (.int ((k : Nat) : Int))), o5, o6] ∧ cs.length = pre.length ∧ (∀ c ∈ cs, okC c) ∧ (cs.filter isC).length = k ∧ k ≤ 2)
    (List.range (1 + r)) [] (n + 1) [some (.obj 0), some (.dat (.int 4)), none, some (.dat (.tup [])), some (.dat (.int 0)), none, none] S1 ⟨_, [], 0, _, _, rfl, rfl, by simp, rfl, by decide⟩ p (by simp; omega) (by
    rintro pre a post m ρ S hpp ⟨o2, cs, k, o5, o6, rfl, hl, hcs, hk, hk2⟩ hp hm
    have hlen : pre.length ≤ 8 := by
      have := congrArg List.length hpp
      simp at this
      omega
    obtain ⟨cs', k', p5, p6, S1, e, p, a1, a2, a3, a4⟩ := columns_body hp hm cs k (some (.dat (.int 4))) (some (.dat (.int ((a : Nat) : Int)))) o5 o6 hcs (by omega) hk hk2
    exact ⟨_, _, S1, rfl, e, ⟨_, cs', k', _, _, rfl, by simp; omega, a2, a3, a4⟩, p⟩)
  simp only [List.nil_append, List.length_range] at hl p2
  simp! only [e2, p2.take h.len]
  refine ⟨cs, S2, rfl, p2.mono (by omega), ?_, hcs⟩
  simp only [zav, Bool.and_eq_true, decide_eq_true_eq, List.all_eq_true]
  refine ⟨by omega, fun c hc => (hcs c hc).1, ?_⟩
  have : (cs.filter fun c => !c.isN).length = k := hk
  omega
theorem zho {n : Nat} {T S : zae} (h : Pen n T S) (hn : n + 4 ≤ LIM) (cs : List D) (hc : ∀ c ∈ cs, okC c) (hl : cs.length ≤ 4) : ∃ (r : Row) (S1 : zae), zco [.obj 0, .dat (.tup cs)] S = .ok (.dat (rowD r)) S1 ∧ Pen (n + 4) T S1 ∧ zd_ cs (rowD r) = true ∧ ∀ v ∈ r, v ∈ POOL := by
  unfold zco zjc
  simp! only [zdj (show cs.length ≤ 16777216 by omega)]
  obtain ⟨zs, S1, e, p, l, q⟩ := lc_pen (G := gNm 2) (t := zff) (f := xN zbv (zaa (xVar 0) (zaa (xVar 2) aNil))) (ρ := [some (.obj 0), some (.dat (.tup cs)), none]) (T := T) (R := fun c z => ∃ v : Int, z = .int v ∧ okV c v) (c := 1) cs n S h (by omega) (by
    intro c hcs m S hp hm
    obtain ⟨v, S1, e, p, hv⟩ := zid hp (by omega) c (hc c hcs)
    exact ⟨_, _, S1, rfl, rfl, by simp! only [e], p, ⟨v, rfl, hv⟩⟩)
  obtain ⟨r, rfl⟩ := ints_of (zs := zs) fun z hz => by
    obtain ⟨i, hi, rfl⟩ := List.mem_iff_getElem.mp hz
    have := q (cs[i]'(by omega), zs[i]) (by rw [List.mem_iff_getElem]; exact ⟨i, by simp; omega, by simp⟩)
    exact ⟨_, this.choose_spec.1⟩
  simp! only [e]
  refine ⟨r, S1, ?_, p.mono (by omega), ?_, fun v hv => ?_⟩
  · rw [p.take h.len]
    rfl
  · simp only [zd_, rowD, Bool.and_eq_true, beq_iff_eq, List.all_eq_true]
    refine ⟨by omega, fun p hp => ?_⟩
    obtain ⟨v, e, hv⟩ := q p hp
    rw [e]
    exact hv.1
  · obtain ⟨i, hi, rfl⟩ := List.mem_iff_getElem.mp hv
    have l' : i < cs.length := by simp at l; omega
    obtain ⟨u, e, hu⟩ := q (cs[i], .int r[i]) (by rw [List.mem_iff_getElem]; exact ⟨i, by simp; omega, by simp⟩)
    cases e
    exact hu.2
structure RG (cs : List D) (c : Nat) (w : Option Int) (m : Nat) (g : Giv) : Prop where
  lt : ∀ p ∈ g, p.1 < m ∧ p.1 ≠ c
  val : ∀ p ∈ g, ∀ v, p.2 = some v → okV (cs.getD p.1 .non) v
  want : w ≠ none → ∀ p ∈ g, p.2 ≠ none
  inc : (g.map (·.1)).Pairwise (· < ·)
  len : g.length ≤ m
theorem RG.mono {cs : List D} {c : Nat} {w : Option Int} {m m' : Nat} {g : Giv} (h : RG cs c w m g) (k : m ≤ m') : RG cs c w m' g :=
  ⟨fun p hp => ⟨Nat.lt_of_lt_of_le (h.lt p hp).1 k, (h.lt p hp).2⟩, h.val, h.want, h.inc, Nat.le_trans h.len k⟩
theorem RG.snoc {cs : List D} {c : Nat} {w : Option Int} {m : Nat} {g : Giv} (h : RG cs c w m g) (o : Option Int) (h1 : m ≠ c) (h2 : ∀ v, o = some v → okV (cs.getD m .non) v) (h3 : w ≠ none → o ≠ none) : RG cs c w (m + 1) (g ++ [(m, o)]) := by
  refine ⟨fun p hp => ?_, fun p hp => ?_, fun hw p hp => ?_, ?_, ?_⟩
  · rcases List.mem_append.mp hp with hp | hp
    · exact ⟨Nat.lt_succ_of_lt (h.lt p hp).1, (h.lt p hp).2⟩
    · simp at hp; subst hp; exact ⟨Nat.lt_succ_self _, h1⟩
  · rcases List.mem_append.mp hp with hp | hp
    · exact h.val p hp
    · simp at hp; subst hp; exact h2
  · rcases List.mem_append.mp hp with hp | hp
    · exact h.want hw p hp
    · simp at hp; subst hp; exact h3 hw
  · rw [List.map_append, List.pairwise_append]
    refine ⟨h.inc, by simp, fun x hx y hy => ?_⟩
    obtain ⟨p, hp, rfl⟩ := List.mem_map.mp hx
    simp at hy
    subst hy
    exact (h.lt p hp).1
  · have := h.len
    simp
    omega
theorem rule_body {n : Nat} {T S : zae} (h : Pen n T S) (hn : n + 2 ≤ LIM) (cs : List D) (hc : ∀ c ∈ cs, okC c) (hl : cs.length ≤ 4) (c : Nat) (w : Option Int) (g : Giv) (k : Nat) (hk : k < cs.length) (G : RG cs c w k g) (o6 : Option DV) :
    ∃ (g' : Giv) (p6 : Option DV) (S1 : zae), zdd [some (.obj 0), some (.dat (.tup cs)), some (.dat (.int (c : Nat))), some (.dat (oD w)), some (.dat (gD g)), some (.dat (.int (k : Nat))), o6] S = .nx [some (.obj 0), some (.dat (.tup cs)), some (.dat (.int (c : Nat))), some (.dat (oD w)), some (.dat (gD g')), some (.dat (.int (k : Nat))), p6] S1 ∧
      Pen (n + 2) T S1 ∧ RG cs c w (k + 1) g' := by
  unfold zdd
  obtain ⟨r, S1, e, p, hr⟩ := zdo h (by omega) 5 (by decide) (by decide)
  have add1 : ∀ o : Option Int, dAdd (gD g) (.tup [.tup [.int (k : Nat), oD o]]) = some (gD (g ++ [(k, o)])) := fun o => by
    have := G.len
    simp only [gD]
    rw [zj0]
    simp only [List.length_cons, List.length_nil, List.length_map, zdj (show g.length + (0 + 1) ≤ 16777216 by omega), cond_true, List.map_append, List.map_cons, List.map_nil, eD]
  have addS : ∀ v : Int, dAdd (gD g) (.tup [.tup [.int (k : Nat), .int v]]) = some (gD (g ++ [(k, some v)])) := fun v => add1 (some v)
  have addN : dAdd (gD g) (.tup [.tup [.int (k : Nat), .non]]) = some (gD (g ++ [(k, none)])) := add1 none
  simp! only [e, dNe_ii]
  cases h1 : (((k : Nat) : Int) == ((c : Nat) : Int))
  · have hkc : k ≠ c := by
      have := (beq_eq_false_iff_ne).mp h1
      omega
    simp! only []
    cases h2 : decide (((r : Nat) : Int) < 2)
    · simp! only [zah, oD_isN]
      cases h3 : (((r : Nat) : Int) == 2)
      · simp! only []
        exact ⟨g, _, _, rfl, p.mono (by omega), G.mono (by omega)⟩
      · simp! only [oD_isN]
        cases w with
        | none =>
          simp! only [Option.isNone_none, addN]
          exact ⟨_, _, _, rfl, p.mono (by omega), G.snoc none hkc (fun v hv => nomatch hv) (fun hw => absurd rfl hw)⟩
        | some v =>
          simp! only [Option.isNone_some]
          exact ⟨g, _, _, rfl, p.mono (by omega), G.mono (by omega)⟩
    · obtain ⟨v, S2, e2, p2, hv⟩ := zid p (by omega) (cs.getD k .non) (hc _ (zc7 hk))
      simp! only [zd4 D.non hk, e2, addS]
      exact ⟨_, _, _, rfl, p2.mono (by omega), G.snoc (some v) hkc (fun u hu => by cases hu; exact hv) (fun _ => by simp)⟩
  · simp! only []
    exact ⟨g, _, _, rfl, p.mono (by omega), G.mono (by omega)⟩
theorem isRul_of {cs : List D} {c : Nat} {w : Option Int} {g : Giv} (hc : c < cs.length) (G : RG cs c w cs.length g) (hw : ∀ v, w = some v → okV (cs.getD c .non) v) : zcp cs (rulD ⟨g, c, w⟩) = true := by
  have e1 : (g.map eD).map fstI = (g.map (·.1)).map fun k => ((k : Nat) : Int) := by
    simp [List.map_map, Function.comp_def, eD, fstI]
  have e2 : ((g.map (·.1)).map fun k => ((k : Nat) : Int)).Pairwise (· < ·) := by
    rw [List.pairwise_map]
    exact G.inc.imp fun h => by omega
  have a1 : zgo cs (gD g) = true := by
    simp only [zgo, gD, Bool.and_eq_true, decide_eq_true_eq, List.all_eq_true, e1]
    refine ⟨fun x hx => ?_, (zjn e2).symm⟩
    obtain ⟨p, hp, rfl⟩ := List.mem_map.mp hx
    have l := (G.lt p hp).1
    simp only [eD, zf0, zfc, zks, Bool.and_eq_true, decide_eq_true_eq, Bool.or_eq_true]
    refine ⟨by omega, ?_⟩
    cases h2 : p.2 with
    | none => exact .inl rfl
    | some v => exact .inr (by simpa [oD] using (G.val p hp v h2).1)
  have a2 : inC (.int (c : Nat)) (.tup ((zap (gD g)).map fun e => .int (fstI e))) = false := by
    have e3 : ((zap (gD g)).map fun e => D.int (fstI e)) = ((g.map eD).map fstI).map .int := by simp [zap, gD]
    rw [e3, e1]
    simp only [inC, zg3, decide_eq_false_iff_not]
    intro hm
    obtain ⟨k, hk, e⟩ := List.mem_map.mp hm
    obtain ⟨p, hp, rfl⟩ := List.mem_map.mp hk
    exact (G.lt p hp).2 (by omega)
  simp only [rulD, zcp, a1, a2, Bool.true_and, Bool.not_false, Bool.and_true, zfc, zks, Bool.and_eq_true, decide_eq_true_eq, Bool.or_eq_true, List.all_eq_true]
  refine ⟨by omega, ?_⟩
  cases w with
  | none => exact .inl rfl
  | some v =>
    refine .inr ⟨by simpa [oD] using (hw v rfl).1, fun x hx => ?_⟩
    obtain ⟨p, hp, rfl⟩ := List.mem_map.mp hx
    have := G.want (by simp) p hp
    cases h2 : p.2 with
    | none => exact absurd h2 this
    | some u => simp [eD, oD, h2, D.isN]
structure GR (cs : List D) (r : Rul) : Prop where
  is : zcp cs (rulD r) = true
  G : RG cs r.c r.w cs.length r.g
  hw : ∀ v, r.w = some v → okV (cs.getD r.c .non) v
  ok : okR cs.length r
  sh : r.g.length < 64
theorem rule_ok {n : Nat} {T S : zae} (h : Pen n T S) (hn : n + 11 ≤ LIM) (cs : List D) (hc : ∀ c ∈ cs, okC c) (h0 : 1 ≤ cs.length) (hl : cs.length ≤ 4) :
    ∃ (r : Rul) (S1 : zae), zb5 [.obj 0, .dat (.tup cs)] S = .ok (.dat (rulD r)) S1 ∧ Pen (n + 11) T S1 ∧ GR cs r := by
  unfold zb5 zhy
  obtain ⟨c, S1, e1, p1, hcl⟩ := zdo h (by omega) (cs.length : Nat) (by omega) (by omega)
  have hcl : c < cs.length := by omega
  obtain ⟨v, S2, e2, p2, hv⟩ := zid p1 (by omega) (cs.getD c .non) (hc _ (zc7 hcl))
  obtain ⟨x, S3, e3, p3, hx⟩ := zf7 p2 (by omega) [D.non, D.non, D.int v] (by simp) (by simp) _ (.inl rfl)
  have hw : ∃ w : Option Int, x = oD w ∧ ∀ u, w = some u → okV (cs.getD c .non) u := by
    simp only [List.mem_cons, List.not_mem_nil, or_false] at hx
    rcases hx with rfl | rfl | rfl
    · exact ⟨none, rfl, fun u hu => nomatch hu⟩
    · exact ⟨none, rfl, fun u hu => nomatch hu⟩
    · exact ⟨some v, rfl, fun u hu => by cases hu; exact hv⟩
  obtain ⟨w, rfl, hw⟩ := hw
  simp! only [e1, zd4 D.non hcl, e2, e3, zj6 (zgd (show cs.length ≤ 16000000 by omega))]
  obtain ⟨ρ', S4, e4, ⟨g, o5, o6, rfl, G⟩, p4⟩ := for_pen (enc := fun i : Nat => D.int ((i : Nat) : Int)) (G := gNm 5) (f := zdd) (T := T) (c := 2)
    (fun pre ρ => ∃ g o5 o6, ρ = [some (.obj 0), some (.dat (.tup cs)), some (.dat (.int ((c : Nat) : Int))), some (.dat (oD w)), some (.dat (gD g)), o5, o6] ∧ RG cs c w pre.length g)
    (List.range cs.length) [] (n + 1 + 1 + 1) [some (.obj 0), some (.dat (.tup cs)), some (.dat (.int ((c : Nat) : Int))), some (.dat (oD w)), some (.dat (.tup [])), none, none] S3 ⟨[], _, _, rfl, ⟨(fun p hp => nomatch hp), (fun p hp => nomatch hp), (fun _ p hp => nomatch hp), by simp, by simp⟩⟩ p3 (by simp; omega) (by
    rintro pre a post m' ρ S hpp ⟨g, o5, o6, rfl, G⟩ hp hm'
    obtain ⟨ha, ha2⟩ := zi_ (by simpa using hpp)
    obtain ⟨g', p6, S1, e, p, G'⟩ := rule_body hp hm' cs hc hl c w g a ha2 (by rw [ha]; exact G) o6
    exact ⟨_, _, S1, rfl, e, ⟨g', _, _, rfl, by rw [List.length_append, ← ha]; exact G'⟩, p⟩)
  simp only [List.nil_append, List.length_range] at G p4
  simp! only [e4, p4.take h.len]
  have gl := G.len
  exact ⟨⟨g, c, w⟩, S4, rfl, p4.mono (by omega), isRul_of hcl G hw, G, hw, ⟨⟨fun p hp => (G.lt p hp).1, by show g.length ≤ 64; omega⟩, hcl⟩, by show g.length < 64; omega⟩
theorem GR.of {cs : List D} {r : Rul} (hcl : r.c < cs.length) (G : RG cs r.c r.w cs.length r.g) (hw : ∀ v, r.w = some v → okV (cs.getD r.c .non) v) (hl : cs.length ≤ 4) : GR cs r :=
  ⟨isRul_of hcl G hw, G, hw, ⟨⟨fun p hp => (G.lt p hp).1, by have := G.len; omega⟩, hcl⟩, by have := G.len; omega⟩
theorem open_body (cells : List Int) (hl : cells.length = 12) (ns : List Int) (k : Nat) (v : Int) : ∃ cells' : List Int, cells'.length = 12 ∧
    zcu [some (.scr ns), some (.obj 0), some (.dat (.int (k : Nat))), some (.dat (.int v))] [some (cells.map .int)] = .nx [some (.scr ns), some (.obj 0), some (.dat (.int (k : Nat))), some (.dat (.int v))] [some (cells'.map .int)] := by
  unfold zcu
  have m : dMod (.int (k : Nat)) (.int 12) = some (.int (((k % 12 : Nat) : Int))) := by rw [zds (by decide)]; congr 1
  have hk : k % 12 < cells.length := by omega
  simp! only [m, zkb D.int 0 hk]
  have e : ixN (cells.map D.int).length ((k % 12 : Nat) : Int) = some (k % 12) := by
    unfold ixN
    rw [if_pos (by omega), if_pos (by simp; omega), Int.toNat_natCast]
  refine ⟨cells.set (k % 12) (cells.getD (k % 12) 0 + v), by simpa using hl, ?_⟩
  simp only [zhe, DL.zcs, List.getElem?_cons_zero, e, List.set_cons_zero, List.map_set]
theorem open_ok (ns : List Int) (hn : ns.length ≤ 63) : ∃ S, zdn [.scr ns] [] = .ok (.obj 0) S ∧ Pen 0 [] S := by
  unfold zdn zhz
  have c1 : cutL ns none (some 12) = ns.take 12 := cut_to ns 12
  have c2 : cutL ns (some 12) (some 63) = (ns.drop 12).take 51 := cut_mid ns 12 63 (by decide)
  simp! only [a_retN, a_list, c1, c2, enum_map]
  have loop : ∃ ρ' S', zgg (gTp (gCo (gNm 2) (gCo (gNm 3) gNo))) zcu ((((ns.drop 12).take 51).zipIdx.map fun p => (p.2, p.1)).map fun p => pairD (.int ((p.1 : Nat) : Int)) (.int p.2)) [some (.scr ns), some (.obj 0), none, none] [some ((ns.take 12).map .int)] = .nx ρ' S' ∧ ∃ o2 o3, ∃ cells : List Int, ρ' = [some (.scr ns), some (.obj 0), o2, o3] ∧ S' = [some (cells.map .int)] := by
    obtain ⟨ρ', S', e, o2, o3, cells, h1, h2, _⟩ := zd8 (enc := fun p : Nat × Int => pairD (.int ((p.1 : Nat) : Int)) (.int p.2)) (G := gTp (gCo (gNm 2) (gCo (gNm 3) gNo))) (f := zcu) (fun _ ρ S => ∃ o2 o3, ∃ cells : List Int, ρ = [some (.scr ns), some (.obj 0), o2, o3] ∧ S = [some (cells.map .int)] ∧ (ns.length > 12 → cells.length = 12)) (((ns.drop 12).take 51).zipIdx.map fun p => (p.2, p.1)) [] [some (.scr ns), some (.obj 0), none, none] [some ((ns.take 12).map .int)] ⟨_, _, ns.take 12, rfl, rfl, fun h => by simp; omega⟩ (by
      rintro pre a post ρ S hpp ⟨o2, o3, cells, rfl, rfl, hc⟩
      have hlen : ns.length > 12 := by
        have := congrArg List.length hpp
        simp at this
        omega
      obtain ⟨cells', l', e⟩ := open_body cells (hc hlen) ns a.1 a.2
      exact ⟨_, _, _, rfl, .inl e, ⟨_, _, cells', rfl, rfl, fun _ => l'⟩⟩)
    exact ⟨ρ', S', e, o2, o3, cells, h1, h2⟩
  obtain ⟨ρ', S', e, o2, o3, cells, rfl, rfl⟩ := loop
  simp! only [e, DL.zcs, a_retN]
  exact ⟨_, rfl, cells, 0, 0, rfl, Nat.le_refl _⟩
/-! ## cells of the store behind the pen -/
theorem ze4 {n k : Nat} {T S : zae} {xs : List D} (h : Pen n T S) (e : T[k]? = some (some xs)) : zcs S (.obj (k + 1)) = some (k + 1, xs) ∧ rd S (.obj (k + 1)) = some (.lst xs) ∧ ∀ y, Pen n (T.set k y) (S.set (k + 1) y) := by
  obtain ⟨c, a, u, rfl, ha⟩ := h
  refine ⟨by simp only [DL.zcs, List.getElem?_cons_succ, e], by simp only [rd, List.getElem?_cons_succ, e], fun y => ⟨c, a, u, rfl, ha⟩⟩
theorem at_0 {T : zae} (a : Option (List D)) : (T ++ [a])[T.length]? = some a := by simp
theorem zd5 {n : Nat} {T S : zae} (h : Pen n T S) (ds : Option (List D)) : Pen n (T ++ [ds]) (S ++ [ds]) := pen_snoc.mpr ⟨S, rfl, h⟩
theorem one_cell {n k : Nat} {T S : zae} (h : Pen n T S) (hn : n ≤ LIM) (xs : List D) (e : T[k]? = some (some xs)) (h0 : 1 ≤ xs.length) (h1 : xs.length ≤ 1000000) :
    ∃ x S1, zaz [.obj 0, .obj (k + 1)] S = .ok (.dat x) S1 ∧ Pen (n + 1) T S1 ∧ x ∈ xs := by
  unfold zaz zg_
  obtain ⟨r, S1, e1, p, hr⟩ := zdo h hn (xs.length : Nat) (by omega) (by omega)
  have hr : r < xs.length := by omega
  have hx : atI xs (r : Nat) = some (xs.getD r .non) := zd4 .non hr
  refine ⟨xs.getD r .non, S1, ?_, p, zc7 hr⟩
  have o1l : o1 dLen [.obj (k + 1)] S = .ok (.dat (.int (xs.length : Nat))) S := by simp only [o1, (ze4 h e).2.1, dLen_l, zg1]
  have o2x : o2 dIx (.obj (k + 1)) (.dat (.int (r : Nat))) S1 = .ok (.dat (xs.getD r .non)) S1 := by simp only [o2, (ze4 p e).2.1, a_rd, dIx_l, hx, zg1]
  simp! only [o1l, e1, o2x, p.take h.len]
theorem zjw (cs : List D) (d : D) (hc : ∀ c ∈ cs, ze_ c = true) (hl : cs.length ≤ 4) (S : zae) : zc3 [.dat (.tup cs), .dat d] S = bif zd_ cs d then .ok (.dat .non) S else .ex "InvalidRow" S := by
  unfold zc3 zg9
  simp! only [zhk cs d hc hl]
  cases zd_ cs d <;> simp! only []
end T18
set_option maxHeartbeats 400000
namespace T18
open PySem PySem.Spec PyProof.Rows L2 DL
/-! ## small data, by a measure: what can be shown and compared -/
structure Sm (n b : Nat) (d : D) : Prop where
  fit : d.fit n = true
  tiny : d.tiny = true
  bulk : d.py.bulk ≤ b
theorem Sm.mono {n m b c : Nat} {d : D} (h : Sm n b d) (h1 : n ≤ m) (h2 : b ≤ c) : Sm m c d := ⟨zia h1 h.fit, h.tiny, Nat.le_trans h.bulk h2⟩
theorem Sm.rep {n b : Nat} {d : D} (h : Sm n b d) (hn : n ≤ 60) (hb : b ≤ 300000) : zkw d = some (.str d.py.shown) := dRepr_of (canRepr_of h.fit hn h.tiny (Nat.le_trans h.bulk hb))
theorem Sm.lst {n b m : Nat} {xs : List D} (h : ∀ x ∈ xs, Sm n b x) (hm : xs.length * (b + 1) ≤ m) : Sm (n + 1) m (.lst xs) := by
  refine ⟨by simp only [D.fit]; exact fits_iff.mpr fun x hx => (h x hx).fit, by simp only [D.tiny]; exact tinys_iff.mpr fun x hx => (h x hx).tiny, ?_⟩
  have := zfv (xs := xs) (c := b) fun x hx => (h x hx).bulk
  simp only [D.py, PyData.bulk]
  omega
theorem Sm.tup {n b m : Nat} {xs : List D} (h : ∀ x ∈ xs, Sm n b x) (hm : xs.length * (b + 1) ≤ m) : Sm (n + 1) m (.tup xs) := by
  refine ⟨by simp only [D.fit]; exact fits_iff.mpr fun x hx => (h x hx).fit, by simp only [D.tiny]; exact tinys_iff.mpr fun x hx => (h x hx).tiny, ?_⟩
  have := zfv (xs := xs) (c := b) fun x hx => (h x hx).bulk
  simp only [D.py, PyData.bulk]
  omega
theorem Sm.non (n b : Nat) : Sm n b .non := ⟨by cases n <;> rfl, rfl, by simp [D.py, PyData.bulk]⟩
theorem Sm.bl (n b : Nat) (x : Bool) : Sm n b (.bl x) := ⟨by cases n <;> rfl, rfl, by simp [D.py, PyData.bulk]⟩
theorem Sm.int (n b : Nat) {i : Int} (h : i.natAbs < 10 ^ 40) : Sm n b (.int i) := ⟨by cases n <;> rfl, by simp only [D.tiny, decide_eq_true_eq]; exact h, by simp [D.py, PyData.bulk]⟩
theorem Sm.nat (n b : Nat) {i : Nat} (h : i ≤ 1000000) : Sm n b (.int (i : Nat)) := ⟨by cases n <;> rfl, zkv h, by simp [D.py, PyData.bulk]⟩
theorem Sm.opt (n b : Nat) {o : Option Int} (h : ∀ v, o = some v → (D.int v).tiny = true) : Sm n b (oD o) := by
  cases o with
  | none => exact .non n b
  | some v => exact ⟨by cases n <;> rfl, h v rfl, by simp [DL.D.py, PyData.bulk, oD]⟩
theorem Sm.rul {cs : List D} {r : Rul} (hr : GR cs r) (hl : cs.length ≤ 4) : Sm 3 120 (rulD r) := by
  have hg : r.g.length ≤ 4 := Nat.le_trans hr.G.len hl
  refine Sm.tup (n := 2) (b := 30) (fun x hx => ?_) (by simp)
  simp only [List.mem_cons, List.not_mem_nil, or_false] at hx
  rcases hx with rfl | rfl | rfl
  · refine Sm.tup (n := 1) (b := 4) (fun x hx => ?_) (by simp; omega)
    obtain ⟨e, he, rfl⟩ := List.mem_map.mp hx
    refine Sm.tup (n := 0) (b := 0) (fun x hx => ?_) (by simp)
    simp only [List.mem_cons, List.not_mem_nil, or_false] at hx
    rcases hx with rfl | rfl
    · exact .nat _ _ (by have := (hr.G.lt e he).1; omega)
    · exact .opt _ _ fun v hv => (hr.G.val e he v hv).tiny
  · exact .nat _ _ (by have := hr.ok.c; omega)
  · exact .opt _ _ fun v hv => (hr.hw v hv).tiny
theorem Sm.row {r : Row} (h : ∀ v ∈ r, (D.int v).tiny = true) (hl : r.length ≤ 4) : Sm 1 4 (rowD r) := by
  refine Sm.tup (n := 0) (b := 0) (fun x hx => ?_) (by simp; omega)
  obtain ⟨v, hv, rfl⟩ := List.mem_map.mp hx
  exact ⟨rfl, h v hv, by simp [DL.D.py, PyData.bulk]⟩
theorem Sm.col {c : D} (h : ze_ c = true) (ht : c.tiny = true) : Sm 1 4 c := by
  rcases zez h with rfl | ⟨ns, rfl, l0, l1, hns, _⟩
  · exact .non _ _
  · refine Sm.tup (n := 0) (b := 0) (fun x hx => ?_) (by simp; omega)
    simp only [D.tiny] at ht
    have := tinys_iff.mp ht x hx
    obtain ⟨v, hv, rfl⟩ := List.mem_map.mp hx
    exact ⟨rfl, this, by simp [DL.D.py, PyData.bulk]⟩
theorem Sm.cols {cs : List D} (h : ∀ c ∈ cs, okC c) (hl : cs.length ≤ 4) : Sm 2 25 (.tup cs) := Sm.tup (n := 1) (b := 4) (fun x hx => .col (h x hx).1 (h x hx).2.1) (by omega)
/-! ## wrong values -/
def lite (d : D) : Prop := d.fit 2 = true ∧ d.tiny = true ∧ d.py.bulk ≤ 10
def Off (c d : D) : Prop := zb7 c d = false ∧ lite d
theorem p10_9 : dPow (.int 10) (.int 9) = some (.int 1000000000) := ziv (i := 10) (j := 9) (by decide) (by decide)
theorem rep_l (xs : List D) (k : Nat) (hk : k ≤ 1000) (hl : xs.length * k ≤ 16777216) : zb6 (.lst xs) (.int (k : Nat)) = some (.lst (List.replicate k xs).flatten) := by
  have : ((k : Int) ≤ 1000 ∧ -1000 ≤ (k : Int) ∧ xs.length * ((k : Int)).toNat ≤ sizeLine) := ⟨by omega, by omega, by rw [Int.toNat_natCast]; exact hl⟩
  simp only [zb6, dMul]
  rw [if_pos this, Int.toNat_natCast]
theorem rep_2 (xs : List D) (hl : xs.length ≤ 1000) : zb6 (.lst xs) (.int 2) = some (.lst (xs ++ xs)) := by
  rw [show (2 : Int) = ((2 : Nat) : Int) from rfl, rep_l xs 2 (by decide) (by omega)]
  simp [List.replicate_succ]
theorem off_ok {n : Nat} {T S : zae} (h : Pen n T S) (hn : n ≤ LIM) (c : D) (hc : okC c) : ∃ (d : D) (S1 : zae), zcc [.obj 0, .dat c] S = .ok (.dat d) S1 ∧ Pen (n + 1) T S1 ∧ Off c d := by
  unfold zcc zi7
  have base : ∀ x : D, (x = .int (-1) ∨ x = .non ∨ x = .bl true ∨ x = .str "0" ∨ x = .tup [.int 0] ∨ x = .lst [.int 1]) → Off c x := by
    rintro x (rfl | rfl | rfl | rfl | rfl | rfl) <;> exact ⟨by simp [zb7, zgh], by decide +kernel, by decide +kernel, by decide +kernel⟩
  rcases zez hc.1 with rfl | ⟨ns, rfl, l0, l1, hns, _⟩
  · simp! only [D.isN]
    obtain ⟨x, S1, e, p, hx⟩ := zf7 h hn [D.int (-1), D.non, D.bl true, D.str "0", D.tup [D.int 0], D.lst [D.int 1]] (by simp) (by simp) _ (.inl rfl)
    simp! only [e, p.take h.len]
    exact ⟨x, S1, rfl, p, base x (by simpa using hx)⟩
  · simp! only [D.isN, p10_9]
    rw [show [D.int 0, D.int 1, D.int 2, D.int 3, D.int 9, D.int 1000000000] = [(0 : Int), 1, 2, 3, 9, 1000000000].map D.int from rfl]
    rw [zey (p := fun v : Int => !decide (v ∈ ns)) (q := D.int) [(0 : Int), 1, 2, 3, 9, 1000000000] ?h]
    case h =>
      intro v hv
      refine ⟨_, rfl, ?_, fun _ => by simp! only []⟩
      have i1 := dNin_t (n := 0) (m := 0) (a := .int v) (xs := ns.map .int) rfl (zes 0 ns)
      rw [zg3] at i1
      simp! only [i1]
    generalize hf : [(0 : Int), 1, 2, 3, 9, 1000000000].filter (fun v => !decide (v ∈ ns)) = vs
    have lv : vs.length ≤ 6 := by rw [← hf]; exact List.length_filter_le _ _
    have hv : ∀ v ∈ vs, v ∉ ns ∧ (v = 0 ∨ v = 1 ∨ v = 2 ∨ v = 3 ∨ v = 9 ∨ v = 1000000000) := by
      intro v m
      rw [← hf, List.mem_filter] at m
      simp at m
      exact ⟨m.2, m.1⟩
    have r2 := rep_2 (vs.map D.int) (by rw [List.length_map]; omega)
    simp! only [r2]
    rw [zj7, zdj (by simp only [List.length_cons, List.length_nil, List.length_append, List.length_map]; omega)]
    simp! only []
    obtain ⟨x, S1, e, p, hx⟩ := zf7 h hn ([D.int (-1), D.non, D.bl true, D.str "0", D.tup [D.int 0], D.lst [D.int 1]] ++ (vs.map D.int ++ vs.map D.int)) (by simp) (by simp only [List.length_append, List.length_cons, List.length_nil, List.length_map]; omega) _ (.inl rfl)
    simp! only [] at e
    simp! only [e, p.take h.len]
    refine ⟨x, S1, rfl, p, ?_⟩
    rcases List.mem_append.mp hx with hx | hx
    · exact base x (by simpa using hx)
    · have hx : x ∈ vs.map D.int := by rcases List.mem_append.mp hx with h | h <;> exact h
      obtain ⟨v, m, rfl⟩ := List.mem_map.mp hx
      obtain ⟨h1, h2⟩ := hv v m
      refine ⟨by simp [zb7, D.isN, inC, zg3, h1], by cases v <;> rfl, ?_, by simp [D.py, PyData.bulk]⟩
      rcases h2 with rfl | rfl | rfl | rfl | rfl | rfl <;> decide
/-! ## wrong rules -/
theorem eD_bulk (p : Ent) : (eD p).py.bulk ≤ 8 := by
  obtain ⟨a, o⟩ := p
  cases o <;> simp [eD, oD, D.py, D.pys, PyData.bulk, PyData.bulkAll]
theorem gD_bulk (g : Giv) (h : g.length ≤ 6) : (gD g).py.bulk ≤ 60 := by
  have := zfv (xs := g.map eD) (c := 8) fun x hx => by obtain ⟨p, _, rfl⟩ := List.mem_map.mp hx; exact eD_bulk p
  simp only [List.length_map] at this
  simp only [gD, D.py, PyData.bulk]
  omega
theorem oD_tiny {o : Option Int} {c : D} (h : ∀ v, o = some v → okV c v) : (oD o).tiny = true := by
  cases o with
  | none => rfl
  | some v => exact (h v rfl).tiny
theorem eD_tiny {p : Ent} {cs : List D} (hk : p.1 < 100) (h : ∀ v, p.2 = some v → okV (cs.getD p.1 .non) v) : (eD p).tiny = true := by
  simp only [eD, D.tiny, D.tinys, Bool.and_true, Bool.and_eq_true]
  exact ⟨zkv (by omega), oD_tiny h⟩
theorem GR.gt {cs : List D} {r : Rul} (hr : GR cs r) (hl : cs.length ≤ 4) : D.tinys (r.g.map eD) = true ∧ (oD r.w).tiny = true ∧ r.g.length ≤ 4 ∧ r.c < 4 := by
  refine ⟨tinys_iff.mpr fun x hx => ?_, oD_tiny hr.hw, by have := hr.G.len; omega, by have := hr.ok.c; omega⟩
  obtain ⟨p, hp, rfl⟩ := List.mem_map.mp hx
  exact eD_tiny (by have := (hr.G.lt p hp).1; omega) (hr.G.val p hp)
structure Bad (cs : List D) (d : D) : Prop where
  no : zcp cs d = false
  sh : zbe d
  fit : d.fit 6 = true
  tin : d.tiny = true
  blk : d.py.bulk ≤ 1000
structure Off2 (c d : D) : Prop where
  no : zb7 c d = false
  nn : d.isN = false
  lt : lite d
theorem Off.two {c d : D} (h : Off c d) : Off2 c (bif d.isN then .int (-1) else d) := by
  cases hd : d.isN
  · exact ⟨h.1, hd, h.2⟩
  · exact ⟨by simp [zb7, zgh], rfl, show lite (.int (-1)) from ⟨rfl, by decide +kernel, by decide +kernel⟩⟩
theorem notGiv {cs xs : List D} {x : D} (hx : x ∈ xs) (h : zf0 cs x = false) : zgo cs (.tup xs) = false := by
  simp only [zgo, Bool.and_eq_false_iff]
  left
  rw [List.all_eq_false]
  exact ⟨x, hx, by simp [h]⟩
theorem zj4 {cs : List D} {g c w : D} (h : zgo cs g = false) : zcp cs (.tup [g, c, w]) = false := by simp only [zcp, h, Bool.false_and]
theorem notCol {cs : List D} {g c w : D} (h : zfc c 0 (cs.length - 1) = false) : zcp cs (.tup [g, c, w]) = false := by simp only [zcp, h, Bool.false_and, Bool.and_false]
theorem bad_plain (cs : List D) (hl : cs.length ≤ 4) (over : Nat) (ho : cs.length ≤ over) (ho2 : over ≤ 100) (x : D)
    (hx : x ∈ [D.non, .lst [], .str "x", .int 7, .bl true, .tup [.non], .tup [.tup [], .int (over : Nat), .non], .tup [.tup [], .int (-1), .non], .tup [.tup [], .bl true, .non]] ++
      [.tup [.tup [], .int 0], .tup [.lst [], .int 0, .non], .tup [.tup [.tup [.int (over : Nat), .int 0]], .int 0, .non], .tup [.tup [.tup [.int 0]], .int 0, .non]] ++
      [.tup [.tup [.non], .int 0, .non], .tup [.tup [], .int 0, .str "0"], .tup [.tup [.tup [.int 0, .non]], .int 0, .non]]) : Bad cs x := by
  have ob : zfc (.int (over : Nat)) 0 (cs.length - 1) = false := by
    simp only [zfc, Bool.and_eq_false_iff, decide_eq_false_iff_not]
    right; omega
  have ot := nn_t (n := over) (by omega)
  simp only [List.cons_append, List.nil_append, List.mem_cons, List.not_mem_nil, or_false] at hx
  rcases hx with rfl | rfl | rfl | rfl | rfl | rfl | rfl | rfl | rfl | rfl | rfl | rfl | rfl | rfl | rfl | rfl
  · exact ⟨rfl, trivial, rfl, rfl, by decide⟩
  · exact ⟨rfl, trivial, rfl, rfl, by decide⟩
  · exact ⟨rfl, trivial, by decide +kernel, rfl, by decide +kernel⟩
  · exact ⟨rfl, trivial, rfl, by decide +kernel, by decide⟩
  · exact ⟨rfl, trivial, rfl, rfl, by decide⟩
  · exact ⟨rfl, by simp [zbe, zap], rfl, rfl, by decide⟩
  · exact ⟨notCol ob, by simp [zbe, zap], rfl, by simp only [D.tiny, D.tinys, ot, Bool.and_true], by simp [D.py, D.pys, PyData.bulk, PyData.bulkAll]⟩
  · exact ⟨notCol (by simp [zfc]), by simp [zbe, zap], rfl, by decide +kernel, by decide⟩
  · exact ⟨notCol rfl, by simp [zbe, zap], rfl, by decide +kernel, by decide⟩
  · exact ⟨rfl, by simp [zbe, zap], rfl, by decide +kernel, by decide⟩
  · exact ⟨rfl, by simp [zbe, zap], rfl, by decide +kernel, by decide⟩
  · exact ⟨zj4 (notGiv (List.mem_cons_self ..) (by simp only [zf0, ob, Bool.false_and])), by simp [zbe, zap], rfl, by simp only [D.tiny, D.tinys, ot, Bool.and_true, Bool.true_and]; decide +kernel, by simp [D.py, D.pys, PyData.bulk, PyData.bulkAll]⟩
  · exact ⟨zj4 (notGiv (List.mem_cons_self ..) rfl), by simp [zbe, zap], rfl, by decide +kernel, by decide⟩
  · exact ⟨zj4 (notGiv (List.mem_cons_self ..) rfl), by simp [zbe, zap], rfl, by decide +kernel, by decide⟩
  · exact ⟨by simp [zcp, zb7, zgh, D.isN], by simp [zbe, zap], by decide +kernel, by decide +kernel, by decide +kernel⟩
  · exact ⟨by simp [zcp, inC, zap, fstI, dInB, dEqB, D.py, PyData.eqv], by simp [zbe, zap], rfl, by decide +kernel, by decide⟩
theorem bad_list (cs : List D) (hl : cs.length ≤ 4) (r : Rul) (hr : GR cs r) : Bad cs (.lst [gD r.g, .int (r.c : Nat), oD r.w]) := by
  obtain ⟨t1, t2, t3, t4⟩ := hr.gt hl
  refine ⟨rfl, trivial, by simp [D.fit, D.fits, gD_fit, oD_fit], ?_, ?_⟩
  · simp only [D.tiny, D.tinys, gD, t1, t2, nn_t (show r.c ≤ 1000000 by omega), Bool.and_self, Bool.and_true, Bool.true_and]
  · have := gD_bulk r.g (by omega)
    cases hw : r.w <;> simp [D.py, D.pys, PyData.bulk, PyData.bulkAll, oD] <;> omega
theorem bad_want (cs : List D) (hl : cs.length ≤ 4) (r : Rul) (hr : GR cs r) (d : D) (hd : Off2 (cs.getD r.c .non) d) : Bad cs (.tup [gD r.g, .int (r.c : Nat), d]) := by
  obtain ⟨t1, t2, t3, t4⟩ := hr.gt hl
  obtain ⟨f, t, b⟩ := hd.lt
  refine ⟨by simp only [zcp, zks, Int.toNat_natCast, hd.nn, hd.no, Bool.false_or, Bool.false_and, Bool.and_false], ?_, by simp [D.fit, D.fits, gD_fit, zia (show 2 ≤ 5 by decide) f], ?_, ?_⟩
  · simp only [zbe, gD, zap, List.length_map]; omega
  · simp only [D.tiny, D.tinys, gD, t1, t, nn_t (show r.c ≤ 1000000 by omega), Bool.and_self, Bool.and_true, Bool.true_and]
  · have := gD_bulk r.g (by omega)
    simp [D.py, D.pys, PyData.bulk, PyData.bulkAll]; omega
theorem bad_entry (cs : List D) (hl : cs.length ≤ 4) (r : Rul) (hr : GR cs r) (k : Nat) (hk : k < cs.length) (d : D) (hd : Off2 (cs.getD k .non) d) :
    Bad cs (.tup [.tup ((r.g.filter fun p => decide (p.1 < k)).map eD ++ [.tup [.int (k : Nat), d]] ++ (r.g.filter fun p => decide (p.1 > k)).map eD), .int (r.c : Nat), oD r.w]) := by
  obtain ⟨t1, t2, t3, t4⟩ := hr.gt hl
  obtain ⟨f, t, b⟩ := hd.lt
  have l1 := List.length_filter_le (fun p : Ent => decide (p.1 < k)) r.g
  have l2 := List.length_filter_le (fun p : Ent => decide (p.1 > k)) r.g
  refine ⟨zj4 (notGiv (x := .tup [.int (k : Nat), d]) (by simp) ?_), ?_, ?_, ?_, ?_⟩
  · simp only [zf0, zks, Int.toNat_natCast, hd.nn, hd.no, Bool.or_self, Bool.and_false]
  · simp only [zbe, zap, List.length_append, List.length_map, List.length_cons, List.length_nil]; omega
  · simp only [D.fit, D.fits, oD_fit, Bool.and_true]
    refine fits_iff.mpr fun x hx => ?_
    rcases List.mem_append.mp hx with hx | hx
    · rcases List.mem_append.mp hx with hx | hx
      · obtain ⟨p, _, rfl⟩ := List.mem_map.mp hx; exact eD_fit 3 p
      · simp at hx; subst hx; simp [D.fit, D.fits, zia (show 2 ≤ 3 by decide) f]
    · obtain ⟨p, _, rfl⟩ := List.mem_map.mp hx; exact eD_fit 3 p
  · simp only [D.tiny, D.tinys, t2, nn_t (show r.c ≤ 1000000 by omega), Bool.and_true]
    refine tinys_iff.mpr fun x hx => ?_
    have hh := tinys_iff.mp t1
    rcases List.mem_append.mp hx with hx | hx
    · rcases List.mem_append.mp hx with hx | hx
      · obtain ⟨p, hp, rfl⟩ := List.mem_map.mp hx; exact hh _ (List.mem_map_of_mem (List.mem_filter.mp hp).1)
      · simp at hx; subst hx; simp only [D.tiny, D.tinys, t, Bool.and_true, nn_t (show k ≤ 1000000 by omega)]
    · obtain ⟨p, hp, rfl⟩ := List.mem_map.mp hx; exact hh _ (List.mem_map_of_mem (List.mem_filter.mp hp).1)
  · have := zfv (xs := (r.g.filter fun p => decide (p.1 < k)).map eD ++ [.tup [.int (k : Nat), d]] ++ (r.g.filter fun p => decide (p.1 > k)).map eD) (c := 20) fun x hx => by
      rcases List.mem_append.mp hx with hx | hx
      · rcases List.mem_append.mp hx with hx | hx
        · obtain ⟨p, _, rfl⟩ := List.mem_map.mp hx; have := eD_bulk p; omega
        · simp at hx; subst hx; simp [D.py, D.pys, PyData.bulk, PyData.bulkAll]; omega
      · obtain ⟨p, _, rfl⟩ := List.mem_map.mp hx; have := eD_bulk p; omega
    simp only [List.length_append, List.length_map, List.length_cons, List.length_nil] at this
    cases hw : r.w <;> simp only [D.py, D.pys, PyData.bulk, PyData.bulkAll, oD] <;> omega
theorem bad_blank (cs : List D) (hl : cs.length ≤ 4) (k c : Nat) (hk : k < cs.length) (hc : c < cs.length) (v : Int) (hv : okV (cs.getD c .non) v) : Bad cs (.tup [.tup [.tup [.int (k : Nat), .non]], .int (c : Nat), .int v]) := by
  refine ⟨by simp [zcp, zap, D.isN], by simp [zbe, zap], rfl, ?_, by simp [D.py, D.pys, PyData.bulk, PyData.bulkAll]⟩
  simp only [D.tiny, D.tinys, nn_t (show c ≤ 1000000 by omega), nn_t (show k ≤ 1000000 by omega), Bool.and_true, Bool.true_and]
  exact hv.t
theorem bad_twice (cs : List D) (hl : cs.length ≤ 4) (k c : Nat) (hk : k < cs.length) (hc : c < cs.length) : Bad cs (.tup [.tup [.tup [.int (k : Nat), .non], .tup [.int (k : Nat), .non]], .int (c : Nat), .non]) := by
  refine ⟨zj4 ?_, by simp [zbe, zap], rfl, ?_, by simp [D.py, D.pys, PyData.bulk, PyData.bulkAll]⟩
  · simp only [zgo, List.map_cons, List.map_nil, fstI, Bool.and_eq_false_iff, decide_eq_false_iff_not]
    right
    intro h
    have := congrArg List.length h
    simp [sset, insS] at this
  · simp only [D.tiny, D.tinys, nn_t (show c ≤ 1000000 by omega), nn_t (show k ≤ 1000000 by omega), Bool.and_true, Bool.true_and]
theorem bad_three (cs : List D) : Bad cs (.tup [.tup [.tup [.int 1, .non], .tup [.int 0, .non]], .int 2, .non]) := by
  refine ⟨zj4 ?_, by simp [zbe, zap], rfl, by decide +kernel, by decide⟩
  simp only [zgo, List.map_cons, List.map_nil, fstI, Bool.and_eq_false_iff, decide_eq_false_iff_not]
  right
  decide
end T18
set_option maxHeartbeats 400000
namespace T18
open PySem PySem.Spec PyProof.Rows L2 DL
abbrev frB (cs : List D) (over : Nat) (r : Rul) (x4 : DV) (o5 o6 o10 o11 : Option DV) : zar :=
  [some (.obj 0), some (.dat (.tup cs)), some (.dat (.int (cs.length : Nat))), some (.dat (.int (over : Nat))), some x4, o5, o6, some (.dat (gD r.g)), some (.dat (.int (r.c : Nat))), some (.dat (oD r.w)), o10, o11, none]
def tl_bad : SFn := (sSeq (sSet 10 (xN (o1 zfl) (zaa (xN1 (lLc (lIt (xVar 7)) [12] (gNm 12) (tBl (x2 (o2 dLt) (x2 (o2 dIx) (xVar 12) (xC (.int 0))) (xVar 6))) (xVar 12))) aNil))) (sSeq (sSet 11 (xN (o1 zfl) (zaa (xN1 (lLc (lIt (xVar 7)) [12] (gNm 12) (tBl (x2 (o2 dGt) (x2 (o2 dIx) (xVar 12) (xC (.int 0))) (xVar 6))) (xVar 12))) aNil))) (sSeq (sNew 4 (lCat (xVar 4) (x2 (o2 zb6) (xLst (zaa (xTup (zaa (x2 (o2 dAdd) (x2 (o2 dAdd) (xVar 10) (xTup (zaa (xTup (zaa (xVar 6) (zaa (xVar 5) aNil))) aNil))) (xVar 11)) (zaa (xVar 8) (zaa (xVar 9) aNil)))) aNil)) (xC (.int 2))))) (sSeq (sApp (xVar 4) (xTup (zaa (xTup (zaa (xTup (zaa (xVar 6) (zaa (xC .non) aNil))) aNil)) (zaa (xVar 8) (zaa (xN zbv (zaa (xVar 0) (zaa (x2 (o2 dIx) (xVar 1) (xVar 8)) aNil))) aNil))))) (sApp (xVar 4) (xTup (zaa (xTup (zaa (xTup (zaa (xVar 6) (zaa (xC .non) aNil))) (zaa (xTup (zaa (xVar 6) (zaa (xC .non) aNil))) aNil))) (zaa (xVar 8) (zaa (xC .non) aNil)))))))))
theorem tl_bad_eq : zbj = (sSeq (sSet 5 (xN zcc (zaa (xVar 0) (zaa (x2 (o2 dIx) (xVar 1) (xVar 6)) aNil)))) (sIf (tBl (x2 (o2 dNe) (xVar 6) (xVar 8))) (sSeq (sSet 5 (xIf (tBl (x2 (o2 dIsN) (xVar 5) (xC .non))) (xNeg (xC (.int 1))) (xVar 5))) tl_bad) sNil)) := rfl
theorem bad_body {n : Nat} {T S0 : zae} (h : Pen n T S0) (hn : n + 2 ≤ LIM) (cs : List D) (hc : ∀ c ∈ cs, okC c) (hl : cs.length ≤ 4) (r : Rul) (hr : GR cs r) (over k : Nat) (hk : k < cs.length) (ds : List D) (hd : ∀ x ∈ ds, Bad cs x) (hb : ds.length ≤ 1000) (o5 o10 o11 : Option DV) :
    ∃ (U : zae) (ds' : List D) (S1 : zae) (p5 p10 p11 : Option DV), zbj (frB cs over r (.obj S0.length) o5 (some (.dat (.int (k : Nat)))) o10 o11) (S0 ++ [some ds]) = .nx (frB cs over r (.obj S1.length) p5 (some (.dat (.int (k : Nat)))) p10 p11) (S1 ++ [some ds']) ∧
      Pen (n + 2) (T ++ U) S1 ∧ (∀ x ∈ ds', Bad cs x) ∧ ds.length ≤ ds'.length ∧ ds'.length ≤ ds.length + 4 := by
  rw [tl_bad_eq]
  obtain ⟨d, S1, e1, p1, hoff⟩ := off_ok ((pen_snoc (ds := some ds)).mpr ⟨S0, rfl, h⟩) (by omega) (cs.getD k .non) (hc _ (zc7 hk))
  obtain ⟨S1, rfl, p1, l1⟩ := zfj p1
  have l0 := h.len
  have e0 : S0.length = S1.length := by omega
  have lg : szB r.g.length = true := zdj (by have := hr.sh; omega)
  simp! only [zd4 D.non hk, e1, dNe_ii]
  cases h1 : (((k : Nat) : Int) == ((r.c : Nat) : Int))
  · have itg : ∀ S, zhr (.dat (gD r.g)) S = .ok (r.g.map eD) S := fun _ => rfl
    have off2 := hoff.two
    have lf1 := List.length_filter_le (fun p : Ent => decide (p.1 < k)) r.g
    have lf2 := List.length_filter_le (fun p : Ent => decide (p.1 > k)) r.g
    have lr : r.g.length ≤ 4 := by have := hr.G.len; omega
    have main : ∀ q : D, q = (bif d.isN then .int (-1) else d) → ∃ (U : zae) (ds' : List D) (S1' : zae) (p5 p10 p11 : Option DV), tl_bad (frB cs over r (.obj S0.length) (some (.dat q)) (some (.dat (.int (k : Nat)))) o10 o11) (S1 ++ [some ds]) = .nx (frB cs over r (.obj S1'.length) p5 (some (.dat (.int (k : Nat)))) p10 p11) (S1' ++ [some ds']) ∧
      Pen (n + 2) (T ++ U) S1' ∧ (∀ x ∈ ds', Bad cs x) ∧ ds.length ≤ ds'.length ∧ ds'.length ≤ ds.length + 4 := by
      intro q hq
      unfold tl_bad
      have bd := bad_entry cs hl r hr k hk q (hq ▸ off2)
      simp! only [itg, List.length_map, lg]
      rw [zey (p := fun p : Ent => decide (p.1 < k)) (q := eD) r.g ?h]
      case h =>
        intro p hp
        refine ⟨_, rfl, ?_, fun _ => by simp! only []⟩
        simp! only [eD, atI_0]
        congr 1
        rw [Bool.eq_iff_iff]; simp only [decide_eq_true_eq]; omega
      simp! only [itg, List.length_map, lg]
      rw [zey (p := fun p : Ent => decide (p.1 > k)) (q := eD) r.g ?h]
      case h =>
        intro p hp
        refine ⟨_, rfl, ?_, fun _ => by simp! only []⟩
        simp! only [eD, atI_0]
        congr 1
        rw [Bool.eq_iff_iff]; simp only [decide_eq_true_eq]; omega
      have a1 : dAdd (.tup ((r.g.filter fun p => decide (p.1 < k)).map eD)) (.tup [.tup [.int (k : Nat), q]]) = some (.tup ((r.g.filter fun p => decide (p.1 < k)).map eD ++ [.tup [.int (k : Nat), q]])) := by
        rw [zj0, zdj (by simp only [List.length_map, List.length_cons, List.length_nil]; omega)]; rfl
      have a2 : dAdd (.tup ((r.g.filter fun p => decide (p.1 < k)).map eD ++ [.tup [.int (k : Nat), q]])) (.tup ((r.g.filter fun p => decide (p.1 > k)).map eD)) = some (.tup ((r.g.filter fun p => decide (p.1 < k)).map eD ++ [.tup [.int (k : Nat), q]] ++ (r.g.filter fun p => decide (p.1 > k)).map eD)) := by
        rw [zj0, zdj (by simp only [List.length_append, List.length_map, List.length_cons, List.length_nil]; omega)]; rfl
      simp! only [a_cat, a1, a2, rep_2 _ (show ([D.tup [.tup ((r.g.filter fun p => decide (p.1 < k)).map eD ++ [.tup [.int (k : Nat), q]] ++ (r.g.filter fun p => decide (p.1 > k)).map eD), .int (r.c : Nat), oD r.w]] : List D).length ≤ 1000 by simp)]
      rw [e0, zh_, zdj (by simp only [List.length_append, List.length_cons, List.length_nil]; omega)]
      simp! only []
      generalize hds2 : ds ++ [_, _] = ds2
      have b2 : (∀ x ∈ ds2, Bad cs x) ∧ ds2.length = ds.length + 2 := by
        subst hds2
        refine ⟨fun x hx => ?_, by simp⟩
        rcases List.mem_append.mp hx with hx | hx
        · exact hd x hx
        · simp only [List.mem_cons, List.not_mem_nil, or_false, or_self] at hx; rw [hx]; exact bd
      obtain ⟨v, S2, e2, p2, hv⟩ := zid (pen_snoc.mpr ⟨S1 ++ [some ds], rfl, pen_snoc.mpr ⟨S1, rfl, p1⟩⟩ : Pen _ ((T ++ [some ds]) ++ [some ds2]) _) (by omega) (cs.getD r.c .non) (hc _ (zc7 hr.ok.c))
      obtain ⟨S2, rfl, p2, l2⟩ := zfj p2
      rw [app_pen (S0 := S1 ++ [some ds]) (S1 := S2) (d := .tup [.tup [.tup [.int (k : Nat), .non]], .int (r.c : Nat), .int v]) rfl (by simp! only [zd4 D.non hr.ok.c, e2, Option.map_some]) (by simp at l2 ⊢; omega) (by rw [b2.2]; unfold sizeLine; omega)]
      have l3 : S2.length = (S1 ++ [some ds]).length := by simp at l2 ⊢; omega
      simp! only [← l3]
      rw [app_pen (S0 := S2) (S1 := S2) (d := .tup [.tup [.tup [.int (k : Nat), .non], .tup [.int (k : Nat), .non]], .int (r.c : Nat), .non]) rfl (by simp! only [Option.map_some]) rfl (by rw [List.length_append, b2.2]; unfold sizeLine; simp only [List.length_cons, List.length_nil]; omega)]
      refine ⟨[some ds], _, S2, _, _, _, rfl, p2.mono (by omega), fun x hx => ?_, by simp only [List.length_append, b2.2, List.length_cons, List.length_nil]; omega⟩
      simp only [List.mem_append, List.mem_cons, List.not_mem_nil, or_false] at hx
      rcases hx with (hx | rfl) | rfl
      · exact b2.1 x hx
      · exact bad_blank cs hl k r.c hk hr.ok.c v hv
      · exact bad_twice cs hl k r.c hk hr.ok.c
    cases hdn : d.isN <;> simp! only [hdn]
    · exact main _ (by rw [hdn]; rfl)
    · exact main _ (by rw [hdn]; rfl)
  · simp! only []
    rw [e0]
    exact ⟨[], ds, S1, _, _, _, rfl, by rw [List.append_nil]; exact p1.mono (by omega), hd, by omega⟩
theorem dEq_len (n : Nat) (k : Int) : dEq (.int (n : Nat)) (.int k) = some (.bl (((n : Nat) : Int) == k)) := zah _ _
def tl_bad2 : SFn := (sSeq (sApp (xVar 4) (xN (o1 zjg) (zaa (xTup (zaa (xVar 7) (zaa (xVar 8) (zaa (xVar 9) aNil)))) aNil))) (sSeq (sSet 5 (xN zcc (zaa (xVar 0) (zaa (x2 (o2 dIx) (xVar 1) (xVar 8)) aNil)))) (sSeq (sNew 4 (lCat (xVar 4) (x2 (o2 zb6) (xLst (zaa (xTup (zaa (xVar 7) (zaa (xVar 8) (zaa (xIf (tBl (x2 (o2 zkc) (xVar 5) (xC .non))) (xVar 5) (xNeg (xC (.int 1)))) aNil)))) aNil)) (xC (.int 4))))) (sSeq (sFor (lRg1 (zaa (xVar 2) aNil)) (gNm 6) zbj) (sSeq (sIf (tBl (x2 (o2 dEq) (xVar 2) (xC (.int 3)))) (sNew 4 (lCat (xVar 4) (x2 (o2 zb6) (xLst (zaa (xTup (zaa (xTup (zaa (xTup (zaa (xC (.int 1)) (zaa (xC .non) aNil))) (zaa (xTup (zaa (xC (.int 0)) (zaa (xC .non) aNil))) aNil))) (zaa (xC (.int 2)) (zaa (xC .non) aNil)))) aNil)) (xC (.int 3))))) sNil) (sRet (xN zaz (zaa (xVar 0) (zaa (xVar 4) aNil)))))))))
theorem tl_bad2_eq : zf_ = (sSeq (sSet 2 (xN (o1 dLen) (zaa (xVar 1) aNil))) (sSeq (sSet 3 (x2 (o2 dAdd) (xVar 2) (xN zay (zaa (xVar 0) (zaa (xC (.int 3)) aNil))))) (sSeq (sTg (gTp (gCo (gNm 7) (gCo (gNm 8) (gCo (gNm 9) gNo)))) (xN zb5 (zaa (xVar 0) (zaa (xVar 1) aNil)))) (sSeq (sNew 4 (lLst (zaa (xC .non) (zaa (xLst aNil) (zaa (xC (.str "x")) (zaa (xC (.int 7)) (zaa (xC (.bl true)) (zaa (xTup (zaa (xC .non) aNil)) (zaa (xTup (zaa (xTup aNil) (zaa (xVar 3) (zaa (xC .non) aNil)))) (zaa (xTup (zaa (xTup aNil) (zaa (xNeg (xC (.int 1))) (zaa (xC .non) aNil)))) (zaa (xTup (zaa (xTup aNil) (zaa (xC (.bl true)) (zaa (xC .non) aNil)))) aNil))))))))))) (sSeq (sNew 4 (lCat (xVar 4) (xLst (zaa (xTup (zaa (xTup aNil) (zaa (xC (.int 0)) aNil))) (zaa (xTup (zaa (xLst aNil) (zaa (xC (.int 0)) (zaa (xC .non) aNil)))) (zaa (xTup (zaa (xTup (zaa (xTup (zaa (xVar 3) (zaa (xC (.int 0)) aNil))) aNil)) (zaa (xC (.int 0)) (zaa (xC .non) aNil)))) (zaa (xTup (zaa (xTup (zaa (xTup (zaa (xC (.int 0)) aNil)) aNil)) (zaa (xC (.int 0)) (zaa (xC .non) aNil)))) aNil))))))) (sSeq (sNew 4 (lCat (xVar 4) (xLst (zaa (xTup (zaa (xTup (zaa (xC .non) aNil)) (zaa (xC (.int 0)) (zaa (xC .non) aNil)))) (zaa (xTup (zaa (xTup aNil) (zaa (xC (.int 0)) (zaa (xC (.str "0")) aNil)))) (zaa (xTup (zaa (xTup (zaa (xTup (zaa (xC (.int 0)) (zaa (xC .non) aNil))) aNil)) (zaa (xC (.int 0)) (zaa (xC .non) aNil)))) aNil)))))) tl_bad2)))))) := rfl
def zl_ : SFn := (sSeq (sFor (lRg1 (zaa (xVar 2) aNil)) (gNm 6) zbj) (sSeq (sIf (tBl (x2 (o2 dEq) (xVar 2) (xC (.int 3)))) (sNew 4 (lCat (xVar 4) (x2 (o2 zb6) (xLst (zaa (xTup (zaa (xTup (zaa (xTup (zaa (xC (.int 1)) (zaa (xC .non) aNil))) (zaa (xTup (zaa (xC (.int 0)) (zaa (xC .non) aNil))) aNil))) (zaa (xC (.int 2)) (zaa (xC .non) aNil)))) aNil)) (xC (.int 3))))) sNil) (sRet (xN zaz (zaa (xVar 0) (zaa (xVar 4) aNil))))))
theorem tl_bad3_eq : tl_bad2 = (sSeq (sApp (xVar 4) (xN (o1 zjg) (zaa (xTup (zaa (xVar 7) (zaa (xVar 8) (zaa (xVar 9) aNil)))) aNil))) (sSeq (sSet 5 (xN zcc (zaa (xVar 0) (zaa (x2 (o2 dIx) (xVar 1) (xVar 8)) aNil)))) (sSeq (sNew 4 (lCat (xVar 4) (x2 (o2 zb6) (xLst (zaa (xTup (zaa (xVar 7) (zaa (xVar 8) (zaa (xIf (tBl (x2 (o2 zkc) (xVar 5) (xC .non))) (xVar 5) (xNeg (xC (.int 1)))) aNil)))) aNil)) (xC (.int 4))))) zl_))) := rfl
def tl_bad4 : SFn := (sRet (xN zaz (zaa (xVar 0) (zaa (xVar 4) aNil))))
theorem tl_bad4_eq : zl_ = (sSeq (sFor (lRg1 (zaa (xVar 2) aNil)) (gNm 6) zbj) (sSeq (sIf (tBl (x2 (o2 dEq) (xVar 2) (xC (.int 3)))) (sNew 4 (lCat (xVar 4) (x2 (o2 zb6) (xLst (zaa (xTup (zaa (xTup (zaa (xTup (zaa (xC (.int 1)) (zaa (xC .non) aNil))) (zaa (xTup (zaa (xC (.int 0)) (zaa (xC .non) aNil))) aNil))) (zaa (xC (.int 2)) (zaa (xC .non) aNil)))) aNil)) (xC (.int 3))))) sNil) tl_bad4)) := rfl
theorem bad_end {n : Nat} {T S0 : zae} (h : Pen n T S0) (hn : n + 1 ≤ LIM) (cs : List D) (r : Rul) (over : Nat) (ds : List D) (hd : ∀ x ∈ ds, Bad cs x) (h0 : 1 ≤ ds.length) (hb : ds.length ≤ 1000) (o5 o6 o10 o11 : Option DV) :
    ∃ (x : D) (S1 : zae), tl_bad4 (frB cs over r (.obj S0.length) o5 o6 o10 o11) (S0 ++ [some ds]) = .rt (.dat x) S1 ∧ Bad cs x ∧ Pen (n + 1) (T ++ [some ds]) S1 := by
  unfold tl_bad4
  obtain ⟨x, S1, e, p, hx⟩ := one_cell (k := T.length) (zd5 h (some ds)) (by omega) ds (at_0 _) h0 (by omega)
  rw [← h.len] at e
  simp! only [e]
  exact ⟨x, S1, rfl, hd x hx, p⟩
theorem rep_k (xs : List D) (k : Nat) (i : Int) (hi : i = (k : Nat)) (hk : k ≤ 1000) (hl : xs.length * k ≤ 16777216) : zb6 (.lst xs) (.int i) = some (.lst (List.replicate k xs).flatten) := by rw [hi]; exact rep_l xs k hk hl
theorem rep1_3 (x : D) : zb6 (.lst [x]) (.int 3) = some (.lst [x, x, x]) := rep_k [x] 3 3 rfl (by decide) (by simp)
theorem rep1_4 (x : D) : zb6 (.lst [x]) (.int 4) = some (.lst [x, x, x, x]) := rep_k [x] 4 4 rfl (by decide) (by simp)
theorem bad_tail {n : Nat} {T S0 : zae} (h : Pen n T S0) (hn : n + 20 ≤ LIM) (cs : List D) (hc : ∀ c ∈ cs, okC c) (h0 : 1 ≤ cs.length) (hl : cs.length ≤ 4) (r : Rul) (hr : GR cs r) (over : Nat) (ds : List D) (hd : ∀ x ∈ ds, Bad cs x) (hb1 : 1 ≤ ds.length) (hb : ds.length ≤ 100) :
    ∃ (x : D) (U S1 : zae), tl_bad2 (frB cs over r (.obj S0.length) none none none none) (S0 ++ [some ds]) = .rt (.dat x) S1 ∧ Bad cs x ∧ Pen (n + 20) (T ++ U) S1 := by
  rw [tl_bad3_eq]
  have hlist : (xN (o1 zjg) (zaa (xTup (zaa (xVar 7) (zaa (xVar 8) (zaa (xVar 9) aNil)))) aNil)) (frB cs over r (.obj S0.length) none none none none) (S0 ++ [some ds]) = .ok (.dat (.lst [gD r.g, .int (r.c : Nat), oD r.w])) (S0 ++ [some ds]) := by simp! only []
  rw [a_seq, app_pen (S0 := S0) (S1 := S0) rfl hlist rfl (by unfold sizeLine; omega)]
  generalize hds1 : ds ++ [D.lst [gD r.g, .int (r.c : Nat), oD r.w]] = ds1
  have b1 : (∀ x ∈ ds1, Bad cs x) ∧ ds1.length ≤ 101 ∧ 1 ≤ ds1.length := by
    subst hds1
    refine ⟨fun x hx => ?_, by simp; omega, by simp⟩
    rcases List.mem_append.mp hx with hx | hx
    · exact hd x hx
    · simp only [List.mem_cons, List.not_mem_nil, or_false] at hx; rw [hx]; exact bad_list cs hl r hr
  obtain ⟨d, S1, e1, p1, hoff⟩ := off_ok ((pen_snoc (ds := some ds1)).mpr ⟨S0, rfl, h⟩) (by omega) (cs.getD r.c .non) (hc _ (zc7 hr.ok.c))
  obtain ⟨S1, rfl, p1, l1⟩ := zfj p1
  have e0 : S0.length = S1.length := by have := h.len; omega
  have off2 := hoff.two
  simp! only [zd4 D.non hr.ok.c, e1, a_cat]
  have main : ∀ (q : D) (ds2 : List D), (∀ x ∈ ds2, Bad cs x) → 1 ≤ ds2.length → ds2.length ≤ 110 → ∃ (x : D) (U S1' : zae), zl_ (frB cs over r (.obj (S1 ++ [some ds1]).length) (some (.dat d)) none none none) (S1 ++ [some ds1] ++ [some ds2]) = .rt (.dat x) S1' ∧ Bad cs x ∧ Pen (n + 20) (T ++ U) S1' := by
    intro q ds2 b2 h2 h3
    rw [tl_bad4_eq]
    simp! only [zj6 (zgd (show cs.length ≤ 16000000 by omega))]
    obtain ⟨ρ', S', e4, U, ds', S2, p5, p6, p10, p11, rfl, rfl, hd2, hl2, p2⟩ := zd8 (enc := fun i : Nat => D.int ((i : Nat) : Int)) (G := gNm 6) (f := zbj)
      (fun pre ρ S => ∃ (U : zae) (ds' : List D) (S2 : zae) (p5 p6 p10 p11 : Option DV), ρ = frB cs over r (.obj S2.length) p5 p6 p10 p11 ∧ S = S2 ++ [some ds'] ∧ (∀ x ∈ ds', Bad cs x) ∧ (1 ≤ ds'.length ∧ ds'.length ≤ 110 + 4 * pre.length) ∧ Pen (n + 1 + 2 * pre.length) (T ++ U) S2)
      (List.range cs.length) [] (frB cs over r (.obj (S1 ++ [some ds1]).length) (some (.dat d)) none none none) (S1 ++ [some ds1] ++ [some ds2]) ⟨[some ds1], ds2, _, _, _, _, _, rfl, rfl, b2, ⟨h2, by simpa using h3⟩, by simpa using (pen_snoc (ds := some ds1)).mpr ⟨S1, rfl, p1⟩⟩ (by
      rintro pre a post ρ S hpp ⟨U, ds', S2, p5, p6, p10, p11, rfl, rfl, hd2, hl2, p2⟩
      obtain ⟨ha, ha2⟩ := zi_ (by simpa using hpp)
      obtain ⟨U2, ds3, S3, q5, q10, q11, e, p3, hd3, hl3⟩ := bad_body p2 (by show _ ≤ 2147483648; have : n + 20 ≤ 2147483648 := hn; omega) cs hc hl r hr over a ha2 ds' hd2 (by omega) p5 p10 p11
      exact ⟨frB cs over r (.obj S2.length) p5 (some (.dat (.int (a : Nat)))) p10 p11, _, _, rfl, .inl e, U ++ U2, ds3, S3, q5, _, q10, q11, rfl, rfl, hd3, by simp; omega, by rw [← List.append_assoc, List.length_append]; exact p3.mono (by simp; omega)⟩)
    simp only [List.nil_append, List.length_range] at hl2 p2
    simp only [frB] at e4
    simp! only [e4, dEq_len, a_cat]
    cases h3' : (((cs.length : Nat) : Int) == 3)
    · obtain ⟨x, S3, e5, hx, p5⟩ := bad_end p2 (by show _ ≤ 2147483648; have : n + 20 ≤ 2147483648 := hn; omega) cs r over ds' hd2 hl2.1 (by omega) p5 p6 p10 p11
      simp! only []
      exact ⟨x, U ++ [some ds'], S3, e5, hx, by rw [← List.append_assoc]; exact p5.mono (by omega)⟩
    · simp! only [rep1_3, zh_, zdj (show ds'.length + 3 ≤ 16777216 by omega)]
      obtain ⟨x, S3, e5, hx, p5⟩ := bad_end (T := T ++ U ++ [some ds']) ((pen_snoc (ds := some ds')).mpr ⟨S2, rfl, p2⟩) (by show _ ≤ 2147483648; have : n + 20 ≤ 2147483648 := hn; omega) cs r over (ds' ++ [.tup [.tup [.tup [.int 1, .non], .tup [.int 0, .non]], .int 2, .non], .tup [.tup [.tup [.int 1, .non], .tup [.int 0, .non]], .int 2, .non], .tup [.tup [.tup [.int 1, .non], .tup [.int 0, .non]], .int 2, .non]]) (fun x hx => by
        rcases List.mem_append.mp hx with hx | hx
        · exact hd2 x hx
        · simp only [List.mem_cons, List.not_mem_nil, or_false, or_self] at hx; rw [hx]; exact bad_three cs) (by simp) (by simp; omega) p5 p6 p10 p11
      exact ⟨x, U ++ [some ds'] ++ [some _], S3, e5, hx, by rw [← List.append_assoc, ← List.append_assoc]; exact p5.mono (by omega)⟩
  have fin : ∀ q : D, q = (bif d.isN then .int (-1) else d) → ∃ (x : D) (U S1' : zae), zl_ (frB cs over r (.obj (S1 ++ [some ds1]).length) (some (.dat d)) none none none) (S1 ++ [some ds1] ++ [some (ds1 ++ [D.tup [gD r.g, .int (r.c : Nat), q], D.tup [gD r.g, .int (r.c : Nat), q], D.tup [gD r.g, .int (r.c : Nat), q], D.tup [gD r.g, .int (r.c : Nat), q]])]) = .rt (.dat x) S1' ∧ Bad cs x ∧ Pen (n + 20) (T ++ U) S1' := by
    intro q hq
    refine main q _ (fun x hx => ?_) (by simp) (by simp; omega)
    rcases List.mem_append.mp hx with hx | hx
    · exact b1.1 x hx
    · simp only [List.mem_cons, List.not_mem_nil, or_false, or_self] at hx; rw [hx]; exact bad_want cs hl r hr q (hq ▸ off2)
  cases hdn : d.isN
  · simp! only [hdn, rep1_4]
    simp only [e0, zh_, zdj (show ds1.length + (0 + 1 + 1 + 1 + 1) ≤ 16777216 by omega), List.length_cons, List.length_nil]
    simp! only [zdj (show ds1.length + 4 ≤ 16777216 by omega)]
    exact fin d (by rw [hdn]; rfl)
  · simp! only [hdn, rep1_4]
    simp only [e0, zh_, zdj (show ds1.length + (0 + 1 + 1 + 1 + 1) ≤ 16777216 by omega), List.length_cons, List.length_nil]
    simp! only [zdj (show ds1.length + 4 ≤ 16777216 by omega)]
    exact fin _ (by rw [hdn]; rfl)
theorem zin {n : Nat} {T S : zae} (h : Pen n T S) (hn : n + 40 ≤ LIM) (cs : List D) (hc : ∀ c ∈ cs, okC c) (h0 : 1 ≤ cs.length) (hl : cs.length ≤ 4) :
    ∃ (x : D) (S1 : zae), zcf [.obj 0, .dat (.tup cs)] S = .ok (.dat x) S1 ∧ Bad cs x ∧ Pen (n + 40) T S1 := by
  unfold zcf
  rw [tl_bad2_eq]
  obtain ⟨t, S1, e1, p1, ht⟩ := zdo h (by omega) 3 (by decide) (by decide)
  obtain ⟨r, S2, e2, p2, hr⟩ := rule_ok p1 (by omega) cs hc h0 hl
  have hover : ((cs.length : Nat) : Int) + ((t : Nat) : Int) = ((cs.length + t : Nat) : Int) := by omega
  have bp := bad_plain cs hl (cs.length + t) (by omega) (by omega)
  have e2' : ∀ S, gTp (gCo (gNm 7) (gCo (gNm 8) (gCo (gNm 9) gNo))) (rulD r) S = some (((S.set 7 (some (.dat (gD r.g)))).set 8 (some (.dat (.int (r.c : Nat))))).set 9 (some (.dat (oD r.w)))) := fun _ => rfl
  simp! only [e1, hover, e2, e2', a_cat, zh_, show szB 16 = true from by decide]
  generalize hA : [D.non, .lst [], .str "x", .int 7, .bl true, .tup [.non], .tup [.tup [], .int ((cs.length + t : Nat) : Int), .non], .tup [.tup [], .int (-1), .non], .tup [.tup [], .bl true, .non]] = A
  generalize hB : [D.non, .lst [], .str "x", .int 7, .bl true, .tup [.non], .tup [.tup [], .int ((cs.length + t : Nat) : Int), .non], .tup [.tup [], .int (-1), .non], .tup [.tup [], .bl true, .non], .tup [.tup [], .int 0], .tup [.lst [], .int 0, .non], .tup [.tup [.tup [.int ((cs.length + t : Nat) : Int), .int 0]], .int 0, .non], .tup [.tup [.tup [.int 0]], .int 0, .non]] = B
  obtain ⟨x, U, S3, e3, hx, p3⟩ := bad_tail (T := T ++ [some A] ++ [some B]) ((pen_snoc (ds := some B)).mpr ⟨_, rfl, (pen_snoc (ds := some A)).mpr ⟨S2, rfl, p2⟩⟩) (by show _ ≤ 2147483648; have : n + 40 ≤ 2147483648 := hn; omega) cs hc h0 hl r hr (cs.length + t) _ bp (by simp) (by simp)
  simp only [List.cons_append, List.nil_append] at e3
  have e3' := e3
  simp only [frB] at e3'
  rw [e3']
  simp! only []
  rw [List.append_assoc, List.append_assoc] at p3
  exact ⟨x, _, rfl, hx, (pen_cut p3 h.len).mono (by omega)⟩
end T18
set_option maxHeartbeats 400000
namespace T18
open PySem PySem.Spec PyProof.Rows L2 DL
theorem zj9 (t : List (Str × Bool)) (f : XFn) (ρ : zar) (S : zae) : zjx t f ρ S = (f ρ S).bind (zbz t) := rfl
theorem a_mth (o : D → D → Option D) (f : XFn) (d : D) (ρ : zar) (S : zae) : xMth o f d ρ S = (f ρ S).bind fun x S1 => match rd S1 x with
  | some (.lst xs) => res1 (o (.lst xs) d) S1
  | _ => .bad := rfl
theorem zbo (S : zae) : za9 [.exn "InvalidColumns" none] S = .ok (.dat (.str "columns")) S := by
  unfold za9 zcl
  have i_InvalidColumns : ∀ S, zbz isi_InvalidColumns (.exn "InvalidColumns" none) S = .ok (.dat (.bl true)) S := fun _ => rfl
  have i_InvalidRules : ∀ S, zbz zbg (.exn "InvalidColumns" none) S = .ok (.dat (.bl false)) S := fun _ => rfl
  have i_InvalidRule : ∀ S, zbz zbk (.exn "InvalidColumns" none) S = .ok (.dat (.bl false)) S := fun _ => rfl
  have i_InvalidTable : ∀ S, zbz zbh (.exn "InvalidColumns" none) S = .ok (.dat (.bl false)) S := fun _ => rfl
  have i_InvalidRow : ∀ S, zbz zbm (.exn "InvalidColumns" none) S = .ok (.dat (.bl false)) S := fun _ => rfl
  have i_InvalidNumber : ∀ S, zbz zbd (.exn "InvalidColumns" none) S = .ok (.dat (.bl false)) S := fun _ => rfl
  have i_InvalidSettled : ∀ S, zbz za4 (.exn "InvalidColumns" none) S = .ok (.dat (.bl false)) S := fun _ => rfl
  have d0 : dAdd (.lst [.bl true, .bl false]) (.lst [.bl false]) = some (.lst [.bl true, .bl false, .bl false]) := rfl
  have d1 : dAdd (.lst [.bl true, .bl false, .bl false]) (.lst [.bl false, .bl false]) = some (.lst [.bl true, .bl false, .bl false, .bl false, .bl false]) := rfl
  have d2 : dAdd (.lst [.bl true, .bl false, .bl false, .bl false, .bl false]) (.lst [.bl false, .bl false]) = some (.lst [.bl true, .bl false, .bl false, .bl false, .bl false, .bl false, .bl false]) := rfl
  have e3 : zgn (.lst [.bl true, .bl false, .bl false, .bl false, .bl false, .bl false, .bl false]) (.bl true) = some (.int 1) := rfl
  have e4 : zgw (.lst [.bl true, .bl false, .bl false, .bl false, .bl false, .bl false, .bl false]) (.bl true) = some (.int 0) := rfl
  have e6 : atI [D.str "columns", D.str "rules", D.str "rule", D.str "table", D.str "row", D.str "number", D.str "settled"] 0 = some (.str "columns") := rfl
  have e7 : ∀ (xs : List D) (S : zae), rd S (.dat (.lst xs)) = some (.lst xs) := fun _ _ => rfl
  have e8 : dEq (.int 1) (.int 1) = some (.bl true) := rfl
  simp! only [zj9, a_mth, d0, d1, d2, e3, e4, e6, e7, e8, i_InvalidColumns, i_InvalidRules, i_InvalidRule, i_InvalidTable, i_InvalidRow, i_InvalidNumber, i_InvalidSettled]
theorem zdc (S : zae) : za9 [.exn "InvalidRules" none] S = .ok (.dat (.str "rules")) S := by
  unfold za9 zcl
  have i_InvalidColumns : ∀ S, zbz isi_InvalidColumns (.exn "InvalidRules" none) S = .ok (.dat (.bl false)) S := fun _ => rfl
  have i_InvalidRules : ∀ S, zbz zbg (.exn "InvalidRules" none) S = .ok (.dat (.bl true)) S := fun _ => rfl
  have i_InvalidRule : ∀ S, zbz zbk (.exn "InvalidRules" none) S = .ok (.dat (.bl false)) S := fun _ => rfl
  have i_InvalidTable : ∀ S, zbz zbh (.exn "InvalidRules" none) S = .ok (.dat (.bl false)) S := fun _ => rfl
  have i_InvalidRow : ∀ S, zbz zbm (.exn "InvalidRules" none) S = .ok (.dat (.bl false)) S := fun _ => rfl
  have i_InvalidNumber : ∀ S, zbz zbd (.exn "InvalidRules" none) S = .ok (.dat (.bl false)) S := fun _ => rfl
  have i_InvalidSettled : ∀ S, zbz za4 (.exn "InvalidRules" none) S = .ok (.dat (.bl false)) S := fun _ => rfl
  have d0 : dAdd (.lst [.bl false, .bl true]) (.lst [.bl false]) = some (.lst [.bl false, .bl true, .bl false]) := rfl
  have d1 : dAdd (.lst [.bl false, .bl true, .bl false]) (.lst [.bl false, .bl false]) = some (.lst [.bl false, .bl true, .bl false, .bl false, .bl false]) := rfl
  have d2 : dAdd (.lst [.bl false, .bl true, .bl false, .bl false, .bl false]) (.lst [.bl false, .bl false]) = some (.lst [.bl false, .bl true, .bl false, .bl false, .bl false, .bl false, .bl false]) := rfl
  have e3 : zgn (.lst [.bl false, .bl true, .bl false, .bl false, .bl false, .bl false, .bl false]) (.bl true) = some (.int 1) := rfl
  have e4 : zgw (.lst [.bl false, .bl true, .bl false, .bl false, .bl false, .bl false, .bl false]) (.bl true) = some (.int 1) := rfl
  have e6 : atI [D.str "columns", D.str "rules", D.str "rule", D.str "table", D.str "row", D.str "number", D.str "settled"] 1 = some (.str "rules") := rfl
  have e7 : ∀ (xs : List D) (S : zae), rd S (.dat (.lst xs)) = some (.lst xs) := fun _ _ => rfl
  have e8 : dEq (.int 1) (.int 1) = some (.bl true) := rfl
  simp! only [zj9, a_mth, d0, d1, d2, e3, e4, e6, e7, e8, i_InvalidColumns, i_InvalidRules, i_InvalidRule, i_InvalidTable, i_InvalidRow, i_InvalidNumber, i_InvalidSettled]
theorem zjh (S : zae) : za9 [.exn "InvalidRule" none] S = .ok (.dat (.str "rule")) S := by
  unfold za9 zcl
  have i_InvalidColumns : ∀ S, zbz isi_InvalidColumns (.exn "InvalidRule" none) S = .ok (.dat (.bl false)) S := fun _ => rfl
  have i_InvalidRules : ∀ S, zbz zbg (.exn "InvalidRule" none) S = .ok (.dat (.bl false)) S := fun _ => rfl
  have i_InvalidRule : ∀ S, zbz zbk (.exn "InvalidRule" none) S = .ok (.dat (.bl true)) S := fun _ => rfl
  have i_InvalidTable : ∀ S, zbz zbh (.exn "InvalidRule" none) S = .ok (.dat (.bl false)) S := fun _ => rfl
  have i_InvalidRow : ∀ S, zbz zbm (.exn "InvalidRule" none) S = .ok (.dat (.bl false)) S := fun _ => rfl
  have i_InvalidNumber : ∀ S, zbz zbd (.exn "InvalidRule" none) S = .ok (.dat (.bl false)) S := fun _ => rfl
  have i_InvalidSettled : ∀ S, zbz za4 (.exn "InvalidRule" none) S = .ok (.dat (.bl false)) S := fun _ => rfl
  have d0 : dAdd (.lst [.bl false, .bl false]) (.lst [.bl true]) = some (.lst [.bl false, .bl false, .bl true]) := rfl
  have d1 : dAdd (.lst [.bl false, .bl false, .bl true]) (.lst [.bl false, .bl false]) = some (.lst [.bl false, .bl false, .bl true, .bl false, .bl false]) := rfl
  have d2 : dAdd (.lst [.bl false, .bl false, .bl true, .bl false, .bl false]) (.lst [.bl false, .bl false]) = some (.lst [.bl false, .bl false, .bl true, .bl false, .bl false, .bl false, .bl false]) := rfl
  have e3 : zgn (.lst [.bl false, .bl false, .bl true, .bl false, .bl false, .bl false, .bl false]) (.bl true) = some (.int 1) := rfl
  have e4 : zgw (.lst [.bl false, .bl false, .bl true, .bl false, .bl false, .bl false, .bl false]) (.bl true) = some (.int 2) := rfl
  have e6 : atI [D.str "columns", D.str "rules", D.str "rule", D.str "table", D.str "row", D.str "number", D.str "settled"] 2 = some (.str "rule") := rfl
  have e7 : ∀ (xs : List D) (S : zae), rd S (.dat (.lst xs)) = some (.lst xs) := fun _ _ => rfl
  have e8 : dEq (.int 1) (.int 1) = some (.bl true) := rfl
  simp! only [zj9, a_mth, d0, d1, d2, e3, e4, e6, e7, e8, i_InvalidColumns, i_InvalidRules, i_InvalidRule, i_InvalidTable, i_InvalidRow, i_InvalidNumber, i_InvalidSettled]
theorem zdy (S : zae) : za9 [.exn "InvalidTable" none] S = .ok (.dat (.str "table")) S := by
  unfold za9 zcl
  have i_InvalidColumns : ∀ S, zbz isi_InvalidColumns (.exn "InvalidTable" none) S = .ok (.dat (.bl false)) S := fun _ => rfl
  have i_InvalidRules : ∀ S, zbz zbg (.exn "InvalidTable" none) S = .ok (.dat (.bl false)) S := fun _ => rfl
  have i_InvalidRule : ∀ S, zbz zbk (.exn "InvalidTable" none) S = .ok (.dat (.bl false)) S := fun _ => rfl
  have i_InvalidTable : ∀ S, zbz zbh (.exn "InvalidTable" none) S = .ok (.dat (.bl true)) S := fun _ => rfl
  have i_InvalidRow : ∀ S, zbz zbm (.exn "InvalidTable" none) S = .ok (.dat (.bl false)) S := fun _ => rfl
  have i_InvalidNumber : ∀ S, zbz zbd (.exn "InvalidTable" none) S = .ok (.dat (.bl false)) S := fun _ => rfl
  have i_InvalidSettled : ∀ S, zbz za4 (.exn "InvalidTable" none) S = .ok (.dat (.bl false)) S := fun _ => rfl
  have d0 : dAdd (.lst [.bl false, .bl false]) (.lst [.bl false]) = some (.lst [.bl false, .bl false, .bl false]) := rfl
  have d1 : dAdd (.lst [.bl false, .bl false, .bl false]) (.lst [.bl true, .bl false]) = some (.lst [.bl false, .bl false, .bl false, .bl true, .bl false]) := rfl
  have d2 : dAdd (.lst [.bl false, .bl false, .bl false, .bl true, .bl false]) (.lst [.bl false, .bl false]) = some (.lst [.bl false, .bl false, .bl false, .bl true, .bl false, .bl false, .bl false]) := rfl
  have e3 : zgn (.lst [.bl false, .bl false, .bl false, .bl true, .bl false, .bl false, .bl false]) (.bl true) = some (.int 1) := rfl
  have e4 : zgw (.lst [.bl false, .bl false, .bl false, .bl true, .bl false, .bl false, .bl false]) (.bl true) = some (.int 3) := rfl
  have e6 : atI [D.str "columns", D.str "rules", D.str "rule", D.str "table", D.str "row", D.str "number", D.str "settled"] 3 = some (.str "table") := rfl
  have e7 : ∀ (xs : List D) (S : zae), rd S (.dat (.lst xs)) = some (.lst xs) := fun _ _ => rfl
  have e8 : dEq (.int 1) (.int 1) = some (.bl true) := rfl
  simp! only [zj9, a_mth, d0, d1, d2, e3, e4, e6, e7, e8, i_InvalidColumns, i_InvalidRules, i_InvalidRule, i_InvalidTable, i_InvalidRow, i_InvalidNumber, i_InvalidSettled]
theorem word_row (S : zae) : za9 [.exn "InvalidRow" none] S = .ok (.dat (.str "row")) S := by
  unfold za9 zcl
  have i_InvalidColumns : ∀ S, zbz isi_InvalidColumns (.exn "InvalidRow" none) S = .ok (.dat (.bl false)) S := fun _ => rfl
  have i_InvalidRules : ∀ S, zbz zbg (.exn "InvalidRow" none) S = .ok (.dat (.bl false)) S := fun _ => rfl
  have i_InvalidRule : ∀ S, zbz zbk (.exn "InvalidRow" none) S = .ok (.dat (.bl false)) S := fun _ => rfl
  have i_InvalidTable : ∀ S, zbz zbh (.exn "InvalidRow" none) S = .ok (.dat (.bl false)) S := fun _ => rfl
  have i_InvalidRow : ∀ S, zbz zbm (.exn "InvalidRow" none) S = .ok (.dat (.bl true)) S := fun _ => rfl
  have i_InvalidNumber : ∀ S, zbz zbd (.exn "InvalidRow" none) S = .ok (.dat (.bl false)) S := fun _ => rfl
  have i_InvalidSettled : ∀ S, zbz za4 (.exn "InvalidRow" none) S = .ok (.dat (.bl false)) S := fun _ => rfl
  have d0 : dAdd (.lst [.bl false, .bl false]) (.lst [.bl false]) = some (.lst [.bl false, .bl false, .bl false]) := rfl
  have d1 : dAdd (.lst [.bl false, .bl false, .bl false]) (.lst [.bl false, .bl true]) = some (.lst [.bl false, .bl false, .bl false, .bl false, .bl true]) := rfl
  have d2 : dAdd (.lst [.bl false, .bl false, .bl false, .bl false, .bl true]) (.lst [.bl false, .bl false]) = some (.lst [.bl false, .bl false, .bl false, .bl false, .bl true, .bl false, .bl false]) := rfl
  have e3 : zgn (.lst [.bl false, .bl false, .bl false, .bl false, .bl true, .bl false, .bl false]) (.bl true) = some (.int 1) := rfl
  have e4 : zgw (.lst [.bl false, .bl false, .bl false, .bl false, .bl true, .bl false, .bl false]) (.bl true) = some (.int 4) := rfl
  have e6 : atI [D.str "columns", D.str "rules", D.str "rule", D.str "table", D.str "row", D.str "number", D.str "settled"] 4 = some (.str "row") := rfl
  have e7 : ∀ (xs : List D) (S : zae), rd S (.dat (.lst xs)) = some (.lst xs) := fun _ _ => rfl
  have e8 : dEq (.int 1) (.int 1) = some (.bl true) := rfl
  simp! only [zj9, a_mth, d0, d1, d2, e3, e4, e6, e7, e8, i_InvalidColumns, i_InvalidRules, i_InvalidRule, i_InvalidTable, i_InvalidRow, i_InvalidNumber, i_InvalidSettled]
theorem ziq (S : zae) : za9 [.exn "InvalidNumber" none] S = .ok (.dat (.str "number")) S := by
  unfold za9 zcl
  have i_InvalidColumns : ∀ S, zbz isi_InvalidColumns (.exn "InvalidNumber" none) S = .ok (.dat (.bl false)) S := fun _ => rfl
  have i_InvalidRules : ∀ S, zbz zbg (.exn "InvalidNumber" none) S = .ok (.dat (.bl false)) S := fun _ => rfl
  have i_InvalidRule : ∀ S, zbz zbk (.exn "InvalidNumber" none) S = .ok (.dat (.bl false)) S := fun _ => rfl
  have i_InvalidTable : ∀ S, zbz zbh (.exn "InvalidNumber" none) S = .ok (.dat (.bl false)) S := fun _ => rfl
  have i_InvalidRow : ∀ S, zbz zbm (.exn "InvalidNumber" none) S = .ok (.dat (.bl false)) S := fun _ => rfl
  have i_InvalidNumber : ∀ S, zbz zbd (.exn "InvalidNumber" none) S = .ok (.dat (.bl true)) S := fun _ => rfl
  have i_InvalidSettled : ∀ S, zbz za4 (.exn "InvalidNumber" none) S = .ok (.dat (.bl false)) S := fun _ => rfl
  have d0 : dAdd (.lst [.bl false, .bl false]) (.lst [.bl false]) = some (.lst [.bl false, .bl false, .bl false]) := rfl
  have d1 : dAdd (.lst [.bl false, .bl false, .bl false]) (.lst [.bl false, .bl false]) = some (.lst [.bl false, .bl false, .bl false, .bl false, .bl false]) := rfl
  have d2 : dAdd (.lst [.bl false, .bl false, .bl false, .bl false, .bl false]) (.lst [.bl true, .bl false]) = some (.lst [.bl false, .bl false, .bl false, .bl false, .bl false, .bl true, .bl false]) := rfl
  have e3 : zgn (.lst [.bl false, .bl false, .bl false, .bl false, .bl false, .bl true, .bl false]) (.bl true) = some (.int 1) := rfl
  have e4 : zgw (.lst [.bl false, .bl false, .bl false, .bl false, .bl false, .bl true, .bl false]) (.bl true) = some (.int 5) := rfl
  have e6 : atI [D.str "columns", D.str "rules", D.str "rule", D.str "table", D.str "row", D.str "number", D.str "settled"] 5 = some (.str "number") := rfl
  have e7 : ∀ (xs : List D) (S : zae), rd S (.dat (.lst xs)) = some (.lst xs) := fun _ _ => rfl
  have e8 : dEq (.int 1) (.int 1) = some (.bl true) := rfl
  simp! only [zj9, a_mth, d0, d1, d2, e3, e4, e6, e7, e8, i_InvalidColumns, i_InvalidRules, i_InvalidRule, i_InvalidTable, i_InvalidRow, i_InvalidNumber, i_InvalidSettled]
end T18
set_option maxHeartbeats 400000
namespace T18
open PySem PySem.Spec PyProof.Rows L2 DL
/-! ## spoiled rows, values that are not what their kind says -/
theorem isRow_set {cs : List D} {r : List Int} {k : Nat} (hk : k < cs.length) (hl : r.length = cs.length) {d : D} (hd : zb7 (cs.getD k .non) d = false) : zd_ cs (.tup ((r.map D.int).set k d)) = false := by
  have : ((cs.zip ((r.map D.int).set k d)).all fun p => zb7 p.1 p.2) = false := by
    rw [List.all_eq_false]
    refine ⟨(cs.getD k .non, d), ?_, by rw [hd]; exact Bool.false_ne_true⟩
    rw [List.mem_iff_getElem?]
    refine ⟨k, ?_⟩
    rw [List.getElem?_zip_eq_some]
    refine ⟨by simp [List.getD, List.getElem?_eq_getElem hk], ?_⟩
    rw [List.getElem?_set_self (by simp; omega)]
  simp only [zd_, this, Bool.and_false]
theorem zfd {cs xs : List D} (h : xs.length ≠ cs.length) : zd_ cs (.tup xs) = false := by
  have : ((xs.length : Int) == (cs.length : Int)) = false := by
    have : ¬ ((xs.length : Int) = (cs.length : Int)) := by omega
    simpa using this
  simp only [zd_, this, Bool.false_and]
theorem zjy {n : Nat} {T S : zae} (h : Pen n T S) (hn : n + 10 ≤ LIM) (cs : List D) (hc : ∀ c ∈ cs, okC c) (h0 : 1 ≤ cs.length) (hl : cs.length ≤ 4) :
    ∃ (xs : List D) (S1 : zae), zbx [.obj 0, .dat (.tup cs)] S = .ok (.dat (.tup xs)) S1 ∧ xs.length = cs.length ∧ zd_ cs (.tup xs) = false ∧ (∀ x ∈ xs, Sm 2 10 x) ∧ Pen (n + 10) T S1 := by
  unfold zbx zd3
  obtain ⟨r, S1, e1, p1, hr, hp⟩ := zho h (by omega) cs hc hl
  have lr : r.length = cs.length := by
    simp only [zd_, rowD, Bool.and_eq_true, List.length_map] at hr
    have := hr.1
    simp only [beq_iff_eq] at this
    omega
  have el : ∀ ρ : zar, ρ[0]? = some (some (.obj 0)) → ρ[1]? = some (some (.dat (.tup cs))) → lList (xN zco (zaa (xVar 0) (zaa (xVar 1) aNil))) ρ S = .ok (r.map D.int) S1 := fun ρ h0 h1 => by
    simp only [lList, xN, zaa, aNil, xVar, h0, h1, Res.bind_ok, e1, rowD, rd]
  have p2 := zd5 p1 (some (r.map D.int))
  obtain ⟨k, S3, e3, p3, hk⟩ := zdo p2 (by omega) (r.length : Nat) (by omega) (by omega)
  obtain ⟨S3', rfl, p3', l3⟩ := zfj p3
  have hk' : k < cs.length := by omega
  obtain ⟨d, S4, e4, p4, hd⟩ := off_ok p3 (by omega) (cs.getD k .non) (hc _ (zc7 hk'))
  obtain ⟨S4', rfl, p4', l4⟩ := zfj p4
  have l1 := p1.len
  have ln : o1 dLen [.obj S1.length] (S1 ++ [some (r.map D.int)]) = .ok (.dat (.int (r.length : Nat))) (S1 ++ [some (r.map D.int)]) := by
    rw [o1_end]; simp only [dLen, List.length_map]; rfl
  have px : ∀ ρ, zhe (.obj S1.length) (.dat (.int (k : Nat))) (.dat d) ρ (S4' ++ [some (r.map D.int)]) = .nx ρ (S4' ++ [some ((r.map D.int).set k d)]) := fun ρ => by
    have e2 : zcs (S4' ++ [some (r.map D.int)]) (.obj S1.length) = some (S1.length, r.map D.int) := by
      have : S1.length = S4'.length := by omega
      rw [this]; exact zev S4' _
    have e3 : ixN (r.map D.int).length ((k : Nat) : Int) = some k := by
      unfold ixN
      rw [List.length_map]
      rw [if_pos (by omega), if_pos (by omega), Int.toNat_natCast]
    simp only [zhe, e2, e3]
    have : S1.length = S4'.length := by omega
    rw [this, zi0]
  have tl : o1 zfl [.obj S1.length] (S4' ++ [some ((r.map D.int).set k d)]) = .ok (.dat (.tup ((r.map D.int).set k d))) (S4' ++ [some ((r.map D.int).set k d)]) := by
    have : S1.length = S4'.length := by omega
    rw [this, o1_end]; rfl
  simp! only [el]
  simp only [List.length_map]
  simp! only [e3, zd4 D.non hk', e4, px, tl]
  refine ⟨_, _, rfl, by simp [lr], isRow_set hk' lr hd.1, fun x hx => ?_, (pen_cut (zd5 p4' (some ((r.map D.int).set k d))) h.len).mono (by omega)⟩
  rcases List.mem_or_eq_of_mem_set hx with hx | rfl
  · obtain ⟨v, hv, rfl⟩ := List.mem_map.mp hx
    exact ⟨rfl, zgp (hp v hv), by simp [D.py, PyData.bulk]⟩
  · exact ⟨hd.2.1, hd.2.2.1, hd.2.2.2⟩
def isK (cs : List D) (k : Str) (x : D) : Bool :=
  if k = "columns" then zav x else if k = "rules" then zcb cs x else if k = "rule" then zcp cs x else if k = "table" then zep cs x else if k = "row" then zd_ cs x else zfc x 1 8
structure OkK (k : Str) (x : D) : Prop where
  sm : Sm 9 20000 x
  s1 : k = "rule" → zbe x
  s2 : k = "rules" → ∀ r ∈ zap x, zbe r
structure BadK (cs : List D) (k : Str) (x : D) : Prop extends OkK k x where
  no : isK cs k x = false
theorem zj1 {cs xs : List D} {x : D} (hx : x ∈ xs) (h : zcp cs x = false) : zcb cs (.tup xs) = false := by
  have : xs.all (zcp cs) = false := by
    rw [List.all_eq_false]
    exact ⟨x, hx, by simp [h]⟩
  simp only [zcb, this, Bool.and_false]
theorem zgs {cs xs : List D} {x : D} (hx : x ∈ xs) (h : zd_ cs x = false) : zep cs (.tup xs) = false := by
  have : xs.all (zd_ cs) = false := by
    rw [List.all_eq_false]
    exact ⟨x, hx, by simp [h]⟩
  simp only [zep, this, Bool.and_false]
theorem Sm.tupN {n b m : Nat} {xs : List D} (h : ∀ x ∈ xs, Sm n b x) (hm : xs.length * (b + 1) ≤ m) : Sm (n + 1) m (.tup xs) := by
  refine ⟨by simp only [D.fit]; exact fits_iff.mpr fun x hx => (h x hx).fit, by simp only [D.tiny]; exact tinys_iff.mpr fun x hx => (h x hx).tiny, ?_⟩
  have := zfv (xs := xs) (c := b) fun x hx => (h x hx).bulk
  simp only [D.py, PyData.bulk]
  omega
theorem q_ss {a b : Str} {p : Bool} (ha : (D.str a).fit 0 = true) (hb : (D.str b).fit 0 = true) (e : dEqB (.str a) (.str b) = p) : dEq (.str a) (.str b) = some (.bl p) := by
  rw [dEq_fit (n := 0) (m := 0) ha hb, e]
theorem bad_cols {n : Nat} {T S : zae} (h : Pen n T S) (hn : n + 10 ≤ LIM) (cs : List D) (hc : ∀ c ∈ cs, okC c) (hl : cs.length ≤ 4) :
    ∃ (x : D) (S1 : zae), zba [.obj 0, .dat (.str "columns"), .dat (.tup cs)] S = .ok (.dat x) S1 ∧ BadK cs "columns" x ∧ Pen (n + 10) T S1 := by
  unfold zba zcy
  obtain ⟨r, S1, e1, p1, _, _⟩ := zho h (by omega) cs hc hl
  obtain ⟨x, S2, e2, p2, hx⟩ := zf7 p1 (by omega) [D.non, .lst [], .str "x", .int 7, .bl true, .tup [], .tup [.non, .non, .non, .non, .non], .tup [.tup []], .tup [.tup [.int 1, .int 0]], .tup [.tup [.int 0, .int 1, .int 2, .int 3]], .tup [.tup [.int 0], .tup [.int 0], .tup [.int 0]], .lst [.non], .tup [.tup [.int (-1)]], .tup [.tup [.bl true]]] (by simp) (by simp) _ (.inl rfl)
  have q1 : dEq (.str "columns") (.str "columns") = some (.bl true) := q_ss (by decide +kernel) (by decide +kernel) (by decide +kernel)
  have m5 : zb6 (.tup [.non]) (.int 5) = some (.tup [.non, .non, .non, .non, .non]) := rfl
  have cu : cutL [D.non, D.lst [], .str "x", .int 7, .bl true, .tup [.non]] none (some 5) = [D.non, .lst [], .str "x", .int 7, .bl true] := rfl
  simp! only [e1, q1, m5, cu, zj7, show szB 11 = true from by decide, show szB 14 = true from by decide, e2, p2.take h.len]
  refine ⟨x, S2, rfl, ?_, p2.mono (by omega)⟩
  have key : ∀ x ∈ ([D.non, .lst [], .str "x", .int 7, .bl true, .tup [], .tup [.non, .non, .non, .non, .non], .tup [.tup []], .tup [.tup [.int 1, .int 0]], .tup [.tup [.int 0, .int 1, .int 2, .int 3]], .tup [.tup [.int 0], .tup [.int 0], .tup [.int 0]], .lst [.non], .tup [.tup [.int (-1)]], .tup [.tup [.bl true]]] : List D), zav x = false ∧ x.fit 9 = true ∧ x.tiny = true ∧ x.py.bulk ≤ 20000 := by
    decide +kernel
  obtain ⟨k1, k2, k3, k4⟩ := key x hx
  exact ⟨⟨⟨k2, k3, k4⟩, fun z => absurd z (by decide), fun z => absurd z (by decide)⟩, k1⟩
end T18
set_option maxHeartbeats 400000
namespace T18
open PySem PySem.Spec PyProof.Rows L2 DL
theorem sm_bad {cs : List D} {x : D} (h : Bad cs x) : Sm 6 1000 x := ⟨h.fit, h.tin, h.blk⟩
theorem sm_rul {cs : List D} {r : Rul} (hr : GR cs r) (hl : cs.length ≤ 4) : Sm 6 1000 (rulD r) := by
  obtain ⟨t1, t2, t3, t4⟩ := hr.gt hl
  refine ⟨rulD_fit 3 r, ?_, ?_⟩
  · simp only [rulD, D.tiny, D.tinys, gD, t1, t2, Bool.and_true, Bool.true_and, decide_eq_true_eq]
    omega
  · have := gD_bulk r.g (by omega)
    cases hw : r.w <;> simp [rulD, hw, D.py, D.pys, PyData.bulk, PyData.bulkAll, oD] <;> omega
theorem shortR {r : Rul} (h : r.g.length < 64) : zbe (rulD r) := by simp only [zbe, rulD, gD, zap, List.length_map]; exact h
theorem rul_items (r : Rul) : ∀ x ∈ zap (rulD r), zbe x := fun x hx => by
  simp only [rulD, zap, List.mem_cons, List.not_mem_nil, or_false] at hx
  rcases hx with rfl | rfl | rfl
  · cases hg : r.g with
    | nil => simp [gD, zbe]
    | cons p g => simp [gD, zbe, eD, zap]
  · simp [zbe]
  · cases r.w <;> simp [oD, zbe]
theorem sm_w {x : D} (h : x ∈ ([D.non, .lst [], .str "x", .int 7, .bl true, .tup [.non]] : List D)) : Sm 6 1000 x ∧ zbe x ∧ ∀ r ∈ zap x, zbe r := by
  simp only [List.mem_cons, List.not_mem_nil, or_false] at h
  rcases h with rfl | rfl | rfl | rfl | rfl | rfl <;> exact ⟨⟨by decide +kernel, by decide +kernel, by decide +kernel⟩, by simp [zbe, zap], by simp [zbe, zap]⟩
theorem sm_row {r : Row} (hp : ∀ v ∈ r, v ∈ POOL) (hl : r.length ≤ 4) : ∀ x ∈ r.map D.int, Sm 2 10 x := fun x hx => by
  obtain ⟨v, hv, rfl⟩ := List.mem_map.mp hx
  exact ⟨rfl, zgp (hp v hv), by simp [D.py, PyData.bulk]⟩
theorem row_lr {cs : List D} {r : Row} (hr : zd_ cs (rowD r) = true) : r.length = cs.length := by
  simp only [zd_, rowD, Bool.and_eq_true, List.length_map] at hr
  have := hr.1
  simp only [beq_iff_eq] at this
  omega
theorem bad_rule {n : Nat} {T S : zae} (h : Pen n T S) (hn : n + 60 ≤ LIM) (cs : List D) (hc : ∀ c ∈ cs, okC c) (h0 : 1 ≤ cs.length) (hl : cs.length ≤ 4) :
    ∃ (x : D) (S1 : zae), zba [.obj 0, .dat (.str "rule"), .dat (.tup cs)] S = .ok (.dat x) S1 ∧ BadK cs "rule" x ∧ Pen (n + 60) T S1 := by
  unfold zba zcy
  obtain ⟨r, S1, e1, p1, hr, hp⟩ := zho h (by omega) cs hc hl
  have q0 : dEq (.str "rule") (.str "columns") = some (.bl false) := q_ss (by decide +kernel) (by decide +kernel) (by decide +kernel)
  have q1 : dEq (.str "rule") (.str "rule") = some (.bl true) := q_ss (by decide +kernel) (by decide +kernel) (by decide +kernel)
  obtain ⟨x, S2, e2, hx, p2⟩ := zin p1 (by omega) cs hc h0 hl
  simp! only [e1, q0, q1, e2, p2.take h.len]
  exact ⟨x, S2, rfl, ⟨⟨(sm_bad hx).mono (by decide) (by decide), fun _ => hx.sh, fun z => absurd z (by decide)⟩, hx.no⟩, p2.mono (by omega)⟩
theorem bad_rules {n : Nat} {T S : zae} (h : Pen n T S) (hn : n + 60 ≤ LIM) (cs : List D) (hc : ∀ c ∈ cs, okC c) (h0 : 1 ≤ cs.length) (hl : cs.length ≤ 4) :
    ∃ (x : D) (S1 : zae), zba [.obj 0, .dat (.str "rules"), .dat (.tup cs)] S = .ok (.dat x) S1 ∧ BadK cs "rules" x ∧ Pen (n + 60) T S1 := by
  unfold zba zcy
  obtain ⟨r, S1, e1, p1, hr, hp⟩ := zho h (by omega) cs hc hl
  have q0 : dEq (.str "rules") (.str "columns") = some (.bl false) := q_ss (by decide +kernel) (by decide +kernel) (by decide +kernel)
  have q1 : dEq (.str "rules") (.str "rule") = some (.bl false) := q_ss (by decide +kernel) (by decide +kernel) (by decide +kernel)
  have q2 : dEq (.str "rules") (.str "rules") = some (.bl true) := q_ss (by decide +kernel) (by decide +kernel) (by decide +kernel)
  obtain ⟨b, S2, e2, hb, p2⟩ := zin p1 (by omega) cs hc h0 hl
  obtain ⟨q, S3, e3, p3, hq⟩ := rule_ok p2 (by omega) cs hc h0 hl
  obtain ⟨x, S4, e4, p4, hx⟩ := zf7 p3 (by omega) [D.non, .lst [], .str "x", .int 7, .bl true, .tup [.non], .tup [rulD q, rulD q, rulD q, rulD q, rulD q, rulD q, rulD q, rulD q, rulD q], rulD q, .lst [rulD q], .tup [b], .tup [rulD q, b], .tup [b, rulD q], .tup [rulD q, b, rulD q]] (by simp) (by simp) _ (.inl rfl)
  have m9 : zb6 (.tup [rulD q]) (.int 9) = some (.tup [rulD q, rulD q, rulD q, rulD q, rulD q, rulD q, rulD q, rulD q, rulD q]) := rfl
  simp! only [e1, q0, q1, q2, e2, e3, m9, zj7, show szB 11 = true from by decide, show szB 13 = true from by decide, e4, p4.take h.len]
  refine ⟨x, S4, rfl, ?_, p4.mono (by omega)⟩
  have sb := sm_bad hb
  have sq := sm_rul hq hl
  have hqs : zbe (rulD q) := shortR hq.sh
  have nb := hb.no
  simp only [List.mem_cons, List.not_mem_nil, or_false] at hx
  have wide : ∀ y, y ∈ ([D.non, .lst [], .str "x", .int 7, .bl true, .tup [.non]] : List D) → zcb cs y = false → BadK cs "rules" y := fun y hy h0 => by
    obtain ⟨w1, w2, w3⟩ := sm_w hy
    exact ⟨⟨w1.mono (by decide) (by decide), fun z => absurd z (by decide), fun _ => w3⟩, h0⟩
  have tup : ∀ ys : List D, (∀ y ∈ ys, y = rulD q ∨ y = b) → ys.length ≤ 9 → zcb cs (.tup ys) = false → BadK cs "rules" (.tup ys) := fun ys hy hl0 h0 => by
    refine ⟨⟨(Sm.tupN (n := 6) (b := 1000) (m := 20000) (fun y h => ?_) (by omega)).mono (by decide) (by decide), fun z => absurd z (by decide), fun _ y h => ?_⟩, h0⟩
    · rcases hy y h with rfl | rfl
      · exact sq
      · exact sb
    · rcases hy y h with rfl | rfl
      · exact hqs
      · exact hb.sh
  rcases hx with rfl | rfl | rfl | rfl | rfl | rfl | rfl | rfl | rfl | rfl | rfl | rfl | rfl
  · exact wide _ (by simp) rfl
  · exact wide _ (by simp) rfl
  · exact wide _ (by simp) rfl
  · exact wide _ (by simp) rfl
  · exact wide _ (by simp) rfl
  · exact wide _ (by simp) (zj1 (x := .non) (by simp) rfl)
  · exact tup _ (by simp) (by simp) (by simp [zcb])
  · exact ⟨⟨sq.mono (by decide) (by decide), fun z => absurd z (by decide), fun _ => rul_items q⟩, show zcb cs (rulD q) = false from zj1 (x := .int (q.c : Nat)) (by simp [rulD]) rfl⟩
  · refine ⟨⟨(Sm.lst (n := 6) (b := 1000) (m := 20000) (fun y h => ?_) (by simp)).mono (by decide) (by decide), fun z => absurd z (by decide), fun _ y h => ?_⟩, rfl⟩
    · simp only [List.mem_cons, List.not_mem_nil, or_false] at h; rw [h]; exact sq
    · simp only [zap, List.mem_cons, List.not_mem_nil, or_false] at h; rw [h]; exact hqs
  · exact tup _ (by simp) (by simp) (zj1 (x := b) (by simp) nb)
  · exact tup _ (by simp) (by simp) (zj1 (x := b) (by simp) nb)
  · exact tup _ (by simp) (by simp) (zj1 (x := b) (by simp) nb)
  · exact tup _ (by simp) (by simp) (zj1 (x := b) (by simp) nb)
theorem bad_row {n : Nat} {T S : zae} (h : Pen n T S) (hn : n + 60 ≤ LIM) (cs : List D) (hc : ∀ c ∈ cs, okC c) (h0 : 1 ≤ cs.length) (hl : cs.length ≤ 4) :
    ∃ (x : D) (S1 : zae), zba [.obj 0, .dat (.str "row"), .dat (.tup cs)] S = .ok (.dat x) S1 ∧ BadK cs "row" x ∧ Pen (n + 60) T S1 := by
  unfold zba zcy
  obtain ⟨r, S1, e1, p1, hr, hp⟩ := zho h (by omega) cs hc hl
  have q0 : dEq (.str "row") (.str "columns") = some (.bl false) := q_ss (by decide +kernel) (by decide +kernel) (by decide +kernel)
  have q1 : dEq (.str "row") (.str "rule") = some (.bl false) := q_ss (by decide +kernel) (by decide +kernel) (by decide +kernel)
  have q2 : dEq (.str "row") (.str "rules") = some (.bl false) := q_ss (by decide +kernel) (by decide +kernel) (by decide +kernel)
  have q3 : dEq (.str "row") (.str "row") = some (.bl true) := q_ss (by decide +kernel) (by decide +kernel) (by decide +kernel)
  have lr := row_lr hr
  obtain ⟨bs, S2, e2, lb, nb, sb, p2⟩ := zjy p1 (by omega) cs hc h0 hl
  have R := sm_row hp (by omega)
  obtain ⟨x, S4, e4, p4, hx⟩ := zf7 p2 (by omega) [D.non, .lst [], .str "x", .int 7, .bl true, .tup [], .tup (r.map D.int ++ (r.map D.int).take 1), .tup ((r.map D.int).drop 1), .lst (r.map D.int), .tup bs, .tup bs, .tup bs, .tup bs, .tup bs, .tup bs] (by simp) (by simp) _ (.inl rfl)
  have cu : cutL [D.non, D.lst [], .str "x", .int 7, .bl true, .tup [.non]] none (some 5) = [D.non, .lst [], .str "x", .int 7, .bl true] := rfl
  have c1 : cutL (r.map D.int) none (some 1) = (r.map D.int).take 1 := by
    exact cut_t1 _
  have c2 : cutL (r.map D.int) (some 1) none = (r.map D.int).drop 1 := by
    exact cut_from _ 1
  have m6 : zb6 (.lst [.tup bs]) (.int 6) = some (.lst [.tup bs, .tup bs, .tup bs, .tup bs, .tup bs, .tup bs]) := rfl
  have ad : dAdd (.tup (r.map D.int)) (.tup ((r.map D.int).take 1)) = some (.tup (r.map D.int ++ (r.map D.int).take 1)) := by
    rw [zj0, zdj (by simp; omega)]; rfl
  simp! only [e1, q0, q1, q2, q3, e2, rowD, cu, c1, c2, m6, ad, zj7, show szB 10 = true from by decide, show szB 15 = true from by decide, e4, p4.take h.len]
  refine ⟨x, S4, rfl, ?_, p4.mono (by omega)⟩
  simp only [List.mem_cons, List.not_mem_nil, or_false, or_self] at hx
  have mk : ∀ y, Sm 9 20000 y → zd_ cs y = false → BadK cs "row" y := fun y h1 h2 => ⟨⟨h1, fun z => absurd z (by decide), fun z => absurd z (by decide)⟩, h2⟩
  have W : ∀ y, y ∈ ([D.non, .lst [], .str "x", .int 7, .bl true, .tup [.non]] : List D) → Sm 9 20000 y := fun y hy => (sm_w hy).1.mono (by decide) (by decide)
  rcases hx with rfl | rfl | rfl | rfl | rfl | rfl | rfl | rfl | rfl | rfl
  · exact mk _ (W _ (by simp)) rfl
  · exact mk _ (W _ (by simp)) rfl
  · exact mk _ (W _ (by simp)) rfl
  · exact mk _ (W _ (by simp)) rfl
  · exact mk _ (W _ (by simp)) rfl
  · exact mk _ ⟨rfl, rfl, by decide +kernel⟩ (zfd (by simp; omega))
  · refine mk _ ((Sm.tupN (n := 2) (b := 10) (m := 20000) (fun y hy => ?_) (by simp; omega)).mono (by decide) (by decide)) (zfd (by simp; omega))
    rcases List.mem_append.mp hy with hy | hy
    · exact R y hy
    · exact R y (List.mem_of_mem_take hy)
  · exact mk _ ((Sm.tupN (n := 2) (b := 10) (m := 20000) (fun y hy => R y (List.mem_of_mem_drop hy)) (by simp; omega)).mono (by decide) (by decide)) (zfd (by simp; omega))
  · exact mk _ ((Sm.lst (n := 2) (b := 10) (m := 20000) (fun y hy => R y hy) (by simp; omega)).mono (by decide) (by decide)) rfl
  · exact mk _ ((Sm.tupN (n := 2) (b := 10) (m := 20000) (fun y hy => sb y hy) (by omega)).mono (by decide) (by decide)) nb
theorem bad_table {n : Nat} {T S : zae} (h : Pen n T S) (hn : n + 60 ≤ LIM) (cs : List D) (hc : ∀ c ∈ cs, okC c) (h0 : 1 ≤ cs.length) (hl : cs.length ≤ 4) :
    ∃ (x : D) (S1 : zae), zba [.obj 0, .dat (.str "table"), .dat (.tup cs)] S = .ok (.dat x) S1 ∧ BadK cs "table" x ∧ Pen (n + 60) T S1 := by
  unfold zba zcy
  obtain ⟨r, S1, e1, p1, hr, hp⟩ := zho h (by omega) cs hc hl
  have q0 : dEq (.str "table") (.str "columns") = some (.bl false) := q_ss (by decide +kernel) (by decide +kernel) (by decide +kernel)
  have q1 : dEq (.str "table") (.str "rule") = some (.bl false) := q_ss (by decide +kernel) (by decide +kernel) (by decide +kernel)
  have q2 : dEq (.str "table") (.str "rules") = some (.bl false) := q_ss (by decide +kernel) (by decide +kernel) (by decide +kernel)
  have q3 : dEq (.str "table") (.str "row") = some (.bl false) := q_ss (by decide +kernel) (by decide +kernel) (by decide +kernel)
  have q4 : dEq (.str "table") (.str "table") = some (.bl true) := q_ss (by decide +kernel) (by decide +kernel) (by decide +kernel)
  have lr := row_lr hr
  obtain ⟨bs, S2, e2, lb, nb, sb, p2⟩ := zjy p1 (by omega) cs hc h0 hl
  have R := sm_row hp (by omega)
  obtain ⟨x, S4, e4, p4, hx⟩ := zf7 p2 (by omega) [D.non, .lst [], .str "x", .int 7, .bl true, .tup [.non], .tup [rowD r, rowD r, rowD r, rowD r, rowD r, rowD r, rowD r, rowD r, rowD r], .tup (r.map D.int ++ [.int 0]), .tup [.tup (r.map D.int ++ [.int 0])], .tup [.tup bs], .tup [rowD r, .tup bs], .tup [.tup bs, rowD r], .tup [rowD r, .tup bs, rowD r], .lst [rowD r], .tup [.tup []], .tup [rowD r, .lst (r.map D.int)]] (by simp) (by simp) _ (.inl rfl)
  have m9 : zb6 (.tup [rowD r]) (.int 9) = some (.tup [rowD r, rowD r, rowD r, rowD r, rowD r, rowD r, rowD r, rowD r, rowD r]) := rfl
  have ad : dAdd (rowD r) (.tup [.int 0]) = some (.tup (r.map D.int ++ [.int 0])) := by
    rw [rowD, zj0, zdj (by simp; omega)]; rfl
  have li : zjg (rowD r) = some (.lst (r.map D.int)) := rfl
  simp! only [e1, q0, q1, q2, q3, q4, e2, m9, ad, li, zj7, show szB 9 = true from by decide, show szB 15 = true from by decide, show szB 16 = true from by decide, e4, p4.take h.len]
  refine ⟨x, S4, rfl, ?_, p4.mono (by omega)⟩
  simp only [List.mem_cons, List.not_mem_nil, or_false, or_self] at hx
  have mk : ∀ y, Sm 9 20000 y → zep cs y = false → BadK cs "table" y := fun y h1 h2 => ⟨⟨h1, fun z => absurd z (by decide), fun z => absurd z (by decide)⟩, h2⟩
  have W : ∀ y, y ∈ ([D.non, .lst [], .str "x", .int 7, .bl true, .tup [.non]] : List D) → Sm 9 20000 y := fun y hy => (sm_w hy).1.mono (by decide) (by decide)
  have sr : Sm 3 100 (rowD r) := Sm.tupN (n := 2) (b := 10) R (by simp; omega)
  have sB : Sm 3 100 (.tup bs) := Sm.tupN (n := 2) (b := 10) sb (by omega)
  have R0 : ∀ y ∈ r.map D.int ++ [D.int 0], Sm 2 10 y := fun y hy => by
    rcases List.mem_append.mp hy with hy | hy
    · exact R y hy
    · simp only [List.mem_cons, List.not_mem_nil, or_false] at hy; rw [hy]; exact ⟨rfl, rfl, by decide +kernel⟩
  have s0 : Sm 3 100 (.tup (r.map D.int ++ [.int 0])) := Sm.tupN (n := 2) (b := 10) R0 (by simp; omega)
  have sl : Sm 3 100 (.lst (r.map D.int)) := Sm.lst (n := 2) (b := 10) R (by simp; omega)
  have n0 : zd_ cs (.tup (r.map D.int ++ [.int 0])) = false := zfd (by simp; omega)
  have T2 : ∀ ys : List D, (∀ y ∈ ys, Sm 3 100 y) → ys.length ≤ 9 → zep cs (.tup ys) = false → BadK cs "table" (.tup ys) := fun ys h1 h2 h3 => mk _ ((Sm.tupN (n := 3) (b := 100) (m := 20000) h1 (by omega)).mono (by decide) (by decide)) h3
  rcases hx with rfl | rfl | rfl | rfl | rfl | rfl | rfl | rfl | rfl | rfl | rfl | rfl | rfl | rfl | rfl | rfl
  · exact mk _ (W _ (by simp)) rfl
  · exact mk _ (W _ (by simp)) rfl
  · exact mk _ (W _ (by simp)) rfl
  · exact mk _ (W _ (by simp)) rfl
  · exact mk _ (W _ (by simp)) rfl
  · exact mk _ (W _ (by simp)) (zgs (x := .non) (by simp) rfl)
  · exact T2 _ (by simp [sr]) (by simp) (by simp [zep])
  · exact mk _ (s0.mono (by decide) (by decide)) (zgs (x := .int 0) (by simp) rfl)
  · exact T2 _ (by simp [s0]) (by simp) (zgs (x := .tup (r.map D.int ++ [.int 0])) (by simp) n0)
  · exact T2 _ (by simp [sB]) (by simp) (zgs (x := .tup bs) (by simp) nb)
  · exact T2 _ (by simp [sB, sr]) (by simp) (zgs (x := .tup bs) (by simp) nb)
  · exact T2 _ (by simp [sB, sr]) (by simp) (zgs (x := .tup bs) (by simp) nb)
  · exact T2 _ (by simp [sB, sr]) (by simp) (zgs (x := .tup bs) (by simp) nb)
  · exact mk _ ((Sm.lst (n := 3) (b := 100) (m := 20000) (by simp [sr]) (by simp)).mono (by decide) (by decide)) rfl
  · exact T2 _ (by simp; exact ⟨rfl, rfl, by decide +kernel⟩) (by simp) (zgs (x := .tup []) (by simp) (zfd (by simp; omega)))
  · exact T2 _ (by simp [sr, sl]) (by simp) (zgs (x := .lst (r.map D.int)) (by simp) rfl)
theorem bad_number {n : Nat} {T S : zae} (h : Pen n T S) (hn : n + 60 ≤ LIM) (cs : List D) (hc : ∀ c ∈ cs, okC c) (h0 : 1 ≤ cs.length) (hl : cs.length ≤ 4) :
    ∃ (x : D) (S1 : zae), zba [.obj 0, .dat (.str "number"), .dat (.tup cs)] S = .ok (.dat x) S1 ∧ BadK cs "number" x ∧ Pen (n + 60) T S1 := by
  unfold zba zcy
  obtain ⟨r, S1, e1, p1, hr, hp⟩ := zho h (by omega) cs hc hl
  have q0 : dEq (.str "number") (.str "columns") = some (.bl false) := q_ss (by decide +kernel) (by decide +kernel) (by decide +kernel)
  have q1 : dEq (.str "number") (.str "rule") = some (.bl false) := q_ss (by decide +kernel) (by decide +kernel) (by decide +kernel)
  have q2 : dEq (.str "number") (.str "rules") = some (.bl false) := q_ss (by decide +kernel) (by decide +kernel) (by decide +kernel)
  have q3 : dEq (.str "number") (.str "row") = some (.bl false) := q_ss (by decide +kernel) (by decide +kernel) (by decide +kernel)
  have q4 : dEq (.str "number") (.str "table") = some (.bl false) := q_ss (by decide +kernel) (by decide +kernel) (by decide +kernel)
  have q5 : dEq (.str "number") (.str "settled") = some (.bl false) := q_ss (by decide +kernel) (by decide +kernel) (by decide +kernel)
  obtain ⟨t, S2, e2, p2, ht⟩ := zdo p1 (by omega) 3 (by decide) (by decide)
  obtain ⟨x, S4, e4, p4, hx⟩ := zf7 p2 (by omega) [D.non, .int 0, .int 9, .int (-1), .bl true, .str "1", .tup [.int 1], .lst [.int 1], .int 100000000000000000000] (by simp) (by simp) _ (.inl rfl)
  have pw : dPow (.int 10) (.int 20) = some (.int 100000000000000000000) := ziv (i := 10) (j := 20) (by decide) (by decide)
  simp! only [e1, q0, q1, q2, q3, q4, q5, e2, pw, e4, p4.take h.len]
  refine ⟨x, S4, rfl, ?_, p4.mono (by omega)⟩
  have key : ∀ x ∈ ([D.non, .int 0, .int 9, .int (-1), .bl true, .str "1", .tup [.int 1], .lst [.int 1], .int 100000000000000000000] : List D), zfc x 1 8 = false ∧ x.fit 9 = true ∧ x.tiny = true ∧ x.py.bulk ≤ 20000 := by
    decide +kernel
  obtain ⟨k1, k2, k3, k4⟩ := key x hx
  exact ⟨⟨⟨k2, k3, k4⟩, fun z => absurd z (by decide), fun z => absurd z (by decide)⟩, k1⟩
end T18
set_option maxHeartbeats 400000
namespace T18
open PySem PySem.Spec PyProof.Rows L2 DL
theorem zdm {cs : List D} (h : zav (.tup cs) = true) : (∀ c ∈ cs, ze_ c = true) ∧ cs.length ≤ 4 := by
  obtain ⟨cs', e, _, h2, h3⟩ := zfr h
  cases e
  exact ⟨h3, h2⟩
theorem ze0 {a : D} (h : zav a = false) (S : zae) : za2 [.dat a] S = .ex "InvalidColumns" S := by rw [zc2, h] <;> rfl
theorem zcx {cs : List D} (h : zav (.tup cs) = true) (S : zae) : za2 [.dat (.tup cs)] S = .ok (.dat .non) S := by rw [zc2, h] <;> rfl
theorem zc8 {a b : D} (h : zav a = false) (sb : ∀ r ∈ zap b, zbe r) (S : zae) : zaw [.dat a, .dat b] S = .ex "InvalidColumns" S := by rw [zdq a b sb, h] <;> rfl
theorem zd7 {cs : List D} {b : D} (h : zav (.tup cs) = true) (sb : ∀ r ∈ zap b, zbe r) (hb : zcb cs b = false) (S : zae) : zaw [.dat (.tup cs), .dat b] S = .ex "InvalidRules" S := by
  rw [zdq _ b sb, h, show zap (.tup cs) = cs from rfl, hb] <;> rfl
theorem zfe {cs : List D} {b : D} (h : zav (.tup cs) = true) (sb : ∀ r ∈ zap b, zbe r) (hb : zcb cs b = true) (S : zae) : zaw [.dat (.tup cs), .dat b] S = .ok (.dat .non) S := by
  rw [zdq _ b sb, h, show zap (.tup cs) = cs from rfl, hb] <;> rfl
theorem zk2 {cs : List D} {b : D} (h : zav (.tup cs) = true) (sb : zbe b) (hb : zcp cs b = false) (S : zae) : zbw [.dat (.tup cs), .dat b] S = .ex "InvalidRule" S := by
  rw [zfg cs b (zdm h).1 sb, hb] <;> rfl
theorem rq_rule1 {cs : List D} {b : D} (h : zav (.tup cs) = true) (sb : zbe b) (hb : zcp cs b = true) (S : zae) : zbw [.dat (.tup cs), .dat b] S = .ok (.dat .non) S := by
  rw [zfg cs b (zdm h).1 sb, hb] <;> rfl
theorem zeu {cs : List D} {b : D} (h : zav (.tup cs) = true) (hb : zep cs b = false) (S : zae) : zb_ [.dat (.tup cs), .dat b] S = .ex "InvalidTable" S := by
  rw [ze9 cs b (zdm h).1 (zdm h).2, hb] <;> rfl
theorem rq_table1 {cs : List D} {b : D} (h : zav (.tup cs) = true) (hb : zep cs b = true) (S : zae) : zb_ [.dat (.tup cs), .dat b] S = .ok (.dat .non) S := by
  rw [ze9 cs b (zdm h).1 (zdm h).2, hb] <;> rfl
theorem rq_row0 {cs : List D} {b : D} (h : zav (.tup cs) = true) (hb : zd_ cs b = false) (S : zae) : zc3 [.dat (.tup cs), .dat b] S = .ex "InvalidRow" S := by
  rw [zjw cs b (zdm h).1 (zdm h).2, hb] <;> rfl
theorem a_tryK (f : SFn) (m : Str → Option Bool) (i j : Nat) (ρ : zar) (S : zae) : sTryK f m i j ρ S = keepS m i j (f ρ S) := rfl
theorem no_exn (E : Str) (S : zae) : oIsNo false (.exn E none) (.dat .non) S = .ok (.dat (.bl false)) S := rfl
theorem zbi {i : Int} {xs : List D} {E w y : Str} {S : zae} (hd : zai [.dat (.int i), .dat (.lst xs)] S = .ex E S) (ct : zdw E = some true) (wd : za9 [.exn E none] S = .ok (.dat (.str w)) S) (hx : zkw (.lst xs) = some (.str y)) :
    zc1 [.dat (.int i), .dat (.lst xs)] S = .ok (.dat (.str w)) S := by
  unfold zc1 zhw
  have nn : dNeS (.str y) (.str y) = some (.bl false) := by simp [dNeS]
  simp! only [a_tryK, hd, keepS, ct, no_exn, hx, nn, wd]
theorem do_0_0 {a b c : D} (h0 : zav a = false) (s1 : ∀ r ∈ zap b, zbe r) (S : zae) : zai [.dat (.int 0), .dat (.lst [a, b, c])] S = .ex "InvalidColumns" S := by
  have r0 := zc8 h0 s1 S
  have f : zeg [.dat (a), .dat (b), .dat (c)] S = .ex "InvalidColumns" S := by
    unfold zeg zie
    simp! only [r0]
  have q0 : dEq (.int 0) (.int 0) = some (.bl true) := by rw [zah]; rfl
  have x0 : atI [a, b, c] 0 = some (a) := rfl
  have x1 : atI [a, b, c] 1 = some (b) := rfl
  have x2 : atI [a, b, c] 2 = some (c) := rfl
  unfold zai zan
  simp! only [q0, x0, x1, x2, f]
theorem do_0_1 {cs : List D} {b c : D} (h0 : zav (.tup cs) = true) (s1 : ∀ r ∈ zap b, zbe r) (h1 : zcb cs b = false) (S : zae) : zai [.dat (.int 0), .dat (.lst [.tup cs, b, c])] S = .ex "InvalidRules" S := by
  have r0 := zd7 h0 s1 h1 S
  have f : zeg [.dat (.tup cs), .dat (b), .dat (c)] S = .ex "InvalidRules" S := by
    unfold zeg zie
    simp! only [r0]
  have q0 : dEq (.int 0) (.int 0) = some (.bl true) := by rw [zah]; rfl
  have x0 : atI [D.tup cs, b, c] 0 = some (.tup cs) := rfl
  have x1 : atI [D.tup cs, b, c] 1 = some (b) := rfl
  have x2 : atI [D.tup cs, b, c] 2 = some (c) := rfl
  unfold zai zan
  simp! only [q0, x0, x1, x2, f]
theorem do_0_2 {cs : List D} {b c : D} (h0 : zav (.tup cs) = true) (s1 : ∀ r ∈ zap b, zbe r) (h1 : zcb cs b = true) (h2 : zep cs c = false) (S : zae) : zai [.dat (.int 0), .dat (.lst [.tup cs, b, c])] S = .ex "InvalidTable" S := by
  have r0 := zfe h0 s1 h1 S
  have r1 := zeu h0 h2 S
  have f : zeg [.dat (.tup cs), .dat (b), .dat (c)] S = .ex "InvalidTable" S := by
    unfold zeg zie
    simp! only [r0, r1]
  have q0 : dEq (.int 0) (.int 0) = some (.bl true) := by rw [zah]; rfl
  have x0 : atI [D.tup cs, b, c] 0 = some (.tup cs) := rfl
  have x1 : atI [D.tup cs, b, c] 1 = some (b) := rfl
  have x2 : atI [D.tup cs, b, c] 2 = some (c) := rfl
  unfold zai zan
  simp! only [q0, x0, x1, x2, f]
theorem do_1_0 {a b c : D} (h0 : zav a = false) (S : zae) : zai [.dat (.int 1), .dat (.lst [a, b, c])] S = .ex "InvalidColumns" S := by
  have r0 := ze0 h0 S
  have f : zfp [.dat (a), .dat (b), .dat (c)] S = .ex "InvalidColumns" S := by
    unfold zfp zk1
    simp! only [r0]
  have q0 : dEq (.int 1) (.int 0) = some (.bl false) := by rw [zah]; rfl
  have q1 : dEq (.int 1) (.int 1) = some (.bl true) := by rw [zah]; rfl
  have x0 : atI [a, b, c] 0 = some (a) := rfl
  have x1 : atI [a, b, c] 1 = some (b) := rfl
  have x2 : atI [a, b, c] 2 = some (c) := rfl
  unfold zai zan
  simp! only [q0, q1, x0, x1, x2, f]
theorem do_1_1 {cs : List D} {b c : D} (h0 : zav (.tup cs) = true) (s1 : zbe b) (h1 : zcp cs b = false) (S : zae) : zai [.dat (.int 1), .dat (.lst [.tup cs, b, c])] S = .ex "InvalidRule" S := by
  have r0 := zcx h0 S
  have r1 := zk2 h0 s1 h1 S
  have f : zfp [.dat (.tup cs), .dat (b), .dat (c)] S = .ex "InvalidRule" S := by
    unfold zfp zk1
    simp! only [r0, r1]
  have q0 : dEq (.int 1) (.int 0) = some (.bl false) := by rw [zah]; rfl
  have q1 : dEq (.int 1) (.int 1) = some (.bl true) := by rw [zah]; rfl
  have x0 : atI [D.tup cs, b, c] 0 = some (.tup cs) := rfl
  have x1 : atI [D.tup cs, b, c] 1 = some (b) := rfl
  have x2 : atI [D.tup cs, b, c] 2 = some (c) := rfl
  unfold zai zan
  simp! only [q0, q1, x0, x1, x2, f]
theorem do_1_2 {cs : List D} {b c : D} (h0 : zav (.tup cs) = true) (s1 : zbe b) (h1 : zcp cs b = true) (h2 : zep cs c = false) (S : zae) : zai [.dat (.int 1), .dat (.lst [.tup cs, b, c])] S = .ex "InvalidTable" S := by
  have r0 := zcx h0 S
  have r1 := rq_rule1 h0 s1 h1 S
  have r2 := zeu h0 h2 S
  have f : zfp [.dat (.tup cs), .dat (b), .dat (c)] S = .ex "InvalidTable" S := by
    unfold zfp zk1
    simp! only [r0, r1, r2]
  have q0 : dEq (.int 1) (.int 0) = some (.bl false) := by rw [zah]; rfl
  have q1 : dEq (.int 1) (.int 1) = some (.bl true) := by rw [zah]; rfl
  have x0 : atI [D.tup cs, b, c] 0 = some (.tup cs) := rfl
  have x1 : atI [D.tup cs, b, c] 1 = some (b) := rfl
  have x2 : atI [D.tup cs, b, c] 2 = some (c) := rfl
  unfold zai zan
  simp! only [q0, q1, x0, x1, x2, f]
theorem do_2_0 {a b c : D} (h0 : zav a = false) (s1 : ∀ r ∈ zap b, zbe r) (S : zae) : zai [.dat (.int 2), .dat (.lst [a, b, c])] S = .ex "InvalidColumns" S := by
  have r0 := zc8 h0 s1 S
  have f : zc_ [.dat (a), .dat (b), .dat (c)] S = .ex "InvalidColumns" S := by
    unfold zc_ zed
    simp! only [r0]
  have q0 : dEq (.int 2) (.int 0) = some (.bl false) := by rw [zah]; rfl
  have q1 : dEq (.int 2) (.int 1) = some (.bl false) := by rw [zah]; rfl
  have q2 : dEq (.int 2) (.int 2) = some (.bl true) := by rw [zah]; rfl
  have x0 : atI [a, b, c] 0 = some (a) := rfl
  have x1 : atI [a, b, c] 1 = some (b) := rfl
  have x2 : atI [a, b, c] 2 = some (c) := rfl
  unfold zai zan
  simp! only [q0, q1, q2, x0, x1, x2, f]
theorem do_2_1 {cs : List D} {b c : D} (h0 : zav (.tup cs) = true) (s1 : ∀ r ∈ zap b, zbe r) (h1 : zcb cs b = false) (S : zae) : zai [.dat (.int 2), .dat (.lst [.tup cs, b, c])] S = .ex "InvalidRules" S := by
  have r0 := zd7 h0 s1 h1 S
  have f : zc_ [.dat (.tup cs), .dat (b), .dat (c)] S = .ex "InvalidRules" S := by
    unfold zc_ zed
    simp! only [r0]
  have q0 : dEq (.int 2) (.int 0) = some (.bl false) := by rw [zah]; rfl
  have q1 : dEq (.int 2) (.int 1) = some (.bl false) := by rw [zah]; rfl
  have q2 : dEq (.int 2) (.int 2) = some (.bl true) := by rw [zah]; rfl
  have x0 : atI [D.tup cs, b, c] 0 = some (.tup cs) := rfl
  have x1 : atI [D.tup cs, b, c] 1 = some (b) := rfl
  have x2 : atI [D.tup cs, b, c] 2 = some (c) := rfl
  unfold zai zan
  simp! only [q0, q1, q2, x0, x1, x2, f]
theorem do_2_2 {cs : List D} {b c : D} (h0 : zav (.tup cs) = true) (s1 : ∀ r ∈ zap b, zbe r) (h1 : zcb cs b = true) (h2 : zep cs c = false) (S : zae) : zai [.dat (.int 2), .dat (.lst [.tup cs, b, c])] S = .ex "InvalidTable" S := by
  have r0 := zfe h0 s1 h1 S
  have r1 := zeu h0 h2 S
  have f : zc_ [.dat (.tup cs), .dat (b), .dat (c)] S = .ex "InvalidTable" S := by
    unfold zc_ zed
    simp! only [r0, r1]
  have q0 : dEq (.int 2) (.int 0) = some (.bl false) := by rw [zah]; rfl
  have q1 : dEq (.int 2) (.int 1) = some (.bl false) := by rw [zah]; rfl
  have q2 : dEq (.int 2) (.int 2) = some (.bl true) := by rw [zah]; rfl
  have x0 : atI [D.tup cs, b, c] 0 = some (.tup cs) := rfl
  have x1 : atI [D.tup cs, b, c] 1 = some (b) := rfl
  have x2 : atI [D.tup cs, b, c] 2 = some (c) := rfl
  unfold zai zan
  simp! only [q0, q1, q2, x0, x1, x2, f]
theorem do_3_0 {a b : D} (h0 : zav a = false) (s1 : ∀ r ∈ zap b, zbe r) (S : zae) : zai [.dat (.int 3), .dat (.lst [a, b])] S = .ex "InvalidColumns" S := by
  have r0 := zc8 h0 s1 S
  have f : zdz [.dat (a), .dat (b)] S = .ex "InvalidColumns" S := by
    unfold zdz zhh
    simp! only [r0]
  have q0 : dEq (.int 3) (.int 0) = some (.bl false) := by rw [zah]; rfl
  have q1 : dEq (.int 3) (.int 1) = some (.bl false) := by rw [zah]; rfl
  have q2 : dEq (.int 3) (.int 2) = some (.bl false) := by rw [zah]; rfl
  have q3 : dEq (.int 3) (.int 3) = some (.bl true) := by rw [zah]; rfl
  have x0 : atI [a, b] 0 = some (a) := rfl
  have x1 : atI [a, b] 1 = some (b) := rfl
  unfold zai zan
  simp! only [q0, q1, q2, q3, x0, x1, f]
theorem do_3_1 {cs : List D} {b : D} (h0 : zav (.tup cs) = true) (s1 : ∀ r ∈ zap b, zbe r) (h1 : zcb cs b = false) (S : zae) : zai [.dat (.int 3), .dat (.lst [.tup cs, b])] S = .ex "InvalidRules" S := by
  have r0 := zd7 h0 s1 h1 S
  have f : zdz [.dat (.tup cs), .dat (b)] S = .ex "InvalidRules" S := by
    unfold zdz zhh
    simp! only [r0]
  have q0 : dEq (.int 3) (.int 0) = some (.bl false) := by rw [zah]; rfl
  have q1 : dEq (.int 3) (.int 1) = some (.bl false) := by rw [zah]; rfl
  have q2 : dEq (.int 3) (.int 2) = some (.bl false) := by rw [zah]; rfl
  have q3 : dEq (.int 3) (.int 3) = some (.bl true) := by rw [zah]; rfl
  have x0 : atI [D.tup cs, b] 0 = some (.tup cs) := rfl
  have x1 : atI [D.tup cs, b] 1 = some (b) := rfl
  unfold zai zan
  simp! only [q0, q1, q2, q3, x0, x1, f]
theorem do_4_0 {a b : D} (h0 : zav a = false) (s1 : ∀ r ∈ zap b, zbe r) (S : zae) : zai [.dat (.int 4), .dat (.lst [a, b])] S = .ex "InvalidColumns" S := by
  have r0 := zc8 h0 s1 S
  have f : zhg [.dat (a), .dat (b)] S = .ex "InvalidColumns" S := by
    unfold zhg s_cover
    simp! only [r0]
  have q0 : dEq (.int 4) (.int 0) = some (.bl false) := by rw [zah]; rfl
  have q1 : dEq (.int 4) (.int 1) = some (.bl false) := by rw [zah]; rfl
  have q2 : dEq (.int 4) (.int 2) = some (.bl false) := by rw [zah]; rfl
  have q3 : dEq (.int 4) (.int 3) = some (.bl false) := by rw [zah]; rfl
  have q4 : dEq (.int 4) (.int 4) = some (.bl true) := by rw [zah]; rfl
  have x0 : atI [a, b] 0 = some (a) := rfl
  have x1 : atI [a, b] 1 = some (b) := rfl
  unfold zai zan
  simp! only [q0, q1, q2, q3, q4, x0, x1, f]
theorem do_4_1 {cs : List D} {b : D} (h0 : zav (.tup cs) = true) (s1 : ∀ r ∈ zap b, zbe r) (h1 : zcb cs b = false) (S : zae) : zai [.dat (.int 4), .dat (.lst [.tup cs, b])] S = .ex "InvalidRules" S := by
  have r0 := zd7 h0 s1 h1 S
  have f : zhg [.dat (.tup cs), .dat (b)] S = .ex "InvalidRules" S := by
    unfold zhg s_cover
    simp! only [r0]
  have q0 : dEq (.int 4) (.int 0) = some (.bl false) := by rw [zah]; rfl
  have q1 : dEq (.int 4) (.int 1) = some (.bl false) := by rw [zah]; rfl
  have q2 : dEq (.int 4) (.int 2) = some (.bl false) := by rw [zah]; rfl
  have q3 : dEq (.int 4) (.int 3) = some (.bl false) := by rw [zah]; rfl
  have q4 : dEq (.int 4) (.int 4) = some (.bl true) := by rw [zah]; rfl
  have x0 : atI [D.tup cs, b] 0 = some (.tup cs) := rfl
  have x1 : atI [D.tup cs, b] 1 = some (b) := rfl
  unfold zai zan
  simp! only [q0, q1, q2, q3, q4, x0, x1, f]
theorem do_5_0 {a b : D} (h0 : zav a = false) (s1 : ∀ r ∈ zap b, zbe r) (S : zae) : zai [.dat (.int 5), .dat (.lst [a, b])] S = .ex "InvalidColumns" S := by
  have r0 := zc8 h0 s1 S
  have f : zd0 [.dat (a), .dat (b), .dat .non] S = .ex "InvalidColumns" S := by
    unfold zd0 zhf
    simp! only [r0]
  have q0 : dEq (.int 5) (.int 0) = some (.bl false) := by rw [zah]; rfl
  have q1 : dEq (.int 5) (.int 1) = some (.bl false) := by rw [zah]; rfl
  have q2 : dEq (.int 5) (.int 2) = some (.bl false) := by rw [zah]; rfl
  have q3 : dEq (.int 5) (.int 3) = some (.bl false) := by rw [zah]; rfl
  have q4 : dEq (.int 5) (.int 4) = some (.bl false) := by rw [zah]; rfl
  have q5 : dEq (.int 5) (.int 5) = some (.bl true) := by rw [zah]; rfl
  have x0 : atI [a, b] 0 = some (a) := rfl
  have x1 : atI [a, b] 1 = some (b) := rfl
  unfold zai zan
  simp! only [q0, q1, q2, q3, q4, q5, x0, x1, f]
theorem do_5_1 {cs : List D} {b : D} (h0 : zav (.tup cs) = true) (s1 : ∀ r ∈ zap b, zbe r) (h1 : zcb cs b = false) (S : zae) : zai [.dat (.int 5), .dat (.lst [.tup cs, b])] S = .ex "InvalidRules" S := by
  have r0 := zd7 h0 s1 h1 S
  have f : zd0 [.dat (.tup cs), .dat (b), .dat .non] S = .ex "InvalidRules" S := by
    unfold zd0 zhf
    simp! only [r0]
  have q0 : dEq (.int 5) (.int 0) = some (.bl false) := by rw [zah]; rfl
  have q1 : dEq (.int 5) (.int 1) = some (.bl false) := by rw [zah]; rfl
  have q2 : dEq (.int 5) (.int 2) = some (.bl false) := by rw [zah]; rfl
  have q3 : dEq (.int 5) (.int 3) = some (.bl false) := by rw [zah]; rfl
  have q4 : dEq (.int 5) (.int 4) = some (.bl false) := by rw [zah]; rfl
  have q5 : dEq (.int 5) (.int 5) = some (.bl true) := by rw [zah]; rfl
  have x0 : atI [D.tup cs, b] 0 = some (.tup cs) := rfl
  have x1 : atI [D.tup cs, b] 1 = some (b) := rfl
  unfold zai zan
  simp! only [q0, q1, q2, q3, q4, q5, x0, x1, f]
theorem do_6_0 {a b : D} (h0 : zav a = false) (S : zae) : zai [.dat (.int 6), .dat (.lst [a, b])] S = .ex "InvalidColumns" S := by
  have r0 := ze0 h0 S
  have f : zch [.dat (a), .dat (b), .dat .non] S = .ex "InvalidColumns" S := by
    unfold zch zeo
    simp! only [r0]
  have q0 : dEq (.int 6) (.int 0) = some (.bl false) := by rw [zah]; rfl
  have q1 : dEq (.int 6) (.int 1) = some (.bl false) := by rw [zah]; rfl
  have q2 : dEq (.int 6) (.int 2) = some (.bl false) := by rw [zah]; rfl
  have q3 : dEq (.int 6) (.int 3) = some (.bl false) := by rw [zah]; rfl
  have q4 : dEq (.int 6) (.int 4) = some (.bl false) := by rw [zah]; rfl
  have q5 : dEq (.int 6) (.int 5) = some (.bl false) := by rw [zah]; rfl
  have q6 : dEq (.int 6) (.int 6) = some (.bl true) := by rw [zah]; rfl
  have x0 : atI [a, b] 0 = some (a) := rfl
  have x1 : atI [a, b] 1 = some (b) := rfl
  unfold zai zan
  simp! only [q0, q1, q2, q3, q4, q5, q6, x0, x1, f]
theorem do_6_1 {cs : List D} {b : D} (h0 : zav (.tup cs) = true) (s1 : zbe b) (h1 : zcp cs b = false) (S : zae) : zai [.dat (.int 6), .dat (.lst [.tup cs, b])] S = .ex "InvalidRule" S := by
  have r0 := zcx h0 S
  have r1 := zk2 h0 s1 h1 S
  have f : zch [.dat (.tup cs), .dat (b), .dat .non] S = .ex "InvalidRule" S := by
    unfold zch zeo
    simp! only [r0, r1]
  have q0 : dEq (.int 6) (.int 0) = some (.bl false) := by rw [zah]; rfl
  have q1 : dEq (.int 6) (.int 1) = some (.bl false) := by rw [zah]; rfl
  have q2 : dEq (.int 6) (.int 2) = some (.bl false) := by rw [zah]; rfl
  have q3 : dEq (.int 6) (.int 3) = some (.bl false) := by rw [zah]; rfl
  have q4 : dEq (.int 6) (.int 4) = some (.bl false) := by rw [zah]; rfl
  have q5 : dEq (.int 6) (.int 5) = some (.bl false) := by rw [zah]; rfl
  have q6 : dEq (.int 6) (.int 6) = some (.bl true) := by rw [zah]; rfl
  have x0 : atI [D.tup cs, b] 0 = some (.tup cs) := rfl
  have x1 : atI [D.tup cs, b] 1 = some (b) := rfl
  unfold zai zan
  simp! only [q0, q1, q2, q3, q4, q5, q6, x0, x1, f]
theorem do_7_0 {a b c : D} (h0 : zav a = false) (S : zae) : zai [.dat (.int 7), .dat (.lst [a, b, c])] S = .ex "InvalidColumns" S := by
  have r0 := ze0 h0 S
  have f : zb2 [.dat (a), .dat (b), .dat (c)] S = .ex "InvalidColumns" S := by
    unfold zb2 zdv
    simp! only [r0]
  have q0 : dEq (.int 7) (.int 0) = some (.bl false) := by rw [zah]; rfl
  have q1 : dEq (.int 7) (.int 1) = some (.bl false) := by rw [zah]; rfl
  have q2 : dEq (.int 7) (.int 2) = some (.bl false) := by rw [zah]; rfl
  have q3 : dEq (.int 7) (.int 3) = some (.bl false) := by rw [zah]; rfl
  have q4 : dEq (.int 7) (.int 4) = some (.bl false) := by rw [zah]; rfl
  have q5 : dEq (.int 7) (.int 5) = some (.bl false) := by rw [zah]; rfl
  have q6 : dEq (.int 7) (.int 6) = some (.bl false) := by rw [zah]; rfl
  have q7 : dEq (.int 7) (.int 7) = some (.bl true) := by rw [zah]; rfl
  have x0 : atI [a, b, c] 0 = some (a) := rfl
  have x1 : atI [a, b, c] 1 = some (b) := rfl
  have x2 : atI [a, b, c] 2 = some (c) := rfl
  unfold zai zan
  simp! only [q0, q1, q2, q3, q4, q5, q6, q7, x0, x1, x2, f]
theorem do_7_1 {cs : List D} {b c : D} (h0 : zav (.tup cs) = true) (h1 : zep cs b = false) (S : zae) : zai [.dat (.int 7), .dat (.lst [.tup cs, b, c])] S = .ex "InvalidTable" S := by
  have r0 := zcx h0 S
  have r1 := zeu h0 h1 S
  have f : zb2 [.dat (.tup cs), .dat (b), .dat (c)] S = .ex "InvalidTable" S := by
    unfold zb2 zdv
    simp! only [r0, r1]
  have q0 : dEq (.int 7) (.int 0) = some (.bl false) := by rw [zah]; rfl
  have q1 : dEq (.int 7) (.int 1) = some (.bl false) := by rw [zah]; rfl
  have q2 : dEq (.int 7) (.int 2) = some (.bl false) := by rw [zah]; rfl
  have q3 : dEq (.int 7) (.int 3) = some (.bl false) := by rw [zah]; rfl
  have q4 : dEq (.int 7) (.int 4) = some (.bl false) := by rw [zah]; rfl
  have q5 : dEq (.int 7) (.int 5) = some (.bl false) := by rw [zah]; rfl
  have q6 : dEq (.int 7) (.int 6) = some (.bl false) := by rw [zah]; rfl
  have q7 : dEq (.int 7) (.int 7) = some (.bl true) := by rw [zah]; rfl
  have x0 : atI [D.tup cs, b, c] 0 = some (.tup cs) := rfl
  have x1 : atI [D.tup cs, b, c] 1 = some (b) := rfl
  have x2 : atI [D.tup cs, b, c] 2 = some (c) := rfl
  unfold zai zan
  simp! only [q0, q1, q2, q3, q4, q5, q6, q7, x0, x1, x2, f]
theorem do_7_2 {cs : List D} {b c : D} (h0 : zav (.tup cs) = true) (h1 : zep cs b = true) (h2 : zfc c 1 8 = false) (S : zae) : zai [.dat (.int 7), .dat (.lst [.tup cs, b, c])] S = .ex "InvalidNumber" S := by
  have r0 := zcx h0 S
  have r1 := rq_table1 h0 h1 S
  have r2 := zdx c 1 8 S
  have f : zb2 [.dat (.tup cs), .dat (b), .dat (c)] S = .ex "InvalidNumber" S := by
    unfold zb2 zdv
    simp! only [r0, r1, r2, h2]
  have q0 : dEq (.int 7) (.int 0) = some (.bl false) := by rw [zah]; rfl
  have q1 : dEq (.int 7) (.int 1) = some (.bl false) := by rw [zah]; rfl
  have q2 : dEq (.int 7) (.int 2) = some (.bl false) := by rw [zah]; rfl
  have q3 : dEq (.int 7) (.int 3) = some (.bl false) := by rw [zah]; rfl
  have q4 : dEq (.int 7) (.int 4) = some (.bl false) := by rw [zah]; rfl
  have q5 : dEq (.int 7) (.int 5) = some (.bl false) := by rw [zah]; rfl
  have q6 : dEq (.int 7) (.int 6) = some (.bl false) := by rw [zah]; rfl
  have q7 : dEq (.int 7) (.int 7) = some (.bl true) := by rw [zah]; rfl
  have x0 : atI [D.tup cs, b, c] 0 = some (.tup cs) := rfl
  have x1 : atI [D.tup cs, b, c] 1 = some (b) := rfl
  have x2 : atI [D.tup cs, b, c] 2 = some (c) := rfl
  unfold zai zan
  simp! only [q0, q1, q2, q3, q4, q5, q6, q7, x0, x1, x2, f]
theorem do_8_0 {a b c : D} (h0 : zav a = false) (S : zae) : zai [.dat (.int 8), .dat (.lst [a, b, c])] S = .ex "InvalidColumns" S := by
  have r0 := ze0 h0 S
  have f : zdi [.dat (a), .dat (b), .dat (c)] S = .ex "InvalidColumns" S := by
    unfold zdi zgk
    simp! only [r0]
  have q0 : dEq (.int 8) (.int 0) = some (.bl false) := by rw [zah]; rfl
  have q1 : dEq (.int 8) (.int 1) = some (.bl false) := by rw [zah]; rfl
  have q2 : dEq (.int 8) (.int 2) = some (.bl false) := by rw [zah]; rfl
  have q3 : dEq (.int 8) (.int 3) = some (.bl false) := by rw [zah]; rfl
  have q4 : dEq (.int 8) (.int 4) = some (.bl false) := by rw [zah]; rfl
  have q5 : dEq (.int 8) (.int 5) = some (.bl false) := by rw [zah]; rfl
  have q6 : dEq (.int 8) (.int 6) = some (.bl false) := by rw [zah]; rfl
  have q7 : dEq (.int 8) (.int 7) = some (.bl false) := by rw [zah]; rfl
  have q8 : dEq (.int 8) (.int 8) = some (.bl true) := by rw [zah]; rfl
  have x0 : atI [a, b, c] 0 = some (a) := rfl
  have x1 : atI [a, b, c] 1 = some (b) := rfl
  have x2 : atI [a, b, c] 2 = some (c) := rfl
  unfold zai zan
  simp! only [q0, q1, q2, q3, q4, q5, q6, q7, q8, x0, x1, x2, f]
theorem do_8_1 {cs : List D} {b c : D} (h0 : zav (.tup cs) = true) (s1 : zbe b) (h1 : zcp cs b = false) (S : zae) : zai [.dat (.int 8), .dat (.lst [.tup cs, b, c])] S = .ex "InvalidRule" S := by
  have r0 := zcx h0 S
  have r1 := zk2 h0 s1 h1 S
  have f : zdi [.dat (.tup cs), .dat (b), .dat (c)] S = .ex "InvalidRule" S := by
    unfold zdi zgk
    simp! only [r0, r1]
  have q0 : dEq (.int 8) (.int 0) = some (.bl false) := by rw [zah]; rfl
  have q1 : dEq (.int 8) (.int 1) = some (.bl false) := by rw [zah]; rfl
  have q2 : dEq (.int 8) (.int 2) = some (.bl false) := by rw [zah]; rfl
  have q3 : dEq (.int 8) (.int 3) = some (.bl false) := by rw [zah]; rfl
  have q4 : dEq (.int 8) (.int 4) = some (.bl false) := by rw [zah]; rfl
  have q5 : dEq (.int 8) (.int 5) = some (.bl false) := by rw [zah]; rfl
  have q6 : dEq (.int 8) (.int 6) = some (.bl false) := by rw [zah]; rfl
  have q7 : dEq (.int 8) (.int 7) = some (.bl false) := by rw [zah]; rfl
  have q8 : dEq (.int 8) (.int 8) = some (.bl true) := by rw [zah]; rfl
  have x0 : atI [D.tup cs, b, c] 0 = some (.tup cs) := rfl
  have x1 : atI [D.tup cs, b, c] 1 = some (b) := rfl
  have x2 : atI [D.tup cs, b, c] 2 = some (c) := rfl
  unfold zai zan
  simp! only [q0, q1, q2, q3, q4, q5, q6, q7, q8, x0, x1, x2, f]
theorem do_8_2 {cs : List D} {b c : D} (h0 : zav (.tup cs) = true) (s1 : zbe b) (h1 : zcp cs b = true) (h2 : zd_ cs c = false) (S : zae) : zai [.dat (.int 8), .dat (.lst [.tup cs, b, c])] S = .ex "InvalidRow" S := by
  have r0 := zcx h0 S
  have r1 := rq_rule1 h0 s1 h1 S
  have r2 := rq_row0 h0 h2 S
  have f : zdi [.dat (.tup cs), .dat (b), .dat (c)] S = .ex "InvalidRow" S := by
    unfold zdi zgk
    simp! only [r0, r1, r2]
  have q0 : dEq (.int 8) (.int 0) = some (.bl false) := by rw [zah]; rfl
  have q1 : dEq (.int 8) (.int 1) = some (.bl false) := by rw [zah]; rfl
  have q2 : dEq (.int 8) (.int 2) = some (.bl false) := by rw [zah]; rfl
  have q3 : dEq (.int 8) (.int 3) = some (.bl false) := by rw [zah]; rfl
  have q4 : dEq (.int 8) (.int 4) = some (.bl false) := by rw [zah]; rfl
  have q5 : dEq (.int 8) (.int 5) = some (.bl false) := by rw [zah]; rfl
  have q6 : dEq (.int 8) (.int 6) = some (.bl false) := by rw [zah]; rfl
  have q7 : dEq (.int 8) (.int 7) = some (.bl false) := by rw [zah]; rfl
  have q8 : dEq (.int 8) (.int 8) = some (.bl true) := by rw [zah]; rfl
  have x0 : atI [D.tup cs, b, c] 0 = some (.tup cs) := rfl
  have x1 : atI [D.tup cs, b, c] 1 = some (b) := rfl
  have x2 : atI [D.tup cs, b, c] 2 = some (c) := rfl
  unfold zai zan
  simp! only [q0, q1, q2, q3, q4, q5, q6, q7, q8, x0, x1, x2, f]
theorem do_9_0 {a b c : D} (h0 : zav a = false) (s1 : ∀ r ∈ zap b, zbe r) (S : zae) : zai [.dat (.int 9), .dat (.lst [a, b, c])] S = .ex "InvalidColumns" S := by
  have r0 := zc8 h0 s1 S
  have f : zca [.dat (a), .dat (b), .dat (c)] S = .ex "InvalidColumns" S := by
    unfold zca zei
    simp! only [r0]
  have q0 : dEq (.int 9) (.int 0) = some (.bl false) := by rw [zah]; rfl
  have q1 : dEq (.int 9) (.int 1) = some (.bl false) := by rw [zah]; rfl
  have q2 : dEq (.int 9) (.int 2) = some (.bl false) := by rw [zah]; rfl
  have q3 : dEq (.int 9) (.int 3) = some (.bl false) := by rw [zah]; rfl
  have q4 : dEq (.int 9) (.int 4) = some (.bl false) := by rw [zah]; rfl
  have q5 : dEq (.int 9) (.int 5) = some (.bl false) := by rw [zah]; rfl
  have q6 : dEq (.int 9) (.int 6) = some (.bl false) := by rw [zah]; rfl
  have q7 : dEq (.int 9) (.int 7) = some (.bl false) := by rw [zah]; rfl
  have q8 : dEq (.int 9) (.int 8) = some (.bl false) := by rw [zah]; rfl
  have q9 : dEq (.int 9) (.int 9) = some (.bl true) := by rw [zah]; rfl
  have x0 : atI [a, b, c] 0 = some (a) := rfl
  have x1 : atI [a, b, c] 1 = some (b) := rfl
  have x2 : atI [a, b, c] 2 = some (c) := rfl
  unfold zai zan
  simp! only [q0, q1, q2, q3, q4, q5, q6, q7, q8, q9, x0, x1, x2, f]
theorem do_9_1 {cs : List D} {b c : D} (h0 : zav (.tup cs) = true) (s1 : ∀ r ∈ zap b, zbe r) (h1 : zcb cs b = false) (S : zae) : zai [.dat (.int 9), .dat (.lst [.tup cs, b, c])] S = .ex "InvalidRules" S := by
  have r0 := zd7 h0 s1 h1 S
  have f : zca [.dat (.tup cs), .dat (b), .dat (c)] S = .ex "InvalidRules" S := by
    unfold zca zei
    simp! only [r0]
  have q0 : dEq (.int 9) (.int 0) = some (.bl false) := by rw [zah]; rfl
  have q1 : dEq (.int 9) (.int 1) = some (.bl false) := by rw [zah]; rfl
  have q2 : dEq (.int 9) (.int 2) = some (.bl false) := by rw [zah]; rfl
  have q3 : dEq (.int 9) (.int 3) = some (.bl false) := by rw [zah]; rfl
  have q4 : dEq (.int 9) (.int 4) = some (.bl false) := by rw [zah]; rfl
  have q5 : dEq (.int 9) (.int 5) = some (.bl false) := by rw [zah]; rfl
  have q6 : dEq (.int 9) (.int 6) = some (.bl false) := by rw [zah]; rfl
  have q7 : dEq (.int 9) (.int 7) = some (.bl false) := by rw [zah]; rfl
  have q8 : dEq (.int 9) (.int 8) = some (.bl false) := by rw [zah]; rfl
  have q9 : dEq (.int 9) (.int 9) = some (.bl true) := by rw [zah]; rfl
  have x0 : atI [D.tup cs, b, c] 0 = some (.tup cs) := rfl
  have x1 : atI [D.tup cs, b, c] 1 = some (b) := rfl
  have x2 : atI [D.tup cs, b, c] 2 = some (c) := rfl
  unfold zai zan
  simp! only [q0, q1, q2, q3, q4, q5, q6, q7, q8, q9, x0, x1, x2, f]
theorem do_9_2 {cs : List D} {b c : D} (h0 : zav (.tup cs) = true) (s1 : ∀ r ∈ zap b, zbe r) (h1 : zcb cs b = true) (h2 : zep cs c = false) (S : zae) : zai [.dat (.int 9), .dat (.lst [.tup cs, b, c])] S = .ex "InvalidTable" S := by
  have r0 := zfe h0 s1 h1 S
  have r1 := zeu h0 h2 S
  have f : zca [.dat (.tup cs), .dat (b), .dat (c)] S = .ex "InvalidTable" S := by
    unfold zca zei
    simp! only [r0, r1]
  have q0 : dEq (.int 9) (.int 0) = some (.bl false) := by rw [zah]; rfl
  have q1 : dEq (.int 9) (.int 1) = some (.bl false) := by rw [zah]; rfl
  have q2 : dEq (.int 9) (.int 2) = some (.bl false) := by rw [zah]; rfl
  have q3 : dEq (.int 9) (.int 3) = some (.bl false) := by rw [zah]; rfl
  have q4 : dEq (.int 9) (.int 4) = some (.bl false) := by rw [zah]; rfl
  have q5 : dEq (.int 9) (.int 5) = some (.bl false) := by rw [zah]; rfl
  have q6 : dEq (.int 9) (.int 6) = some (.bl false) := by rw [zah]; rfl
  have q7 : dEq (.int 9) (.int 7) = some (.bl false) := by rw [zah]; rfl
  have q8 : dEq (.int 9) (.int 8) = some (.bl false) := by rw [zah]; rfl
  have q9 : dEq (.int 9) (.int 9) = some (.bl true) := by rw [zah]; rfl
  have x0 : atI [D.tup cs, b, c] 0 = some (.tup cs) := rfl
  have x1 : atI [D.tup cs, b, c] 1 = some (b) := rfl
  have x2 : atI [D.tup cs, b, c] 2 = some (c) := rfl
  unfold zai zan
  simp! only [q0, q1, q2, q3, q4, q5, q6, q7, q8, q9, x0, x1, x2, f]
theorem do_10_0 {a b c d : D} (h0 : zav a = false) (s1 : ∀ r ∈ zap b, zbe r) (S : zae) : zai [.dat (.int 10), .dat (.lst [a, b, c, d])] S = .ex "InvalidColumns" S := by
  have r0 := zc8 h0 s1 S
  have f : zbf [.dat (a), .dat (b), .dat (c), .dat (d), .dat .non] S = .ex "InvalidColumns" S := by
    unfold zbf zcn
    simp! only [r0]
  have q0 : dEq (.int 10) (.int 0) = some (.bl false) := by rw [zah]; rfl
  have q1 : dEq (.int 10) (.int 1) = some (.bl false) := by rw [zah]; rfl
  have q2 : dEq (.int 10) (.int 2) = some (.bl false) := by rw [zah]; rfl
  have q3 : dEq (.int 10) (.int 3) = some (.bl false) := by rw [zah]; rfl
  have q4 : dEq (.int 10) (.int 4) = some (.bl false) := by rw [zah]; rfl
  have q5 : dEq (.int 10) (.int 5) = some (.bl false) := by rw [zah]; rfl
  have q6 : dEq (.int 10) (.int 6) = some (.bl false) := by rw [zah]; rfl
  have q7 : dEq (.int 10) (.int 7) = some (.bl false) := by rw [zah]; rfl
  have q8 : dEq (.int 10) (.int 8) = some (.bl false) := by rw [zah]; rfl
  have q9 : dEq (.int 10) (.int 9) = some (.bl false) := by rw [zah]; rfl
  have x0 : atI [a, b, c, d] 0 = some (a) := rfl
  have x1 : atI [a, b, c, d] 1 = some (b) := rfl
  have x2 : atI [a, b, c, d] 2 = some (c) := rfl
  have x3 : atI [a, b, c, d] 3 = some (d) := rfl
  unfold zai zan
  simp! only [q0, q1, q2, q3, q4, q5, q6, q7, q8, q9, x0, x1, x2, x3, f]
theorem do_10_1 {cs : List D} {b c d : D} (h0 : zav (.tup cs) = true) (s1 : ∀ r ∈ zap b, zbe r) (h1 : zcb cs b = false) (S : zae) : zai [.dat (.int 10), .dat (.lst [.tup cs, b, c, d])] S = .ex "InvalidRules" S := by
  have r0 := zd7 h0 s1 h1 S
  have f : zbf [.dat (.tup cs), .dat (b), .dat (c), .dat (d), .dat .non] S = .ex "InvalidRules" S := by
    unfold zbf zcn
    simp! only [r0]
  have q0 : dEq (.int 10) (.int 0) = some (.bl false) := by rw [zah]; rfl
  have q1 : dEq (.int 10) (.int 1) = some (.bl false) := by rw [zah]; rfl
  have q2 : dEq (.int 10) (.int 2) = some (.bl false) := by rw [zah]; rfl
  have q3 : dEq (.int 10) (.int 3) = some (.bl false) := by rw [zah]; rfl
  have q4 : dEq (.int 10) (.int 4) = some (.bl false) := by rw [zah]; rfl
  have q5 : dEq (.int 10) (.int 5) = some (.bl false) := by rw [zah]; rfl
  have q6 : dEq (.int 10) (.int 6) = some (.bl false) := by rw [zah]; rfl
  have q7 : dEq (.int 10) (.int 7) = some (.bl false) := by rw [zah]; rfl
  have q8 : dEq (.int 10) (.int 8) = some (.bl false) := by rw [zah]; rfl
  have q9 : dEq (.int 10) (.int 9) = some (.bl false) := by rw [zah]; rfl
  have x0 : atI [D.tup cs, b, c, d] 0 = some (.tup cs) := rfl
  have x1 : atI [D.tup cs, b, c, d] 1 = some (b) := rfl
  have x2 : atI [D.tup cs, b, c, d] 2 = some (c) := rfl
  have x3 : atI [D.tup cs, b, c, d] 3 = some (d) := rfl
  unfold zai zan
  simp! only [q0, q1, q2, q3, q4, q5, q6, q7, q8, q9, x0, x1, x2, x3, f]
theorem do_10_2 {cs : List D} {b c d : D} (h0 : zav (.tup cs) = true) (s1 : ∀ r ∈ zap b, zbe r) (h1 : zcb cs b = true) (h2 : zep cs c = false) (S : zae) : zai [.dat (.int 10), .dat (.lst [.tup cs, b, c, d])] S = .ex "InvalidTable" S := by
  have r0 := zfe h0 s1 h1 S
  have r1 := zeu h0 h2 S
  have f : zbf [.dat (.tup cs), .dat (b), .dat (c), .dat (d), .dat .non] S = .ex "InvalidTable" S := by
    unfold zbf zcn
    simp! only [r0, r1]
  have q0 : dEq (.int 10) (.int 0) = some (.bl false) := by rw [zah]; rfl
  have q1 : dEq (.int 10) (.int 1) = some (.bl false) := by rw [zah]; rfl
  have q2 : dEq (.int 10) (.int 2) = some (.bl false) := by rw [zah]; rfl
  have q3 : dEq (.int 10) (.int 3) = some (.bl false) := by rw [zah]; rfl
  have q4 : dEq (.int 10) (.int 4) = some (.bl false) := by rw [zah]; rfl
  have q5 : dEq (.int 10) (.int 5) = some (.bl false) := by rw [zah]; rfl
  have q6 : dEq (.int 10) (.int 6) = some (.bl false) := by rw [zah]; rfl
  have q7 : dEq (.int 10) (.int 7) = some (.bl false) := by rw [zah]; rfl
  have q8 : dEq (.int 10) (.int 8) = some (.bl false) := by rw [zah]; rfl
  have q9 : dEq (.int 10) (.int 9) = some (.bl false) := by rw [zah]; rfl
  have x0 : atI [D.tup cs, b, c, d] 0 = some (.tup cs) := rfl
  have x1 : atI [D.tup cs, b, c, d] 1 = some (b) := rfl
  have x2 : atI [D.tup cs, b, c, d] 2 = some (c) := rfl
  have x3 : atI [D.tup cs, b, c, d] 3 = some (d) := rfl
  unfold zai zan
  simp! only [q0, q1, q2, q3, q4, q5, q6, q7, q8, q9, x0, x1, x2, x3, f]
theorem do_10_3 {cs : List D} {b c d : D} (h0 : zav (.tup cs) = true) (s1 : ∀ r ∈ zap b, zbe r) (h1 : zcb cs b = true) (h2 : zep cs c = true) (h3 : zfc d 1 8 = false) (S : zae) : zai [.dat (.int 10), .dat (.lst [.tup cs, b, c, d])] S = .ex "InvalidNumber" S := by
  have r0 := zfe h0 s1 h1 S
  have r1 := rq_table1 h0 h2 S
  have r2 := zdx d 1 8 S
  have f : zbf [.dat (.tup cs), .dat (b), .dat (c), .dat (d), .dat .non] S = .ex "InvalidNumber" S := by
    unfold zbf zcn
    simp! only [r0, r1, r2, h3]
  have q0 : dEq (.int 10) (.int 0) = some (.bl false) := by rw [zah]; rfl
  have q1 : dEq (.int 10) (.int 1) = some (.bl false) := by rw [zah]; rfl
  have q2 : dEq (.int 10) (.int 2) = some (.bl false) := by rw [zah]; rfl
  have q3 : dEq (.int 10) (.int 3) = some (.bl false) := by rw [zah]; rfl
  have q4 : dEq (.int 10) (.int 4) = some (.bl false) := by rw [zah]; rfl
  have q5 : dEq (.int 10) (.int 5) = some (.bl false) := by rw [zah]; rfl
  have q6 : dEq (.int 10) (.int 6) = some (.bl false) := by rw [zah]; rfl
  have q7 : dEq (.int 10) (.int 7) = some (.bl false) := by rw [zah]; rfl
  have q8 : dEq (.int 10) (.int 8) = some (.bl false) := by rw [zah]; rfl
  have q9 : dEq (.int 10) (.int 9) = some (.bl false) := by rw [zah]; rfl
  have x0 : atI [D.tup cs, b, c, d] 0 = some (.tup cs) := rfl
  have x1 : atI [D.tup cs, b, c, d] 1 = some (b) := rfl
  have x2 : atI [D.tup cs, b, c, d] 2 = some (c) := rfl
  have x3 : atI [D.tup cs, b, c, d] 3 = some (d) := rfl
  unfold zai zan
  simp! only [q0, q1, q2, q3, q4, q5, q6, q7, q8, q9, x0, x1, x2, x3, f]
def KS (s : Nat) : List Str := ([["columns", "rules", "table"], ["columns", "rule", "table"], ["columns", "rules", "table"], ["columns", "rules"], ["columns", "rules"], ["columns", "rules"], ["columns", "rule"], ["columns", "table", "number"], ["columns", "rule", "row"], ["columns", "rules", "table"], ["columns", "rules", "table", "number"]] : List (List Str)).getD s []
end T18
set_option maxHeartbeats 400000
namespace T18
open PySem PySem.Spec PyProof.Rows L2 DL
/-! ## calls from the law, which makes a dict -/
theorem zgj {n c : Nat} {T S : zae} {g : Fn} {ds : List DV} {P : D → Prop} (h : Pen n T S) (hm : argM ds = some 1) (hg : ∀ S0, Pen n [] S0 → ∃ x S1, g ds S0 = .ok (.dat x) S1 ∧ P x ∧ Pen (n + c) [] S1) : ∃ x S1, zec g ds S = .ok (.dat x) S1 ∧ P x ∧ Pen (n + c) T S1 := by
  obtain ⟨cells, a, cur, rfl, l⟩ := h
  obtain ⟨x, S1, e, px, c2, a2, u2, rfl, l2⟩ := hg [some (penL cells a cur)] ⟨cells, a, cur, rfl, l⟩
  have e' : g ds (List.take 1 (some (penL cells a cur) :: T)) = .ok (.dat x) [some (penL c2 a2 u2)] := e
  refine ⟨x, _, ?_, px, c2, a2, u2, rfl, l2⟩
  simp only [zec, hm, hasM, List.getElem?_cons_zero, cond_true, e']
  rfl
theorem lift_dat {S S1 : zae} {g : Fn} {ds : List DV} {x : D} (hm : argM ds = some 0) (hg : g ds [] = .ok (.dat x) S1) : zec g ds S = .ok (.dat x) S := by
  simp only [zec, hm, hasM, cond_true, List.take_zero, hg, List.drop_zero, List.nil_append]
theorem lift_anew {n : Nat} {T S : zae} (h : Pen n T S) : ∃ S1, zec zc0 [.obj 0] S = .ok (.obj 0) S1 ∧ Pen n T S1 := by
  obtain ⟨cells, a, cur, rfl, l⟩ := h
  obtain ⟨S1, e, c2, a2, u2, rfl, l2⟩ := anew_ok (T := []) (S := [some (penL cells a cur)]) (n := n) ⟨cells, a, cur, rfl, l⟩
  have e' : zc0 [.obj 0] (List.take 1 (some (penL cells a cur) :: T)) = .ok (.obj 0) [some (penL c2 a2 u2)] := e
  refine ⟨some (penL c2 a2 u2) :: T, ?_, c2, a2, u2, rfl, l2⟩
  simp only [zec, show argM [.obj 0] = some 1 from rfl, hasM, List.getElem?_cons_zero, cond_true, e']
  rfl
/-! ## the kinds -/
def kL (s : Nat) : D := .lst ((KS s).map .str)
def KSD : List D := (List.range 11).map kL
def PSd (c q r : D) : List D := [.tup [.str "columns", c], .tup [.str "rules", .tup []], .tup [.str "rule", q], .tup [.str "table", .tup []], .tup [.str "row", r]]
def goodD (c q r : D) (k : Str) : D := if k = "columns" then c else if k = "rules" then .tup [] else if k = "rule" then q else if k = "table" then .tup [] else if k = "row" then r else .int 1
def WK : List Str := ["columns", "rules", "rule", "table", "row", "number"]
theorem ks_in {s : Nat} (hs : s < 11) : ∀ k ∈ KS s, k ∈ WK := by
  have : ∀ s < 11, ∀ k ∈ KS s, k ∈ WK := by decide +kernel
  exact this s hs
theorem ks_len {s : Nat} (hs : s < 11) : 1 ≤ (KS s).length ∧ (KS s).length ≤ 4 ∧ (KS s)[0]? = some ("columns" : Str) := by
  have : ∀ s < 11, 1 ≤ (KS s).length ∧ (KS s).length ≤ 4 ∧ (KS s)[0]? = some ("columns" : Str) := by decide +kernel
  exact this s hs
theorem good_cases (c q r : D) (P : D → Prop) {k : Str} (hk : k ∈ WK) (h1 : k = "columns" → P c) (h2 : k = "rules" → P (.tup [])) (h3 : k = "rule" → P q) (h4 : k = "table" → P (.tup [])) (h5 : k = "row" → P r) (h6 : k = "number" → P (.int 1)) : P (goodD c q r k) := by
  simp only [WK, List.mem_cons, List.not_mem_nil, or_false] at hk
  rcases hk with rfl | rfl | rfl | rfl | rfl | rfl
  · exact h1 rfl
  · exact h2 rfl
  · exact h3 rfl
  · exact h4 rfl
  · exact h5 rfl
  · exact h6 rfl
theorem len2 {α : Type} {xs : List α} (h : xs.length = 2) : ∃ a b, xs = [a, b] := by
  match xs, h with
  | [a, b], _ => exact ⟨a, b, rfl⟩
theorem len3 {α : Type} {xs : List α} (h : xs.length = 3) : ∃ a b c, xs = [a, b, c] := by
  match xs, h with
  | [a, b, c], _ => exact ⟨a, b, c, rfl⟩
theorem len4 {α : Type} {xs : List α} (h : xs.length = 4) : ∃ a b c d, xs = [a, b, c, d] := by
  match xs, h with
  | [a, b, c, d], _ => exact ⟨a, b, c, d, rfl⟩
theorem told_own {cs : List D} {s : Nat} (hs : s < 11) {xs : List D} (hl : xs.length = (KS s).length) {j : Nat} (hj : j < (KS s).length)
    (ok : ∀ (i : Nat) (k : Str) x, (KS s)[i]? = some k → xs[i]? = some x → OkK k x) (c0 : 0 < j → xs[0]? = some (.tup cs))
    (gd : ∀ (i : Nat) (k : Str) x, i < j → (KS s)[i]? = some k → xs[i]? = some x → isK cs k x = true)
    (bd : ∀ (k : Str) x, (KS s)[j]? = some k → xs[j]? = some x → isK cs k x = false) (S : zae) :
    ∃ w : Str, (KS s)[j]? = some w ∧ zc1 [.dat (.int (s : Nat)), .dat (.lst xs)] S = .ok (.dat (.str w)) S := by
  have l4 := ks_len hs
  have rep : zkw (.lst xs) = some (.str (D.lst xs).py.shown) := (Sm.lst (n := 9) (b := 20000) (m := 90000) (fun x hx => by
    obtain ⟨i, hi⟩ := List.mem_iff_getElem?.mp hx
    have hi' := (List.getElem?_eq_some_iff.mp hi).1
    exact (ok i _ x (List.getElem?_eq_getElem (by omega)) hi).sm) (by omega)).rep (by decide) (by decide)
  match s, hs with
  | 0, _ =>
    obtain ⟨a, b, c, rfl⟩ := len3 hl
    match j, hj with
    | 0, _ =>
      exact ⟨_, rfl, zbi (do_0_0 (bd _ _ rfl rfl) ((ok 1 _ _ rfl rfl).s2 rfl) S) rfl (zbo S) rep⟩
    | 1, _ =>
      obtain rfl : a = .tup cs := Option.some.inj (c0 (by decide))
      exact ⟨_, rfl, zbi (do_0_1 (gd 0 _ _ (by decide) rfl rfl) ((ok 1 _ _ rfl rfl).s2 rfl) (bd _ _ rfl rfl) S) rfl (zdc S) rep⟩
    | 2, _ =>
      obtain rfl : a = .tup cs := Option.some.inj (c0 (by decide))
      exact ⟨_, rfl, zbi (do_0_2 (gd 0 _ _ (by decide) rfl rfl) ((ok 1 _ _ rfl rfl).s2 rfl) (gd 1 _ _ (by decide) rfl rfl) (bd _ _ rfl rfl) S) rfl (zdy S) rep⟩
  | 1, _ =>
    obtain ⟨a, b, c, rfl⟩ := len3 hl
    match j, hj with
    | 0, _ =>
      exact ⟨_, rfl, zbi (do_1_0 (bd _ _ rfl rfl) S) rfl (zbo S) rep⟩
    | 1, _ =>
      obtain rfl : a = .tup cs := Option.some.inj (c0 (by decide))
      exact ⟨_, rfl, zbi (do_1_1 (gd 0 _ _ (by decide) rfl rfl) ((ok 1 _ _ rfl rfl).s1 rfl) (bd _ _ rfl rfl) S) rfl (zjh S) rep⟩
    | 2, _ =>
      obtain rfl : a = .tup cs := Option.some.inj (c0 (by decide))
      exact ⟨_, rfl, zbi (do_1_2 (gd 0 _ _ (by decide) rfl rfl) ((ok 1 _ _ rfl rfl).s1 rfl) (gd 1 _ _ (by decide) rfl rfl) (bd _ _ rfl rfl) S) rfl (zdy S) rep⟩
  | 2, _ =>
    obtain ⟨a, b, c, rfl⟩ := len3 hl
    match j, hj with
    | 0, _ =>
      exact ⟨_, rfl, zbi (do_2_0 (bd _ _ rfl rfl) ((ok 1 _ _ rfl rfl).s2 rfl) S) rfl (zbo S) rep⟩
    | 1, _ =>
      obtain rfl : a = .tup cs := Option.some.inj (c0 (by decide))
      exact ⟨_, rfl, zbi (do_2_1 (gd 0 _ _ (by decide) rfl rfl) ((ok 1 _ _ rfl rfl).s2 rfl) (bd _ _ rfl rfl) S) rfl (zdc S) rep⟩
    | 2, _ =>
      obtain rfl : a = .tup cs := Option.some.inj (c0 (by decide))
      exact ⟨_, rfl, zbi (do_2_2 (gd 0 _ _ (by decide) rfl rfl) ((ok 1 _ _ rfl rfl).s2 rfl) (gd 1 _ _ (by decide) rfl rfl) (bd _ _ rfl rfl) S) rfl (zdy S) rep⟩
  | 3, _ =>
    obtain ⟨a, b, rfl⟩ := len2 hl
    match j, hj with
    | 0, _ =>
      exact ⟨_, rfl, zbi (do_3_0 (bd _ _ rfl rfl) ((ok 1 _ _ rfl rfl).s2 rfl) S) rfl (zbo S) rep⟩
    | 1, _ =>
      obtain rfl : a = .tup cs := Option.some.inj (c0 (by decide))
      exact ⟨_, rfl, zbi (do_3_1 (gd 0 _ _ (by decide) rfl rfl) ((ok 1 _ _ rfl rfl).s2 rfl) (bd _ _ rfl rfl) S) rfl (zdc S) rep⟩
  | 4, _ =>
    obtain ⟨a, b, rfl⟩ := len2 hl
    match j, hj with
    | 0, _ =>
      exact ⟨_, rfl, zbi (do_4_0 (bd _ _ rfl rfl) ((ok 1 _ _ rfl rfl).s2 rfl) S) rfl (zbo S) rep⟩
    | 1, _ =>
      obtain rfl : a = .tup cs := Option.some.inj (c0 (by decide))
      exact ⟨_, rfl, zbi (do_4_1 (gd 0 _ _ (by decide) rfl rfl) ((ok 1 _ _ rfl rfl).s2 rfl) (bd _ _ rfl rfl) S) rfl (zdc S) rep⟩
  | 5, _ =>
    obtain ⟨a, b, rfl⟩ := len2 hl
    match j, hj with
    | 0, _ =>
      exact ⟨_, rfl, zbi (do_5_0 (bd _ _ rfl rfl) ((ok 1 _ _ rfl rfl).s2 rfl) S) rfl (zbo S) rep⟩
    | 1, _ =>
      obtain rfl : a = .tup cs := Option.some.inj (c0 (by decide))
      exact ⟨_, rfl, zbi (do_5_1 (gd 0 _ _ (by decide) rfl rfl) ((ok 1 _ _ rfl rfl).s2 rfl) (bd _ _ rfl rfl) S) rfl (zdc S) rep⟩
  | 6, _ =>
    obtain ⟨a, b, rfl⟩ := len2 hl
    match j, hj with
    | 0, _ =>
      exact ⟨_, rfl, zbi (do_6_0 (bd _ _ rfl rfl) S) rfl (zbo S) rep⟩
    | 1, _ =>
      obtain rfl : a = .tup cs := Option.some.inj (c0 (by decide))
      exact ⟨_, rfl, zbi (do_6_1 (gd 0 _ _ (by decide) rfl rfl) ((ok 1 _ _ rfl rfl).s1 rfl) (bd _ _ rfl rfl) S) rfl (zjh S) rep⟩
  | 7, _ =>
    obtain ⟨a, b, c, rfl⟩ := len3 hl
    match j, hj with
    | 0, _ =>
      exact ⟨_, rfl, zbi (do_7_0 (bd _ _ rfl rfl) S) rfl (zbo S) rep⟩
    | 1, _ =>
      obtain rfl : a = .tup cs := Option.some.inj (c0 (by decide))
      exact ⟨_, rfl, zbi (do_7_1 (gd 0 _ _ (by decide) rfl rfl) (bd _ _ rfl rfl) S) rfl (zdy S) rep⟩
    | 2, _ =>
      obtain rfl : a = .tup cs := Option.some.inj (c0 (by decide))
      exact ⟨_, rfl, zbi (do_7_2 (gd 0 _ _ (by decide) rfl rfl) (gd 1 _ _ (by decide) rfl rfl) (bd _ _ rfl rfl) S) rfl (ziq S) rep⟩
  | 8, _ =>
    obtain ⟨a, b, c, rfl⟩ := len3 hl
    match j, hj with
    | 0, _ =>
      exact ⟨_, rfl, zbi (do_8_0 (bd _ _ rfl rfl) S) rfl (zbo S) rep⟩
    | 1, _ =>
      obtain rfl : a = .tup cs := Option.some.inj (c0 (by decide))
      exact ⟨_, rfl, zbi (do_8_1 (gd 0 _ _ (by decide) rfl rfl) ((ok 1 _ _ rfl rfl).s1 rfl) (bd _ _ rfl rfl) S) rfl (zjh S) rep⟩
    | 2, _ =>
      obtain rfl : a = .tup cs := Option.some.inj (c0 (by decide))
      exact ⟨_, rfl, zbi (do_8_2 (gd 0 _ _ (by decide) rfl rfl) ((ok 1 _ _ rfl rfl).s1 rfl) (gd 1 _ _ (by decide) rfl rfl) (bd _ _ rfl rfl) S) rfl (word_row S) rep⟩
  | 9, _ =>
    obtain ⟨a, b, c, rfl⟩ := len3 hl
    match j, hj with
    | 0, _ =>
      exact ⟨_, rfl, zbi (do_9_0 (bd _ _ rfl rfl) ((ok 1 _ _ rfl rfl).s2 rfl) S) rfl (zbo S) rep⟩
    | 1, _ =>
      obtain rfl : a = .tup cs := Option.some.inj (c0 (by decide))
      exact ⟨_, rfl, zbi (do_9_1 (gd 0 _ _ (by decide) rfl rfl) ((ok 1 _ _ rfl rfl).s2 rfl) (bd _ _ rfl rfl) S) rfl (zdc S) rep⟩
    | 2, _ =>
      obtain rfl : a = .tup cs := Option.some.inj (c0 (by decide))
      exact ⟨_, rfl, zbi (do_9_2 (gd 0 _ _ (by decide) rfl rfl) ((ok 1 _ _ rfl rfl).s2 rfl) (gd 1 _ _ (by decide) rfl rfl) (bd _ _ rfl rfl) S) rfl (zdy S) rep⟩
  | 10, _ =>
    obtain ⟨a, b, c, d, rfl⟩ := len4 hl
    match j, hj with
    | 0, _ =>
      exact ⟨_, rfl, zbi (do_10_0 (bd _ _ rfl rfl) ((ok 1 _ _ rfl rfl).s2 rfl) S) rfl (zbo S) rep⟩
    | 1, _ =>
      obtain rfl : a = .tup cs := Option.some.inj (c0 (by decide))
      exact ⟨_, rfl, zbi (do_10_1 (gd 0 _ _ (by decide) rfl rfl) ((ok 1 _ _ rfl rfl).s2 rfl) (bd _ _ rfl rfl) S) rfl (zdc S) rep⟩
    | 2, _ =>
      obtain rfl : a = .tup cs := Option.some.inj (c0 (by decide))
      exact ⟨_, rfl, zbi (do_10_2 (gd 0 _ _ (by decide) rfl rfl) ((ok 1 _ _ rfl rfl).s2 rfl) (gd 1 _ _ (by decide) rfl rfl) (bd _ _ rfl rfl) S) rfl (zdy S) rep⟩
    | 3, _ =>
      obtain rfl : a = .tup cs := Option.some.inj (c0 (by decide))
      exact ⟨_, rfl, zbi (do_10_3 (gd 0 _ _ (by decide) rfl rfl) ((ok 1 _ _ rfl rfl).s2 rfl) (gd 1 _ _ (by decide) rfl rfl) (gd 2 _ _ (by decide) rfl rfl) (bd _ _ rfl rfl) S) rfl (ziq S) rep⟩
end T18
set_option maxHeartbeats 400000
namespace T18
open PySem PySem.Spec PyProof.Rows L2 DL
theorem a_putS (fd fk fv : XFn) (ρ : zar) (S : zae) : sPutS fd fk fv ρ S = (fv ρ S).bindS ρ fun v S1 => (fd ρ S1).bindS ρ fun x S2 => (fk ρ S2).bindS ρ fun y S3 => zhm x y v ρ S3 := rfl
theorem a_getS2 (fd fk fz : XFn) (ρ : zar) (S : zae) : xGetS2 fd fk fz ρ S = (fd ρ S).bind fun x S1 => bif isTxt x S1 then (fk ρ S1).bind fun y S2 => (fz ρ S2).bind fun z S3 => getOr x y z S3 else .bad := rfl
theorem rng2_k {k n : Nat} (hk : k < 1000) (h : n ≤ 1000) (S : zae) : rng2 [.dat (.int (k : Nat)), .dat (.int (n : Nat))] S = .ok (((List.range (n - k)).map (k + ·)).map fun i : Nat => .int ((i : Nat) : Int)) S := by
  have e : ((n : Int) - (k : Int)).toNat = n - k := by omega
  simp only [rng2, if_pos (show -(2 ^ 62) ≤ (k : Int) ∧ (k : Int) < 2 ^ 62 ∧ -(2 ^ 62) ≤ (n : Int) ∧ (n : Int) < 2 ^ 62 by omega), e, zgv, List.map_map]
  congr 1
theorem dNe_w {k : Str} (hk : k ∈ WK) : dNe (.str k) (.str k) = some (.bl false) := by
  have : (D.str k).fit 0 = true ∧ dEqB (.str k) (.str k) = true := by
    have : ∀ k ∈ WK, (D.str k).fit 0 = true ∧ dEqB (.str k) (.str k) = true := by decide +kernel
    exact this k hk
  rw [dNe_fit (n := 0) (m := 0) this.1 this.1, this.2]
  rfl
theorem bad_ok {n : Nat} {T S : zae} (h : Pen n T S) (hn : n + 60 ≤ LIM) (cs : List D) (hc : ∀ c ∈ cs, okC c) (h0 : 1 ≤ cs.length) (hl : cs.length ≤ 4) {k : Str} (hk : k ∈ WK) :
    ∃ (x : D) (S1 : zae), zba [.obj 0, .dat (.str k), .dat (.tup cs)] S = .ok (.dat x) S1 ∧ BadK cs k x ∧ Pen (n + 60) T S1 := by
  simp only [WK, List.mem_cons, List.not_mem_nil, or_false] at hk
  rcases hk with rfl | rfl | rfl | rfl | rfl | rfl
  · obtain ⟨x, S1, e, b, p⟩ := bad_cols h (by omega) cs hc hl
    exact ⟨x, S1, e, b, p.mono (by omega)⟩
  · exact bad_rules h hn cs hc h0 hl
  · exact bad_rule h hn cs hc h0 hl
  · exact bad_table h hn cs hc h0 hl
  · exact bad_row h hn cs hc h0 hl
  · exact bad_number h hn cs hc h0 hl
structure Gd (cs : List D) (q r : D) : Prop where
  c : ∀ c ∈ cs, okC c
  c0 : 1 ≤ cs.length
  c4 : cs.length ≤ 4
  is : zav (.tup cs) = true
  cm : Sm 9 20000 (.tup cs)
  qi : zcp cs q = true
  qs : zbe q
  qm : Sm 9 20000 q
  ri : zd_ cs r = true
  rm : Sm 9 20000 r
  qv : dvOf q = .dat q
  rv : dvOf r = .dat r
theorem Gd.good {cs : List D} {q r : D} (g : Gd cs q r) {k : Str} (hk : k ∈ WK) : OkK k (goodD (.tup cs) q r k) ∧ isK cs k (goodD (.tup cs) q r k) = true := by
  refine good_cases (.tup cs) q r (fun x => OkK k x ∧ isK cs k x = true) hk ?_ ?_ ?_ ?_ ?_ ?_
  · rintro rfl; exact ⟨⟨g.cm, fun z => absurd z (by decide), fun z => absurd z (by decide)⟩, g.is⟩
  · rintro rfl; exact ⟨⟨⟨rfl, rfl, by decide +kernel⟩, fun z => absurd z (by decide), fun _ r hr => absurd hr (List.not_mem_nil)⟩, rfl⟩
  · rintro rfl; exact ⟨⟨g.qm, fun _ => g.qs, fun z => absurd z (by decide)⟩, g.qi⟩
  · rintro rfl; exact ⟨⟨⟨rfl, rfl, by decide +kernel⟩, fun z => absurd z (by decide), fun z => absurd z (by decide)⟩, rfl⟩
  · rintro rfl; exact ⟨⟨g.rm, fun z => absurd z (by decide), fun z => absurd z (by decide)⟩, g.ri⟩
  · rintro rfl; exact ⟨⟨⟨rfl, rfl, by decide +kernel⟩, fun z => absurd z (by decide), fun z => absurd z (by decide)⟩, rfl⟩
structure Own (cs : List D) (s k : Nat) (b : Bool) (xs : List D) : Prop where
  len : xs.length = (KS s).length
  ok : ∀ (i : Nat) (w : Str) x, (KS s)[i]? = some w → xs[i]? = some x → OkK w x
  c0 : 0 < k → xs[0]? = some (.tup cs)
  gd : ∀ (i : Nat) (w : Str) x, i < k → (KS s)[i]? = some w → xs[i]? = some x → isK cs w x = true
  bd : b = true → ∀ (w : Str) x, (KS s)[k]? = some w → xs[k]? = some x → isK cs w x = false
theorem Own.set {cs : List D} {s k : Nat} {b : Bool} {xs : List D} (o : Own cs s k b xs) {j : Nat} (hj : k ≤ j) (hjl : j < (KS s).length) {w : Str} (hw : (KS s)[j]? = some w) {x : D} (bx : BadK cs w x) : Own cs s k (b || decide (j = k)) (xs.set j x) := by
  have hl := o.len
  refine ⟨by simp [hl], fun i v y h1 h2 => ?_, fun h => ?_, fun i v y hi h1 h2 => ?_, fun hb v y h1 h2 => ?_⟩
  · by_cases e : j = i
    · subst e
      rw [List.getElem?_set_self (by omega)] at h2
      cases h2
      rw [hw] at h1; cases h1
      exact bx.toOkK
    · rw [List.getElem?_set_ne e] at h2
      exact o.ok i v y h1 h2
  · rw [List.getElem?_set_ne (by omega)]; exact o.c0 h
  · rw [List.getElem?_set_ne (by omega)] at h2
    exact o.gd i v y hi h1 h2
  · by_cases e : j = k
    · subst e
      rw [List.getElem?_set_self (by omega)] at h2
      cases h2
      rw [hw] at h1; cases h1
      exact bx.no
    · rw [List.getElem?_set_ne e] at h2
      refine o.bd ?_ v y h1 h2
      simpa [e] using hb
theorem kl_at {s : Nat} (hs : s < 11) : atI KSD (s : Nat) = some (kL s) := by
  have h := zd4 (xs := KSD) D.non (show s < KSD.length by simp [KSD]; exact hs)
  rw [h]
  congr 1
  simp [KSD, List.getD, hs]
theorem kw_at {s j : Nat} {w : Str} (h : (KS s)[j]? = some w) : atI ((KS s).map D.str) (j : Nat) = some (.str w) := by
  have hj := (List.getElem?_eq_some_iff.mp h).1
  have e := zd4 (xs := (KS s).map D.str) D.non (show j < ((KS s).map D.str).length by simpa using hj)
  rw [e]
  congr 1
  simp [List.getD, h]
abbrev fr18 (o0 o3 : Option DV) (cs : List D) (g : Nat) (s k : Nat) (o8 o9 o10 : Option DV) : zar := [o0, some (.obj 0), some (.obj 3), o3, some (.dat (.tup cs)), some (.spc g), some (.dat (.int (s : Nat))), some (.dat (.int (k : Nat))), o8, o9, o10]
theorem spoil_ok {n : Nat} {B S0 : zae} (h : Pen n B S0) (hn : n + 61 ≤ LIM) (hB : B[2]? = some (some KSD)) {cs : List D} {q r : D} (G : Gd cs q r) {s : Nat} (hs : s < 11) {k j : Nat} (hk : k ≤ j) (hj : j < (KS s).length) (b : Bool) {xs : List D} (o : Own cs s k b xs) (o0 o3 o10 : Option DV) (g : Nat) :
    ∃ xs' S1, zil (fr18 o0 o3 cs g s k (some (.obj S0.length)) (some (.dat (.int (j : Nat)))) o10) (S0 ++ [some xs]) = .nx (fr18 o0 o3 cs g s k (some (.obj S1.length)) (some (.dat (.int (j : Nat)))) o10) (S1 ++ [some xs']) ∧ Own cs s k (b || decide (j = k)) xs' ∧ Pen (n + 61) B S1 := by
  have hw := List.getElem?_eq_getElem hj
  generalize hW : (KS s)[j] = w at hw
  have wk : w ∈ WK := ks_in hs w (List.mem_of_getElem? hw)
  have p0 := zd5 h (some xs)
  have l0 := h.len
  -- the entry spoiled, over any state of the pen
  have put : ∀ {m : Nat} {S1 : zae}, Pen m (B ++ [some xs]) S1 → m + 60 ≤ LIM → ∃ x S2, (sPut (xVar 8) (xVar 9) (xN (zec zba) (zaa (xVar 1) (zaa (x2 (o2 dIx) (x2 (o2 dIx) (xVar 2) (xVar 6)) (xVar 9)) (zaa (xVar 4) aNil))))) (fr18 o0 o3 cs g s k (some (.obj S0.length)) (some (.dat (.int (j : Nat)))) o10) S1 = .nx (fr18 o0 o3 cs g s k (some (.obj S0.length)) (some (.dat (.int (j : Nat)))) o10) (S2 ++ [some (xs.set j x)]) ∧ BadK cs w x ∧ Pen (m + 60) B S2 := by
    intro m S1 p1 hm
    obtain ⟨x, S2, e2, bx, p2⟩ := zgj (c := 60) (g := zba) (ds := [.obj 0, .dat (.str w), .dat (.tup cs)]) (P := BadK cs w) p1 rfl fun S0 h0 => bad_ok h0 hm cs G.c G.c0 G.c4 wk
    obtain ⟨S2', rfl, p2', l2⟩ := zfj p2
    have c1 := ze4 (k := 2) p1 (by rw [List.getElem?_append_left (by have := (List.getElem?_eq_some_iff.mp hB).1; omega)]; exact hB)
    have r1 : o2 dIx (.obj 3) (.dat (.int (s : Nat))) S1 = .ok (.dat (kL s)) S1 := by simp only [o2, c1.2.1, a_rd, dIx_l, kl_at hs, zg1]
    have r2 : o2 dIx (.dat (kL s)) (.dat (.int (j : Nat))) S1 = .ok (.dat (.str w)) S1 := by simp only [o2, kL, a_rd, dIx_l, kw_at hw, zg1]
    have px : ∀ ρ, zhe (.obj S0.length) (.dat (.int (j : Nat))) (.dat x) ρ (S2' ++ [some xs]) = .nx ρ (S2' ++ [some (xs.set j x)]) := fun ρ => by
      have e : S0.length = S2'.length := by omega
      have e3 : ixN xs.length ((j : Nat) : Int) = some j := by
        unfold ixN
        rw [o.len]
        rw [if_pos (by omega), if_pos (by omega), Int.toNat_natCast]
      rw [e]
      simp only [zhe, zev S2' xs, e3]
      rw [zi0]
    refine ⟨x, S2', ?_, bx, p2'⟩
    simp only [a_put, a_xN, a_cons, a_nil, zjz, a_x2, List.getElem?_cons_zero, List.getElem?_cons_succ, Res.bind_ok, Res.bindS_ok, r1, r2, e2, px]
  by_cases e : j = k
  · subst e
    obtain ⟨x, S2, e2, bx, p2⟩ := put p0 (by omega)
    have l2 : S0.length = S2.length := by have := p2.len; omega
    refine ⟨xs.set j x, S2, ?_, o.set (Nat.le_refl _) hj hw bx, p2.mono (by omega)⟩
    unfold zil
    have q1 : dEq (.int ((j : Nat) : Int)) (.int ((j : Nat) : Int)) = some (.bl true) := by rw [zah]; simp
    rw [← l2]
    simp only [a_sif, a_tOr, a_tBl, a_x2, a_o2, zjz, List.getElem?_cons_zero, List.getElem?_cons_succ, Res.bind_ok, Res.bindS_ok, q1, a_rd, zg1, truth_bl, c_bl, a_bool1, a_or, cond_true, seq_cond]
    simp! only [q1]
    exact e2
  · have q1 : dEq (.int ((j : Nat) : Int)) (.int ((k : Nat) : Int)) = some (.bl false) := by
      rw [zah]
      have : ¬ (((j : Nat) : Int) = ((k : Nat) : Int)) := by omega
      simp [this]
    obtain ⟨x, S1, e1, ⟨t, rfl⟩, p1⟩ := zgj (c := 1) (g := zay) (ds := [.obj 0, .dat (.int 2)]) (P := fun x => ∃ t : Nat, x = .int (t : Nat)) p0 rfl fun S0 h0 => by
      obtain ⟨t, S1, e, p, _⟩ := zdo h0 (by omega) 2 (by decide) (by decide)
      exact ⟨_, S1, e, ⟨t, rfl⟩, p⟩
    unfold zil
    simp! only [q1, e1, zah]
    have eb : (b || decide (j = k)) = b := by simp [e]
    cases ht : (((t : Nat) : Int) == 0)
    · obtain ⟨S1', rfl, p1', l1⟩ := zfj p1
      simp! only []
      refine ⟨xs, S1', ?_, by rw [eb]; exact o, p1'.mono (by omega)⟩
      rw [show S0.length = S1'.length by omega]
    · obtain ⟨x, S2, e2, bx, p2⟩ := put p1 (by omega)
      have l2 : S0.length = S2.length := by have := p2.len; omega
      simp! only []
      have os := o.set (j := j) hk hj hw bx
      refine ⟨xs.set j x, S2, ?_, os, p2.mono (by omega)⟩
      rw [← l2]
      exact e2
theorem call_ok {n : Nat} {B S0 : zae} (h : Pen n B S0) (hn : n + 400 ≤ LIM) (hB : B[2]? = some (some KSD)) {cs : List D} {q r : D} (G : Gd cs q r) {g : Nat} (hg : B[g]? = some (some (.str "{}" :: PSd (.tup cs) q r))) {s : Nat} (hs : s < 11) {k : Nat} (hk : k < (KS s).length) (o0 o3 o8 o9 o10 : Option DV) :
    ∃ U S1 p8 p9 p10, zkx (fr18 o0 o3 cs (g + 1) s k o8 o9 o10) S0 = .nx (fr18 o0 o3 cs (g + 1) s k p8 p9 p10) S1 ∧ Pen (n + 400) (B ++ U) S1 := by
  have hkl := ks_len hs
  have c1 := ze4 (k := 2) h hB
  have cg := ze4 (k := g) h hg
  have l0 := h.len
  have r1 : ∀ S, rd S (.obj 3) = some (.lst KSD) → o2 dIx (.obj 3) (.dat (.int (s : Nat))) S = .ok (.dat (kL s)) S := fun S h => by simp only [o2, h, a_rd, dIx_l, kl_at hs, zg1]
  have tx : zkh S0 (.spc (g + 1)) = some (g + 1, PSd (.tup cs) q r) := by
    have : S0[g + 1]? = some (some (.str "{}" :: PSd (.tup cs) q r)) := by
      obtain ⟨c, a, u, rfl, _⟩ := h
      simpa using hg
    simp only [zkh, spcOf, this, if_true]
  have gt : ∀ w ∈ KS s, xGetS2 (xVar 5) (xVar 10) (xC (.int 1)) (fr18 o0 o3 cs (g + 1) s k o8 o9 (some (.dat (.str w)))) S0 = .ok (.dat (goodD (.tup cs) q r w)) S0 := fun w hw => by
    have gr : getOr (.spc (g + 1)) (.dat (.str w)) (.dat (.int 1)) S0 = .ok (.dat (goodD (.tup cs) q r w)) S0 := by
      have hk := ks_in hs w hw
      simp only [WK, List.mem_cons, List.not_mem_nil, or_false] at hk
      unfold getOr
      rw [tx]
      rcases hk with rfl | rfl | rfl | rfl | rfl | rfl
      · rfl
      · rfl
      · show Res.ok (dvOf q) S0 = _
        rw [G.qv]; rfl
      · rfl
      · show Res.ok (dvOf r) S0 = _
        rw [G.rv]; rfl
      · rfl
    rw [a_getS2]
    simp only [zjz, List.getElem?_cons_zero, List.getElem?_cons_succ, Res.bind_ok, isTxt, tx, Option.isSome_some, cond_true, a_c, gr]
  generalize hxs : (KS s).map (goodD (.tup cs) q r) = xs
  have o0' : Own cs s k false xs := by
    subst hxs
    refine ⟨by simp, fun i w x h1 h2 => ?_, fun _ => ?_, fun i w x _ h1 h2 => ?_, fun z => nomatch z⟩
    · rw [List.getElem?_map, h1] at h2
      cases h2
      exact (G.good (ks_in hs w (List.mem_of_getElem? h1))).1
    · rw [List.getElem?_map, hkl.2.2]; rfl
    · rw [List.getElem?_map, h1] at h2
      cases h2
      exact (G.good (ks_in hs w (List.mem_of_getElem? h1))).2
  have itk : zhr (.dat (kL s)) S0 = .ok ((KS s).map D.str) S0 := rfl
  have lc := zkp (G := gNm 10) (t := zff) (f := xGetS2 (xVar 5) (xVar 10) (xC (.int 1))) (ρ := fr18 o0 o3 cs (g + 1) s k o8 o9 none) (S := S0) (enc := D.str) (q := goodD (.tup cs) q r) (KS s) (fun w hw => ⟨_, rfl, rfl, gt w hw⟩)
  have lenk : (KS s).length ≤ 1000 := by omega
  have ln : ∀ S : zae, o1 dLen [.obj S.length] (S ++ [some xs]) = .ok (.dat (.int ((KS s).length : Nat))) (S ++ [some xs]) := fun S => by
    rw [o1_end]; subst hxs; simp only [dLen, List.length_map]; rfl
  obtain ⟨ρ', S', e4, S2, ys, p9, p10, rfl, rfl, oy, p2⟩ := zd8 (enc := fun i : Nat => D.int ((i : Nat) : Int)) (G := gNm 9) (f := zil)
    (fun pre ρ S => ∃ S2 ys p9 p10, ρ = fr18 o0 o3 cs (g + 1) s k (some (.obj S2.length)) p9 p10 ∧ S = S2 ++ [some ys] ∧ Own cs s k (decide (pre ≠ [])) ys ∧ Pen (n + 61 * pre.length) B S2)
    ((List.range ((KS s).length - k)).map (k + ·)) [] (fr18 o0 o3 cs (g + 1) s k (some (.obj S0.length)) o9 o10) (S0 ++ [some xs]) ⟨S0, xs, _, _, rfl, rfl, o0', by simpa using h⟩ (by
    rintro pre a post ρ S hpp ⟨S2, ys, p9, p10, rfl, rfl, oy, p2⟩
    have hpp' : (List.range ((KS s).length - k)).map (k + ·) = pre ++ a :: post := by simpa using hpp
    have la : pre.length + (a :: post).length = (KS s).length - k := by
      have := congrArg List.length hpp'
      simpa using this.symm
    have ha : a = k + pre.length := by
      have h1 : ((List.range ((KS s).length - k)).map (k + ·))[pre.length]? = some a := by rw [hpp']; simp
      rw [List.getElem?_map, List.getElem?_range (by simp only [List.length_cons] at la; omega)] at h1
      simpa using h1.symm
    have ll : pre.length < (KS s).length - k := by simp only [List.length_cons] at la; omega
    obtain ⟨ys', S3, e, oy', p3⟩ := spoil_ok p2 (by omega) hB G hs (k := k) (j := a) (by omega) (by omega) (decide (pre ≠ [])) oy o0 o3 p10 (g + 1)
    refine ⟨fr18 o0 o3 cs (g + 1) s k (some (.obj S2.length)) (some (.dat (.int (a : Nat)))) p10, _, _, rfl, .inl e, S3, ys', _, _, rfl, rfl, ?_, p3.mono (by simp; omega)⟩
    have : (decide (pre ≠ []) || decide (a = k)) = decide (pre ++ [a] ≠ []) := by
      cases pre with
      | nil => simp [ha]
      | cons x xs => simp
    rw [← this]; exact oy')
  have lk : ((List.range ((KS s).length - k)).map (k + ·)) ≠ [] := by
    simp; omega
  rw [List.nil_append] at oy p2
  rw [show decide (((List.range ((KS s).length - k)).map (k + ·)) ≠ []) = true from by simp only [ne_eq, lk, not_false_eq_true, decide_true]] at oy
  obtain ⟨w, hw, e5⟩ := told_own hs oy.len hk oy.ok oy.c0 oy.gd (oy.bd rfl) []
  have hwk : w ∈ WK := ks_in hs w (List.mem_of_getElem? hw)
  have e6 : ∀ S, zec zc1 [.dat (.int (s : Nat)), .dat (.lst ys)] S = .ok (.dat (.str w)) S := fun S => lift_dat rfl e5
  have p3 := zd5 p2 none
  have c3 := ze4 (k := 2) p3 (by rw [List.getElem?_append_left (by have := (List.getElem?_eq_some_iff.mp hB).1; omega)]; exact hB)
  have r2 : ∀ S, o2 dIx (.dat (kL s)) (.dat (.int (k : Nat))) S = .ok (.dat (.str w)) S := fun S => by simp only [o2, kL, a_rd, dIx_l, kw_at hw, zg1]
  have ll : ((List.range ((KS s).length - k)).map (k + ·)).length ≤ 4 := by simp; omega
  refine ⟨[none], S2 ++ [none], some (.dat (.lst ys)), p9, p10, ?_, p3.mono (by omega)⟩
  unfold zkx
  simp only [fr18] at lc e4
  simp! only [r1 S0 c1.2.1, itk, List.length_map, zdj (show (KS s).length ≤ 16777216 by omega), lc, hxs, ln S0, rng2_k (show k < 1000 by omega) lenk, e4, e6, r1 _ c3.2.1, r2, dNe_w hwk]
theorem lr_of {cs : List D} {r : Row} (hr : zd_ cs (rowD r) = true) : r.length = cs.length := row_lr hr
abbrev fr18s (o0 o3 : Option DV) (cs : List D) (g : Nat) (o6 o7 o8 o9 o10 : Option DV) : zar := [o0, some (.obj 0), some (.obj 3), o3, some (.dat (.tup cs)), some (.spc g), o6, o7, o8, o9, o10]
theorem sort_ok {n : Nat} {B U S0 : zae} (h : Pen n (B ++ U) S0) (hn : n + 1600 ≤ LIM) (hB : B[2]? = some (some KSD)) {cs : List D} {q r : D} (G : Gd cs q r) {g : Nat} (hg : B[g]? = some (some (.str "{}" :: PSd (.tup cs) q r))) {s : Nat} (hs : s < 11) (o0 o3 o7 o8 o9 o10 : Option DV) :
    ∃ U' S1 p7 p8 p9 p10, zlb (fr18s o0 o3 cs (g + 1) (some (.dat (.int (s : Nat)))) o7 o8 o9 o10) S0 = .nx (fr18s o0 o3 cs (g + 1) (some (.dat (.int (s : Nat)))) p7 p8 p9 p10) S1 ∧ Pen (n + 1600) (B ++ U') S1 := by
  have hkl := ks_len hs
  have hB2 := (List.getElem?_eq_some_iff.mp hB).1
  have hg2 := (List.getElem?_eq_some_iff.mp hg).1
  have c1 := ze4 (k := 2) h (by rw [List.getElem?_append_left hB2]; exact hB)
  have r1 : o2 dIx (.obj 3) (.dat (.int (s : Nat))) S0 = .ok (.dat (kL s)) S0 := by simp only [o2, c1.2.1, a_rd, dIx_l, kl_at hs, zg1]
  have ln : o1 dLen [.dat (kL s)] S0 = .ok (.dat (.int ((KS s).length : Nat))) S0 := by simp [o1, kL, rd, dLen, res1]
  obtain ⟨ρ', S', e4, p7, p8, p9, p10, U', rfl, p2⟩ := zd8 (enc := fun i : Nat => D.int ((i : Nat) : Int)) (G := gNm 7) (f := zkx)
    (fun pre ρ S => ∃ p7 p8 p9 p10 U', ρ = fr18s o0 o3 cs (g + 1) (some (.dat (.int (s : Nat)))) p7 p8 p9 p10 ∧ Pen (n + 400 * pre.length) (B ++ U') S)
    (List.range (KS s).length) [] (fr18s o0 o3 cs (g + 1) (some (.dat (.int (s : Nat)))) o7 o8 o9 o10) S0 ⟨_, _, _, _, U, rfl, by simpa using h⟩ (by
    rintro pre a post ρ S hpp ⟨p7, p8, p9, p10, U', rfl, p2⟩
    obtain ⟨ha, ha2⟩ := zi_ (by simpa using hpp)
    obtain ⟨V, S1, q8, q9, q10, e, p3⟩ := call_ok p2 (by omega) (by rw [List.getElem?_append_left hB2]; exact hB) G (g := g) (by rw [List.getElem?_append_left hg2]; exact hg) hs ha2 o0 o3 p8 p9 p10
    exact ⟨_, _, S1, rfl, .inl e, _, _, _, _, U' ++ V, rfl, by rw [← List.append_assoc]; exact p3.mono (by simp; omega)⟩)
  simp only [List.nil_append, List.length_range] at p2
  refine ⟨U', S', p7, p8, p9, p10, ?_, p2.mono (by omega)⟩
  unfold zlb
  simp! only [r1, ln, zj6 (zgd (show (KS s).length ≤ 16000000 by omega)), e4]
theorem ps_merge (c q : D) : mergeS [] ((["columns", "rules", "rule", "table"] : List Str).zip [c, .tup [], q, .tup []] |>.map fun p => .tup [.str p.1, p.2]) = [.tup [.str "columns", c], .tup [.str "rules", .tup []], .tup [.str "rule", q], .tup [.str "table", .tup []]] := rfl
theorem turn18 {n : Nat} {U S0 : zae} {K1 K2 : List D} (h : Pen n ([some K1, some K2, some KSD] ++ U) S0) (hn : n + 20000 ≤ LIM) (t : Nat) (o0 o4 o5 o6 o7 o8 o9 o10 : Option DV) :
    ∃ ρ' U' S1, zk6 [o0, some (.obj 0), some (.obj 3), some (.dat (.int (t : Nat))), o4, o5, o6, o7, o8, o9, o10] S0 = .nx ρ' S1 ∧ (∃ p3 p4 p5 p6 p7 p8 p9 p10, ρ' = [o0, some (.obj 0), some (.obj 3), p3, p4, p5, p6, p7, p8, p9, p10]) ∧ Pen (n + 20000) ([some K1, some K2, some KSD] ++ U') S1 := by
  generalize hB : ([some K1, some K2, some KSD] : zae) = B at h
  obtain ⟨S1, e1, p1⟩ := lift_anew h
  obtain ⟨x, S2, e2, ⟨cs, rfl, his, hc⟩, p2⟩ := zgj (c := 21) (g := zck) (ds := [.obj 0, .dat (.int 4)]) (P := fun x => ∃ cs, x = .tup cs ∧ zav (.tup cs) = true ∧ ∀ c ∈ cs, okC c) p1 rfl fun S0 h0 => by
    obtain ⟨cs, S1, e, p, a, b⟩ := columns_ok h0 (by omega)
    exact ⟨_, S1, e, ⟨cs, rfl, a, b⟩, p⟩
  obtain ⟨cs', ec, h0, h4, hcol⟩ := zfr his
  cases ec
  obtain ⟨x, S3, e3, ⟨q, rfl, hq⟩, p3⟩ := zgj (c := 11) (g := zb5) (ds := [.obj 0, .dat (.tup cs)]) (P := fun x => ∃ q, x = rulD q ∧ GR cs q) p2 rfl fun S0 hp => by
    obtain ⟨q, S1, e, p, b⟩ := rule_ok hp (by omega) cs hc h0 h4
    exact ⟨_, S1, e, ⟨q, rfl, b⟩, p⟩
  have p4 := zd5 (zd5 p3 none) (some (.str "{}" :: [.tup [.str "columns", .tup cs], .tup [.str "rules", .tup []], .tup [.str "rule", rulD q], .tup [.str "table", .tup []]]))
  obtain ⟨x, S5, e5, ⟨r, rfl, hr, hp⟩, p5⟩ := zgj (c := 4) (g := zco) (ds := [.obj 0, .dat (.tup cs)]) (P := fun x => ∃ r : Row, x = rowD r ∧ zd_ cs (rowD r) = true ∧ ∀ v ∈ r, v ∈ POOL) p4 rfl fun S0 hp => by
    obtain ⟨r, S1, e, p, a, b⟩ := zho hp (by omega) cs hc h4
    exact ⟨_, S1, e, ⟨r, rfl, a, b⟩, p⟩
  have l3 := p3.len
  obtain ⟨S5', rfl, p5', l5⟩ := zfj p5
  have p6 := zd5 p5' (some (.str "{}" :: PSd (.tup cs) (rulD q) (rowD r)))
  generalize hps : ([.tup [.str "columns", .tup cs], .tup [.str "rules", .tup []], .tup [.str "rule", rulD q], .tup [.str "table", .tup []]] : List D) = ps at p4 e5 p5
  have lg : S3.length + 1 = S5'.length := by simp only [List.length_append, List.length_cons, List.length_nil] at l5 l3; omega
  have tx : zkh (S5' ++ [some (.str "{}" :: ps)]) (.spc (S3.length + 1)) = some (S3.length + 1, ps) := by
    rw [lg]
    simp only [zkh, spcOf, List.getElem?_append_right (Nat.le_refl _), Nat.sub_self, List.getElem?_cons_zero, if_true]
  have ps4 : ps.length < sizeLine := by subst hps; show 4 < sizeLine; decide
  have pr : putS ps (.inr "row") (rowD r) = PSd (.tup cs) (rulD q) (rowD r) := by subst hps; rfl
  have pt : ∀ ρ, zhm (.spc (S3.length + 1)) (.dat (.str "row")) (.dat (rowD r)) ρ (S5' ++ [some (.str "{}" :: ps)]) = .nx ρ (S5' ++ [some (.str "{}" :: PSd (.tup cs) (rulD q) (rowD r))]) := fun ρ => by
    unfold zhm
    rw [tx]
    show (if ps.length < sizeLine then RS.nx ρ ((S5' ++ [some (.str "{}" :: ps)]).set (S3.length + 1) (some (.str "{}" :: putS ps (.inr "row") (rowD r)))) else .bad) = _
    rw [if_pos ps4, pr, lg, zi0]
  have l2 := lr_of hr
  have G : Gd cs (rulD q) (rowD r) := ⟨hc, h0, h4, his, (Sm.cols hc h4).mono (by decide) (by decide), hq.is, shortR hq.sh, (Sm.rul hq h4).mono (by decide) (by decide), hr, (Sm.row (fun v hv => zgp (hp v hv)) (by omega)).mono (by decide) (by decide), rfl, rfl⟩
  have ds : ∀ o3 o5 o6 o7 o8 o9 o10, xDisp ["columns", "rules", "rule", "table"] [xVar 4, xTup aNil, xN (zec zb5) (zaa (xVar 1) (zaa (xVar 4) aNil)), xTup aNil] [o0, some (.obj 0), some (.obj 3), o3, some (.dat (.tup cs)), o5, o6, o7, o8, o9, o10] S2 = .ok (.spc (S3.length + 1)) (S3 ++ [none, some (.str "{}" :: ps)]) := fun o3 o5 o6 o7 o8 o9 o10 => by
    unfold xDisp
    simp only [dispR, zjz, a_tup, mkTup_eq, a_xN, a_cons, a_nil, List.getElem?_cons_zero, List.getElem?_cons_succ, Res.bind_ok, e3]
    simp! only [a_dats0, dispR, e3]
    rw [ps_merge, hps]
  have hB2 : B[2]? = some (some KSD) := by rw [← hB]; rfl
  have e4 : (S3 ++ [none, some (.str "{}" :: ps)] : zae) = (S3 ++ [none]) ++ [some (.str "{}" :: ps)] := by simp
  obtain ⟨ρ', S', e6, q6, q7, q8, q9, q10, U', rfl, p7⟩ := zd8 (enc := fun i : Nat => D.int ((i : Nat) : Int)) (G := gNm 6) (f := zlb)
    (fun pre ρ S => ∃ p6 p7 p8 p9 p10 U', ρ = fr18s o0 (some (.dat (.int (t : Nat)))) cs ((B ++ U).length + 1 + 1) p6 p7 p8 p9 p10 ∧ Pen (n + 21 + 11 + 4 + 1600 * pre.length) ((B ++ U ++ [none] ++ [some (.str "{}" :: PSd (.tup cs) (rulD q) (rowD r))]) ++ U') S)
    (List.range 11) [] (fr18s o0 (some (.dat (.int (t : Nat)))) cs ((B ++ U).length + 1 + 1) o6 o7 o8 o9 o10) (S5' ++ [some (.str "{}" :: PSd (.tup cs) (rulD q) (rowD r))]) ⟨_, _, _, _, _, [], rfl, by rw [List.append_nil]; exact p6.mono (by simp)⟩ (by
    rintro pre a post ρ S hpp ⟨p6, p7, p8, p9, p10, U', rfl, p⟩
    obtain ⟨ha, ha2⟩ := zi_ (by simpa using hpp)
    obtain ⟨V, S1, q7, q8, q9, q10, e, p3⟩ := sort_ok p (by omega) (by rw [List.append_assoc, List.append_assoc, List.getElem?_append_left (List.getElem?_eq_some_iff.mp hB2).1]; exact hB2) G (g := (B ++ U).length + 1) (by
      rw [List.append_assoc (B ++ U), List.getElem?_append_right (by omega)]
      simp) ha2 o0 (some (.dat (.int (t : Nat)))) p7 p8 p9 p10
    exact ⟨_, _, S1, rfl, .inl e, _, _, _, _, _, V, rfl, p3.mono (by simp; omega)⟩)
  have lS : S3.length + 1 = (B ++ U).length + 1 + 1 := by simp only [List.length_append, List.length_cons, List.length_nil] at l3 ⊢; omega
  refine ⟨fr18s o0 (some (.dat (.int (t : Nat)))) cs ((B ++ U).length + 1 + 1) q6 q7 q8 q9 q10, U ++ [none] ++ [some (.str "{}" :: PSd (.tup cs) (rulD q) (rowD r))] ++ U', S', ?_, ⟨_, _, _, _, _, _, _, _, rfl⟩, by
    have := p7.mono (m := n + 20000) (by simp only [List.length_range, List.nil_append]; omega)
    simpa only [List.append_assoc] using this⟩
  unfold zk6
  simp only [fr18s] at e6
  rw [← e4] at e5
  rw [lS] at pt
  simp! only [e1, e2, ds, a_putS, e5, pt, show rng1 [.dat (.int 11)] (S5' ++ [some (.str "{}" :: PSd (.tup cs) (rulD q) (rowD r))]) = .ok ((List.range 11).map fun i => .int ((i : Nat) : Int)) _ from zj6 (n := 11) (zgd (by decide)) _, lS, e6]
theorem lift_open (ns : List Int) (h : ns.length ≤ 63) : ∃ S, zec zdn [.scr ns] [] = .ok (.obj 0) S ∧ Pen 0 [] S := by
  obtain ⟨S, e, c, a, u, rfl, l⟩ := open_ok ns h
  refine ⟨[some (penL c a u)], ?_, c, a, u, rfl, l⟩
  simp only [zec, show argM [.scr ns] = some 0 from rfl, hasM, cond_true, List.take_nil, e, Nat.lt_irrefl, if_false, List.getElem?_cons_zero, List.drop_nil, List.nil_append, List.length_nil]
  rfl
def KA : List D := [kL 0, kL 1, kL 2]
def KB : List D := [kL 0, kL 1, kL 2, kL 3, kL 4, kL 5, kL 6, kL 7, kL 8]
theorem answers (ns : List Int) (h : ns.length ≤ 63) : ∃ S, g_law [.scr ns] [] = .ok (.dat (.bl true)) S := by
  obtain ⟨S0, e0, p0⟩ := lift_open ns h
  have l0 := p0.len
  have p1 := zd5 p0 (some KA)
  have p2 := zd5 p1 (some KB)
  have p3 := zd5 p2 (some KSD)
  obtain ⟨ρ', S', e, p3', p4, p5, p6, p7, p8, p9, p10, U, rfl, p⟩ := zd8 (enc := fun i : Nat => D.int ((i : Nat) : Int)) (G := gNm 3) (f := zk6)
    (fun pre ρ S => ∃ p3 p4 p5 p6 p7 p8 p9 p10 U, ρ = ([some (.scr ns), some (.obj 0), some (.obj 3), p3, p4, p5, p6, p7, p8, p9, p10] : zar) ∧ Pen (0 + 20000 * pre.length) ([some KA, some KB, some KSD] ++ U) S)
    (List.range 8) [] [some (.scr ns), some (.obj 0), some (.obj 3), none, none, none, none, none, none, none, none] (S0 ++ [some KA] ++ [some KB] ++ [some KSD]) ⟨_, _, _, _, _, _, _, _, [], rfl, by simpa using p3⟩ (by
    rintro pre a post ρ S hpp ⟨p3, p4, p5, p6, p7, p8, p9, p10, U, rfl, p⟩
    have hl := congrArg List.length hpp
    simp only [List.nil_append, List.length_range, List.length_append, List.length_cons] at hl
    obtain ⟨ρ', U', S1, e, ⟨q3, q4, q5, q6, q7, q8, q9, q10, rfl⟩, p'⟩ := turn18 p (by show _ ≤ 2147483648; omega) a (some (.scr ns)) p4 p5 p6 p7 p8 p9 p10
    exact ⟨_, _, S1, rfl, .inl e, _, _, _, _, _, _, _, _, U', rfl, p'.mono (by simp; omega)⟩)
  have l1 : S0.length = 1 := l0
  have hk1 : ∀ S, lLst (zaa (xLst (zaa (xC (.str "columns")) (zaa (xC (.str "rules")) (zaa (xC (.str "table")) aNil)))) (zaa (xLst (zaa (xC (.str "columns")) (zaa (xC (.str "rule")) (zaa (xC (.str "table")) aNil)))) (zaa (xLst (zaa (xC (.str "columns")) (zaa (xC (.str "rules")) (zaa (xC (.str "table")) aNil)))) aNil))) [some (.scr ns), some (.obj 0), none, none, none, none, none, none, none, none, none] S = .ok KA S := fun _ => rfl
  obtain ⟨c, a, u, rfl, l⟩ := p0
  have k2 : ∀ P : List D, lCat (x2 (o2 dAdd) (xVar 2) (x2 (o2 zb6) (xLst (zaa (xLst (zaa (xC (.str "columns")) (zaa (xC (.str "rules")) aNil))) aNil)) (xC (.int 3)))) (xLst (zaa (xLst (zaa (xC (.str "columns")) (zaa (xC (.str "rule")) aNil))) (zaa (xLst (zaa (xC (.str "columns")) (zaa (xC (.str "table")) (zaa (xC (.str "number")) aNil)))) aNil))) [some (.scr ns), some (.obj 0), some (.obj 1), none, none, none, none, none, none, none, none] [some P, some KA] = .ok [kL 0, kL 1, kL 2, kL 3, kL 4, kL 5, kL 6, kL 7] [some P, some KA] := fun _ => rfl
  have k3 : ∀ P : List D, sApp (xVar 2) (xLst (zaa (xC (.str "columns")) (zaa (xC (.str "rule")) (zaa (xC (.str "row")) aNil)))) [some (.scr ns), some (.obj 0), some (.obj 2), none, none, none, none, none, none, none, none] [some P, some KA, some [kL 0, kL 1, kL 2, kL 3, kL 4, kL 5, kL 6, kL 7]] = .nx [some (.scr ns), some (.obj 0), some (.obj 2), none, none, none, none, none, none, none, none] [some P, some KA, some KB] := fun _ => rfl
  have k4 : ∀ P : List D, lCat (xVar 2) (xLst (zaa (xLst (zaa (xC (.str "columns")) (zaa (xC (.str "rules")) (zaa (xC (.str "table")) aNil)))) (zaa (xLst (zaa (xC (.str "columns")) (zaa (xC (.str "rules")) (zaa (xC (.str "table")) (zaa (xC (.str "number")) aNil))))) aNil))) [some (.scr ns), some (.obj 0), some (.obj 2), none, none, none, none, none, none, none, none] [some P, some KA, some KB] = .ok KSD [some P, some KA, some KB] := fun _ => rfl
  have main : s_law [some (.scr ns), none, none, none, none, none, none, none, none, none, none] [] = .rt (.dat (.bl true)) S' := by
    unfold s_law
    simp only [a_seq, a_set, a_xN, a_cons, a_nil, zjz, List.getElem?_cons_zero, List.getElem?_cons_succ, Res.bind_ok, Res.bindS_ok, e0, List.set_cons_zero, List.set_cons_succ, seq_nx, a_new, hk1, List.length_cons, List.length_nil, List.cons_append, List.nil_append, Nat.reduceAdd, k2, k3, k4]
    simp only [List.cons_append, List.nil_append] at e
    simp! only [show ∀ S, rng1 [.dat (.int 8)] S = .ok ((List.range 8).map fun i => .int ((i : Nat) : Int)) S from fun S => zj6 (n := 8) (zgd (by decide)) S, e]
  refine ⟨S'.take 0, ?_⟩
  show (match gS_law [.scr ns] [] with
    | .ok dv S' => zii ([] : zae).length dv S'
    | .ex c S' => .ex c (S'.take ([] : zae).length)
    | .bad => .bad) = _
  have g : gS_law [.scr ns] [] = .ok (.dat (.bl true)) S' := by
    show endsS (s_law [some (.scr ns), none, none, none, none, none, none, none, none, none, none] []) = _
    rw [main]; rfl
  rw [g]
  rfl
end T18
set_option maxHeartbeats 0
open PySem PySem.W PySem.Calls PyProof.Rows
theorem PySem.Challenge.cw_whererules_k18_refusals_holds : PySem.Challenge.rw_whererules_k18_refusals.Holds := by
  w_on; o_law
  refine HandSHeadRun.head_any (r := OpenLaw.row PySem.Challenge.rw_whererules_k18_refusals) (q := view (OpenLaw.row PySem.Challenge.rw_whererules_k18_refusals).prog [107]) (H := T18.hk) (ob := T18.ob) (M := 20000) (loose := T18.loose) (d := HandSHeadRun.topDef (OpenLaw.row PySem.Challenge.rw_whererules_k18_refusals).prog 107) (kwd := []) T18.ob_eq
    (by kernel_rfl) (fun s => by kernel_rfl) T18.run (by kernel_rfl) (by kernel_rfl) (by kernel_rfl) (by rfl) (by first | assumption | decide +kernel) (by decide +kernel) ⟨rfl, rfl, rfl, rfl, rfl, by decide +kernel⟩ ?hw ?hc
  case hw => w_witness2
  case hc =>
    refine DL.walkD (l := PySem.Challenge.rw_whererules_k18_refusals) (n := 63) (k := 12) (x := "_law_script") (g := T18.g_law) rfl (by decide) (by kernel_rfl) ⟨rfl, by decide, by decide⟩ ?F T18.answers
    intro w mg fa h Y G hmg0
    obtain ⟨K, KX, c, xo, tl⟩ := Y
    have T := T18.txt_of KX G c xo
    obtain ⟨f, fd, Fd, hm⟩ := T.d_law
    have e : (HandSHeadRun.topDef (OpenLaw.row PySem.Challenge.rw_whererules_k18_refusals).prog 107).name = ("law" : PySem.Str) := by kernel_rfl
    rw [e, hm] at hmg0
    cases hmg0
    exact ⟨K, fd, KX, tl, fun s u => L2.FunD.bindsA (ps := ["_law_script"]) Fd (fun _ _ _ _ _ _ us hl => match us, hl with | [_], _ => rfl) s [u] rfl, fun base _ _ => DL.fn_law Fd T18.sc_law rfl rfl (T18.bd_law T fa)⟩
