import PyProof.Rows.All
import Wide.All
import OpenK.AllK
import HandS.ForMost
import HandS.SetFor
import Wide.FinOn
import HandS.ForExc
import HandS.More
import HandS.TupAny
import HandS.Conv
import HandS.Strs
import HandS.Zip
import HandS.Star
import HandS.IsInst
import HandS.TupMul
import HandS.Wide
import HandS.WideMore
import HandS.Flow
import HandS.Deep
import HandS.Exc
import HandS.HeadHook1
import HandS.Lambda
import KE.KDictKeyed
import HandS.WideBits
import HandS.TupLe
import HandS.Walk
import HandS.Defaults
import HandS.HeadHook2
import KE.GoesEnum
import KE.GoesMore
import HandS.HeadEnd
import HandS.TryMany
import KE.SortData
import HandS.TupSets
import HandS.SortInts
import KE.KExcIs
import HandS.ExcIs
import HandS.ExcValue
import KE.DataFind
import HandS.Spec
import PyProof.SetRoads
import KE.DataMinMax
import HandS.DictTup
import KE.KDictOf
import KE.KDictCopyH
import HandS.DictComp
import KE.KDictSum
import HandS.WordsDict
import HandS.Style
import KE.KDictZip
import KE.KTabLook
import HandS.NoneIn
import HandS.ExcInit
import HandS.ExcField
import HandS.Codes
import KE.KStateDown
import HandS.Base
import HandS.Call
import HandS.Ends
import HandS.Words
import HandS.WordsExc
import HandS.Head0
import HandS.Head1
import HandS.Head2
import PySem.Challenge.RW_whererules_k46_stops
set_option Elab.async false
set_option linter.all false
set_option maxRecDepth 100000
set_option maxHeartbeats 8000000
namespace PySem
namespace DLSet
open L2 PyProof.Rows
abbrev emp (w : World) : Obj := { cls := .type "set", dict := none, data := .set #[] 0 (.fresh 0 0 (!w.params.followText "set-order")) }
section
variable {P : Program} {w : World} {A : Around} {E : Value → Shared → Prop} {s : Shared}
theorem set_of_list {l : Addr} {items : Array Value} (ns : List Int) {Q : Value → Shared → Prop} (hh : A.handled = none) (hl : s.heap.IsList l items) (hit : IntsAre items.toList ns) (hb : ns.length + 1 < scanBound)
    (h : ∀ (h' : Heap) (tk c : Nat), SetR w h' s.heap.objs.size (fun j => decide (j ∈ ns)) c → c ≤ ns.length → (∀ b o, s.heap.get? b = some o → h'.get? b = some o) → Q (.ref s.heap.objs.size) { s with heap := h', toks := tk }) :
    wpAny (model P w) A (call (.type "set") [.ref l]) Q E s := by
  have size_eq : items.size = ns.length := by simpa using IntsAre.length hit
  obtain ⟨c, tl, hmro⟩ := F.called_set.mro
  have hmade := F.called_set.made
  have hsub := F.called_set.sub
  apply wpAny_call
  apply codeAny_of_tree
  show wpAny _ _ (callAny (.type "set") _) _ _ _
  apply wpAny_pure
  refine ⟨Code.quiet_builtin _ (by decide +kernel), ?_⟩
  apply codeAny_builtin F.entry_type_call
  rw [Around.under_plain (weight_type_call_type "set" [.ref l] []) rfl]
  have h1 := F.called_set.notType
  have h2 := F.called_set.canCreate
  have hct := F.typeCall_set_1 (.ref l)
  repeat (any_goals (first | assumption | wp_step))
  refine codeAny_mono (code_set_led1 (.ref l) (E := E) (Q₁ := fun ob s1 => ob = .ref s.heap.objs.size ∧ s1 = { s with heap := s.heap.push (emp w) }) ⟨rfl, rfl⟩) ?_
  intro r s1 hr
  cases r with
  | error e => exact hr
  | ok fl =>
    cases fl with
    | ret ob =>
      obtain ⟨rfl, rfl⟩ := hr
      have hS : (s.heap.push (emp w)).get? s.heap.objs.size = some (emp w) := Heap.get?_push_size _ rfl
      have hT : Shared.TypeIs { s with heap := s.heap.push (emp w) } (.ref s.heap.objs.size) "set" := ⟨_, hS, rfl⟩
      have hli := F.called_set.init.lookup
      have hbi := F.called_set.init.bind (.ref s.heap.objs.size)
      repeat (any_goals (first | assumption | wp_step))
      refine codeAny_mono (codeAny_call_builtin (R := wants (fun r s2 => r = .none ∧ ∃ h' tk c, s2 = { s with heap := h', toks := tk } ∧ SetR w h' s.heap.objs.size (fun j => decide (j ∈ ns)) c ∧ c ≤ ns.length ∧
          (∀ b o, s.heap.get? b = some o → h'.get? b = some o)) E) F.called_set.init.plain F.entry_set_init (check_set_init_1 hT ?_)) ?_
      · obtain ⟨ol, hol, hcl, nl, hdl⟩ := hl
        obtain ⟨ocls, odict, odata, oslots⟩ := ol
        simp only at hcl hdl
        subst hcl
        subst hdl
        have hol1 : (s.heap.push (emp w)).get? l = some { cls := .type "list", dict := odict, data := .seq items nl, slots := oslots } := Heap.get?_push_of_some _ hol
        have hsls := F.sub_list_set
        have hslf := F.sub_list_frozenset
        have hne : (Value.type "list" == Value.type "dict") = false := by decide
        have hl1 : (s.heap.push (emp w)).IsList l items := ⟨_, hol1, rfl, nl, rfl⟩
        unfold Builtin.«set.__init__» noKeywords Builtin.Frozenset.updateFrom
        generalize hPI : pyIter = PI
        wp_walk
        subst hPI
        refine wpAny_pyIter_list hl1 ?_
        refine wpAny_bind (wpAny_runValue ?_)
        have lt : l < s.heap.objs.size := Heap.lt_size hol
        have calm3 : A.in1.in1.in1.handled = none := by simp [hh]
        have sz : (s.heap.push (emp w)).objs.size = s.heap.objs.size + 1 := Heap.size_push ..
        have apart : l ≠ (s.heap.push (emp w)).objs.size := by rw [sz]; exact Nat.ne_of_lt (Nat.lt_succ_of_lt lt)
        have free : s.heap.objs.size ∉ [(s.heap.push (emp w)).objs.size, l] := by
          rw [sz]
          simp only [List.mem_cons, List.not_mem_nil, or_false, not_or]
          exact ⟨Nat.ne_of_lt (Nat.lt_succ_self _), Nat.ne_of_gt lt⟩
        have val : ∀ (i : Nat) (v : Value), items[i]? = some v → ∃ k t, ns[i]? = some k ∧ v = .int k t := by
          intro i v hv
          have hi : i < ns.length := by rw [← size_eq]; exact (Array.getElem?_eq_some_iff.mp hv).1
          obtain ⟨t, e⟩ := PyProof.Rows.IntsAre.int_at hit i v (by rw [Array.getElem?_toList]; exact hv)
          refine ⟨ns[i], t, List.getElem?_eq_getElem hi, ?_⟩
          rw [e, List.getD_eq_getElem?_getD, List.getElem?_eq_getElem hi]
          rfl
        refine set_update_ints ((Walks.list calm3 _ l apart items).toS) s.heap.objs.size free ns size_eq hb val (items.size - 0) 0 _ (by omega) (Nat.zero_le _)
          ⟨⟨_, Heap.get?_push_size _ rfl, rfl, rfl⟩, (hl1.push _)⟩ ?hA ?hB
        case hA => exact ⟨0, Nat.le_refl 0, setR_new_at (Heap.get?_push_of_some _ hS)⟩
        case hB =>
          intro s' c' mv hc' hS'
          obtain ⟨h', g2, d', tk', os'⟩ := s'
          obtain rfl : g2 = s.gens := mv.gens
          obtain rfl : d' = s.drawn := mv.drawn
          obtain rfl : os' = s.os := mv.os
          show wpAny _ _ _ _ _ _
          apply wpAny_pure
          show wpAny _ _ (ret Value.none) _ _ _
          rw [size_eq] at hc'
          refine wpAny_pure ⟨rfl, h', tk', c', rfl, hS', hc', fun b o e => ?_⟩
          have hb0 : b < s.heap.objs.size := Heap.lt_size e
          refine mv.heap b o ?_ (Heap.get?_push_of_some _ (Heap.get?_push_of_some _ e))
          rw [sz]
          simp only [List.mem_cons, List.not_mem_nil, or_false, not_or]
          exact ⟨Nat.ne_of_lt hb0, Nat.ne_of_lt (Nat.lt_succ_of_lt hb0)⟩
      · intro r2 s2 hr2
        cases r2 with
        | error e => exact hr2
        | ok fl2 =>
          cases fl2 with
          | ret v2 =>
            obtain ⟨rfl, h', tk, c, rfl, hS', hc', hk⟩ := hr2
            repeat (any_goals (first | assumption | wp_step))
            exact h h' tk c hS' hc' hk
          | _ => exact hr2.elim
    | _ => exact hr.elim
end
end DLSet
end PySem
set_option maxHeartbeats 4000000
namespace DL
open PySem PySem.Spec PyProof.Rows L2
/-! ## data by value -/
structure Cas where
  cols : List (Option (List Int))
  n : Nat
  lab : List Nat
  facts : List (List Int)
inductive D where
  | non | bl (b : Bool) | int (i : Int) | str (x : Str) | lst (xs : List D) | tup (xs : List D) | cas (c : Cas) | dct (m : List (Key × Int)) | ptr (k : Nat)
inductive DV where
  | dat (d : D) | obj (k : Nat) | scr (ns : List Int) | exn (c : Str) (p : Option (Str × D)) | fn (x : Str) | spc (k : Nat)
abbrev zae := List (Option (List D))
abbrev za2 := List (Option DV)
structure XC where
  cls : Str
  pay : Option (Str × D)
instance : Coe Str XC := ⟨fun c => ⟨c, none⟩⟩
inductive Res (α : Type) where
  | ok (a : α) (S : zae) | ex (c : XC) (S : zae) | bad
def Res.bind {α β : Type} (r : Res α) (f : α → zae → Res β) : Res β := match r with
  | .ok a S => f a S
  | .ex c S => .ex c S
  | .bad => .bad
@[simp] theorem Res.bind_ok {α β : Type} (a : α) (S : zae) (f : α → zae → Res β) : (Res.ok a S).bind f = f a S := rfl
@[simp] theorem Res.bind_ex {α β : Type} (c : XC) (S : zae) (f : α → zae → Res β) : (Res.ex c S : Res α).bind f = .ex c S := rfl
@[simp] theorem Res.bind_bad {α β : Type} (f : α → zae → Res β) : (Res.bad : Res α).bind f = .bad := rfl
def ColV (K : PySem.W.Frag) (F : Hp) : V → Option (List Int) → Prop
  | v, none => v = .non
  | v, some ns => ∃ a, v = .ref a ∧ SqT K F a (ns.map V.int)
def ColVs (K : PySem.W.Frag) (F : Hp) : List V → List (Option (List Int)) → Prop
  | [], [] => True
  | v :: vs, c :: cs => ColV K F v c ∧ ColVs K F vs cs
  | _, _ => False
def zdf (n m : Nat) : List (List Key) := (List.range n).flatMap fun r => (List.range m).map fun c => [Sum.inl ((r : Nat) : Int), Sum.inl ((c : Nat) : Int)]
structure CasK (K : PySem.W.Frag) : Prop where
  cl : Cls K (He.ga K "Case")
  na : ∀ f : Str, f ∈ (["columns", "count", "labels", "facts"] : List Str) → NoAttr K (He.ga K "Case") f
  ha : PySem.W.findIn K (.ref (He.ga K "Case")) "__class__" = some (some (.builtin "object.__class__"))
  hn : PySem.W.specialIn K (.builtin "object.__class__") "__get__" = some (some (.builtin "getset_descriptor.__get__"))
  htk : PySem.W.takesIn K (.builtin "object.__class__") = some true
  hm : PySem.W.mroIn K (He.ga K "Case") (.type "object") = some true
  kit : ∀ T : String, T ∈ ["int", "bool", "tuple", "list", "str"] → PySem.W.kitOne K (.ref (He.ga K "Case")) (.type T) = some false
structure CasAt (K : PySem.W.Frag) (F : Hp) (a : Addr) (c : Cas) : Prop where
  kit : CasK K
  of : ∃ (dx ca la fa : Addr) (fs : Nat → Addr) (cv : List V) (lo fo : Obj),
    F a = some (.ins (He.ga K "Case") dx [("columns", .ref ca), ("count", .int (c.n : Nat)), ("labels", .ref la), ("facts", .ref fa)]) ∧ F dx = some (.own a) ∧
    SqT K F ca cv ∧ ColVs K F cv c.cols ∧ c.lab.length = c.n * c.cols.length ∧ c.facts.length = c.n * c.cols.length ∧ (∀ l ∈ c.lab, l < c.facts.length) ∧
    F la = some (.frz lo (.dT ((zdf c.n c.cols.length).zip (c.lab.map fun l => V.int (l : Nat))))) ∧
    F fa = some (.frz fo (.dK ((List.range c.facts.length).map fun i => (Sum.inl ((i : Nat) : Int), V.ref (fs i))))) ∧
    ∀ i, i < c.facts.length → F (fs i) = some (.lst ((c.facts.getD i []).map V.int))
mutual
inductive Wd (K : PySem.W.Frag) (F : Hp) : V → D → Prop
  | non : Wd K F .non .non
  | bl (b : Bool) : Wd K F (.bl b) (.bl b)
  | int (i : Int) : Wd K F (.int i) (.int i)
  | str (x : Str) : Wd K F (.str x) (.str x)
  | lst {a : Addr} {vs : List V} {ds : List D} : F a = some (.lst vs) → WdA K F vs ds → Wd K F (.ref a) (.lst ds)
  | tup {a : Addr} {vs : List V} {ds : List D} : SqT K F a vs → WdA K F vs ds → Wd K F (.ref a) (.tup ds)
  | cas {a : Addr} {c : Cas} : CasAt K F a c → Wd K F (.ref a) (.cas c)
  | dct {a : Addr} {m : List (Key × Int)} {o : Obj} : F a = some (.frz o (.dK (m.map fun p => (p.1, V.int p.2)))) → Wd K F (.ref a) (.dct m)
inductive WdA (K : PySem.W.Frag) (F : Hp) : List V → List D → Prop
  | nil : WdA K F [] []
  | cons {v : V} {vs : List V} {d : D} {ds : List D} : Wd K F v d → WdA K F vs ds → WdA K F (v :: vs) (d :: ds)
end
section
variable {K : PySem.W.Frag} {F F' : Hp}
theorem zdr (e : Same F F') {a : Addr} {xs : List V} (h : SqT K F a xs) : SqT K F' a xs := by
  rcases h with (h | ⟨o, h⟩) | h
  · exact .inl (.inl (e _ _ h))
  · exact .inl (.inr ⟨o, e _ _ h⟩)
  · exact .inr h
theorem ColV.mono (e : Same F F') {v : V} : ∀ {c : Option (List Int)}, ColV K F v c → ColV K F' v c
  | none, h => h
  | some _, ⟨a, h1, h2⟩ => ⟨a, h1, zdr e h2⟩
theorem ColVs.mono (e : Same F F') : ∀ {vs : List V} {cs : List (Option (List Int))}, ColVs K F vs cs → ColVs K F' vs cs
  | [], [], _ => trivial
  | _ :: _, _ :: _, ⟨h1, h2⟩ => ⟨h1.mono e, ColVs.mono e h2⟩
theorem CasAt.mono (e : Same F F') {a : Addr} {c : Cas} (h : CasAt K F a c) : CasAt K F' a c := by
  obtain ⟨dx, ca, la, fa, fs, cv, lo, fo, h1, h2, h3, h4, h5, h6, h7, h8, h9, h10⟩ := h.of
  exact ⟨h.kit, dx, ca, la, fa, fs, cv, lo, fo, e _ _ h1, e _ _ h2, zdr e h3, h4.mono e, h5, h6, h7, e _ _ h8, e _ _ h9, fun i hi => e _ _ (h10 i hi)⟩
mutual
theorem Wd.mono (e : Same F F') : ∀ {d : D} {v : V}, Wd K F v d → Wd K F' v d
  | .non, _, h => by cases h; exact .non
  | .bl _, _, h => by cases h; exact .bl _
  | .int _, _, h => by cases h; exact .int _
  | .str _, _, h => by cases h; exact .str _
  | .lst ds, _, h => by
    cases h with
    | lst s a => exact .lst (e _ _ s) (WdA.mono e a)
  | .tup ds, _, h => by
    cases h with
    | tup s a => exact .tup (zdr e s) (WdA.mono e a)
  | .cas _, _, h => by
    cases h with
    | cas h => exact .cas (h.mono e)
  | .dct _, _, h => by
    cases h with
    | dct h => exact .dct (e _ _ h)
  | .ptr _, _, h => by cases h
theorem WdA.mono (e : Same F F') : ∀ {ds : List D} {vs : List V}, WdA K F vs ds → WdA K F' vs ds
  | [], _, h => by cases h; exact .nil
  | d :: ds, _, h => by
    cases h with
    | cons a b => exact .cons (Wd.mono e a) (WdA.mono e b)
end
theorem WdA.length : ∀ {ds : List D} {vs : List V}, WdA K F vs ds → vs.length = ds.length
  | [], _, h => by cases h; rfl
  | d :: ds, _, h => by
    cases h with
    | cons a b => simp [WdA.length b]
theorem WdA.get : ∀ {ds : List D} {vs : List V} {i : Nat} {v : V}, WdA K F vs ds → vs[i]? = some v → ∃ d, ds[i]? = some d ∧ Wd K F v d
  | [], _, i, v, h, e => by cases h; simp at e
  | d :: ds, _, 0, v, h, e => by
    cases h with
    | cons a b => simp at e; subst e; exact ⟨d, rfl, a⟩
  | d :: ds, _, i + 1, v, h, e => by
    cases h with
    | cons a b => simp at e; obtain ⟨q, h1, h2⟩ := WdA.get b e; exact ⟨q, by simpa using h1, h2⟩
theorem WdA.get' : ∀ {ds : List D} {vs : List V} {i : Nat} {d : D}, WdA K F vs ds → ds[i]? = some d → ∃ v, vs[i]? = some v ∧ Wd K F v d
  | [], _, i, v, h, e => by simp at e
  | d :: ds, _, 0, v, h, e => by
    cases h with
    | cons a b => simp at e; subst e; exact ⟨_, rfl, a⟩
  | d :: ds, _, i + 1, v, h, e => by
    cases h with
    | cons a b => simp at e; obtain ⟨q, h1, h2⟩ := WdA.get' b e; exact ⟨q, by simpa using h1, h2⟩
theorem WdA.append : ∀ {ds es : List D} {vs us : List V}, WdA K F vs ds → WdA K F us es → WdA K F (vs ++ us) (ds ++ es)
  | [], _, _, _, h, g => by cases h; exact g
  | d :: ds, _, _, _, h, g => by
    cases h with
    | cons a b => exact .cons a (WdA.append b g)
theorem WdA.take : ∀ {ds : List D} {vs : List V} (n : Nat), WdA K F vs ds → WdA K F (vs.take n) (ds.take n)
  | _, _, 0, _ => by simp; exact .nil
  | [], _, n + 1, h => by cases h; exact .nil
  | d :: ds, _, n + 1, h => by
    cases h with
    | cons a b => exact .cons a (WdA.take n b)
theorem WdA.drop : ∀ {ds : List D} {vs : List V} (n : Nat), WdA K F vs ds → WdA K F (vs.drop n) (ds.drop n)
  | _, _, 0, h => by simpa using h
  | [], _, n + 1, h => by cases h; exact .nil
  | d :: ds, _, n + 1, h => by
    cases h with
    | cons a b => simpa using WdA.drop n b
theorem WdA.set : ∀ {ds : List D} {vs : List V} (n : Nat) {v : V} {d : D}, WdA K F vs ds → Wd K F v d → WdA K F (vs.set n v) (ds.set n d)
  | [], _, _, _, _, h, _ => by cases h; exact .nil
  | d :: ds, _, 0, _, _, h, g => by
    cases h with
    | cons a b => exact .cons g b
  | d :: ds, _, n + 1, _, _, h, g => by
    cases h with
    | cons a b => exact .cons a (WdA.set n b g)
end
/-! ## how a state of the layer L2 is worth slots and a store -/
def ExK (K : PySem.W.Frag) (c : Str) (d : Option Addr) (a : Addr) : HO := .ext fun h => ∃ (oe : Obj) (vs : Array Value), h.get? a = some oe ∧ Zc (.ref (He.ga K c)) d oe ∧ oe.data = .fields vs
def WExn (K : PySem.W.Frag) (F : Hp) (a : Addr) (c : Str) : Option (Str × D) → Prop
  | none => F a = some (ExK K c none a)
  | some (f, y) => ∃ (dx : Addr) (v : V), F a = some (ExK K c (some dx) a) ∧ F dx = some (.xd [(f, v)]) ∧ Wd K F v y
theorem WExn.mono {K : PySem.W.Frag} {F F' : Hp} {a : Addr} {c : Str} {p : Option (Str × D)} (sm : Same F F') (h : WExn K F a c p) : WExn K F' a c p := by
  cases p with
  | none => exact sm _ _ h
  | some q =>
    obtain ⟨f, y⟩ := q
    obtain ⟨dx, v, h1, h2, h3⟩ := h
    exact ⟨dx, v, sm _ _ h1, sm _ _ h2, h3.mono sm⟩
def XPay (K : PySem.W.Frag) (F : Hp) (d : Option Addr) : Option (Str × D) → Prop
  | none => d = none
  | some (f, y) => ∃ (dx : Addr) (v : V), d = some dx ∧ F dx = some (.xd [(f, v)]) ∧ Wd K F v y
def XIs (K : PySem.W.Frag) (mg : Str → Option Value) (F : Hp) (c : XC) (C : Addr × Option Addr) : Prop := mg c.cls = some (.ref C.1) ∧ XPay K F C.2 c.pay
class Mode where
  plain : Bool
def IsFst (ι : List Addr) (k : Nat) : Prop := ∀ j, j < k → ι[j]? ≠ ι[k]?
def IsSnd (ι : List Addr) (k : Nat) : Prop := ∃ j, k = j + 1 ∧ ι[j]? = ι[k]? ∧ IsFst ι j
theorem IsFst.pre {ι ι' : List Addr} (p : ι <+: ι') {k : Nat} (h : k < ι.length) : IsFst ι' k ↔ IsFst ι k := by
  obtain ⟨t, rfl⟩ := p
  have e : ∀ j, j ≤ k → (ι ++ t)[j]? = ι[j]? := fun j hj => List.getElem?_append_left (by omega)
  exact ⟨fun f j hj => by rw [← e j (by omega), ← e k (by omega)]; exact f j hj, fun f j hj => by rw [e j (by omega), e k (by omega)]; exact f j hj⟩
theorem IsSnd.pre {ι ι' : List Addr} (p : ι <+: ι') {k : Nat} (h : k < ι.length) : IsSnd ι' k ↔ IsSnd ι k := by
  have e : ∀ j, j ≤ k → ι'[j]? = ι[j]? := fun j hj => by
    obtain ⟨t, rfl⟩ := p
    exact List.getElem?_append_left (by omega)
  constructor
  · rintro ⟨j, rfl, h1, h2⟩
    exact ⟨j, rfl, by rw [← e j (by omega), ← e (j + 1) (by omega)]; exact h1, (IsFst.pre p (by omega)).mp h2⟩
  · rintro ⟨j, rfl, h1, h2⟩
    exact ⟨j, rfl, by rw [e j (by omega), e (j + 1) (by omega)]; exact h1, (IsFst.pre p (by omega)).mpr h2⟩
theorem IsFst.one {ι : List Addr} {i j : Nat} {a : Addr} (fi : IsFst ι i) (fj : IsFst ι j) (hi : ι[i]? = some a) (hj : ι[j]? = some a) : i = j := by
  rcases Nat.lt_trichotomy i j with h | h | h
  · exact absurd (hi.trans hj.symm) (fj i h)
  · exact h
  · exact absurd (hj.trans hi.symm) (fi j h)
theorem IsSnd.one {ι : List Addr} {i j : Nat} {a : Addr} (si : IsSnd ι i) (sj : IsSnd ι j) (hi : ι[i]? = some a) (hj : ι[j]? = some a) : i = j := by
  obtain ⟨i', rfl, h1, h2⟩ := si
  obtain ⟨j', rfl, h3, h4⟩ := sj
  have := IsFst.one h2 h4 (h1.trans hi) (h3.trans hj)
  omega
theorem IsFst.new {ι t : List Addr} {a : Addr} (h : a ∉ ι) : IsFst (ι ++ a :: t) ι.length := fun j hj e => by
  rw [List.getElem?_append_left hj, List.getElem?_append_right (Nat.le_refl _), Nat.sub_self] at e
  exact h (List.mem_of_getElem? e)
theorem IsFst.nd {ι : List Addr} (n : ι.Nodup) {k : Nat} (h : k < ι.length) : IsFst ι k := fun j hj e => by
  have hj' : j < ι.length := by omega
  rw [List.getElem?_eq_getElem hj', List.getElem?_eq_getElem h] at e
  have := (List.getElem_inj n).mp (Option.some.inj e)
  omega
def WV (K : PySem.W.Frag) (ι : List Addr) (F : Hp) (v : V) : DV → Prop
  | .dat d => Wd K F v d
  | .obj k => ∃ a, ι[k]? = some a ∧ v = .ref a ∧ IsFst ι k
  | .scr ns => ∃ a, v = .ref a ∧ SqL K F a (ns.map V.int)
  | .exn c p => ∃ a, v = .ref a ∧ WExn K F a c p
  | .fn x => v = .ref (He.ga K x)
  | .spc k => ∃ a, ι[k]? = some a ∧ v = .ref a ∧ ¬ IsFst ι k
inductive WVs (K : PySem.W.Frag) (ι : List Addr) (F : Hp) : List V → List DV → Prop
  | nil : WVs K ι F [] []
  | cons {v : V} {vs : List V} {d : DV} {ds : List DV} : WV K ι F v d → WVs K ι F vs ds → WVs K ι F (v :: vs) (d :: ds)
def NoT2 (o : HO) : Prop := (∀ xs, o ≠ .tup xs) ∧ ∀ ps, o ≠ .tbl ps
def NoTb (o : HO) : Prop := ∀ ps, o ≠ .tbl ps
def lamNs : List Str := ["_law_sets", "find_cheapest", "find_tree", "_law_other_rule"]
def lamQ (x : Str) : Str := (x ++ ".<locals>.") ++ "<lambda>"
def tabOf (K : PySem.W.Frag) (x : Str) : List Addr := match K.lookup (He.ga K x) with
  | some ⟨_, _, .func fd, _⟩ => (match (fd.code : Value) with
    | .ref c => (match K.lookup c with
      | some ⟨_, _, .fields vs, _⟩ => (match (vs.toList[11]? : Option Value) with
        | some (.ref P) => [P]
        | _ => [])
      | _ => [])
    | _ => [])
  | _ => []
def tabsP (K : PySem.W.Frag) : List (Addr × Str) := lamNs.flatMap fun x => (tabOf K x).map fun P => (P, lamQ x)
def zdm (K : PySem.W.Frag) : List Addr := (tabsP K).map (·.1)
def TbsOk (K : PySem.W.Frag) (H : Hp) : Prop := ∀ p ∈ tabsP K, LamX.TabS H p.1 p.2
theorem TbsOk.at_ {K : PySem.W.Frag} {H : Hp} (t : TbsOk K H) {P : Addr} (h : P ∈ zdm K) : ∃ ps, H P = some (.tbl ps) := by
  obtain ⟨p, hp, rfl⟩ := List.mem_map.mp h
  obtain ⟨ps, h1, _⟩ := t p hp
  exact ⟨ps, h1⟩
theorem TbsOk.ext {K : PySem.W.Frag} {H H' : Hp} (t : TbsOk K H) (e : ∀ b o, H b = some o → ((∃ ps, o = .tbl ps) ∨ ∃ φ, o = .ext φ) → H' b = some o) : TbsOk K H' := fun P hP => by
  obtain ⟨ps, h1, h2, h3⟩ := t P hP
  refine ⟨ps, e _ _ h1 (.inl ⟨_, rfl⟩), h2, fun pos cv hc => ?_⟩
  obtain ⟨c, e1, e2⟩ := h3 pos cv hc
  exact ⟨c, e1, e _ _ e2 (.inr ⟨_, rfl⟩)⟩
theorem TbsOk.upd {K : PySem.W.Frag} {H : Hp} (t : TbsOk K H) {p : Addr} (n : ∀ o, H p = some o → (∀ ps, o ≠ .tbl ps) ∧ ∀ φ, o ≠ .ext φ) (u : HO) : TbsOk K (upd H p u) := t.ext fun b o e h => by
  rw [upd_ne (fun z => by
    rw [z] at e
    obtain ⟨n1, n2⟩ := n o e
    rcases h with ⟨ps, h⟩ | ⟨φ, h⟩
    · exact n1 ps h
    · exact n2 φ h)]
  exact e
theorem TbsOk.new {K : PySem.W.Frag} {H : Hp} (t : TbsOk K H) {p : Addr} (n : H p = none) (u : HO) : TbsOk K (L2.upd H p u) := t.upd (fun o e => by rw [n] at e; cases e) u
theorem TbsOk.lst {K : PySem.W.Frag} {H : Hp} (t : TbsOk K H) {p : Addr} {xs : List V} (n : H p = some (.lst xs)) (u : HO) : TbsOk K (L2.upd H p u) := t.upd (fun o e => by rw [n] at e; cases e; exact ⟨fun _ z => (by cases z), fun _ z => (by cases z)⟩) u
theorem TbsOk.off {K : PySem.W.Frag} {F H : Hp} (t : TbsOk K H) (tf : ∀ P ∈ zdm K, F P = none) {p : Addr} (n : ∀ ps, H p ≠ some (.tbl ps)) (u : HO) : ∀ P ∈ zdm K, L2.upd F p u P = none := fun P hP => by
  obtain ⟨ps, h1⟩ := t.at_ hP
  rw [upd_ne (fun z => n ps (by rw [← z]; exact h1))]
  exact tf P hP
/-! ### special cells: instances, dicts -/
def fldNm (c : Str) : List Str :=
  if c = "Desk" then ["columns", "held", "held_keys", "kept", "kept_keys", "next_row", "next_rule", "seen", "papers", "marks"]
  else if c = "Mender" then ["columns", "kept_costs", "held", "held_keys", "kept", "kept_keys", "next_row", "next_rule", "held_pins", "seen", "papers", "marks"]
  else []
inductive SpV (K : PySem.W.Frag) (ι : List Addr) (F : Hp) : V → D → Prop
  | dat {v : V} {d : D} : Wd K F v d → SpV K ι F v d
  | ptr {j : Nat} {b : Addr} : ι[j]? = some b → IsFst ι j → SpV K ι F (.ref b) (.ptr j)
inductive SpVs (K : PySem.W.Frag) (ι : List Addr) (F : Hp) : List V → List D → Prop
  | nil : SpVs K ι F [] []
  | cons {v : V} {vs : List V} {d : D} {ds : List D} : SpV K ι F v d → SpVs K ι F vs ds → SpVs K ι F (v :: vs) (d :: ds)
mutual
def nkyD : D → Option NestedKey
  | .non => some .none
  | .int i => some (.num i)
  | .tup ds => (nkyDs ds).map .tup
  | _ => none
def nkyDs : List D → Option (List NestedKey)
  | [] => some []
  | d :: ds => (nkyD d).bind fun k => (nkyDs ds).map (k :: ·)
end
def DicN (a : Addr) (xs : List (NestedKey × Addr × Value)) : HO := .ext fun h => (a == sysModules) = false ∧ ∃ (o : Obj) (es : Array DictEntry) (ep : Nat) (w0 : World), h.get? a = some o ∧ o.ExactDict ∧ o.data = .dict es ep ∧
  es.toList = xs.map (fun x => (⟨x.1.hash w0, .ref x.2.1, x.2.2⟩ : DictEntry)) ∧ (xs.map (·.1)).Nodup
inductive PairN (K : PySem.W.Frag) (ι : List Addr) (F : Hp) : List (NestedKey × Addr × Value) → List D → Prop
  | nil : PairN K ι F [] []
  | cons {k : NestedKey} {b : Addr} {u : Value} {v : V} {kd vd : D} {xs : List (NestedKey × Addr × Value)} {ds : List D} : nkyD kd = some k ∧ k.depth ≤ 8 → Wd K F (.ref b) kd → RelV v u → SpV K ι F v vd → PairN K ι F xs ds → PairN K ι F ((k, b, u) :: xs) (.tup [kd, vd] :: ds)
def kyD : Key → D
  | .inl i => .int i
  | .inr x => .str x
inductive SpO (K : PySem.W.Frag) (ι : List Addr) (F : Hp) (a : Addr) : HO → List D → Prop
  | ins {c : Str} {dx : Addr} {vs : List V} {ds : List D} : F dx = some (.own a) → fldNm c ≠ [] → vs.length ≤ (fldNm c).length → SpVs K ι F vs ds → SpO K ι F a (.ins (He.ga K c) dx ((fldNm c).zip vs)) (.str c :: ds)
  | dic {ks : List Key} {vs : List V} {ds : List D} : ks.length = vs.length → SpVs K ι F vs ds → SpO K ι F a (.dK (ks.zip vs)) (.str "{}" :: (ks.zip ds).map fun p => .tup [kyD p.1, p.2])
  | dnk {xs : List (NestedKey × Addr × Value)} {ds : List D} : PairN K ι F xs ds → SpO K ι F a (DicN a xs) (.str "{}n" :: ds)
def SpAt (K : PySem.W.Frag) (ι : List Addr) (F H : Hp) (a : Addr) (ds : List D) : Prop := F a = none ∧ ∃ o, H a = some o ∧ SpO K ι F a o ds
section
variable {K : PySem.W.Frag} {ι ι' : List Addr} {F F' H H' : Hp} {a : Addr} {o : HO} {ds : List D}
theorem SpV.mono (p : ι <+: ι') (sm : Same F F') {v : V} {d : D} (h : SpV K ι F v d) : SpV K ι' F' v d := by
  cases h with
  | dat h => exact .dat (h.mono sm)
  | ptr h f =>
    have hl := (List.getElem?_eq_some_iff.mp h).1
    refine .ptr ?_ ((IsFst.pre p hl).mpr f)
    obtain ⟨t, rfl⟩ := p
    rw [List.getElem?_append_left hl]; exact h
theorem SpVs.mono (p : ι <+: ι') (sm : Same F F') {vs : List V} {ds : List D} (h : SpVs K ι F vs ds) : SpVs K ι' F' vs ds := by
  induction h with
  | nil => exact .nil
  | cons a _ ih => exact .cons (a.mono p sm) ih
theorem SpVs.length {vs : List V} {ds : List D} (h : SpVs K ι F vs ds) : vs.length = ds.length := by
  induction h with
  | nil => rfl
  | cons _ _ ih => simp [ih]
theorem PairN.mono (p : ι <+: ι') (sm : Same F F') {xs : List (NestedKey × Addr × Value)} (h : PairN K ι F xs ds) : PairN K ι' F' xs ds := by
  induction h with
  | nil => exact .nil
  | cons h1 h2 h3 h4 _ ih => exact .cons h1 (h2.mono sm) h3 (h4.mono p sm) ih
theorem SpO.mono (p : ι <+: ι') (sm : Same F F') (h : SpO K ι F a o ds) : SpO K ι' F' a o ds := by
  cases h with
  | ins h1 h0 h2 h3 => exact .ins (sm _ _ h1) h0 h2 (h3.mono p sm)
  | dic h1 h2 => exact .dic h1 (h2.mono p sm)
  | dnk h => exact .dnk (h.mono p sm)
theorem SpO.nl (h : SpO K ι F a o ds) : (∀ xs, o ≠ .lst xs) ∧ NoT2 o := by
  cases h with
  | ins _ _ _ _ => exact ⟨fun _ z => (nomatch z), fun _ z => (nomatch z), fun _ z => (nomatch z)⟩
  | dic _ _ => exact ⟨fun _ z => (nomatch z), fun _ z => (nomatch z), fun _ z => (nomatch z)⟩
  | dnk h => exact ⟨fun _ z => (nomatch z), fun _ z => (nomatch z), fun _ z => (nomatch z)⟩
theorem SpAt.move (h : SpAt K ι F H a ds) (p : ι <+: ι') (sm : Same F F') (hh : ∀ o, H a = some o → (∀ xs, o ≠ .lst xs) → NoT2 o → H' a = some o ∧ (F a = none → F' a = none)) : SpAt K ι' F' H' a ds := by
  obtain ⟨h1, o, h2, h3⟩ := h
  obtain ⟨k1, k2⟩ := hh o h2 h3.nl.1 h3.nl.2
  exact ⟨k2 h1, o, k1, h3.mono p sm⟩
end
structure StR [Mode] (K : PySem.W.Frag) (ι : List Addr) (F : Hp) (S : zae) (H : Hp) : Prop where
  sub : Same F H
  len : ι.length = S.length
  nd : Mode.plain = true → ι.Nodup
  full : ∀ b ∈ ι, H b ≠ none
  cell : ∀ (k : Nat) (ds : List D), S[k]? = some (some ds) → IsFst ι k → ∃ a vs, ι[k]? = some a ∧ H a = some (.lst vs) ∧ F a = none ∧ WdA K F vs ds
  spec : ∀ (k : Nat) (ds : List D), S[k]? = some (some ds) → ¬ IsFst ι k → ∃ a, ι[k]? = some a ∧ SpAt K ι F H a ds
  tb : TbsOk K H
  tf : ∀ P ∈ zdm K, F P = none
  snd : ∀ (k : Nat) (ds : List D), S[k]? = some (some ds) → ¬ IsFst ι k → IsSnd ι k
structure RR [Mode] (K : PySem.W.Frag) (ι : List Addr) (F : Hp) (ρ : za2) (S : zae) (σ : L2.St) (H : Hp) : Prop where
  st : StR K ι F S H
  len : ρ.length = σ.length
  slot : ∀ (i : Nat) (dv : DV), ρ[i]? = some (some dv) → ∃ v, σ[i]? = some (some v) ∧ WV K ι F v dv
def NoT (o : HO) : Prop := ∀ xs, o ≠ .tup xs
structure Grow (ι : List Addr) (F H : Hp) (ι' : List Addr) (F' H' : Hp) : Prop where
  pre : ι <+: ι'
  sf : Same F F'
  keep : ∀ b o, H b = some o → NoTb o → b ∉ ι → H' b = some o
  new : ∀ b o, H b = some o → NoT o → NoTb o → F b = none → b ∉ ι → F' b = none
  nio : ∀ b ∈ ι', b ∈ ι ∨ H b = none
  dom : ∀ b, H' b = none → H b = none
theorem Grow.refl {ι : List Addr} {F H : Hp} : Grow ι F H ι F H := ⟨List.prefix_rfl, Same.refl _, fun _ _ h _ _ => h, fun _ _ _ _ _ h _ => h, fun _ h => .inl h, fun _ h => h⟩
theorem zdn {H : Hp} {p b : Addr} {o : HO} (h : upd H p o b = none) : H b = none := by
  by_cases e : b = p
  · subst e; rw [upd_same] at h; cases h
  · rw [upd_ne e] at h; exact h
theorem zls {H : Hp} {p b : Addr} {o : HO} (h : H b ≠ none) : upd H p o b ≠ none := fun z => h (zdn z)
theorem Grow.trans {ι ι1 ι2 : List Addr} {F F1 F2 H H1 H2 : Hp} (a : Grow ι F H ι1 F1 H1) (b : Grow ι1 F1 H1 ι2 F2 H2) : Grow ι F H ι2 F2 H2 := by
  have out : ∀ c o, H c = some o → c ∉ ι → c ∉ ι1 := fun c o h n m => by
    rcases a.nio c m with q | q
    · exact n q
    · rw [h] at q; cases q
  refine ⟨a.pre.trans b.pre, a.sf.trans b.sf, fun c o h t n => b.keep c o (a.keep c o h t n) t (out c o h n), fun c o h t t2 f n => b.new c o (a.keep c o h t2 n) t t2 (a.new c o h t t2 f n) (out c o h n), fun c m => ?_, fun c h => a.dom c (b.dom c h)⟩
  rcases b.nio c m with q | q
  · exact a.nio c q
  · by_cases n : c ∈ ι
    · exact .inl n
    · cases e : H c with
      | none => exact .inr rfl
      | some o => rw [a.dom c q] at e; cases e
theorem WV.grow {K : PySem.W.Frag} {ι ι' : List Addr} {F F' H H' : Hp} (g : Grow ι F H ι' F' H') {v : V} {dv : DV} (h : WV K ι F v dv) : WV K ι' F' v dv := by
  cases dv with
  | dat d => exact Wd.mono g.sf h
  | obj k =>
    obtain ⟨a, h1, h2, h3⟩ := h
    have hl := (List.getElem?_eq_some_iff.mp h1).1
    refine ⟨a, ?_, h2, (IsFst.pre g.pre hl).mpr h3⟩
    obtain ⟨t, rfl⟩ := g.pre
    rw [List.getElem?_append_left hl]; exact h1
  | scr ns =>
    obtain ⟨a, h1, h2⟩ := h
    exact ⟨a, h1, g.sf.seq h2⟩
  | exn c p =>
    obtain ⟨a, h1, h2⟩ := h
    exact ⟨a, h1, h2.mono g.sf⟩
  | fn x => exact h
  | spc k =>
    obtain ⟨a, h1, h2, h3⟩ := h
    have hl := (List.getElem?_eq_some_iff.mp h1).1
    refine ⟨a, ?_, h2, fun z => h3 ((IsFst.pre g.pre hl).mp z)⟩
    obtain ⟨t, rfl⟩ := g.pre
    rw [List.getElem?_append_left hl]; exact h1
theorem WVs.grow {K : PySem.W.Frag} {ι ι' : List Addr} {F F' H H' : Hp} (g : Grow ι F H ι' F' H') {vs : List V} {ds : List DV} (h : WVs K ι F vs ds) : WVs K ι' F' vs ds := by
  induction h with
  | nil => exact .nil
  | cons a _ ih => exact .cons (a.grow g) ih
theorem WVs.length {K : PySem.W.Frag} {ι : List Addr} {F : Hp} {vs : List V} {ds : List DV} (h : WVs K ι F vs ds) : vs.length = ds.length := by
  induction h with
  | nil => rfl
  | cons _ _ ih => simp [ih]
theorem StR.push [Mode] {K : PySem.W.Frag} {ι : List Addr} {F H : Hp} {S : zae} (r : StR K ι F S H) {p : Addr} (hp : H p = none) (o : HO) : StR K ι (upd F p o) S (upd H p o) := by
  refine ⟨fun b u e => ?_, r.len, r.nd, fun b hb => zls (r.full b hb), fun k ds e fi => ?_, fun k ds e nf => ?_, r.tb.new hp o, r.tb.off r.tf (fun ps z => by rw [hp] at z; cases z) o, r.snd⟩
  · by_cases h : b = p
    · subst h; rw [upd_same] at e ⊢; exact e
    · rw [upd_ne h] at e ⊢; exact r.sub b u e
  rotate_left
  · obtain ⟨a, h1, h2⟩ := r.spec k ds e nf
    refine ⟨a, h1, h2.move List.prefix_rfl (fun b u e => ?_) fun o e _ _ => ?_⟩
    · rw [upd_ne (fun z => by rw [z] at e; rw [r.sub p u e] at hp; cases hp)]; exact e
    · have n : a ≠ p := fun z => by rw [z, hp] at e; cases e
      exact ⟨by rw [upd_ne n]; exact e, fun f => by rw [upd_ne n]; exact f⟩
  · obtain ⟨a, vs, h1, h2, h3, h4⟩ := r.cell k ds e fi
    have n : a ≠ p := fun z => by rw [z, hp] at h2; cases h2
    refine ⟨a, vs, h1, by rw [upd_ne n]; exact h2, by rw [upd_ne n]; exact h3, WdA.mono (fun b u e => ?_) h4⟩
    rw [upd_ne (fun z => by rw [z] at e; rw [r.sub p u e] at hp; cases hp)]; exact e
theorem zhu {F H : Hp} (s : Same F H) {p : Addr} (hp : H p = none) (o : HO) : Same F (upd F p o) := fun b u e => by
  rw [upd_ne (fun z => by rw [z] at e; rw [s p u e] at hp; cases hp)]; exact e
theorem zhy {ι : List Addr} {F H : Hp} (s : Same F H) {p : Addr} (hp : H p = none) (o : HO) : Grow ι F H ι (upd F p o) (upd H p o) := by
  have n : ∀ b u, H b = some u → b ≠ p := fun b u e z => by rw [z, hp] at e; cases e
  exact ⟨List.prefix_rfl, zhu s hp o, fun b u e _ _ => by rw [upd_ne (n b u e)]; exact e, fun b u e _ _ f _ => by rw [upd_ne (n b u e)]; exact f, fun b h => .inl h, fun b h => zdn h⟩
theorem zgt {ι : List Addr} {F H : Hp} {p : Addr} (hp : H p = none) (o : HO) : Grow ι F H ι F (upd H p o) := by
  have n : ∀ b u, H b = some u → b ≠ p := fun b u e z => by rw [z, hp] at e; cases e
  exact ⟨List.prefix_rfl, Same.refl _, fun b u e _ _ => by rw [upd_ne (n b u e)]; exact e, fun b u e _ _ f _ => f, fun b h => .inl h, fun b h => zdn h⟩
theorem StR.alone [Mode] {K : PySem.W.Frag} {ι : List Addr} {F H : Hp} {S : zae} (r : StR K ι F S H) {p : Addr} (hp : H p = none) (o : HO) : StR K ι F S (upd H p o) := by
  have n : ∀ b u, H b = some u → b ≠ p := fun b u e z => by rw [z, hp] at e; cases e
  exact ⟨fun b u e => by rw [upd_ne (n b u (r.sub b u e))]; exact r.sub b u e, r.len, r.nd, fun b hb => zls (r.full b hb), fun k ds e fi =>
    let ⟨a, vs, h1, h2, h3, h4⟩ := r.cell k ds e fi
    ⟨a, vs, h1, by rw [upd_ne (n a _ h2)]; exact h2, h3, h4⟩, fun k ds e nf =>
    let ⟨a, h1, h2⟩ := r.spec k ds e nf
    ⟨a, h1, h2.move List.prefix_rfl (Same.refl _) fun o e _ _ => ⟨by rw [upd_ne (n a _ e)]; exact e, fun f => f⟩⟩, r.tb.new hp o, r.tf, r.snd⟩
theorem StR.re [Mode] {K : PySem.W.Frag} {ι : List Addr} {F F' H H' : Hp} {S : zae} (st : StR K ι F S H) (sub' : Same F' H') (sm : Same F F') (full' : ∀ b ∈ ι, H' b ≠ none)
    (kp : ∀ b o, b ∈ ι → H b = some o → (∀ xs, o ≠ .tup xs) → (∀ ps, o ≠ .tbl ps) → F b = none → H' b = some o ∧ F' b = none) (tb' : TbsOk K H') (tf' : ∀ P ∈ zdm K, F' P = none) : StR K ι F' S H' :=
  ⟨sub', st.len, st.nd, full', fun k ds e fi =>
    let ⟨a, vs, h1, h2, h3, h4⟩ := st.cell k ds e fi
    let q := kp a _ (List.mem_of_getElem? h1) h2 (fun _ z => (nomatch z)) (fun _ z => (nomatch z)) h3
    ⟨a, vs, h1, q.1, q.2, h4.mono sm⟩, fun k ds e nf =>
    let ⟨a, h1, h2⟩ := st.spec k ds e nf
    ⟨a, h1, h2.move List.prefix_rfl sm fun o e _ nt =>
      let q := kp a o (List.mem_of_getElem? h1) e nt.1 nt.2 h2.1
      ⟨q.1, fun _ => q.2⟩⟩, tb', tf', st.snd⟩
theorem RR.slots [Mode] {K : PySem.W.Frag} {ι ι' : List Addr} {F F' H H' : Hp} {ρ : za2} {S S' : zae} {σ : L2.St} (r : RR K ι F ρ S σ H) (g : Grow ι F H ι' F' H') (st : StR K ι' F' S' H') : RR K ι' F' ρ S' σ H' :=
  ⟨st, r.len, fun i dv e => let ⟨v, h1, h2⟩ := r.slot i dv e; ⟨v, h1, h2.grow g⟩⟩
theorem RR.push [Mode] {K : PySem.W.Frag} {ι : List Addr} {F H : Hp} {ρ : za2} {S : zae} {σ : L2.St} (r : RR K ι F ρ S σ H) {p : Addr} (hp : H p = none) (o : HO) : RR K ι (upd F p o) ρ S σ (upd H p o) :=
  r.slots (zhy r.st.sub hp o) (r.st.push hp o)
instance (priority := low) plainMode : Mode := ⟨true⟩
end DL
set_option maxHeartbeats 4000000
namespace DL
open PySem PySem.Spec PyProof.Rows L2
variable [Mode]
/-! ## judgements -/
abbrev XFn := za2 → zae → Res DV
abbrev TFn := za2 → zae → Res Bool
abbrev AFn := za2 → zae → Res (List DV)
def Post {α : Type} (K : PySem.W.Frag) (mg : Str → Option Value) (E : XK) (ι : List Addr) (F H : Hp) (r : Res α) (Q : α → List Addr → Hp → Hp → Prop) : Prop :=
  match r with
  | .ok a S' => ∀ ι' F' H', Grow ι F H ι' F' H' → StR K ι' F' S' H' → Q a ι' F' H'
  | .ex c S' => ∀ (C : Addr × Option Addr) ι' F' H', Grow ι F H ι' F' H' → StR K ι' F' S' H' → XIs K mg F' c C → E (.ref C.1) C.2 H'
  | .bad => False
section
variable {α β : Type} {K : PySem.W.Frag} {mg : Str → Option Value} {E : XK} {ι : List Addr} {F H : Hp}
theorem Post.mono {r : Res α} {Q Q' : α → List Addr → Hp → Hp → Prop} (h : Post K mg E ι F H r Q) (k : ∀ a ι' F' H', Grow ι F H ι' F' H' → Q a ι' F' H' → Q' a ι' F' H') : Post K mg E ι F H r Q' := by
  cases r with
  | ok a S' => exact fun ι' F' H' g st => k a ι' F' H' g (h ι' F' H' g st)
  | ex c S' => exact h
  | bad => exact h
theorem Post.grow {r : Res α} {ι1 : List Addr} {F1 H1 : Hp} {Q : α → List Addr → Hp → Hp → Prop} (h : Post K mg E ι F H r Q) (g : Grow ι F H ι1 F1 H1) : Post K mg E ι1 F1 H1 r Q := by
  cases r with
  | ok a S' => exact fun ι' F' H' g' st => h ι' F' H' (g.trans g') st
  | ex c S' => exact fun C ι' F' H' g' st m => h C ι' F' H' (g.trans g') st m
  | bad => exact h
end
def tD (X : Cx) (W : WX) (f : XFn) : TE := fun σ H Q => ∃ ι F ρ S, RR X.K ι F ρ S σ H ∧ Post X.K X.mg (fun c d H' => W c d σ H') ι F H (f ρ S) fun dv ι' F' H' => ∀ v, WV X.K ι' F' v dv → Q v H'
def tT (X : Cx) (W : WX) (f : TFn) : TT := fun σ H Q => ∃ ι F ρ S, RR X.K ι F ρ S σ H ∧ Post X.K X.mg (fun c d H' => W c d σ H') ι F H (f ρ S) fun b ι' F' H' => Q b H'
def tA (X : Cx) (W : WX) (f : AFn) : TA := fun σ H Q => ∃ ι F ρ S, RR X.K ι F ρ S σ H ∧ Post X.K X.mg (fun c d H' => W c d σ H') ι F H (f ρ S) fun ds ι' F' H' => ∀ vs, WVs X.K ι' F' vs ds → Q vs H'
structure DE (X : Cx) (W : WX) (e : Expr) (f : XFn) : Prop where
  pe : PE X e (tD X W f)
structure DT (X : Cx) (W : WX) (e : Expr) (f : TFn) : Prop where
  pt : PT X e (tT X W f)
structure DW (X : Cx) (W : WX) (e : Expr) (f : TFn) : Prop where
  pw : PW X e (tT X W f)
structure DA (X : Cx) (W : WX) (es : List Expr) (f : AFn) : Prop where
  pa : PA X es (tA X W f)
section
variable {X : Cx} {W : WX} {e a b c : Expr} {es : List Expr} {pos p : Pos}
theorem PE.weak {te te' : TE} (h : PE X e te) (k : ∀ σ H Q, te' σ H Q → te σ H Q) : PE X e te' := ⟨fun pins s σ H Q I q => h.run pins s σ H Q I (k σ H Q q)⟩
theorem PT.weak {te te' : TT} (h : PT X e te) (k : ∀ σ H Q, te' σ H Q → te σ H Q) : PT X e te' := ⟨fun pins s σ H Q I q => h.run pins s σ H Q I (k σ H Q q)⟩
theorem PW.weak {te te' : TT} (h : PW X e te) (k : ∀ σ H Q, te' σ H Q → te σ H Q) : PW X e te' := ⟨fun whole pins s σ H Q I q => h.run whole pins s σ H Q I (k σ H Q q)⟩
theorem PA.weak {te te' : TA} (h : PA X es te) (k : ∀ σ H Q, te' σ H Q → te σ H Q) : PA X es te' := ⟨fun pos pins s σ H Q I q => h.run pos pins s σ H Q I (k σ H Q q)⟩
theorem tD.bind {α : Type} {f : XFn} {g : za2 → DV → zae → Res α} {σ : L2.St} {H : Hp} {R : VK} {Q : α → List Addr → Hp → Hp → Prop} {ι : List Addr} {F : Hp} {ρ : za2} {S : zae} (r : RR X.K ι F ρ S σ H)
    (h : Post X.K X.mg (fun c d H' => W c d σ H') ι F H ((f ρ S).bind (g ρ)) Q)
    (k : ∀ v dv ι1 F1 S1 H1, RR X.K ι1 F1 ρ S1 σ H1 → WV X.K ι1 F1 v dv → Grow ι F H ι1 F1 H1 → Post X.K X.mg (fun c d H' => W c d σ H') ι1 F1 H1 (g ρ dv S1) Q → R v H1) : tD X W f σ H R := by
  refine ⟨ι, F, ρ, S, r, ?_⟩
  cases q : f ρ S with
  | ok dv S1 =>
    rw [q] at h
    exact fun ι1 F1 H1 g1 st v wv => k v dv ι1 F1 S1 H1 (r.slots g1 st) wv g1 (Post.grow (r := g ρ dv S1) h g1)
  | ex c S1 => rw [q] at h; exact h
  | bad => rw [q] at h; exact h
theorem tT.bind {α : Type} {f : TFn} {g : za2 → Bool → zae → Res α} {σ : L2.St} {H : Hp} {R : Bool → Hp → Prop} {Q : α → List Addr → Hp → Hp → Prop} {ι : List Addr} {F : Hp} {ρ : za2} {S : zae} (r : RR X.K ι F ρ S σ H)
    (h : Post X.K X.mg (fun c d H' => W c d σ H') ι F H ((f ρ S).bind (g ρ)) Q)
    (k : ∀ b ι1 F1 S1 H1, RR X.K ι1 F1 ρ S1 σ H1 → Grow ι F H ι1 F1 H1 → Post X.K X.mg (fun c d H' => W c d σ H') ι1 F1 H1 (g ρ b S1) Q → R b H1) : tT X W f σ H R := by
  refine ⟨ι, F, ρ, S, r, ?_⟩
  cases q : f ρ S with
  | ok b S1 =>
    rw [q] at h
    exact fun ι1 F1 H1 g1 st => k b ι1 F1 S1 H1 (r.slots g1 st) g1 (Post.grow (r := g ρ b S1) h g1)
  | ex c S1 => rw [q] at h; exact h
  | bad => rw [q] at h; exact h
theorem tA.bind {α : Type} {f : AFn} {g : za2 → List DV → zae → Res α} {σ : L2.St} {H : Hp} {R : List V → Hp → Prop} {Q : α → List Addr → Hp → Hp → Prop} {ι : List Addr} {F : Hp} {ρ : za2} {S : zae} (r : RR X.K ι F ρ S σ H)
    (h : Post X.K X.mg (fun c d H' => W c d σ H') ι F H ((f ρ S).bind (g ρ)) Q)
    (k : ∀ vs ds ι1 F1 S1 H1, RR X.K ι1 F1 ρ S1 σ H1 → WVs X.K ι1 F1 vs ds → Grow ι F H ι1 F1 H1 → Post X.K X.mg (fun c d H' => W c d σ H') ι1 F1 H1 (g ρ ds S1) Q → R vs H1) : tA X W f σ H R := by
  refine ⟨ι, F, ρ, S, r, ?_⟩
  cases q : f ρ S with
  | ok ds S1 =>
    rw [q] at h
    exact fun ι1 F1 H1 g1 st vs wv => k vs ds ι1 F1 S1 H1 (r.slots g1 st) wv g1 (Post.grow (r := g ρ ds S1) h g1)
  | ex c S1 => rw [q] at h; exact h
  | bad => rw [q] at h; exact h
/-! ## names, constants -/
def xVar (i : Nat) : XFn := fun ρ S => match ρ[i]? with
  | some (some dv) => .ok dv S
  | _ => .bad
def xC (d : D) : XFn := fun _ S => .ok (.dat d) S
theorem za_ {i : Nat} {x : Str} (hN : X.N[i]? = some x := by rfl) (hv : Vis X.env.scope x := by first | exact .inl rfl | exact .inr (.inl rfl) | exact .inr (.inr rfl)) (hd : (x == ("__debug__" : Str)) = false := by decide) (hcd : (x == ("__classdict__" : Str)) = false := by decide) : DE X W (.Name x pos) (xVar i) := by
  refine ⟨PE.weak (pe_var hN hv hd hcd) fun σ H Q ⟨ι, F, ρ, S, r, h⟩ => ?_⟩
  unfold xVar at h
  cases q : ρ[i]? with
  | none => rw [q] at h; exact h.elim
  | some o =>
    cases o with
    | none => rw [q] at h; exact h.elim
    | some dv =>
      rw [q] at h
      obtain ⟨v, h1, h2⟩ := r.slot i dv q
      exact ⟨v, h1, h ι F H .refl r.st v h2⟩
theorem znp {d : D} {v : V} (h : PE X e (tC v)) (w : ∀ K F, Wd K F v d) : DE X W e (xC d) :=
  ⟨PE.weak h fun σ H Q ⟨ι, F, ρ, S, r, h⟩ => h ι F H .refl r.st v (w _ _)⟩
theorem zah {i : Int} {j : Nat} : DE X W (.Constant (.int i) j pos) (xC (.int i)) := znp pe_int fun _ _ => .int i
theorem zha {i : Bool} {j : Nat} : DE X W (.Constant (.bool i) j pos) (xC (.bl i)) := znp pe_bl fun _ _ => .bl i
theorem zd1 {j : Nat} : DE X W (.Constant .none j pos) (xC .non) := znp pe_non fun _ _ => .non
theorem zl3 {x : Str} {i : Int} (hg : Gl X x) (hm : ∃ t, X.mg x = some (.int i t)) (hd : (x == ("__debug__" : Str)) = false := by decide) : DE X W (.Name x pos) (xC (.int i)) := by
  obtain ⟨t, hm⟩ := hm
  exact znp (v := .int i) (pe_glob hg hm ⟨_, rfl⟩ hd) fun _ _ => .int i
/-! ## argument lists -/
def aNil : AFn := fun _ S => .ok [] S
def zac (f : XFn) (g : AFn) : AFn := fun ρ S => (f ρ S).bind fun d S1 => (g ρ S1).bind fun ds S2 => .ok (d :: ds) S2
theorem zad : DA X W [] aNil := ⟨PA.weak pa_nil fun σ H Q ⟨ι, F, ρ, S, r, h⟩ => h ι F H .refl r.st [] .nil⟩
theorem zaa {f : XFn} {g : AFn} (he : DE X W e f) (hs : DA X W es g) (hse : starEach (e :: es) X.env = (false, eval e X.env) :: starEach es X.env := by rfl) : DA X W (e :: es) (zac f g) := by
  refine ⟨PA.weak (pa_cons he.pe hs.pa hse) fun σ H Q ⟨ι, F, ρ, S, r, h⟩ => ?_⟩
  refine tD.bind (g := fun ρ d S1 => (g ρ S1).bind fun ds S2 => .ok (d :: ds) S2) r h fun v dv ι1 F1 S1 H1 r1 w1 g1 h1 => ?_
  refine tA.bind (g := fun ρ ds S2 => .ok (dv :: ds) S2) r1 h1 fun vs ds ι2 F2 S2 H2 r2 w2 g2 h2 => ?_
  exact h2 ι2 F2 H2 .refl r2.st (v :: vs) (.cons (w1.grow g2) w2)
/-! ## reading data -/
def rd (S : zae) : DV → Option D
  | .dat d => some d
  | .obj k => match S[k]? with
    | some (some xs) => some (.lst xs)
    | _ => none
  | .scr _ => none
  | .exn _ _ => none
  | .fn _ => none
  | .spc _ => none
inductive Vw (K : PySem.W.Frag) (F H : Hp) : V → D → Prop
  | non : Vw K F H .non .non
  | bl (b : Bool) : Vw K F H (.bl b) (.bl b)
  | int (i : Int) : Vw K F H (.int i) (.int i)
  | str (x : Str) : Vw K F H (.str x) (.str x)
  | lst {a : Addr} {vs : List V} {ds : List D} : H a = some (.lst vs) → WdA K F vs ds → Vw K F H (.ref a) (.lst ds)
  | tup {a : Addr} {vs : List V} {ds : List D} : SqT K F a vs → WdA K F vs ds → Vw K F H (.ref a) (.tup ds)
  | cas {a : Addr} {c : Cas} : CasAt K F a c → Vw K F H (.ref a) (.cas c)
  | dct {a : Addr} {m : List (Key × Int)} {o : Obj} : F a = some (.frz o (.dK (m.map fun p => (p.1, V.int p.2)))) → Vw K F H (.ref a) (.dct m)
theorem Wd.vw {K : PySem.W.Frag} {F H : Hp} (s : Same F H) {v : V} {d : D} (h : Wd K F v d) : Vw K F H v d := by
  cases h with
  | non => exact .non
  | bl b => exact .bl b
  | int b => exact .int b
  | str b => exact .str b
  | lst q w => exact .lst (s _ _ q) w
  | tup q w => exact .tup q w
  | cas h => exact .cas h
  | dct h => exact .dct h
theorem Vw.wd {K : PySem.W.Frag} {F H : Hp} (s : Same F H) {v : V} {d : D} (h : Vw K F H v d) : Wd K H v d := by
  cases h with
  | non => exact .non
  | bl b => exact .bl b
  | int b => exact .int b
  | str b => exact .str b
  | lst q w => exact .lst q (w.mono s)
  | tup q w => exact .tup (zdr s q) (w.mono s)
  | cas h => exact .cas (h.mono s)
  | dct h => exact .dct (s _ _ h)
theorem StR.vw {K : PySem.W.Frag} {ι : List Addr} {F H : Hp} {S : zae} (st : StR K ι F S H) {v : V} {dv : DV} {d : D} (w : WV K ι F v dv) (e : rd S dv = some d) : Vw K F H v d := by
  cases dv with
  | dat d' => cases e; exact Wd.vw st.sub w
  | obj k =>
    obtain ⟨a, h1, h2, h0⟩ := w
    simp only [rd] at e
    cases q : S[k]? with
    | none => simp [q] at e
    | some o =>
      cases o with
      | none => simp [q] at e
      | some xs =>
        simp [q] at e
        subst e
        obtain ⟨a', vs, h3, h4, h5, h6⟩ := st.cell k xs q h0
        rw [h1] at h3
        cases h3
        subst h2
        exact .lst h4 h6
  | scr ns => cases e
  | exn c p => cases e
  | fn x => cases e
  | spc x => cases e
/-! ## tuples, lists -/
def dats : List DV → Option (List D)
  | [] => some []
  | .dat d :: r => (dats r).map (d :: ·)
  | _ :: _ => none
theorem WVs.dats {K : PySem.W.Frag} {ι : List Addr} {F : Hp} {vs : List V} {ds : List DV} (h : WVs K ι F vs ds) : ∀ {xs : List D}, DL.dats ds = some xs → WdA K F vs xs := by
  induction h with
  | nil => intro xs e; cases e; exact .nil
  | @cons v vs d ds a _ ih =>
    intro xs e
    cases d with
    | obj k => cases e
    | scr ns => cases e
    | exn c p => cases e
    | fn x => cases e
    | spc x => cases e
    | dat d =>
      unfold DL.dats at e
      cases q : DL.dats ds with
      | none => rw [q] at e; cases e
      | some ys => rw [q] at e; cases e; exact .cons a (ih q)
def mkTup (ds : List DV) (S : zae) : Res DV := match dats ds with
  | some xs => if xs.length ≤ sizeLine then .ok (.dat (.tup xs)) S else .bad
  | none => .bad
def mkLst (ds : List DV) (S : zae) : Res DV := match dats ds with
  | some xs => if xs.length ≤ sizeLine then .ok (.dat (.lst xs)) S else .bad
  | none => .bad
def xTup (f : AFn) : XFn := fun ρ S => (f ρ S).bind mkTup
def xLst (f : AFn) : XFn := fun ρ S => (f ρ S).bind mkLst
theorem zde {f : AFn} {k : Nat} (h : DA X W es f) : DE X W (.Tuple es k pos) (xTup f) := by
  refine ⟨PE.weak (pe_tup h.pa) fun σ H Q ⟨ι, F, ρ, S, r, h⟩ => ?_⟩
  refine tA.bind (g := fun _ => mkTup) r h fun vs ds ι1 F1 S1 H1 r1 w1 g1 h1 => ?_
  unfold mkTup at h1
  cases q : dats ds with
  | none => rw [q] at h1; exact h1.elim
  | some xs =>
    rw [q] at h1
    have wx := w1.dats q
    by_cases hl : xs.length ≤ sizeLine
    · simp only [hl, if_true] at h1
      refine ⟨by rw [wx.length]; exact hl, fun p hp => ?_⟩
      exact h1 ι1 _ _ (zhy r1.st.sub hp _) (r1.st.push hp _) _ (.tup (.of upd_same) (wx.mono (zhu r1.st.sub hp _)))
    · simp only [hl, if_false] at h1; exact h1.elim
theorem zgr {f : AFn} (h : DA X W es f) : DE X W (.List es pos) (xLst f) := by
  refine ⟨PE.weak (pe_lst h.pa) fun σ H Q ⟨ι, F, ρ, S, r, h⟩ => ?_⟩
  refine tA.bind (g := fun _ => mkLst) r h fun vs ds ι1 F1 S1 H1 r1 w1 g1 h1 => ?_
  unfold mkLst at h1
  cases q : dats ds with
  | none => rw [q] at h1; exact h1.elim
  | some xs =>
    rw [q] at h1
    have wx := w1.dats q
    by_cases hl : xs.length ≤ sizeLine
    · simp only [hl, if_true] at h1
      refine ⟨by rw [wx.length]; exact hl, fun p hp => ?_⟩
      exact h1 ι1 _ _ (zhy r1.st.sub hp _) (r1.st.push hp _) _ (.lst upd_same (wx.mono (zhu r1.st.sub hp _)))
    · simp only [hl, if_false] at h1; exact h1.elim
end
end DL
set_option maxHeartbeats 4000000
namespace DL
open PySem PySem.Spec PyProof.Rows L2
variable [Mode]
/-! ## operators on data -/
abbrev Op2 := DV → DV → zae → Res DV
def res1 (o : Option D) (S : zae) : Res DV := match o with
  | some c => .ok (.dat c) S
  | none => .bad
def o2 (f : D → D → Option D) : Op2 := fun x y S => match rd S x, rd S y with
  | some a, some b => res1 (f a b) S
  | _, _ => .bad
def x2 (o : Op2) (f g : XFn) : XFn := fun ρ S => (f ρ S).bind fun x S1 => (g ρ S1).bind fun y S2 => o x y S2
def Ret (K : PySem.W.Frag) (ι : List Addr) (F H : Hp) (S : zae) (c : D) (Q : VK) : Prop :=
  ∀ z F' H', Grow ι F H ι F' H' → StR K ι F' S H' → Wd K F' z c → Q z H'
def OpOk (K : PySem.W.Frag) (r : R2) (o : Op2) : Prop := ∀ (mg : Str → Option Value) (E : XK) (ι : List Addr) (F H : Hp) (S : zae) (v u : V) (x y : DV) (Q : VK), StR K ι F S H → WV K ι F v x → WV K ι F u y →
  Post K mg E ι F H (o x y S) (fun dv ι' F' H' => ∀ z, WV K ι' F' z dv → Q z H') → r v u H Q
section
variable {X : Cx} {W : WX} {e a b c : Expr} {es : List Expr} {pos p : Pos} {K : PySem.W.Frag} {ι : List Addr} {F H : Hp} {S : zae}
theorem Ret.same {c : D} {Q : VK} (h : Ret K ι F H S c Q) (st : StR K ι F S H) {z : V} (w : Wd K F z c) : Q z H := h z F H .refl st w
theorem Ret.tup {ds : List D} {vs : List V} {Q : VK} (h : Ret K ι F H S (.tup ds) Q) (st : StR K ι F S H) (w : WdA K F vs ds) {p : Addr} (hp : H p = none) : Q (.ref p) (upd H p (.tup vs)) :=
  h _ _ _ (zhy st.sub hp _) (st.push hp _) (.tup (.of upd_same) (w.mono (zhu st.sub hp _)))
theorem Ret.lst {ds : List D} {vs : List V} {Q : VK} (h : Ret K ι F H S (.lst ds) Q) (st : StR K ι F S H) (w : WdA K F vs ds) {p : Addr} (hp : H p = none) : Q (.ref p) (upd H p (.lst vs)) :=
  h _ _ _ (zhy st.sub hp _) (st.push hp _) (.lst upd_same (w.mono (zhu st.sub hp _)))
theorem zk9 {r : R2} {f : D → D → Option D} (h : ∀ (ι : List Addr) (F H : Hp) (S : zae) (v u : V) (a b c : D) (Q : VK), StR K ι F S H → Vw K F H v a → Vw K F H u b → f a b = some c → Ret K ι F H S c Q → r v u H Q) : OpOk K r (o2 f) := by
  intro mg E ι F H S v u x y Q st wx wy q
  unfold o2 at q
  cases ex : rd S x with
  | none => rw [ex] at q; exact q.elim
  | some a =>
    cases ey : rd S y with
    | none => rw [ex, ey] at q; exact q.elim
    | some b =>
      rw [ex, ey] at q
      cases ec : f a b with
      | none => simp only [ec, res1] at q; exact q.elim
      | some c =>
        simp only [ec, res1] at q
        exact h ι F H S v u a b c Q st (st.vw wx ex) (st.vw wy ey) ec fun z F' H' g st' w => q ι F' H' g st' z w
theorem zb8 {op : Operator} {r : R2} {o : Op2} {f g : XFn} (ho : OpR X (binaryOp op) r) (k : OpOk X.K r o) (ha : DE X W a f) (hb : DE X W b g) : DE X W (.BinOp a op b pos) (x2 o f g) := by
  refine ⟨PE.weak (pe_op ho ha.pe hb.pe) fun σ H Q ⟨ι, F, ρ, S, r0, h⟩ => ?_⟩
  refine tD.bind (g := fun ρ x S1 => (g ρ S1).bind fun y S2 => o x y S2) r0 h fun v dv ι1 F1 S1 H1 r1 w1 g1 h1 => ?_
  refine tD.bind (g := fun ρ y S2 => o dv y S2) r1 h1 fun u du ι2 F2 S2 H2 r2 w2 g2 h2 => ?_
  exact k _ _ ι2 F2 H2 S2 v u dv du Q r2.st (w1.grow g2) w2 h2
theorem zgp {op : CmpOp} {r : R2} {o : Op2} {f g : XFn} (ho : OpR X (compareOp op) r) (k : OpOk X.K r o) (ha : DE X W a f) (hb : DE X W b g) (hm : behindInMarks op b = false := by rfl) : DE X W (.Compare a [op] [b] pos) (x2 o f g) := by
  refine ⟨PE.weak (pe_cmpR ho ha.pe hb.pe hm) fun σ H Q ⟨ι, F, ρ, S, r0, h⟩ => ?_⟩
  refine tD.bind (g := fun ρ x S1 => (g ρ S1).bind fun y S2 => o x y S2) r0 h fun v dv ι1 F1 S1 H1 r1 w1 g1 h1 => ?_
  refine tD.bind (g := fun ρ y S2 => o dv y S2) r1 h1 fun u du ι2 F2 S2 H2 r2 w2 g2 h2 => ?_
  exact k _ _ ι2 F2 H2 S2 v u dv du Q r2.st (w1.grow g2) w2 h2
def zmn (o o' : Op2) (f g k : XFn) : XFn := fun ρ S => (f ρ S).bind fun x S1 => (g ρ S1).bind fun y S2 => (o x y S2).bind fun z S3 => match z with
  | .dat (.bl true) => (k ρ S3).bind fun w S4 => o' y w S4
  | .dat (.bl false) => .ok (.dat (.bl false)) S3
  | _ => .bad
def dAdd : D → D → Option D
  | .int i, .int j => some (.int (i + j))
  | .tup a, .tup b => if a.length + b.length ≤ sizeLine then some (.tup (a ++ b)) else none
  | .lst a, .lst b => if a.length + b.length ≤ sizeLine then some (.lst (a ++ b)) else none
  | .str a, .str b => if a.length + b.length ≤ sizeLine then some (.str (a ++ b)) else none
  | _, _ => none
abbrev rAddD (K : PySem.W.Frag) : R2 := fun x y H Q => (((rI0 fun i j => .int (i + j)) x y H Q ∨ rCatA K x y H Q) ∨ rCat x y H Q) ∨ (∃ i j, x = .str i ∧ y = .str j ∧ i.length + j.length ≤ sizeLine ∧ Q (.str (i ++ j)) H)
theorem zbg : OpR X (binaryOp .Add) (rAddD X.K) := ((op_add.or op_catA).or op_cat).or op_add_str
theorem wda_nil {vs : List V} {ds : List D} (w : WdA K F vs ds) (h : vs = []) : ds = [] := by
  subst h; cases w; rfl
theorem zbf : OpOk K (rAddD K) (o2 dAdd) := zk9 fun ι F H S v u a b c Q st va vb e q => by
  cases va with
  | int i =>
    cases vb <;> try cases e
    exact .inl (.inl (.inl ⟨_, _, rfl, rfl, q.same st (.int _)⟩))
  | str i =>
    cases vb with
    | str j =>
      simp only [dAdd] at e
      split at e
      · cases e; exact .inr ⟨_, _, rfl, rfl, by assumption, q.same st (.str _)⟩
      · cases e
    | _ => cases e
  | tup s w =>
    cases vb with
    | tup s' w' =>
      simp only [dAdd] at e
      split at e
      · rename_i hl
        cases e
        refine .inl (.inl (.inr ⟨_, _, _, _, rfl, rfl, zdr st.sub s, zdr st.sub s', by rw [w.length, w'.length]; exact hl, fun z => ?_, fun _ z => ?_, fun _ _ p hp => q.tup st (w.append w') hp⟩))
        · have := wda_nil w z; subst this
          exact q.same st (.tup s' w')
        · have := wda_nil w' z; subst this
          rw [List.append_nil] at q
          exact q.same st (.tup s w)
      · cases e
    | _ => cases e
  | lst s w =>
    cases vb with
    | lst s' w' =>
      simp only [dAdd] at e
      split at e
      · rename_i hl
        cases e
        exact .inl (.inr ⟨_, _, _, _, rfl, rfl, s, s', by rw [w.length, w'.length]; exact hl, fun p hp => q.lst st (w.append w') hp⟩)
      · cases e
    | _ => cases e
  | _ => cases vb <;> cases e
/-! ### ints -/
theorem i2_ok {g : Int → Int → D} {g' : Int → Int → V} {C : Int → Int → Prop} {f : D → D → Option D} (hg : ∀ i j K F, Wd K F (g' i j) (g i j))
    (hf : ∀ a b c, f a b = some c → ∃ i j, a = .int i ∧ b = .int j ∧ C i j ∧ c = g i j) : OpOk K (rI C g') (o2 f) := zk9 fun ι F H S v u a b c Q st va vb e q => by
  obtain ⟨i, j, rfl, rfl, hc, rfl⟩ := hf a b c e
  cases va; cases vb
  exact ⟨i, j, rfl, rfl, hc, q.same st (hg i j _ _)⟩
theorem i20_ok {g : Int → Int → D} {g' : Int → Int → V} {f : D → D → Option D} (hg : ∀ i j K F, Wd K F (g' i j) (g i j))
    (hf : ∀ a b c, f a b = some c → ∃ i j, a = .int i ∧ b = .int j ∧ c = g i j) : OpOk K (rI0 g') (o2 f) := zk9 fun ι F H S v u a b c Q st va vb e q => by
  obtain ⟨i, j, rfl, rfl, rfl⟩ := hf a b c e
  cases va; cases vb
  exact ⟨i, j, rfl, rfl, q.same st (hg i j _ _)⟩
def dSub : D → D → Option D
  | .int i, .int j => some (.int (i - j))
  | _, _ => none
def dMod : D → D → Option D
  | .int i, .int j => if 0 < j then some (.int (i % j)) else none
  | _, _ => none
def dDiv : D → D → Option D
  | .int i, .int j => if 0 < j ∧ j.natAbs.log2 < 9000 then some (.int (i / j)) else none
  | _, _ => none
def dPow : D → D → Option D
  | .int i, .int j => if 0 ≤ j ∧ j ≤ 1000000 ∧ i.natAbs < 2 ^ 64 then some (.int (i ^ j.toNat)) else none
  | _, _ => none
def dLt : D → D → Option D
  | .int i, .int j => some (.bl (decide (i < j)))
  | _, _ => none
def dLe : D → D → Option D
  | .int i, .int j => some (.bl (decide (i ≤ j)))
  | _, _ => none
def dGt : D → D → Option D
  | .int i, .int j => some (.bl (decide (i > j)))
  | _, _ => none
def dGe : D → D → Option D
  | .int i, .int j => some (.bl (decide (i ≥ j)))
  | _, _ => none
theorem zn0 : OpOk K (rI0 fun i j => .int (i - j)) (o2 dSub) := i20_ok (g := fun i j => .int (i - j)) (fun _ _ _ _ => .int _) (by
  intro a b c e
  cases a <;> cases b <;> simp only [dSub] at e <;> first | (cases e; done) | (cases e; exact ⟨_, _, rfl, rfl, rfl⟩) | (split at e <;> first | (cases e; done) | (cases e; exact ⟨_, _, rfl, rfl, by assumption, rfl⟩)))
theorem zgi : OpOk K (rI (fun _ j => 0 < j) fun i j => .int (i % j)) (o2 dMod) := i2_ok (g := fun i j => .int (i % j)) (fun _ _ _ _ => .int _) (by
  intro a b c e
  cases a <;> cases b <;> simp only [dMod] at e <;> first | (cases e; done) | (cases e; exact ⟨_, _, rfl, rfl, rfl⟩) | (split at e <;> first | (cases e; done) | (cases e; exact ⟨_, _, rfl, rfl, by assumption, rfl⟩)))
theorem dDiv_ok : OpOk K (rI CDivW fun i j => .int (i / j)) (o2 dDiv) := i2_ok (g := fun i j => .int (i / j)) (fun _ _ _ _ => .int _) (by
  intro a b c e
  cases a <;> cases b <;> simp only [dDiv] at e <;> first | (cases e; done) | (cases e; exact ⟨_, _, rfl, rfl, rfl⟩) | (split at e <;> first | (cases e; done) | (cases e; exact ⟨_, _, rfl, rfl, by assumption, rfl⟩)))
theorem zky : OpOk K (rI CPow fun i j => .int (i ^ j.toNat)) (o2 dPow) := i2_ok (g := fun i j => .int (i ^ j.toNat)) (fun _ _ _ _ => .int _) (by
  intro a b c e
  cases a <;> cases b <;> simp only [dPow] at e <;> first | (cases e; done) | (cases e; exact ⟨_, _, rfl, rfl, rfl⟩) | (split at e <;> first | (cases e; done) | (cases e; exact ⟨_, _, rfl, rfl, by assumption, rfl⟩)))
theorem zlh : OpOk K (rI0 fun i j => .bl (decide (i < j))) (o2 dLt) := i20_ok (g := fun i j => .bl (decide (i < j))) (fun _ _ _ _ => .bl _) (by
  intro a b c e
  cases a <;> cases b <;> simp only [dLt] at e <;> first | (cases e; done) | (cases e; exact ⟨_, _, rfl, rfl, rfl⟩) | (split at e <;> first | (cases e; done) | (cases e; exact ⟨_, _, rfl, rfl, by assumption, rfl⟩)))
theorem zn8 : OpOk K (rI0 fun i j => .bl (decide (i ≤ j))) (o2 dLe) := i20_ok (g := fun i j => .bl (decide (i ≤ j))) (fun _ _ _ _ => .bl _) (by
  intro a b c e
  cases a <;> cases b <;> simp only [dLe] at e <;> first | (cases e; done) | (cases e; exact ⟨_, _, rfl, rfl, rfl⟩) | (split at e <;> first | (cases e; done) | (cases e; exact ⟨_, _, rfl, rfl, by assumption, rfl⟩)))
theorem dGt_ok : OpOk K (rI0 fun i j => .bl (decide (i > j))) (o2 dGt) := i20_ok (g := fun i j => .bl (decide (i > j))) (fun _ _ _ _ => .bl _) (by
  intro a b c e
  cases a <;> cases b <;> simp only [dGt] at e <;> first | (cases e; done) | (cases e; exact ⟨_, _, rfl, rfl, rfl⟩) | (split at e <;> first | (cases e; done) | (cases e; exact ⟨_, _, rfl, rfl, by assumption, rfl⟩)))
theorem dGe_ok : OpOk K (rI0 fun i j => .bl (decide (i ≥ j))) (o2 dGe) := i20_ok (g := fun i j => .bl (decide (i ≥ j))) (fun _ _ _ _ => .bl _) (by
  intro a b c e
  cases a <;> cases b <;> simp only [dGe] at e <;> first | (cases e; done) | (cases e; exact ⟨_, _, rfl, rfl, rfl⟩) | (split at e <;> first | (cases e; done) | (cases e; exact ⟨_, _, rfl, rfl, by assumption, rfl⟩)))
def dMul : D → D → Option D
  | .int i, .int j => if i.natAbs.log2 + j.natAbs.log2 < 1000000 then some (.int (i * j)) else none
  | .lst a, .int k => if k ≤ 1000 ∧ -1000 ≤ k ∧ a.length * k.toNat ≤ sizeLine then some (.lst (List.replicate k.toNat a).flatten) else none
  | .tup a, .int k => if a ≠ [] ∧ 2 ≤ k ∧ k ≤ 1000 ∧ a.length ≤ 1000 then some (.tup (List.replicate k.toNat a).flatten) else none
  | _, _ => none
abbrev rMulD (K : PySem.W.Frag) : R2 := fun x y H Q => ((rI CMulW fun i j => .int (i * j)) x y H Q ∨ rRep x y H Q) ∨ rRepT K x y H Q
theorem op_mulD : OpR X (binaryOp .Mult) (rMulD X.K) := (op_mulW.or op_rep).or op_repT
theorem wda_rep {F : Hp} {vs : List V} {ds : List D} (w : WdA K F vs ds) : ∀ n : Nat, WdA K F (List.replicate n vs).flatten (List.replicate n ds).flatten
  | 0 => .nil
  | n + 1 => by
    rw [List.replicate_succ, List.replicate_succ, List.flatten_cons, List.flatten_cons]
    exact w.append (wda_rep w n)
theorem dMul_core {v u : V} {a b c : D} {Q : VK} (st : StR K ι F S H) (va : Vw K F H v a) (vb : Vw K F H u b) (e : dMul a b = some c) (q : Ret K ι F H S c Q) : rMulD K v u H Q := by
  cases va with
  | int i =>
    cases vb <;> try cases e
    simp only [dMul] at e
    split at e
    · cases e; exact .inl (.inl ⟨_, _, rfl, rfl, by assumption, q.same st (.int _)⟩)
    · cases e
  | lst s w =>
    cases vb <;> try cases e
    simp only [dMul] at e
    split at e
    · rename_i hl
      cases e
      refine .inl (.inr ⟨_, _, _, rfl, rfl, s, by omega, by omega, by rw [w.length]; exact hl.2.2, fun p hp => q.lst st (wda_rep w _) hp⟩)
    · cases e
  | tup s w =>
    cases vb <;> try cases e
    simp only [dMul] at e
    split at e
    · rename_i hl
      cases e
      refine .inr ⟨_, _, _, rfl, rfl, zdr st.sub s, fun z => hl.1 (wda_nil w z), hl.2.1, hl.2.2.1, by rw [w.length]; exact hl.2.2.2, fun p hp => q.tup st (wda_rep w _) hp⟩
    · cases e
  | _ => cases vb <;> cases e
/-! ### is None -/
def dIsN : D → D → Option D
  | a, .non => some (.bl (match a with | .non => true | _ => false))
  | _, _ => none
def zkc : D → D → Option D
  | a, .non => some (.bl (match a with | .non => false | _ => true))
  | _, _ => none
theorem zi4 : OpOk K (fun x y H Q => y = .non ∧ Q (.bl (decide (x = .non))) H) (o2 dIsN) := zk9 fun ι F H S v u a b c Q st va vb e q => by
  cases vb <;> simp only [dIsN] at e <;> cases e
  refine ⟨rfl, ?_⟩
  cases va <;> exact q.same st (.bl _)
theorem zhj : OpOk K (fun x y H Q => y = .non ∧ Q (.bl (!decide (x = .non))) H) (o2 zkc) := zk9 fun ι F H S v u a b c Q st va vb e q => by
  cases vb <;> simp only [zkc] at e <;> cases e
  refine ⟨rfl, ?_⟩
  cases va <;> exact q.same st (.bl _)
/-! ### == and in -/
mutual
def D.py : D → PyData
  | .non => .none
  | .bl b => .bool b
  | .int i => .int i
  | .str x => .str x
  | .lst xs => .list (D.pys xs)
  | .tup xs => .tuple (D.pys xs)
  | .cas _ => .dict []
  | .dct _ => .dict []
  | .ptr _ => .dict []
def D.pys : List D → List PyData
  | [] => []
  | x :: xs => D.py x :: D.pys xs
end
mutual
theorem Wd.dp {F : Hp} : ∀ {d : D} {v : V}, Wd K F v d → d.py.canLay0 = true → Dp K F v d.py
  | .non, _, h, _ => by cases h; exact .non
  | .bl _, _, h, _ => by cases h; exact .bl _
  | .int _, _, h, _ => by cases h; exact .int _
  | .str _, _, h, _ => by cases h; exact .str _
  | .lst ds, _, h, c => by
    cases h with
    | lst s a => exact .lst (.of s) (WdA.dp a c)
  | .tup ds, _, h, c => by
    cases h with
    | tup s a => exact .tup s (WdA.dp a c)
  | .cas _, _, _, c => by cases c
  | .dct _, _, _, c => by cases c
  | .ptr _, _, _, c => by cases c
theorem WdA.dp {F : Hp} : ∀ {ds : List D} {vs : List V}, WdA K F vs ds → PyData.canLayAll0 (D.pys ds) = true → DpAll K F vs (D.pys ds)
  | [], _, h, _ => by cases h; exact .nil
  | d :: ds, _, h, c => by
    simp only [D.pys, PyData.canLayAll0, Bool.and_eq_true] at c
    cases h with
    | cons a b => exact .cons (Wd.dp a c.1) (WdA.dp b c.2)
end
def dEqB (a b : D) : Bool := PyData.eqv a.py b.py
def zpo (a b : D) : Bool := a.py.canLay0 && b.py.canLay0 && decide (min a.py.depth b.py.depth ≤ 64)
def dEq (a b : D) : Option D := if zpo a b = true then some (.bl (dEqB a b)) else none
def dNe (a b : D) : Option D := if zpo a b = true then some (.bl (!dEqB a b)) else none
def rEqDD (K : PySem.W.Frag) : R2 := fun x y H Q => ∃ d e, Dp K H x d ∧ Dp K H y e ∧ d.canLay0 = true ∧ e.canLay0 = true ∧ min d.depth e.depth ≤ 64 ∧ Q (.bl (PyData.eqv d e)) H
def rNeDD (K : PySem.W.Frag) : R2 := fun x y H Q => ∃ d e, Dp K H x d ∧ Dp K H y e ∧ d.canLay0 = true ∧ e.canLay0 = true ∧ min d.depth e.depth ≤ 64 ∧ Q (.bl (!PyData.eqv d e)) H
theorem zfp (hu : X.A.units + 64 < cLine) : OpR X (compareOp .Eq) (rEqDD X.K) := by
  intro pins s σ H x y v u Q I rx ry ⟨d, e, hd, he, cd, ce, dp, q⟩
  obtain ⟨as, r1⟩ := Dp.reads I d x v hd rx
  obtain ⟨bs, r2⟩ := Dp.reads I e y u he ry
  exact SeqAt.compareEq_reads r1 r2 cd ce (by omega) ⟨.bl _, H, I, rfl, q⟩
theorem zgc (hu : X.A.units + 64 < cLine) : OpR X (compareOp .NotEq) (rNeDD X.K) := by
  intro pins s σ H x y v u Q I rx ry ⟨d, e, hd, he, cd, ce, dp, q⟩
  obtain ⟨as, r1⟩ := Dp.reads I d x v hd rx
  obtain ⟨bs, r2⟩ := Dp.reads I e y u he ry
  exact SeqAt.compareNe_reads r1 r2 cd ce (by omega) ⟨.bl _, H, I, rfl, q⟩
theorem zqo {a b : D} (h : zpo a b = true) : a.py.canLay0 = true ∧ b.py.canLay0 = true ∧ min a.py.depth b.py.depth ≤ 64 := by
  unfold zpo at h
  simp only [Bool.and_eq_true, decide_eq_true_eq] at h
  exact ⟨h.1.1, h.1.2, h.2⟩
theorem zg4 : OpOk K (rEqDD K) (o2 dEq) := zk9 fun ι F H S v u a b c Q st va vb e q => by
  unfold dEq at e
  split at e
  · rename_i h
    cases e
    obtain ⟨h1, h2, h3⟩ := zqo h
    exact ⟨_, _, (va.wd st.sub).dp h1, (vb.wd st.sub).dp h2, h1, h2, h3, q.same st (.bl _)⟩
  · cases e
theorem zil : OpOk K (rNeDD K) (o2 dNe) := zk9 fun ι F H S v u a b c Q st va vb e q => by
  unfold dNe at e
  split at e
  · rename_i h
    cases e
    obtain ⟨h1, h2, h3⟩ := zqo h
    exact ⟨_, _, (va.wd st.sub).dp h1, (vb.wd st.sub).dp h2, h1, h2, h3, q.same st (.bl _)⟩
  · cases e
end
end DL
set_option maxHeartbeats 4000000
namespace DL
open PySem PySem.Spec PyProof.Rows L2
variable [Mode]
section
variable {X : Cx} {W : WX} {e a b c : Expr} {es : List Expr} {pos p : Pos} {K : PySem.W.Frag} {ι : List Addr} {F H : Hp} {S : zae}
/-! ## in -/
def canIn (d : D) (xs : List D) : Bool := d.py.canLay0 && PyData.canLayAll0 (D.pys xs) && decide (min (PyData.depthAll (D.pys xs)) d.py.depth ≤ 64)
def dInB (d : D) (xs : List D) : Bool := xs.any fun z => dEqB z d
def dIn (d : D) : D → Option D
  | .lst xs => if canIn d xs = true then some (.bl (dInB d xs)) else none
  | .tup xs => if canIn d xs = true then some (.bl (dInB d xs)) else none
  | _ => none
def dNin (d : D) : D → Option D
  | .lst xs => if canIn d xs = true then some (.bl (!dInB d xs)) else none
  | .tup xs => if canIn d xs = true then some (.bl (!dInB d xs)) else none
  | _ => none
def zps (K : PySem.W.Frag) (neg : Bool) : R2 := fun x y H Q => ∃ d ds, Dp K H x d ∧ (Dp K H y (.list ds) ∨ Dp K H y (.tuple ds)) ∧ d.canLay0 = true ∧ PyData.canLayAll0 ds = true ∧ min (PyData.depthAll ds) d.depth ≤ 64 ∧ Q (.bl (if neg then !(ds.any fun z => PyData.eqv z d) else ds.any fun z => PyData.eqv z d)) H
theorem zqc (hu : X.A.units + 65 < cLine) : OpR X (compareOp .In) (zps X.K false) := by
  intro pins s σ H x y v u Q I rx ry ⟨d, ds, hd, he, cd, ce, dp, q⟩
  obtain ⟨as, r1⟩ := Dp.reads I d x v hd rx
  rcases he with he | he
  · obtain ⟨bs, r2⟩ := Dp.reads I (.list ds) y u he ry
    exact SeqAt.in_list_reads r2 r1 ce cd (by omega) ⟨.bl _, H, I, rfl, q⟩
  · obtain ⟨bs, r2⟩ := Dp.reads I (.tuple ds) y u he ry
    exact SeqAt.in_tuple_reads r2 r1 ce cd (by omega) ⟨.bl _, H, I, rfl, q⟩
theorem zno (hu : X.A.units + 65 < cLine) : OpR X (compareOp .NotIn) (zps X.K true) := by
  intro pins s σ H x y v u Q I rx ry ⟨d, ds, hd, he, cd, ce, dp, q⟩
  obtain ⟨as, r1⟩ := Dp.reads I d x v hd rx
  rcases he with he | he
  · obtain ⟨bs, r2⟩ := Dp.reads I (.list ds) y u he ry
    exact SeqAt.notIn_list_reads r2 r1 ce cd (by omega) ⟨.bl _, H, I, rfl, q⟩
  · obtain ⟨bs, r2⟩ := Dp.reads I (.tuple ds) y u he ry
    exact SeqAt.notIn_tuple_reads r2 r1 ce cd (by omega) ⟨.bl _, H, I, rfl, q⟩
theorem zoh (d : D) : ∀ xs : List D, ((D.pys xs).any fun z => PyData.eqv z d.py) = dInB d xs
  | [] => rfl
  | x :: xs => by
    have h := zoh d xs
    show (PyData.eqv x.py d.py || (D.pys xs).any fun z => PyData.eqv z d.py) = (dEqB x d || dInB d xs)
    rw [h]; rfl
theorem znu {d : D} {xs : List D} (h : canIn d xs = true) : d.py.canLay0 = true ∧ PyData.canLayAll0 (D.pys xs) = true ∧ min (PyData.depthAll (D.pys xs)) d.py.depth ≤ 64 := by
  unfold canIn at h
  simp only [Bool.and_eq_true, decide_eq_true_eq] at h
  exact ⟨h.1.1, h.1.2, h.2⟩
theorem dIn_ok : OpOk K (zps K false) (o2 dIn) := zk9 fun ι F H S v u a b c Q st va vb e q => by
  have wb := (vb.wd st.sub).dp
  cases b <;> simp only [dIn] at e <;> first | (cases e; done) | skip
  all_goals
    split at e
    · rename_i h
      cases e
      obtain ⟨h1, h2, h3⟩ := znu h
      refine ⟨_, _, (va.wd st.sub).dp h1, by first | exact .inl (wb h2) | exact .inr (wb h2), h1, h2, h3, ?_⟩
      rw [zoh]
      exact q.same st (.bl _)
    · cases e
theorem dNin_ok : OpOk K (zps K true) (o2 dNin) := zk9 fun ι F H S v u a b c Q st va vb e q => by
  have wb := (vb.wd st.sub).dp
  cases b <;> simp only [dNin] at e <;> first | (cases e; done) | skip
  all_goals
    split at e
    · rename_i h
      cases e
      obtain ⟨h1, h2, h3⟩ := znu h
      refine ⟨_, _, (va.wd st.sub).dp h1, by first | exact .inl (wb h2) | exact .inr (wb h2), h1, h2, h3, ?_⟩
      rw [zoh]
      exact q.same st (.bl _)
    · cases e
/-! ## items, slices -/
def dIx : D → D → Option D
  | .lst xs, .int i => atI xs i
  | .tup xs, .int i => atI xs i
  | _, _ => none
theorem WdA.atI {vs : List V} {ds : List D} {i : Int} {d : D} (w : WdA K F vs ds) (h : L2.atI ds i = some d) : ∃ v, L2.atI vs i = some v ∧ Wd K F v d := by
  unfold L2.atI at h ⊢
  rw [w.length]
  cases q : ixN ds.length i with
  | none => rw [q] at h; cases h
  | some j => rw [q] at h; exact w.get' h
theorem zbo {f g : XFn} (ha : DE X W a f) (hb : DE X W b g) (hs : PlainIx b := by exact fun _ _ => rfl) : DE X W (.Subscript a b pos) (x2 (o2 dIx) f g) := by
  refine ⟨PE.weak (pe_ix (ix_list.or ix_tup) ha.pe hb.pe hs) fun σ H Q ⟨ι, F, ρ, S, r0, h⟩ => ?_⟩
  have k : OpOk X.K (fun x y H Q => rIxL X.K x y H Q ∨ rIxT X.K x y H Q) (o2 dIx) := zk9 fun ι F H S v u a b c Q st va vb e q => by
    cases va with
    | lst s w =>
      cases vb <;> try cases e
      obtain ⟨z, h1, h2⟩ := w.atI e
      exact .inl ⟨_, _, _, z, rfl, rfl, .of s, h1, q.same st h2⟩
    | tup s w =>
      cases vb <;> try cases e
      obtain ⟨z, h1, h2⟩ := w.atI e
      exact .inr ⟨_, _, _, z, rfl, rfl, zdr st.sub s, h1, q.same st h2⟩
    | _ => cases vb <;> cases e
  refine tD.bind (g := fun ρ x S1 => (g ρ S1).bind fun y S2 => o2 dIx x y S2) r0 h fun v dv ι1 F1 S1 H1 r1 w1 g1 h1 => ?_
  refine tD.bind (g := fun ρ y S2 => o2 dIx dv y S2) r1 h1 fun u du ι2 F2 S2 H2 r2 w2 g2 h2 => ?_
  exact k _ _ ι2 F2 H2 S2 v u dv du Q r2.st (w1.grow g2) w2 h2
abbrev PFn := za2 → zae → Res (Option Int)
def tP (X : Cx) (W : WX) (f : PFn) : TO := fun σ H Q => ∃ ι F ρ S, RR X.K ι F ρ S σ H ∧ Post X.K X.mg (fun c d H' => W c d σ H') ι F H (f ρ S) fun o ι' F' H' => Q o H'
structure DP (X : Cx) (W : WX) (e : Option Expr) (f : PFn) : Prop where
  po : ∃ t, PO X e t ∧ ∀ σ H Q, tP X W f σ H Q → t σ H Q
def pNo : PFn := fun _ S => .ok none S
def asInt (x : DV) (S : zae) : Res (Option Int) := match x with
  | .dat (.int i) => .ok (some i) S
  | _ => .bad
def pEx (f : XFn) : PFn := fun ρ S => (f ρ S).bind asInt
theorem zm7 : DP X W none pNo := ⟨_, po_none, fun σ H Q ⟨ι, F, ρ, S, r, h⟩ => h ι F H .refl r.st⟩
theorem zkb {f : XFn} (h : DE X W e f) : DP X W (some e) (pEx f) := by
  refine ⟨_, po_some h.pe, fun σ H Q ⟨ι, F, ρ, S, r, h⟩ => ?_⟩
  refine tD.bind (g := fun _ => asInt) r h fun v dv ι1 F1 S1 H1 r1 w1 g1 h1 => ?_
  unfold asInt at h1
  split at h1
  · rename_i i
    have w1' : Wd X.K F1 v (.int i) := w1
    cases w1'
    exact ⟨i, rfl, h1 ι1 F1 H1 .refl r1.st⟩
  · exact h1.elim
theorem tP.bind {α : Type} {f : PFn} {g : za2 → Option Int → zae → Res α} {σ : L2.St} {H : Hp} {R : Option Int → Hp → Prop} {Q : α → List Addr → Hp → Hp → Prop} {ι : List Addr} {F : Hp} {ρ : za2} {S : zae} (r : RR X.K ι F ρ S σ H)
    (h : Post X.K X.mg (fun c d H' => W c d σ H') ι F H ((f ρ S).bind (g ρ)) Q)
    (k : ∀ b ι1 F1 S1 H1, RR X.K ι1 F1 ρ S1 σ H1 → Grow ι F H ι1 F1 H1 → Post X.K X.mg (fun c d H' => W c d σ H') ι1 F1 H1 (g ρ b S1) Q → R b H1) : tP X W f σ H R := by
  refine ⟨ι, F, ρ, S, r, ?_⟩
  cases q : f ρ S with
  | ok b S1 =>
    rw [q] at h
    exact fun ι1 F1 H1 g1 st => k b ι1 F1 S1 H1 (r.slots g1 st) g1 (Post.grow (r := g ρ b S1) h g1)
  | ex c S1 => rw [q] at h; exact h
  | bad => rw [q] at h; exact h
def cutL {α : Type} (xs : List α) (lo hi : Option Int) : List α := (xs.drop (HT.sIx xs.length 0 lo)).take (HT.sIx xs.length xs.length hi - HT.sIx xs.length 0 lo)
theorem WdA.cut {vs : List V} {ds : List D} (w : WdA K F vs ds) (lo hi : Option Int) : WdA K F (cutV vs lo hi) (cutL ds lo hi) := by
  unfold cutV cutL
  rw [w.length]
  exact (w.drop _).take _
theorem cutL_map {α β : Type} (f : α → β) (xs : List α) (lo hi : Option Int) : cutL (xs.map f) lo hi = (cutL xs lo hi).map f := by
  unfold cutL
  rw [List.length_map, List.map_take, List.map_drop]
theorem znm : ∀ ns : List Int, WdA K F (ns.map V.int) (ns.map D.int)
  | [] => .nil
  | n :: ns => .cons (.int n) (znm ns)
def oSl (x : DV) (lo hi : Option Int) (S : zae) : Res DV := match x with
  | .scr ns => .ok (.dat (.lst ((cutL ns lo hi).map .int))) S
  | _ => match rd S x with
    | some (.lst xs) => .ok (.dat (.lst (cutL xs lo hi))) S
    | some (.tup xs) => .ok (.dat (.tup (cutL xs lo hi))) S
    | _ => .bad
def xSl (f : XFn) (l h : PFn) : XFn := fun ρ S => (f ρ S).bind fun x S1 => (l ρ S1).bind fun lo S2 => (h ρ S2).bind fun hi S3 => oSl x lo hi S3
theorem cutV_all (vs : List V) (lo hi : Option Int) (h : HT.sIx vs.length 0 lo = 0 ∧ HT.sIx vs.length vs.length hi = vs.length) : cutV vs lo hi = vs := by
  unfold cutV
  rw [h.1, h.2]
  simp
theorem zlv {f : XFn} {l h : PFn} {lo hi : Option Expr} {p2 : Pos} (ha : DE X W e f) (hl : DP X W lo l) (hh : DP X W hi h) : DE X W (.Subscript e (.Slice lo hi none p2) pos) (xSl f l h) := by
  obtain ⟨tl, pl, kl⟩ := hl.po
  obtain ⟨th, ph, kh⟩ := hh.po
  refine ⟨PE.weak (pe_slice (sl_list.or sl_tupA) ha.pe pl ph) fun σ H Q ⟨ι, F, ρ, S, r, h0⟩ => ?_⟩
  refine tD.bind (g := fun ρ x S1 => (l ρ S1).bind fun lo S2 => (h ρ S2).bind fun hi S3 => oSl x lo hi S3) r h0 fun v dv ι1 F1 S1 H1 r1 w1 g1 h1 => ?_
  refine kl _ _ _ (tP.bind (g := fun ρ lo S2 => (h ρ S2).bind fun hi S3 => oSl dv lo hi S3) r1 h1 fun lo ι2 F2 S2 H2 r2 g2 h2 => ?_)
  refine kh _ _ _ (tP.bind (g := fun ρ hi S3 => oSl dv lo hi S3) r2 h2 fun hi ι3 F3 S3 H3 r3 g3 h3 => ?_)
  have w3 : WV X.K ι3 F3 v dv := (w1.grow g2).grow g3
  have st := r3.st
  have fin : ∀ d, rd S3 dv = some d → Post X.K X.mg (fun c d H' => W c d σ H') ι3 F3 H3 (match some d with
    | some (.lst xs) => Res.ok (.dat (.lst (cutL xs lo hi))) S3
    | some (.tup xs) => .ok (.dat (.tup (cutL xs lo hi))) S3
    | _ => .bad) (fun dv ι' F' H' => ∀ v, WV X.K ι' F' v dv → Q v H') → rSlL X.K v lo hi H3 Q ∨ rSlA X.K v lo hi H3 Q := fun d ed h3 => by
    have vw := st.vw w3 ed
    cases vw with
    | lst s w =>
      have q : Ret X.K ι3 F3 H3 S3 (.lst (cutL _ lo hi)) Q := fun z F' H' g st' w => h3 ι3 F' H' g st' z w
      exact .inl ⟨_, _, rfl, .of s, fun p hp => q.lst st (w.cut lo hi) hp⟩
    | tup s w =>
      have q : Ret X.K ι3 F3 H3 S3 (.tup (cutL _ lo hi)) Q := fun z F' H' g st' w => h3 ι3 F' H' g st' z w
      refine .inr ⟨_, _, rfl, zdr st.sub s, fun z => ?_, fun _ p hp => q.tup st (w.cut lo hi) hp⟩
      have wc := w.cut lo hi
      rw [cutV_all _ _ _ z] at wc
      exact q.same st (.tup s wc)
    | _ => exact h3.elim
  unfold oSl at h3
  cases dv with
  | scr ns =>
    obtain ⟨a, rfl, hs⟩ := w3
    have q : Ret X.K ι3 F3 H3 S3 (.lst ((cutL ns lo hi).map .int)) Q := fun z F' H' g st' w => h3 ι3 F' H' g st' z w
    refine .inl ⟨a, _, rfl, st.sub.seq hs, fun p hp => q.lst st ?_ hp⟩
    show WdA X.K F3 (cutL (ns.map V.int) lo hi) _
    rw [cutL_map]
    exact znm _
  | dat d => exact fin d rfl h3
  | obj k =>
    cases ed : rd S3 (.obj k) with
    | none => simp only [ed] at h3; exact h3.elim
    | some d => simp only [ed] at h3; exact fin d ed h3
  | exn c p => exact h3.elim
  | fn _ => exact h3.elim
  | spc _ => exact h3.elim
/-! ## built-in functions -/
abbrev OpN := List DV → zae → Res DV
def xN (o : OpN) (f : AFn) : XFn := fun ρ S => (f ρ S).bind o
def zk6 (K : PySem.W.Frag) (r : List V → Hp → VK → Prop) (o : OpN) : Prop := ∀ (mg : Str → Option Value) (E : XK) (ι : List Addr) (F H : Hp) (S : zae) (vs : List V) (ds : List DV) (Q : VK), StR K ι F S H → WVs K ι F vs ds →
  Post K mg E ι F H (o ds S) (fun dv ι' F' H' => ∀ z, WV K ι' F' z dv → Q z H') → r vs H Q
theorem zam {r : List V → Hp → VK → Prop} {o : OpN} {f : AFn} {x : Str} {id : String} (hc : CallR X (.builtin id) r) (k : zk6 X.K r o) (hm : X.mg x = none) (hv : bootBuiltins x = some (.builtin id)) (ha : DA X W (e :: es) f) (hg : Gl X x := by rfl) (hn : x ≠ "__name__" := by decide) (hdb : (x == ("__debug__" : Str)) = false := by decide)
    (he : starEach (e :: es) X.env = (false, eval e X.env) :: starEach es X.env := by rfl) (hpl : (backTo pos (starEach es X.env)).any (·.1) = false := by rfl) : DE X W (.Call (.Name x p) (e :: es) [] pos) (xN o f) := by
  refine ⟨PE.weak (pe_callB hc hg hm hv ha.pa hn hdb he hpl) fun σ H Q ⟨ι, F, ρ, S, r, h⟩ => ?_⟩
  exact tA.bind (g := fun _ => o) r h fun vs ds ι1 F1 S1 H1 r1 w1 g1 h1 => k _ _ ι1 F1 H1 S1 vs ds Q r1.st w1 h1
theorem zc_ {r : List V → Hp → VK → Prop} {o : OpN} {f : AFn} {x : Str} {T : String} (hc : CallR X (.type T) r) (k : zk6 X.K r o) (hm : X.mg x = none) (hv : bootBuiltins x = some (.type T)) (ha : DA X W (e :: es) f) (hg : Gl X x := by rfl) (hn : x ≠ "__name__" := by decide) (hdb : (x == ("__debug__" : Str)) = false := by decide)
    (he : starEach (e :: es) X.env = (false, eval e X.env) :: starEach es X.env := by rfl) (hpl : (backTo pos (starEach es X.env)).any (·.1) = false := by rfl) : DE X W (.Call (.Name x p) (e :: es) [] pos) (xN o f) := by
  refine ⟨PE.weak (pe_callTy hc hg hm hv ha.pa hn hdb he hpl) fun σ H Q ⟨ι, F, ρ, S, r, h⟩ => ?_⟩
  exact tA.bind (g := fun _ => o) r h fun vs ds ι1 F1 S1 H1 r1 w1 g1 h1 => k _ _ ι1 F1 H1 S1 vs ds Q r1.st w1 h1
def o1 (f : D → Option D) : OpN := fun ds S => match ds with
  | [x] => (match rd S x with
    | some a => res1 (f a) S
    | none => .bad)
  | _ => .bad
theorem o1_ok {r : List V → Hp → VK → Prop} {f : D → Option D} (h : ∀ (ι : List Addr) (F H : Hp) (S : zae) (v : V) (a c : D) (Q : VK), StR K ι F S H → Vw K F H v a → f a = some c → Ret K ι F H S c Q → r [v] H Q) : zk6 K r (o1 f) := by
  intro mg E ι F H S vs ds Q st ws q
  unfold o1 at q
  cases ws with
  | nil => exact q.elim
  | cons w ws =>
    cases ws with
    | cons _ _ => exact q.elim
    | nil =>
      rename_i v dv
      cases ex : rd S dv with
      | none => simp only [ex] at q; exact q.elim
      | some a =>
        simp only [ex] at q
        cases ec : f a with
        | none => simp only [ec, res1] at q; exact q.elim
        | some c =>
          simp only [ec, res1] at q
          exact h ι F H S v a c Q st (st.vw w ex) ec fun z F' H' g st' w => q ι F' H' g st' z w
def dLen : D → Option D
  | .lst xs => some (.int xs.length)
  | .tup xs => some (.int xs.length)
  | .str x => if x.length ≤ sizeLine then some (.int x.length) else none
  | _ => none
theorem zbz : zk6 K (fun xs H Q => ∃ x n, xs = [x] ∧ LenV K x H n ∧ Q (.int n) H) (o1 dLen) := o1_ok fun ι F H S v a c Q st va e q => by
  cases va with
  | lst s w => cases e; rw [← w.length] at q; exact ⟨_, _, rfl, .inl ⟨_, .of s, rfl⟩, q.same st (.int _)⟩
  | tup s w => cases e; rw [← w.length] at q; exact ⟨_, _, rfl, .inr ⟨_, zdr st.sub s, rfl⟩, q.same st (.int _)⟩
  | str x =>
    simp only [dLen] at e
    split at e
    · cases e; exact ⟨_, _, rfl, ⟨by assumption, rfl⟩, q.same st (.int _)⟩
    · cases e
  | _ => cases e
def zjj : List D → Option (List Bool)
  | [] => some []
  | .bl b :: r => (zjj r).map (b :: ·)
  | _ :: _ => none
theorem zpy : ∀ {ds : List D} {vs : List V} {bs : List Bool}, WdA K F vs ds → zjj ds = some bs → vs = bs.map V.bl
  | [], _, _, w, e => by cases w; cases e; rfl
  | d :: ds, _, _, w, e => by
    cases w with
    | cons a r =>
      cases d <;> simp only [zjj] at e <;> first | (cases e; done) | skip
      rename_i b
      cases q : zjj ds with
      | none => rw [q] at e; cases e
      | some cs =>
        rw [q] at e; cases e
        have h := zpy r q
        cases a
        rw [h]; rfl
def dAll : D → Option D
  | .lst xs => (zjj xs).map fun bs => .bl (bs.all id)
  | _ => none
theorem zhd : zk6 K (rAll K) (o1 dAll) := o1_ok fun ι F H S v a c Q st va e q => by
  cases va <;> simp only [dAll] at e <;> first | (cases e; done) | skip
  rename_i s w
  cases z : zjj _ with
  | none => rw [z] at e; cases e
  | some bs =>
    rw [z] at e; cases e
    exact ⟨_, bs, rfl, by rw [← zpy w z]; exact .of s, q.same st (.bl _)⟩
def zh_ : List D → Option (List Int)
  | [] => some []
  | .int b :: r => (zh_ r).map (b :: ·)
  | _ :: _ => none
theorem zk8 : ∀ {ds : List D} {vs : List V} {bs : List Int}, WdA K F vs ds → zh_ ds = some bs → vs = bs.map V.int
  | [], _, _, w, e => by cases w; cases e; rfl
  | d :: ds, _, _, w, e => by
    cases w with
    | cons a r =>
      cases d <;> simp only [zh_] at e <;> first | (cases e; done) | skip
      rename_i b
      cases q : zh_ ds with
      | none => rw [q] at e; cases e
      | some cs =>
        rw [q] at e; cases e
        have h := zk8 r q
        cases a
        rw [h]; rfl
def dInt : D → Option D
  | .int i => some (.int i)
  | .bl b => some (.int (if b then 1 else 0))
  | _ => none
theorem zgk : zk6 K (fun xs H Q => (∃ i, xs = [.int i] ∧ Q (.int i) H) ∨ ∃ k, xs = [.bl k] ∧ Q (.int (if k then 1 else 0)) H) (o1 dInt) := o1_ok fun ι F H S v a c Q st va e q => by
  cases va <;> cases e
  · exact .inr ⟨_, rfl, q.same st (.int _)⟩
  · exact .inl ⟨_, rfl, q.same st (.int _)⟩
def dList : D → Option D
  | .lst xs => some (.lst xs)
  | .tup xs => some (.lst xs)
  | _ => none
theorem dList_ok : zk6 K (fun xs H Q => ∃ p ys, xs = [.ref p] ∧ (SqL K H p ys ∨ SqT K H p ys) ∧ ∀ l, H l = none → Q (.ref l) (upd H l (.lst ys))) (o1 dList) := o1_ok fun ι F H S v a c Q st va e q => by
  cases va with
  | lst s w => cases e; exact ⟨_, _, rfl, .inl (.of s), fun l hl => q.lst st w hl⟩
  | tup s w => cases e; exact ⟨_, _, rfl, .inr (zdr st.sub s), fun l hl => q.lst st w hl⟩
  | _ => cases e
def zkh : D → Option D
  | .lst xs => some (.tup xs)
  | .tup xs => some (.tup xs)
  | _ => none
theorem zht : zk6 K (fun xs H Q => ∃ p ys, xs = [.ref p] ∧ ((SqL K H p ys ∧ ∀ l, H l = none → Q (.ref l) (upd H l (.tup ys))) ∨ (SqT K H p ys ∧ Q (.ref p) H))) (o1 zkh) := o1_ok fun ι F H S v a c Q st va e q => by
  cases va with
  | lst s w => cases e; exact ⟨_, _, rfl, .inl ⟨.of s, fun l hl => q.tup st w hl⟩⟩
  | tup s w => cases e; exact ⟨_, _, rfl, .inr ⟨zdr st.sub s, q.same st (.tup s w)⟩⟩
  | _ => cases e
end
end DL
set_option maxHeartbeats 4000000
namespace DL
open PySem PySem.Spec PyProof.Rows L2
variable [Mode]
section
variable {X : Cx} {W : WX} {e a b c : Expr} {es : List Expr} {pos p : Pos} {K : PySem.W.Frag} {ι : List Addr} {F H : Hp} {S : zae}
/-! ## and, or, not, conditional expressions; tests -/
def xAnd (f g : XFn) : XFn := fun ρ S => (f ρ S).bind fun x S1 => match x with
  | .dat (.bl true) => g ρ S1
  | .dat (.bl false) => .ok (.dat (.bl false)) S1
  | _ => .bad
def xOr (f g : XFn) : XFn := fun ρ S => (f ρ S).bind fun x S1 => match x with
  | .dat (.bl false) => g ρ S1
  | .dat (.bl true) => .ok (.dat (.bl true)) S1
  | _ => .bad
def nDV (x : DV) (S : zae) : Res DV := match x with
  | .dat (.bl c) => .ok (.dat (.bl (!c))) S
  | _ => .bad
def xNot (f : XFn) : XFn := fun ρ S => (f ρ S).bind nDV
theorem zk5 {op : BoolOp} {f : XFn} (h : DE X W a f) : DE X W (.BoolOp op [a] pos) f := ⟨pe_one h.pe⟩
theorem de_and {f g : XFn} {rest : List Expr} (ha : DE X W a f) (hb : DE X W (.BoolOp .And (b :: rest) pos) g) : DE X W (.BoolOp .And (a :: b :: rest) pos) (xAnd f g) := by
  refine ⟨PE.weak (pe_and ha.pe hb.pe) fun σ H Q ⟨ι, F, ρ, S, r, h⟩ => ?_⟩
  refine tD.bind (g := fun ρ x S1 => match x with
    | .dat (.bl true) => g ρ S1
    | .dat (.bl false) => .ok (.dat (.bl false)) S1
    | _ => .bad) r h fun v dv ι1 F1 S1 H1 r1 w1 g1 h1 => ?_
  split at h1
  · have w' : Wd X.K F1 v (.bl true) := w1
    cases w'
    exact ⟨true, rfl, by rw [if_pos rfl]; exact ⟨ι1, F1, ρ, S1, r1, h1⟩⟩
  · have w' : Wd X.K F1 v (.bl false) := w1
    cases w'
    exact ⟨false, rfl, by rw [if_neg (by simp)]; exact h1 ι1 F1 H1 .refl r1.st _ (.bl _)⟩
  · exact h1.elim
theorem de_or {f g : XFn} {rest : List Expr} (ha : DE X W a f) (hb : DE X W (.BoolOp .Or (b :: rest) pos) g) : DE X W (.BoolOp .Or (a :: b :: rest) pos) (xOr f g) := by
  refine ⟨PE.weak (pe_or ha.pe hb.pe) fun σ H Q ⟨ι, F, ρ, S, r, h⟩ => ?_⟩
  refine tD.bind (g := fun ρ x S1 => match x with
    | .dat (.bl false) => g ρ S1
    | .dat (.bl true) => .ok (.dat (.bl true)) S1
    | _ => .bad) r h fun v dv ι1 F1 S1 H1 r1 w1 g1 h1 => ?_
  split at h1
  · have w' : Wd X.K F1 v (.bl false) := w1
    cases w'
    exact ⟨false, rfl, by rw [if_neg (by simp)]; exact ⟨ι1, F1, ρ, S1, r1, h1⟩⟩
  · have w' : Wd X.K F1 v (.bl true) := w1
    cases w'
    exact ⟨true, rfl, by rw [if_pos rfl]; exact h1 ι1 F1 H1 .refl r1.st _ (.bl _)⟩
  · exact h1.elim
theorem de_not {f : XFn} (ha : DE X W a f) : DE X W (.UnaryOp .Not a pos) (xNot f) := by
  refine ⟨PE.weak (pe_not ha.pe) fun σ H Q ⟨ι, F, ρ, S, r, h⟩ => ?_⟩
  refine tD.bind (g := fun _ => nDV) r h fun v dv ι1 F1 S1 H1 r1 w1 g1 h1 => ?_
  unfold nDV at h1
  split at h1
  · rename_i c
    have w' : Wd X.K F1 v (.bl c) := w1
    cases w'
    exact ⟨_, rfl, h1 ι1 F1 H1 .refl r1.st _ (.bl _)⟩
  · exact h1.elim
def zpt (x : DV) (S : zae) : Res Bool := match rd S x with
  | some .non => .ok false S
  | some (.bl b) => .ok b S
  | some (.int i) => .ok (i != 0) S
  | some (.lst xs) => .ok (!xs.isEmpty) S
  | some (.tup xs) => .ok (!xs.isEmpty) S
  | _ => .bad
def tTr (f : XFn) : TFn := fun ρ S => (f ρ S).bind zpt
theorem wda_empty {vs : List V} {ds : List D} (w : WdA K F vs ds) : vs.isEmpty = ds.isEmpty := by
  cases w <;> rfl
theorem zfn {f : XFn} (h : DE X W a f) (he : ∀ whole, isTrue a X.env whole = (do let v ← whole; standAt a.pos; holding [v] (truthy v)) := by intro _; rfl) : DT X W a (tTr f) := by
  refine ⟨PT.weak (pt_truth h.pe he) fun σ H Q ⟨ι, F, ρ, S, r, h⟩ => ?_⟩
  refine tD.bind (g := fun _ => zpt) r h fun v dv ι1 F1 S1 H1 r1 w1 g1 h1 => ?_
  unfold zpt at h1
  cases ed : rd S1 dv with
  | none => rw [ed] at h1; exact h1.elim
  | some d =>
    rw [ed] at h1
    have vw := r1.st.vw w1 ed
    cases vw with
    | non => exact ⟨false, rfl, h1 ι1 F1 H1 .refl r1.st⟩
    | bl b => exact ⟨b, rfl, h1 ι1 F1 H1 .refl r1.st⟩
    | int i => exact ⟨i != 0, rfl, h1 ι1 F1 H1 .refl r1.st⟩
    | str x => exact h1.elim
    | cas x => exact h1.elim
    | dct x => exact h1.elim
    | lst s w => exact ⟨_, .inl ⟨_, .of s, rfl⟩, by rw [wda_empty w]; exact h1 ι1 F1 H1 .refl r1.st⟩
    | tup s w => exact ⟨_, .inr (.inl ⟨_, zdr r1.st.sub s, rfl⟩), by rw [wda_empty w]; exact h1 ι1 F1 H1 .refl r1.st⟩
def tNo (f : TFn) : TFn := fun ρ S => (f ρ S).bind fun b S1 => .ok (!b) S1
def tAn (f g : TFn) : TFn := fun ρ S => (f ρ S).bind fun b S1 => if b then g ρ S1 else .ok false S1
def tOr_ (f g : TFn) : TFn := fun ρ S => (f ρ S).bind fun b S1 => if b then .ok true S1 else g ρ S1
theorem zd2 {f : TFn} (h : DT X W a f) : DT X W (.UnaryOp .Not a pos) (tNo f) := by
  refine ⟨PT.weak (pt_not h.pt) fun σ H Q ⟨ι, F, ρ, S, r, h⟩ => ?_⟩
  exact tT.bind (g := fun _ b S1 => .ok (!b) S1) r h fun b ι1 F1 S1 H1 r1 g1 h1 => h1 ι1 F1 H1 .refl r1.st
theorem zhe {f : TFn} (h : DT X W a f) : DW X W (.BoolOp .And [a] pos) f := ⟨pw_and1 h.pt⟩
theorem zkq {f : TFn} (h : DT X W a f) : DW X W (.BoolOp .Or [a] pos) f := ⟨pw_or1 h.pt⟩
theorem zhh {f g : TFn} {rest : List Expr} (ha : DT X W a f) (hb : DW X W (.BoolOp .And (b :: rest) pos) g) : DW X W (.BoolOp .And (a :: b :: rest) pos) (tAn f g) := by
  refine ⟨PW.weak (pw_and ha.pt hb.pw) fun σ H Q ⟨ι, F, ρ, S, r, h⟩ => ?_⟩
  refine tT.bind (g := fun ρ b S1 => if b then g ρ S1 else .ok false S1) r h fun b ι1 F1 S1 H1 r1 g1 h1 => ?_
  cases b with
  | true => rw [if_pos rfl]; exact ⟨ι1, F1, ρ, S1, r1, h1⟩
  | false => rw [if_neg (by simp)]; exact h1 ι1 F1 H1 .refl r1.st
theorem zm8 {f g : TFn} {rest : List Expr} (ha : DT X W a f) (hb : DW X W (.BoolOp .Or (b :: rest) pos) g) : DW X W (.BoolOp .Or (a :: b :: rest) pos) (tOr_ f g) := by
  refine ⟨PW.weak (pw_or ha.pt hb.pw) fun σ H Q ⟨ι, F, ρ, S, r, h⟩ => ?_⟩
  refine tT.bind (g := fun ρ b S1 => if b then .ok true S1 else g ρ S1) r h fun b ι1 F1 S1 H1 r1 g1 h1 => ?_
  cases b with
  | true => rw [if_pos rfl]; exact h1 ι1 F1 H1 .refl r1.st
  | false => rw [if_neg (by simp)]; exact ⟨ι1, F1, ρ, S1, r1, h1⟩
theorem DW.dt {f : TFn} (h : DW X W a f) : DT X W a f := ⟨h.pw.pt⟩
def xIf (t : TFn) (f g : XFn) : XFn := fun ρ S => (t ρ S).bind fun b S1 => if b then f ρ S1 else g ρ S1
theorem de_if {t : TFn} {f g : XFn} (hc : DT X W c t) (ha : DE X W a f) (hb : DE X W b g) : DE X W (.IfExp c a b pos) (xIf t f g) := by
  refine ⟨PE.weak (pe_ifExp hc.pt ha.pe hb.pe) fun σ H Q ⟨ι, F, ρ, S, r, h⟩ => ?_⟩
  refine tT.bind (g := fun ρ b S1 => if b then f ρ S1 else g ρ S1) r h fun b ι1 F1 S1 H1 r1 g1 h1 => ?_
  cases b with
  | true => rw [if_pos rfl]; exact ⟨ι1, F1, ρ, S1, r1, h1⟩
  | false => rw [if_neg (by simp)]; exact ⟨ι1, F1, ρ, S1, r1, h1⟩
theorem de_chain {op op' : CmpOp} {r r' : R2} {o o' : Op2} {f g k : XFn} (ho : OpR X (compareOp op) r) (ho' : OpR X (compareOp op') r') (k1 : OpOk X.K r o) (k2 : OpOk X.K r' o') (ha : DE X W a f) (hb : DE X W b g) (hc : DE X W c k)
    (hm : lastMarks [op, op'] [b, c] = false := by rfl) : DE X W (.Compare a [op, op'] [b, c] pos) (zmn o o' f g k) := by
  refine ⟨PE.weak (pe_chain ho ho' ha.pe hb.pe hc.pe hm) fun σ H Q ⟨ι, F, ρ, S, r0, h⟩ => ?_⟩
  refine tD.bind (g := fun ρ x S1 => (g ρ S1).bind fun y S2 => (o x y S2).bind fun z S3 => match z with
    | .dat (.bl true) => (k ρ S3).bind fun w S4 => o' y w S4
    | .dat (.bl false) => .ok (.dat (.bl false)) S3
    | _ => .bad) r0 h fun v dv ι1 F1 S1 H1 r1 w1 g1 h1 => ?_
  refine tD.bind (g := fun ρ y S2 => (o dv y S2).bind fun z S3 => match z with
    | .dat (.bl true) => (k ρ S3).bind fun w S4 => o' y w S4
    | .dat (.bl false) => .ok (.dat (.bl false)) S3
    | _ => .bad) r1 h1 fun u du ι2 F2 S2 H2 r2 w2 g2 h2 => ?_
  refine k1 X.mg (fun c d H' => W c d σ H') ι2 F2 H2 S2 v u dv du _ r2.st (w1.grow g2) w2 ?_
  cases q : o dv du S2 with
  | ex c S3 => rw [q] at h2; exact h2
  | bad => rw [q] at h2; exact h2
  | ok z S3 =>
    rw [q] at h2
    intro ι3 F3 H3 g3 st3 zv wz
    have h3 := Post.grow (r := (match z with
      | .dat (.bl true) => (k ρ S3).bind fun w S4 => o' du w S4
      | .dat (.bl false) => .ok (.dat (.bl false)) S3
      | _ => .bad)) h2 g3
    have r3 := r2.slots g3 st3
    split at h3
    · have w' : Wd X.K F3 zv (.bl true) := wz
      cases w'
      refine ⟨true, rfl, ?_⟩
      rw [if_pos rfl]
      refine tD.bind (g := fun ρ w S4 => o' du w S4) r3 h3 fun t dt ι4 F4 S4 H4 r4 w4 g4 h4 => ?_
      exact k2 _ _ ι4 F4 H4 S4 u t du dt Q r4.st ((w2.grow g3).grow g4) w4 h4
    · have w' : Wd X.K F3 zv (.bl false) := wz
      cases w'
      exact ⟨false, rfl, by rw [if_neg (by simp)]; exact h3 ι3 F3 H3 .refl st3 _ (.bl _)⟩
    · exact h3.elim
end
/-! ## statements -/
inductive RS where
  | nx (ρ : za2) (S : zae) | rt (v : DV) (S : zae) | bk (ρ : za2) (S : zae) | ct (ρ : za2) (S : zae) | ex (c : XC) (ρ : za2) (S : zae) | bad
abbrev SFn := za2 → zae → RS
def PostS (K : PySem.W.Frag) (mg : Str → Option Value) (W : WX) (ι : List Addr) (F H : Hp) (r : RS) (D : Ends) : Prop := match r with
  | .nx ρ' S' => ∀ σ' ι' F' H', Grow ι F H ι' F' H' → RR K ι' F' ρ' S' σ' H' → D.nx σ' H'
  | .rt dv S' => ∀ v ι' F' H', Grow ι F H ι' F' H' → StR K ι' F' S' H' → WV K ι' F' v dv → D.rt v H'
  | .bk ρ' S' => ∀ σ' ι' F' H', Grow ι F H ι' F' H' → RR K ι' F' ρ' S' σ' H' → D.bk σ' H'
  | .ct ρ' S' => ∀ σ' ι' F' H', Grow ι F H ι' F' H' → RR K ι' F' ρ' S' σ' H' → D.ct σ' H'
  | .ex c ρ' S' => ∀ (C : Addr × Option Addr) σ' ι' F' H', Grow ι F H ι' F' H' → RR K ι' F' ρ' S' σ' H' → XIs K mg F' c C → W (.ref C.1) C.2 σ' H'
  | .bad => False
def tS (X : Cx) (W : WX) (f : SFn) : TS := fun D σ H => ∃ ι F ρ S, RR X.K ι F ρ S σ H ∧ PostS X.K X.mg W ι F H (f ρ S) D
structure DS (X : Cx) (W : WX) (st : Stmt) (f : SFn) : Prop where
  ps : ∃ t, PS X st t ∧ ∀ D σ H, tS X W f D σ H → t D σ H
structure DSs (X : Cx) (W : WX) (st : List Stmt) (f : SFn) : Prop where
  ps : ∃ t, PSs X st t ∧ ∀ D σ H, tS X W f D σ H → t D σ H
section
variable {X : Cx} {W : WX} {e a b c : Expr} {es : List Expr} {pos p : Pos} {K : PySem.W.Frag} {ι : List Addr} {F H : Hp} {S : zae} {mg : Str → Option Value}
theorem PostS.grow {r : RS} {D : Ends} {ι1 : List Addr} {F1 H1 : Hp} (h : PostS K mg W ι F H r D) (g : Grow ι F H ι1 F1 H1) : PostS K mg W ι1 F1 H1 r D := by
  cases r with
  | nx ρ' S' => exact fun σ' ι' F' H' g' r => h σ' ι' F' H' (g.trans g') r
  | bk ρ' S' => exact fun σ' ι' F' H' g' r => h σ' ι' F' H' (g.trans g') r
  | ct ρ' S' => exact fun σ' ι' F' H' g' r => h σ' ι' F' H' (g.trans g') r
  | rt dv S' => exact fun v ι' F' H' g' st w => h v ι' F' H' (g.trans g') st w
  | ex c ρ' S' => exact fun C σ' ι' F' H' g' r m => h C σ' ι' F' H' (g.trans g') r m
  | bad => exact h
def Res.bindS {α : Type} (r : Res α) (ρ : za2) (f : α → zae → RS) : RS := match r with
  | .ok a S => f a S
  | .ex c S => .ex c ρ S
  | .bad => .bad
@[simp] theorem Res.bindS_ok {α : Type} (a : α) (S : zae) (ρ : za2) (f : α → zae → RS) : (Res.ok a S).bindS ρ f = f a S := rfl
@[simp] theorem Res.bindS_ex {α : Type} (c : XC) (S : zae) (ρ : za2) (f : α → zae → RS) : (Res.ex c S : Res α).bindS ρ f = .ex c ρ S := rfl
@[simp] theorem Res.bindS_bad {α : Type} (ρ : za2) (f : α → zae → RS) : (Res.bad : Res α).bindS ρ f = .bad := rfl
theorem tD.bindS {f : XFn} {g : za2 → DV → zae → RS} {σ : L2.St} {H : Hp} {R : VK} {D : Ends} {ι : List Addr} {F : Hp} {ρ : za2} {S : zae} (r : RR X.K ι F ρ S σ H)
    (h : PostS X.K X.mg W ι F H ((f ρ S).bindS ρ (g ρ)) D)
    (k : ∀ v dv ι1 F1 S1 H1, RR X.K ι1 F1 ρ S1 σ H1 → WV X.K ι1 F1 v dv → Grow ι F H ι1 F1 H1 → PostS X.K X.mg W ι1 F1 H1 (g ρ dv S1) D → R v H1) : tD X W f σ H R := by
  refine ⟨ι, F, ρ, S, r, ?_⟩
  cases q : f ρ S with
  | ok dv S1 =>
    rw [q] at h
    exact fun ι1 F1 H1 g1 st v wv => k v dv ι1 F1 S1 H1 (r.slots g1 st) wv g1 (PostS.grow (r := g ρ dv S1) h g1)
  | ex c S1 => rw [q] at h; exact fun C ι' F' H' g' st m => h C σ ι' F' H' g' (r.slots g' st) m
  | bad => rw [q] at h; exact h
theorem tT.bindS {f : TFn} {g : za2 → Bool → zae → RS} {σ : L2.St} {H : Hp} {R : Bool → Hp → Prop} {D : Ends} {ι : List Addr} {F : Hp} {ρ : za2} {S : zae} (r : RR X.K ι F ρ S σ H)
    (h : PostS X.K X.mg W ι F H ((f ρ S).bindS ρ (g ρ)) D)
    (k : ∀ b ι1 F1 S1 H1, RR X.K ι1 F1 ρ S1 σ H1 → Grow ι F H ι1 F1 H1 → PostS X.K X.mg W ι1 F1 H1 (g ρ b S1) D → R b H1) : tT X W f σ H R := by
  refine ⟨ι, F, ρ, S, r, ?_⟩
  cases q : f ρ S with
  | ok b S1 =>
    rw [q] at h
    exact fun ι1 F1 H1 g1 st => k b ι1 F1 S1 H1 (r.slots g1 st) g1 (PostS.grow (r := g ρ b S1) h g1)
  | ex c S1 => rw [q] at h; exact fun C ι' F' H' g' st m => h C σ ι' F' H' g' (r.slots g' st) m
  | bad => rw [q] at h; exact h
theorem RR.set {ρ : za2} {σ : L2.St} (r : RR K ι F ρ S σ H) {v : V} {dv : DV} (w : WV K ι F v dv) (i : Nat) : RR K ι F (ρ.set i (some dv)) S (σ.set i (some v)) H := by
  refine ⟨r.st, by simp [r.len], fun j d e => ?_⟩
  by_cases h : i = j
  · subst h
    rw [List.getElem?_set] at e ⊢
    rw [← r.len]
    split at e
    · split at e
      · rename_i h2
        simp at e; subst e
        exact ⟨v, by simp [h2], w⟩
      · cases e
    · rename_i h2; exact absurd rfl h2
  · rw [List.getElem?_set_ne h] at e ⊢
    exact r.slot j d e
theorem RR.unset {ρ : za2} {σ : L2.St} (r : RR K ι F ρ S σ H) (i : Nat) : RR K ι F (ρ.set i none) S (σ.set i none) H := by
  refine ⟨r.st, by simp [r.len], fun j d e => ?_⟩
  by_cases h : i = j
  · subst h
    rw [List.getElem?_set] at e
    split at e
    · split at e <;> cases e
    · rename_i h2; exact absurd rfl h2
  · rw [List.getElem?_set_ne h] at e ⊢
    exact r.slot j d e
def sNil : SFn := fun ρ S => .nx ρ S
def sSeq (f g : SFn) : SFn := fun ρ S => match f ρ S with
  | .nx ρ' S' => g ρ' S'
  | r => r
theorem za3 : DSs X W [] sNil := ⟨_, pss_nil, fun D σ H ⟨ι, F, ρ, S, r, h⟩ => h σ ι F H .refl r⟩
theorem tS.seq {f g : SFn} {D : Ends} {σ : L2.St} {H : Hp} (h : tS X W (sSeq f g) D σ H) : tS X W f { D with nx := tS X W g D } σ H := by
  obtain ⟨ι, F, ρ, S, r, h⟩ := h
  refine ⟨ι, F, ρ, S, r, ?_⟩
  unfold sSeq at h
  cases q : f ρ S with
  | nx ρ' S' => rw [q] at h; exact fun σ' ι' F' H' g' r' => ⟨ι', F', ρ', S', r', PostS.grow (r := g ρ' S') h g'⟩
  | rt dv S' => rw [q] at h; exact h
  | bk ρ' S' => rw [q] at h; exact h
  | ct ρ' S' => rw [q] at h; exact h
  | ex c ρ' S' => rw [q] at h; exact h
  | bad => rw [q] at h; exact h
theorem tS.mono {f : SFn} {D D' : Ends} {σ : L2.St} {H : Hp} (h : tS X W f D σ H) (k1 : ∀ σ H, D.nx σ H → D'.nx σ H) (k2 : ∀ v H, D.rt v H → D'.rt v H) (k3 : ∀ σ H, D.bk σ H → D'.bk σ H) (k4 : ∀ σ H, D.ct σ H → D'.ct σ H) : tS X W f D' σ H := by
  obtain ⟨ι, F, ρ, S, r, h⟩ := h
  refine ⟨ι, F, ρ, S, r, ?_⟩
  cases q : f ρ S with
  | nx ρ' S' => rw [q] at h; exact fun σ' ι' F' H' g' r' => k1 _ _ (h σ' ι' F' H' g' r')
  | rt dv S' => rw [q] at h; exact fun v ι' F' H' g' st w => k2 _ _ (h v ι' F' H' g' st w)
  | bk ρ' S' => rw [q] at h; exact fun σ' ι' F' H' g' r' => k3 _ _ (h σ' ι' F' H' g' r')
  | ct ρ' S' => rw [q] at h; exact fun σ' ι' F' H' g' r' => k4 _ _ (h σ' ι' F' H' g' r')
  | ex c ρ' S' => rw [q] at h; exact h
  | bad => rw [q] at h; exact h
theorem zaf {st : Stmt} {rest : List Stmt} {f g : SFn} (h : DS X W st f) (k : DSs X W rest g) : DSs X W (st :: rest) (sSeq f g) := by
  obtain ⟨t, p, i⟩ := h.ps
  obtain ⟨u, q, j⟩ := k.ps
  exact ⟨_, pss_cons p q, fun D σ H h => i _ σ H (h.seq.mono (fun σ H => j D σ H) (fun _ _ x => x) (fun _ _ x => x) (fun _ _ x => x))⟩
theorem zag {st : Stmt} {f : SFn} (h : DS X W st f) : DSs X W [st] f := let ⟨t, p, i⟩ := h.ps; ⟨t, pss_one p, i⟩
def sRet (f : XFn) : SFn := fun ρ S => (f ρ S).bindS ρ fun v S1 => .rt v S1
theorem za1 {f : XFn} (h : DE X W e f) : DS X W (.Return (some e) pos) (sRet f) :=
  ⟨_, ps_ret h.pe, fun D σ H ⟨ι, F, ρ, S, r, h⟩ => tD.bindS (g := fun _ v S1 => .rt v S1) r h fun v dv ι1 F1 S1 H1 r1 w1 g1 h1 => h1 v ι1 F1 H1 .refl r1.st w1⟩
def sSet (i : Nat) (f : XFn) : SFn := fun ρ S => (f ρ S).bindS ρ fun v S1 => .nx (ρ.set i (some v)) S1
theorem zbn {i : Nat} {x : Str} {f : XFn} {p2 : Pos} (h : DE X W e f) (hN : X.N.Nodup) (hi : X.N[i]? = some x := by rfl) (hx : Loc X.env.scope x := by first | exact .inl rfl | exact .inr rfl) (hs : swapsWith e (some (.Name x p2)) pos.line X.env = pure false := by rfl)
    (hf : X.fn x = true ∨ X.env.scope.names.lookup x = some .local := by exact .inl rfl) (hs2 : swapsWithSole [.Name x p2] e pos.line X.env = pure false := by rfl) : DS X W (.Assign [.Name x p2] e pos) (sSet i f) :=
  ⟨_, ps_asg h.pe (pg_name hN hi hx hf) hs2, fun D σ H ⟨ι, F, ρ, S, r, h⟩ => tD.bindS (g := fun ρ v S1 => .nx (ρ.set i (some v)) S1) r h fun v dv ι1 F1 S1 H1 r1 w1 g1 h1 => h1 _ ι1 F1 H1 .refl (r1.set w1 i)⟩
def sExpr (f : XFn) : SFn := fun ρ S => (f ρ S).bindS ρ fun _ S1 => .nx ρ S1
theorem zmc {f : XFn} (h : DE X W e f) (hs : swapsWith e none pos.line X.env = pure false := by rfl) : DS X W (.Expr e pos) (sExpr f) :=
  ⟨_, ps_expr h.pe hs, fun D σ H ⟨ι, F, ρ, S, r, h⟩ => tD.bindS (g := fun ρ v S1 => .nx ρ S1) r h fun v dv ι1 F1 S1 H1 r1 w1 g1 h1 => h1 _ ι1 F1 H1 .refl r1⟩
def sIf (t : TFn) (f g : SFn) : SFn := fun ρ S => (t ρ S).bindS ρ fun b S1 => if b then f ρ S1 else g ρ S1
theorem zd_ {t : TFn} {f g : SFn} {sa sb : List Stmt} (hc : DT X W c t) (ha : DSs X W sa f) (hb : DSs X W sb g) : DS X W (.If c sa sb pos) (sIf t f g) := by
  obtain ⟨t1, p1, i1⟩ := ha.ps
  obtain ⟨t2, p2, i2⟩ := hb.ps
  refine ⟨_, ps_if hc.pt p1 p2, fun D σ H ⟨ι, F, ρ, S, r, h⟩ => ?_⟩
  refine tT.bindS (g := fun ρ b S1 => if b then f ρ S1 else g ρ S1) r h fun b ι1 F1 S1 H1 r1 g1 h1 => ?_
  cases b with
  | true => rw [if_pos rfl]; exact i1 _ _ _ ⟨ι1, F1, ρ, S1, r1, h1⟩
  | false => rw [if_neg (by simp)]; exact i2 _ _ _ ⟨ι1, F1, ρ, S1, r1, h1⟩
end
end DL
set_option maxHeartbeats 4000000
namespace DL
open PySem PySem.Spec PyProof.Rows L2
variable [Mode]
section
variable {X : Cx} {W : WX} {e a b c : Expr} {es : List Expr} {pos p : Pos} {K : PySem.W.Frag} {ι : List Addr} {F H : Hp} {S : zae} {mg : Str → Option Value}
/-! ## lists of the store -/
def AtF (ι : List Addr) (k : Nat) (a : Addr) : Prop := ι[k]? = some a ∧ IsFst ι k
theorem StR.put (st : StR K ι F S H) {k : Nat} {a : Addr} {us : List V} {vs : List V} {ds : List D} (hk : AtF ι k a) (hF : F a = none) (hH : H a = some (.lst us)) (w : WdA K F vs ds) : StR K ι F (S.set k (some ds)) (upd H a (.lst vs)) := by
  refine ⟨fun b u e => ?_, by simp [st.len], st.nd, fun b hb => zls (st.full b hb), fun j es e fi => ?_, fun j es e nf => ?_, st.tb.lst hH _, st.tf, fun j es e nf => by
    have hkj : k ≠ j := fun z => nf (z ▸ hk.2)
    rw [List.getElem?_set_ne hkj] at e
    exact st.snd j es e nf⟩
  · have n : b ≠ a := fun z => by rw [z, hF] at e; cases e
    rw [upd_ne n]; exact st.sub b u e
  · by_cases h : k = j
    · subst h
      rw [List.getElem?_set] at e
      split at e
      · split at e
        · simp at e; subst e
          exact ⟨a, vs, hk.1, upd_same, hF, w⟩
        · cases e
      · rename_i h2; exact absurd rfl h2
    · rw [List.getElem?_set_ne h] at e
      obtain ⟨a', vs', h1, h2, h3, h4⟩ := st.cell j es e fi
      have n : a' ≠ a := fun z => by
        subst z
        exact h (IsFst.one hk.2 fi hk.1 h1)
      exact ⟨a', vs', h1, by rw [upd_ne n]; exact h2, h3, h4⟩
  · have h : k ≠ j := fun z => nf (z ▸ hk.2)
    rw [List.getElem?_set_ne h] at e
    obtain ⟨a', h1, h2⟩ := st.spec j es e nf
    refine ⟨a', h1, h2.move List.prefix_rfl (Same.refl _) fun o e nl _ => ⟨?_, fun f => f⟩⟩
    have n : a' ≠ a := fun z => by
      rw [z, hH] at e; cases e; exact nl _ rfl
    rw [upd_ne n]; exact e
theorem zqx {k : Nat} {a : Addr} {o : HO} (hk : AtF ι k a) : Grow ι F H ι F (upd H a o) := by
  have m : a ∈ ι := List.mem_of_getElem? hk.1
  exact ⟨List.prefix_rfl, Same.refl _, fun b u e _ n => by rw [upd_ne (fun z => n (by rw [z]; exact m))]; exact e, fun b u e _ _ f _ => f, fun b h => .inl h, fun b h => zdn h⟩
theorem StR.freeze (st : StR K ι F S H) {k : Nat} {a : Addr} {vs : List V} (hk : AtF ι k a) (hF : F a = none) (hH : H a = some (.lst vs)) : StR K ι (upd F a (.lst vs)) (S.set k none) H ∧ Grow ι F H ι (upd F a (.lst vs)) H ∧ Same F (upd F a (.lst vs)) := by
  have m : a ∈ ι := List.mem_of_getElem? hk.1
  have s : Same F (upd F a (.lst vs)) := fun b u e => by rw [upd_ne (fun z => by rw [z, hF] at e; cases e)]; exact e
  refine ⟨⟨fun b u e => ?_, by simp [st.len], st.nd, st.full, fun j es e fi => ?_, fun j es e nf => ?_, st.tb, st.tb.off st.tf (fun ps z => by rw [hH] at z; cases z) _, fun j es e nf => by
    have hkj : k ≠ j := fun z => nf (z ▸ hk.2)
    rw [List.getElem?_set_ne hkj] at e
    exact st.snd j es e nf⟩, ⟨List.prefix_rfl, s, fun b u e _ n => e, fun b u e _ _ f n => by rw [upd_ne (fun z => n (by rw [z]; exact m))]; exact f, fun b h => .inl h, fun b h => h⟩, s⟩
  · by_cases h : b = a
    · subst h; rw [upd_same] at e; rw [hH]; exact e
    · rw [upd_ne h] at e; exact st.sub b u e
  · by_cases h : k = j
    · subst h
      rw [List.getElem?_set] at e
      split at e
      · split at e <;> cases e
      · rename_i h2; exact absurd rfl h2
    · rw [List.getElem?_set_ne h] at e
      obtain ⟨a', vs', h1, h2, h3, h4⟩ := st.cell j es e fi
      have n : a' ≠ a := fun z => by
        subst z
        exact h (IsFst.one hk.2 fi hk.1 h1)
      exact ⟨a', vs', h1, h2, by rw [upd_ne n]; exact h3, h4.mono s⟩
  · have h : k ≠ j := fun z => nf (z ▸ hk.2)
    rw [List.getElem?_set_ne h] at e
    obtain ⟨a', h1, h2⟩ := st.spec j es e nf
    refine ⟨a', h1, h2.move List.prefix_rfl s fun o e nl _ => ⟨e, fun f => ?_⟩⟩
    have n : a' ≠ a := fun z => by
      rw [z, hH] at e; cases e; exact nl _ rfl
    rw [upd_ne n]; exact f
theorem StR.add (st : StR K ι F S H) {p : Addr} {vs : List V} {ds : List D} (hH : H p = some (.lst vs)) (hF : F p = none) (hι : p ∉ ι) (w : WdA K F vs ds) : StR K (ι ++ [p]) F (S ++ [some ds]) H := by
  refine ⟨st.sub, by simp [st.len], fun m => List.nodup_append.mpr ⟨st.nd m, by simp, fun x hx y hy => by simp at hy; subst hy; exact fun z => hι (z ▸ hx)⟩, fun b hb => by
    rcases List.mem_append.mp hb with h | h
    · exact st.full b h
    · simp at h; subst h; rw [hH]; simp, fun j es e fi => ?_, fun j es e nf => ?_, st.tb, st.tf, fun j es e nf => ?_⟩
  rotate_left 2
  · by_cases h : j < S.length
    · rw [List.getElem?_append_left h] at e
      have h' : j < ι.length := by rw [st.len]; exact h
      exact (IsSnd.pre (List.prefix_append _ _) h').mpr (st.snd j es e fun z => nf ((IsFst.pre (List.prefix_append _ _) h').mpr z))
    · have h' := (List.getElem?_eq_some_iff.mp e).1
      simp at h'
      have : j = S.length := by omega
      subst this
      exact absurd (by rw [← st.len]; exact IsFst.new hι) nf
  · by_cases h : j < S.length
    · rw [List.getElem?_append_left h] at e
      have h' : j < ι.length := by rw [st.len]; exact h
      obtain ⟨a', vs', h1, h2, h3, h4⟩ := st.cell j es e ((IsFst.pre (List.prefix_append _ _) h').mp fi)
      exact ⟨a', vs', by rw [List.getElem?_append_left h']; exact h1, h2, h3, h4⟩
    · have h' := (List.getElem?_eq_some_iff.mp e).1
      simp at h'
      have : j = S.length := by omega
      subst this
      simp at e
      subst e
      exact ⟨p, vs, by rw [← st.len]; simp, hH, hF, w⟩
  · by_cases h : j < S.length
    · rw [List.getElem?_append_left h] at e
      have h' : j < ι.length := by rw [st.len]; exact h
      obtain ⟨a', h1, h2⟩ := st.spec j es e fun z => nf ((IsFst.pre (List.prefix_append _ _) h').mpr z)
      exact ⟨a', by rw [List.getElem?_append_left h']; exact h1, h2.move (List.prefix_append _ _) (Same.refl _) fun o e _ _ => ⟨e, fun f => f⟩⟩
    · have h' := (List.getElem?_eq_some_iff.mp e).1
      simp at h'
      have : j = S.length := by omega
      subst this
      exact absurd (by rw [← st.len]; exact IsFst.new hι) nf
theorem StR.own (st : StR K ι F S H) {p : Addr} {vs : List V} (hH : H p = some (.lst vs)) (hF : F p = none) (hι : p ∉ ι) (u : HO) : StR K ι F S (upd H p u) :=
  ⟨fun b o e => by rw [upd_ne (fun z => by rw [z, hF] at e; cases e)]; exact st.sub b o e, st.len, st.nd, fun b hb => zls (st.full b hb), fun k es e fi =>
    let ⟨a', vs', h1, h2, h3, h4⟩ := st.cell k es e fi
    ⟨a', vs', h1, by rw [upd_ne (fun z => hι (by rw [← z]; exact List.mem_of_getElem? h1))]; exact h2, h3, h4⟩, fun k es e nf =>
    let ⟨a', h1, h2⟩ := st.spec k es e nf
    ⟨a', h1, h2.move List.prefix_rfl (Same.refl _) fun o e _ _ => ⟨by rw [upd_ne (fun z => hι (by rw [← z]; exact List.mem_of_getElem? h1))]; exact e, fun f => f⟩⟩, st.tb.lst hH _, st.tf, st.snd⟩
theorem wv_new {p : Addr} {n : Nat} (hι : p ∉ ι) (hn : ι.length = n) : WV K (ι ++ [p]) F (.ref p) (.obj n) := by
  subst hn
  exact ⟨p, by simp, rfl, IsFst.new hι⟩
/-! ### new lists -/
abbrev LFn := za2 → zae → Res (List D)
def tN (X : Cx) (W : WX) (f : LFn) : TE := fun σ H Q => ∃ ι F ρ S, RR X.K ι F ρ S σ H ∧ Post X.K X.mg (fun c d H' => W c d σ H') ι F H (f ρ S) fun ds ι' F' H' =>
  ∀ p vs, H p = none → H' p = some (.lst vs) → F' p = none → p ∉ ι' → WdA X.K F' vs ds → Q (.ref p) H'
structure NE (X : Cx) (W : WX) (e : Expr) (f : LFn) : Prop where
  pe : PE X e (tN X W f)
def xN1 (f : LFn) : XFn := fun ρ S => (f ρ S).bind fun ds S1 => .ok (.dat (.lst ds)) S1
theorem grow_freeze {ι' : List Addr} {F' H' : Hp} (g : Grow ι F H ι' F' H') {p : Addr} {o : HO} (hp : H p = none) (hF : F' p = none) : Grow ι F H ι' (upd F' p o) H' :=
  ⟨g.pre, fun b u e => by rw [upd_ne (fun z => by have := g.sf b u e; rw [z, hF] at this; cases this)]; exact g.sf b u e, g.keep, fun b u e t t2 f n => by rw [upd_ne (fun z => by rw [z, hp] at e; cases e)]; exact g.new b u e t t2 f n, g.nio, g.dom⟩
theorem StR.frz (st : StR K ι F S H) {p : Addr} {vs : List V} (hH : H p = some (.lst vs)) (hF : F p = none) (hι : p ∉ ι) : StR K ι (upd F p (.lst vs)) S H ∧ Same F (upd F p (.lst vs)) := by
  have s : Same F (upd F p (.lst vs)) := fun b u e => by rw [upd_ne (fun z => by rw [z, hF] at e; cases e)]; exact e
  refine ⟨⟨fun b u e => ?_, st.len, st.nd, st.full, fun j es e fi => ?_, fun j es e nf => ?_, st.tb, st.tb.off st.tf (fun ps z => by rw [hH] at z; cases z) _, st.snd⟩, s⟩
  · by_cases h : b = p
    · subst h; rw [upd_same] at e; rw [hH]; exact e
    · rw [upd_ne h] at e; exact st.sub b u e
  · obtain ⟨a', vs', h1, h2, h3, h4⟩ := st.cell j es e fi
    have n : a' ≠ p := fun z => hι (z ▸ List.mem_of_getElem? h1)
    exact ⟨a', vs', h1, h2, by rw [upd_ne n]; exact h3, h4.mono s⟩
  · obtain ⟨a', h1, h2⟩ := st.spec j es e nf
    have n : a' ≠ p := fun z => hι (z ▸ List.mem_of_getElem? h1)
    exact ⟨a', h1, h2.move List.prefix_rfl s fun o e _ _ => ⟨e, fun f => by rw [upd_ne n]; exact f⟩⟩
theorem tD.toN {f : LFn} {σ : L2.St} {H : Hp} {Q : VK} (h : tD X W (xN1 f) σ H Q) : tN X W f σ H Q := by
  obtain ⟨ι, F, ρ, S, r, h⟩ := h
  refine ⟨ι, F, ρ, S, r, ?_⟩
  unfold xN1 at h
  cases q : f ρ S with
  | bad => rw [q] at h; exact h
  | ex c S1 => rw [q] at h; exact h
  | ok ds S1 =>
    rw [q] at h
    intro ι' F' H' g st p vs hp hH hF hι w
    obtain ⟨st', s⟩ := st.frz hH hF hι
    exact h ι' _ H' (grow_freeze g hp hF) st' (.ref p) (.lst upd_same (w.mono s))
theorem NE.de {f : LFn} (h : NE X W e f) : DE X W e (xN1 f) := ⟨PE.weak h.pe fun σ H Q h => h.toN⟩
def sNew (i : Nat) (f : LFn) : SFn := fun ρ S => (f ρ S).bindS ρ fun ds S1 => .nx (ρ.set i (some (.obj S1.length))) (S1 ++ [some ds])
theorem zi3 {ι' : List Addr} {F' H' : Hp} (g : Grow ι F H ι' F' H') {p : Addr} (hp : H p = none) : Grow ι F H (ι' ++ [p]) F' H' :=
  ⟨g.pre.trans (List.prefix_append _ _), g.sf, g.keep, g.new, fun b h => by
    rcases List.mem_append.mp h with h | h
    · exact g.nio b h
    · simp at h; subst h; exact .inr hp, g.dom⟩
theorem tS.new {i : Nat} {f : LFn} {D : Ends} {σ : L2.St} {H : Hp} (h : tS X W (sNew i f) D σ H) : tN X W f σ H fun v H1 => D.nx (σ.set i (some v)) H1 := by
  obtain ⟨ι, F, ρ, S, r, h⟩ := h
  refine ⟨ι, F, ρ, S, r, ?_⟩
  unfold sNew at h
  cases q : f ρ S with
  | bad => rw [q] at h; exact h
  | ex c S1 => rw [q] at h; exact fun C ι' F' H' g st m => h C σ ι' F' H' g (r.slots g st) m
  | ok ds S1 =>
    rw [q] at h
    intro ι' F' H' g st p vs hp hH hF hι w
    have r1 := r.slots (zi3 g hp) (st.add hH hF hι w)
    exact h _ _ F' H' (zi3 g hp) (r1.set (dv := .obj S1.length) (wv_new hι st.len) i)
theorem tS.set {i : Nat} {f : XFn} {D : Ends} {σ : L2.St} {H : Hp} (h : tS X W (sSet i f) D σ H) : tD X W f σ H fun v H1 => D.nx (σ.set i (some v)) H1 := by
  obtain ⟨ι, F, ρ, S, r, h⟩ := h
  exact tD.bindS (g := fun ρ v S1 => .nx (ρ.set i (some v)) S1) r h fun v dv ι1 F1 S1 H1 r1 w1 g1 h1 => h1 _ ι1 F1 H1 .refl (r1.set w1 i)
theorem zmw {i : Nat} {x : Str} {f : LFn} {p2 : Pos} (h : NE X W e f) (hN : X.N.Nodup) (hi : X.N[i]? = some x := by rfl) (hx : Loc X.env.scope x := by first | exact .inl rfl | exact .inr rfl)
    (hf : X.fn x = true ∨ X.env.scope.names.lookup x = some .local := by exact .inl rfl) (hs2 : swapsWithSole [.Name x p2] e pos.line X.env = pure false := by rfl) : DS X W (.Assign [.Name x p2] e pos) (sNew i f) :=
  ⟨_, ps_asg h.pe (pg_name hN hi hx hf) hs2, fun D σ H h => h.new⟩
def lLst (f : AFn) : LFn := fun ρ S => (f ρ S).bind fun ds S1 => match dats ds with
  | some xs => if xs.length ≤ sizeLine then .ok xs S1 else .bad
  | none => .bad
theorem zo5 {Q : VK} {ι1 : List Addr} {F1 H1 : Hp} {S1 : zae} {xs : List D} {vs : List V} {E : XK} (st : StR K ι1 F1 S1 H1) (g : Grow ι F H ι1 F1 H1)
    (h : Post K mg E ι1 F1 H1 (.ok xs S1) fun ds ι' F' H' => ∀ p vs, H p = none → H' p = some (.lst vs) → F' p = none → p ∉ ι' → WdA K F' vs ds → Q (.ref p) H')
    (w : WdA K F1 vs xs) {p : Addr} (hp : H1 p = none) : Q (.ref p) (upd H1 p (.lst vs)) := by
  have hF : F1 p = none := by
    cases q : F1 p with
    | none => rfl
    | some o => rw [st.sub p o q] at hp; cases hp
  exact h ι1 F1 _ (zgt hp _) (st.alone hp _) p vs (g.dom p hp) upd_same hF (fun m => st.full p m hp) w
theorem zjx {f : AFn} (h : DA X W es f) : NE X W (.List es pos) (lLst f) := by
  refine ⟨PE.weak (pe_lst h.pa) fun σ H Q ⟨ι, F, ρ, S, r, h⟩ => ?_⟩
  refine tA.bind (g := fun _ ds S1 => match dats ds with
    | some xs => if xs.length ≤ sizeLine then .ok xs S1 else .bad
    | none => .bad) r h fun vs ds ι1 F1 S1 H1 r1 w1 g1 h1 => ?_
  cases q : dats ds with
  | none => simp only [q] at h1; exact h1.elim
  | some xs =>
    simp only [q] at h1
    have wx := w1.dats q
    by_cases hl : xs.length ≤ sizeLine
    · simp only [hl, if_true] at h1
      exact ⟨by rw [wx.length]; exact hl, fun p hp => zo5 r1.st g1 h1 wx hp⟩
    · simp only [hl, if_false] at h1; exact h1.elim
def lList (f : XFn) : LFn := fun ρ S => (f ρ S).bind fun x S1 => match rd S1 x with
  | some (.lst xs) => .ok xs S1
  | some (.tup xs) => .ok xs S1
  | _ => .bad
theorem ne_list {f : XFn} {p2 : Pos} (h : DE X W a f) (hm : X.mg "list" = none) (hg : Gl X "list" := by rfl)
    (he : starEach (a :: []) X.env = (false, eval a X.env) :: starEach [] X.env := by rfl) : NE X W (.Call (.Name "list" p) [a] [] pos) (lList f) := by
  refine ⟨PE.weak (pe_callTy call_list_of hg hm (by decide +kernel) (pa_cons h.pe pa_nil he) (by decide) (by decide) he rfl) fun σ H Q ⟨ι, F, ρ, S, r, h⟩ => ?_⟩
  refine tD.bind (g := fun _ x S1 => match rd S1 x with
    | some (.lst xs) => .ok xs S1
    | some (.tup xs) => .ok xs S1
    | _ => .bad) r h fun v dv ι1 F1 S1 H1 r1 w1 g1 h1 => ?_
  cases ed : rd S1 dv with
  | none => simp only [ed] at h1; exact h1.elim
  | some d =>
    have vw := r1.st.vw w1 ed
    cases vw with
    | lst s w => simp only [ed] at h1; exact ⟨_, _, rfl, .inl (.of s), fun l hl => zo5 r1.st g1 h1 w hl⟩
    | tup s w => simp only [ed] at h1; exact ⟨_, _, rfl, .inr (zdr r1.st.sub s), fun l hl => zo5 r1.st g1 h1 w hl⟩
    | _ => simp only [ed] at h1; exact h1.elim
/-! ### x.append(e) and its like: statements -/
def zdx (S : zae) : DV → Option (Nat × List D)
  | .obj k => match S[k]? with
    | some (some ds) => some (k, ds)
    | _ => none
  | _ => none
theorem zoa {S : zae} {x : DV} {k : Nat} {ds : List D} {v : V} (st : StR K ι F S H) (w : WV K ι F v x) (e : zdx S x = some (k, ds)) : ∃ a vs, v = .ref a ∧ AtF ι k a ∧ H a = some (.lst vs) ∧ F a = none ∧ WdA K F vs ds := by
  cases x with
  | dat d => cases e
  | scr ns => cases e
  | exn c p => cases e
  | fn _ => cases e
  | spc _ => cases e
  | obj j =>
    simp only [zdx] at e
    split at e
    · rename_i es q
      cases e
      obtain ⟨a, h1, h2, h0⟩ := w
      obtain ⟨a', vs, h3, h4, h5, h6⟩ := st.cell _ _ q h0
      rw [h1] at h3; cases h3
      exact ⟨a, vs, h2, ⟨h1, h0⟩, h4, h5, h6⟩
    · cases e
def zpv (x y : DV) (ρ : za2) (S : zae) : RS := match zdx S x, y with
  | some (k, ds), .dat d => if ds.length < sizeLine then .nx ρ (S.set k (some (ds ++ [d]))) else .bad
  | _, _ => .bad
def sApp (f g : XFn) : SFn := fun ρ S => (f ρ S).bindS ρ fun x S1 => match zdx S1 x with
  | some _ => (g ρ S1).bindS ρ fun y S2 => zpv x y ρ S2
  | none => .bad
theorem cell_view {S : zae} {x : DV} {z : Nat × List D} {v : V} (st : StR K ι F S H) (w : WV K ι F v x) (e : zdx S x = some z) : tyV K "list" v H := by
  obtain ⟨k, ds⟩ := z
  obtain ⟨a, vs, rfl, h1, h2, h3, h4⟩ := zoa st w e
  exact .inl ⟨rfl, vs, .of h2⟩
theorem zit {o : Expr} {f g : XFn} {apos : Pos} (ho : DE X W o f) (ha : DE X W a g)
    (hbase : attributeBase o "append" X.env (eval o X.env) = eval o X.env := by rfl)
    (hfew : ((backTo p (starEach (a :: []) X.env)).all (fun x => !x.1) && (backToKw p (keywordEach [] X.env)).all (fun x => x.1.isSome)
      && decide ((a :: []).length + ([] : List Keyword).length + (if ([] : List Keyword).isEmpty then 0 else 1) < 30)) = true := by rfl)
    (hline : (apos.endLine == p.line) = true := by rfl) (hse : starEach (a :: []) X.env = (false, eval a X.env) :: starEach [] X.env := by rfl)
    (hs : swapsWith (.Call (.Attribute o "append" apos) [a] [] p) none pos.line X.env = pure false := by rfl) :
    DS X W (.Expr (.Call (.Attribute o "append" apos) [a] [] p) pos) (sApp f g) := by
  refine ⟨_, ps_expr (pe_bm PySem.F.plainAttrs_list PySem.F.slot_list_append PySem.F.type_list_append mt_append ho.pe (pa_cons ha.pe pa_nil hse) hbase hfew hline hse rfl) hs, fun D σ H ⟨ι, F, ρ, S, r, h⟩ => ?_⟩
  refine tD.bindS (g := fun ρ x S1 => match zdx S1 x with
    | some _ => (g ρ S1).bindS ρ fun y S2 => zpv x y ρ S2
    | none => .bad) r h fun v dv ι1 F1 S1 H1 r1 w1 g1 h1 => ?_
  cases ec : zdx S1 dv with
  | none => simp only [ec] at h1; exact h1.elim
  | some z =>
    simp only [ec] at h1
    refine ⟨cell_view r1.st w1 ec, ?_⟩
    refine tD.bindS (g := fun ρ y S2 => zpv dv y ρ S2) r1 h1 fun u du ι2 F2 S2 H2 r2 w2 g2 h2 => ?_
    unfold zpv at h2
    cases ec2 : zdx S2 dv with
    | none => simp only [ec2] at h2; exact h2.elim
    | some z2 =>
      obtain ⟨k, ds⟩ := z2
      simp only [ec2] at h2
      cases du with
      | dat d =>
        simp only at h2
        split at h2
        · rename_i hl
          obtain ⟨a, vs, rfl, q1, q2, q3, q4⟩ := zoa r2.st (w1.grow g2) ec2
          refine ⟨a, vs, u, rfl, rfl, q2, by rw [q4.length]; exact hl, ?_⟩
          have gp := zqx (F := F2) (H := H2) (o := .lst (vs ++ [u])) q1
          exact h2 σ ι2 F2 _ gp (r2.slots gp (r2.st.put q1 q3 q2 (q4.append (.cons w2 .nil))))
        · exact h2.elim
      | _ => exact h2.elim
end
end DL
set_option maxHeartbeats 4000000
namespace DL
open PySem PySem.Spec PyProof.Rows L2
variable [Mode]
section
variable {X : Cx} {W : WX} {e a b c : Expr} {es : List Expr} {pos p : Pos} {K : PySem.W.Frag} {ι : List Addr} {F H : Hp} {S : zae} {mg : Str → Option Value}
def putExt (x y : DV) (ρ : za2) (S : zae) : RS := match zdx S x, y with
  | some (k, ds), .dat (.lst es) => if ds.length + es.length ≤ sizeLine then .nx ρ (S.set k (some (ds ++ es))) else .bad
  | _, _ => .bad
def sExt (f g : XFn) : SFn := fun ρ S => (f ρ S).bindS ρ fun x S1 => match zdx S1 x with
  | some _ => (g ρ S1).bindS ρ fun y S2 => putExt x y ρ S2
  | none => .bad
theorem zk1 {o : Expr} {f g : XFn} {apos : Pos} (ho : DE X W o f) (ha : DE X W a g)
    (hbase : attributeBase o "extend" X.env (eval o X.env) = eval o X.env := by rfl)
    (hfew : ((backTo p (starEach (a :: []) X.env)).all (fun x => !x.1) && (backToKw p (keywordEach [] X.env)).all (fun x => x.1.isSome)
      && decide ((a :: []).length + ([] : List Keyword).length + (if ([] : List Keyword).isEmpty then 0 else 1) < 30)) = true := by rfl)
    (hline : (apos.endLine == p.line) = true := by rfl) (hse : starEach (a :: []) X.env = (false, eval a X.env) :: starEach [] X.env := by rfl)
    (hs : swapsWith (.Call (.Attribute o "extend" apos) [a] [] p) none pos.line X.env = pure false := by rfl) :
    DS X W (.Expr (.Call (.Attribute o "extend" apos) [a] [] p) pos) (sExt f g) := by
  refine ⟨_, ps_expr (pe_bm PySem.F.plainAttrs_list PySem.F.slot_list_extend PySem.F.type_list_extend mt_extend ho.pe (pa_cons ha.pe pa_nil hse) hbase hfew hline hse rfl) hs, fun D σ H ⟨ι, F, ρ, S, r, h⟩ => ?_⟩
  refine tD.bindS (g := fun ρ x S1 => match zdx S1 x with
    | some _ => (g ρ S1).bindS ρ fun y S2 => putExt x y ρ S2
    | none => .bad) r h fun v dv ι1 F1 S1 H1 r1 w1 g1 h1 => ?_
  cases ec : zdx S1 dv with
  | none => simp only [ec] at h1; exact h1.elim
  | some z =>
    simp only [ec] at h1
    refine ⟨cell_view r1.st w1 ec, ?_⟩
    refine tD.bindS (g := fun ρ y S2 => putExt dv y ρ S2) r1 h1 fun u du ι2 F2 S2 H2 r2 w2 g2 h2 => ?_
    unfold putExt at h2
    cases ec2 : zdx S2 dv with
    | none => simp only [ec2] at h2; exact h2.elim
    | some z2 =>
      obtain ⟨k, ds⟩ := z2
      simp only [ec2] at h2
      cases du with
      | dat d =>
        cases d with
        | lst es =>
          have vu := r2.st.vw w2 (d := .lst es) rfl
          cases vu with
          | lst su wu =>
            rename_i a2 us
            simp only at h2
            split at h2
            · rename_i hl
              obtain ⟨a, vs, rfl, q1, q2, q3, q4⟩ := zoa r2.st (w1.grow g2) ec2
              refine ⟨a, _, vs, _, rfl, rfl, q2, su, by rw [q4.length, wu.length]; exact hl, ?_⟩
              have gp := zqx (F := F2) (H := H2) (o := .lst (vs ++ us)) q1
              exact h2 σ ι2 F2 _ gp (r2.slots gp (r2.st.put q1 q3 q2 (q4.append wu)))
            · exact h2.elim
        | _ => exact h2.elim
      | _ => exact h2.elim
/-! ### x.insert(i, e) -/
/-! ### x[i] = e -/
def zrg (x i y : DV) (ρ : za2) (S : zae) : RS := match zdx S x, i, y with
  | some (k, ds), .dat (.int n), .dat d => (match ixN ds.length n with
    | some j => .nx ρ (S.set k (some (ds.set j d)))
    | none => .bad)
  | _, _, _ => .bad
def sPut (f i g : XFn) : SFn := fun ρ S => (g ρ S).bindS ρ fun y S1 => (f ρ S1).bindS ρ fun x S2 => (i ρ S2).bindS ρ fun n S3 => zrg x n y ρ S3
theorem ds_put {o : Expr} {f i g : XFn} {p2 : Pos} (ho : DE X W o f) (hi : DE X W a i) (hb : DE X W b g)
    (ha : ∀ v, assign (.Subscript o a p2) X.env v = (do
      let ov ← holding [v] (eval o X.env)
      let iv ← holding [v, ov] (eval a X.env)
      standAt p2
      holding [v, ov, iv] (setItem ov iv v)
      release [v, ov, iv] []) := by intro _; rfl)
    (hs : swapsWithSole [.Subscript o a p2] b pos.line X.env = pure false := by rfl) :
    DS X W (.Assign [.Subscript o a p2] b pos) (sPut f i g) := by
  refine ⟨_, ps_asg hb.pe (pg_sub ho.pe hi.pe set_list ha) hs, fun D σ H ⟨ι, F, ρ, S, r, h⟩ => ?_⟩
  refine tD.bindS (g := fun ρ y S1 => (f ρ S1).bindS ρ fun x S2 => (i ρ S2).bindS ρ fun n S3 => zrg x n y ρ S3) r h fun v dv ι1 F1 S1 H1 r1 w1 g1 h1 => ?_
  refine tD.bindS (g := fun ρ x S2 => (i ρ S2).bindS ρ fun n S3 => zrg x n dv ρ S3) r1 h1 fun o dx ι2 F2 S2 H2 r2 w2 g2 h2 => ?_
  refine tD.bindS (g := fun ρ n S3 => zrg dx n dv ρ S3) r2 h2 fun n dn ι3 F3 S3 H3 r3 w3 g3 h3 => ?_
  unfold zrg at h3
  cases ec2 : zdx S3 dx with
  | none => simp only [ec2] at h3; exact h3.elim
  | some z2 =>
    obtain ⟨k, ds⟩ := z2
    simp only [ec2] at h3
    cases dn with
    | dat d =>
      cases d with
      | int j =>
        have wj : Wd X.K F3 n (.int j) := w3
        cases wj
        cases dv with
        | dat d =>
          simp only at h3
          cases ej : ixN ds.length j with
          | none => simp only [ej] at h3; exact h3.elim
          | some m =>
            simp only [ej] at h3
            obtain ⟨a, vs, rfl, q1, q2, q3, q4⟩ := zoa r3.st (w2.grow g3) ec2
            refine ⟨a, vs, j, m, rfl, rfl, q2, by rw [q4.length]; exact ej, ?_⟩
            have gp := zqx (F := F3) (H := H3) (o := .lst (vs.set m v)) q1
            exact h3 σ ι3 F3 _ gp (r3.slots gp (r3.st.put q1 q3 q2 (q4.set m ((w1.grow g2).grow g3))))
        | _ => exact h3.elim
      | _ => exact h3.elim
    | _ => exact h3.elim
/-! ### a list of the store is not changed any more: from here on it is data -/
def sFrz (i : Nat) : SFn := fun ρ S => match ρ[i]? with
  | some (some x) => (match zdx S x with
    | some (k, ds) => .nx (ρ.set i (some (.dat (.lst ds)))) (S.set k none)
    | none => .bad)
  | _ => .bad
theorem RR.frz {ρ : za2} {σ : L2.St} (r : RR K ι F ρ S σ H) {i : Nat} {x : DV} {k : Nat} {ds : List D} (h : ρ[i]? = some (some x)) (ec : zdx S x = some (k, ds)) :
    ∃ F', Grow ι F H ι F' H ∧ RR K ι F' (ρ.set i (some (.dat (.lst ds)))) (S.set k none) σ H := by
  obtain ⟨v, h1, w⟩ := r.slot i x h
  obtain ⟨a, vs, rfl, q1, q2, q3, q4⟩ := zoa r.st w ec
  obtain ⟨st, g, s⟩ := r.st.freeze q1 q3 q2
  refine ⟨_, g, st, by simp [r.len], fun j dv e => ?_⟩
  by_cases hij : i = j
  · subst hij
    rw [List.getElem?_set] at e
    split at e
    · split at e
      · simp at e; subst e
        exact ⟨_, h1, Wd.lst upd_same (q4.mono s)⟩
      · cases e
    · rename_i h2; exact absurd rfl h2
  · rw [List.getElem?_set_ne hij] at e
    obtain ⟨v', h2, w'⟩ := r.slot j dv e
    exact ⟨v', h2, w'.grow g⟩
theorem zl5 {i : Nat} {st : List Stmt} {f : SFn} (h : DSs X W st f) : DSs X W st (sSeq (sFrz i) f) := by
  obtain ⟨t, q, j⟩ := h.ps
  refine ⟨t, q, fun D σ H ⟨ι, F, ρ, S, r, h⟩ => j D σ H ?_⟩
  unfold sSeq sFrz at h
  cases ex : ρ[i]? with
  | none => simp only [ex] at h; exact h.elim
  | some o =>
    cases o with
    | none => simp only [ex] at h; exact h.elim
    | some x =>
      simp only [ex] at h
      cases ec : zdx S x with
      | none => simp only [ec] at h; exact h.elim
      | some z =>
        obtain ⟨k, ds⟩ := z
        simp only [ec] at h
        obtain ⟨F', g, r'⟩ := r.frz ex ec
        exact ⟨ι, F', _, _, r', PostS.grow (r := f _ _) h g⟩
end
end DL
set_option maxHeartbeats 4000000
namespace DL
open PySem PySem.Spec PyProof.Rows L2
variable [Mode]
section
variable {X : Cx} {W : WX} {e a b c : Expr} {es : List Expr} {pos p : Pos} {K : PySem.W.Frag} {ι : List Addr} {F H : Hp} {S : zae} {mg : Str → Option Value}
/-! ## targets -/
abbrev GFn := D → za2 → Option za2
abbrev GsFn := List D → za2 → Option za2
theorem wipe_comm (σ : L2.St) (i : Nat) (o : Option V) (h : ∀ vs : List Nat, True) : ∀ vs : List Nat, (i ∈ vs → wipe (σ.set i o) vs = wipe σ vs) ∧ (i ∉ vs → wipe (σ.set i o) vs = (wipe σ vs).set i o)
  | [] => ⟨fun z => absurd z (by simp), fun _ => rfl⟩
  | v :: vs => by
    obtain ⟨h1, h2⟩ := wipe_comm σ i o h vs
    refine ⟨fun m => ?_, fun m => ?_⟩
    · show (wipe (σ.set i o) vs).set v none = (wipe σ vs).set v none
      by_cases q : i ∈ vs
      · rw [h1 q]
      · rw [h2 q]
        have e : i = v := by
          rcases List.mem_cons.mp m with z | z
          · exact z
          · exact absurd z q
        subst e
        rw [List.set_set]
    · have q : i ∉ vs := fun z => m (List.mem_cons_of_mem _ z)
      have n : v ≠ i := fun z => m (by rw [z]; exact List.mem_cons_self)
      show (wipe (σ.set i o) vs).set v none = ((wipe σ vs).set v none).set i o
      rw [h2 q, List.set_comm _ _ n]
theorem wipe_set {σ : L2.St} {i : Nat} {o : Option V} {vs : List Nat} (m : i ∈ vs) : wipe (σ.set i o) vs = wipe σ vs := (wipe_comm σ i o (fun _ => trivial) vs).1 m
def Only (sl : List Nat) (σ σ' : L2.St) : Prop := ∀ vs : List Nat, (∀ i ∈ sl, i ∈ vs) → wipe σ' vs = wipe σ vs
structure DG (X : Cx) (tg : Expr) (sl : List Nat) (g : GFn) : Prop where
  pg : ∃ t, PG X tg t ∧ ∀ v σ H Q ι F ρ S d ρ', RR X.K ι F ρ S σ H → Wd X.K F v d → g d ρ = some ρ' → (∀ σ', RR X.K ι F ρ' S σ' H → Only sl σ σ' → Q σ' H) → t v σ H Q
structure DGs (X : Cx) (tgs : List Expr) (sl : List Nat) (g : GsFn) : Prop where
  pg : ∃ t, PGs X tgs t ∧ ∀ vs σ H Q ι F ρ S ds ρ', RR X.K ι F ρ S σ H → WdA X.K F vs ds → g ds ρ = some ρ' → (∀ σ', RR X.K ι F ρ' S σ' H → Only sl σ σ' → Q σ' H) → t vs σ H Q
def gNm (i : Nat) : GFn := fun d ρ => some (ρ.set i (some (.dat d)))
def gNo : GsFn := fun ds ρ => match ds with
  | [] => some ρ
  | _ => none
def gCo (g : GFn) (gs : GsFn) : GsFn := fun ds ρ => match ds with
  | d :: r => (g d ρ).bind (gs r)
  | [] => none
def gTp (gs : GsFn) : GFn := fun d ρ => match d with
  | .tup ds => gs ds ρ
  | _ => none
theorem zai {i : Nat} {x : Str} (hN : X.N.Nodup) (hi : X.N[i]? = some x := by rfl) (hx : Loc X.env.scope x := by first | exact .inl rfl | exact .inr rfl)
    (hf : X.fn x = true ∨ X.env.scope.names.lookup x = some .local := by first | exact .inl rfl | exact .inr rfl) : DG X (.Name x pos) [i] (gNm i) := by
  refine ⟨_, pg_name hN hi hx hf, fun v σ H Q ι F ρ S d ρ' r w e k => ?_⟩
  cases e
  exact k _ (r.set (dv := .dat d) w i) fun vs h => wipe_set (h i (by simp))
theorem zdt : DGs X [] [] gNo := by
  refine ⟨_, pgs_nil, fun vs σ H Q ι F ρ S ds ρ' r w e k => ?_⟩
  unfold gNo at e
  split at e
  · cases e; cases w
    exact ⟨rfl, k σ r fun _ _ => rfl⟩
  · cases e
theorem zap {sl sl' : List Nat} {g : GFn} {gs : GsFn} (h : DG X a sl g) (k : DGs X es sl' gs) (hs : (assignEach (a :: es) X.env).map (·.2) = assign a X.env :: (assignEach es X.env).map (·.2) := by rfl) : DGs X (a :: es) (sl ++ sl') (gCo g gs) := by
  obtain ⟨t, p, i⟩ := h.pg
  obtain ⟨u, q, j⟩ := k.pg
  refine ⟨_, pgs_cons p q hs, fun vs σ H Q ι F ρ S ds ρ' r w e k => ?_⟩
  cases ds with
  | nil => cases e
  | cons d ds =>
    cases w with
    | cons w ws =>
      simp only [gCo] at e
      cases q1 : g d ρ with
      | none => rw [q1] at e; cases e
      | some ρ1 =>
        rw [q1] at e
        refine ⟨_, _, rfl, i _ σ H _ ι F ρ S d ρ1 r w q1 fun σ1 r1 o1 => j _ σ1 H Q ι F ρ1 S ds ρ' r1 ws e fun σ2 r2 o2 => k σ2 r2 fun vs hv => ?_⟩
        rw [o2 vs (fun i m => hv i (List.mem_append_right _ m)), o1 vs (fun i m => hv i (List.mem_append_left _ m))]
def GLen (gs : GsFn) (n : Nat) : Prop := ∀ ds ρ ρ', gs ds ρ = some ρ' → ds.length = n
theorem zdd : GLen gNo 0 := fun ds ρ ρ' e => by
  unfold gNo at e
  split at e
  · rfl
  · cases e
theorem zak {g : GFn} {gs : GsFn} {n : Nat} (h : GLen gs n) : GLen (gCo g gs) (n + 1) := fun ds ρ ρ' e => by
  cases ds with
  | nil => cases e
  | cons d ds =>
    simp only [gCo] at e
    cases q1 : g d ρ with
    | none => rw [q1] at e; cases e
    | some ρ1 => rw [q1] at e; simp [h ds ρ1 ρ' e]
theorem zf8 {sl : List Nat} {gs : GsFn} {k n : Nat} (hc : X.calm = true) (h : DGs X es sl gs) (hl : GLen gs n) (hn : (assignEach es X.env).length = n := by rfl) (hst : (assignEach es X.env).findIdx? (·.1) = none := by rfl) : DG X (.Tuple es k pos) sl (gTp gs) := by
  obtain ⟨t, p, i⟩ := h.pg
  refine ⟨_, pg_tup hc p hn hst, fun v σ H Q ι F ρ S d ρ' r w e k => ?_⟩
  cases d <;> simp only [gTp] at e <;> first | (cases e; done) | skip
  rename_i ds
  cases w with
  | tup s w => exact ⟨_, _, rfl, zdr r.st.sub s, by rw [w.length]; exact hl ds ρ ρ' e, i _ σ H Q ι F ρ S ds ρ' r w e k⟩
def sTg (g : GFn) (f : XFn) : SFn := fun ρ S => (f ρ S).bindS ρ fun v S1 => match v with
  | .dat d => (match g d ρ with
    | some ρ' => .nx ρ' S1
    | none => .bad)
  | _ => .bad
theorem zmh {sl : List Nat} {g : GFn} {f : XFn} {tg : Expr} (h : DE X W e f) (hg : DG X tg sl g) (hs : swapsWithSole [tg] e pos.line X.env = pure false := by rfl) (hw : swappedStores [tg] e X.env = pure none := by rfl) (h1 : (assignEach [tg] X.env).map (·.2) = [assign tg X.env] := by rfl) : DS X W (.Assign [tg] e pos) (sTg g f) := by
  obtain ⟨t, p, i⟩ := hg.pg
  refine ⟨_, ps_asg h.pe p hs hw h1, fun D σ H ⟨ι, F, ρ, S, r, h⟩ => ?_⟩
  refine tD.bindS (g := fun ρ v S1 => match v with
    | .dat d => (match g d ρ with
      | some ρ' => .nx ρ' S1
      | none => .bad)
    | _ => .bad) r h fun v dv ι1 F1 S1 H1 r1 w1 g1 h1 => ?_
  cases dv with
  | dat d =>
    simp only at h1
    cases q : g d ρ with
    | none => simp only [q] at h1; exact h1.elim
    | some ρ' => simp only [q] at h1; exact i v σ H1 _ ι1 F1 ρ S1 d ρ' r1 w1 q fun σ' r' o => h1 σ' ι1 F1 H1 .refl r'
  | _ => exact h1.elim
/-! ## what is walked -/
def ItOk (K : PySem.W.Frag) (F' : Hp) (ds : List D) (J : It) : Prop := ∃ (G : Hp → Prop) (Y : Nat → Hp → V → Hp → Prop), Walk J ds.length G Y ∧ (∀ ι F1 S1 H1, StR K ι F1 S1 H1 → Same F' F1 → G H1) ∧
  ∀ ι F1 S1 H1 i x H2, StR K ι F1 S1 H1 → Same F' F1 → i < ds.length → Y i H1 x H2 → ∃ F2 d, Grow ι F1 H1 ι F2 H2 ∧ StR K ι F2 S1 H2 ∧ ds[i]? = some d ∧ Wd K F2 x d
def tI (X : Cx) (W : WX) (f : LFn) : TI := fun σ H R => ∃ ι F ρ S, RR X.K ι F ρ S σ H ∧ Post X.K X.mg (fun c d H' => W c d σ H') ι F H (f ρ S) fun ds ι' F' H' => ∀ J, ItOk X.K F' ds J → R J H'
structure DI (X : Cx) (W : WX) (tg e : Expr) (f : LFn) : Prop where
  pi : ∃ t, PI X tg e t ∧ ∀ σ H R, tI X W f σ H R → t σ H R
theorem itOk_list {F1 : Hp} {a : Addr} {vs : List V} {ds : List D} (s : F1 a = some (.lst vs)) (w : WdA K F1 vs ds) : ItOk K F1 ds (Itl K a) := by
  refine ⟨fun H => SqL K H a vs, YAt vs, by rw [← w.length]; exact walk_list, fun ι F2 S2 H2 st sm => .of (st.sub _ _ (sm _ _ s)), fun ι F2 S2 H2 i x H3 st sm hi y => ?_⟩
  obtain ⟨rfl, hx⟩ := y
  obtain ⟨d, h1, h2⟩ := w.get hx
  exact ⟨F2, d, .refl, st, h1, h2.mono sm⟩
theorem itOk_tup {F1 : Hp} {a : Addr} {vs : List V} {ds : List D} (s : SqT K F1 a vs) (w : WdA K F1 vs ds) : ItOk K F1 ds (Itt K a) := by
  refine ⟨fun H => SqT K H a vs, YAt vs, by rw [← w.length]; exact walk_tup, fun ι F2 S2 H2 st sm => zdr st.sub (zdr sm s), fun ι F2 S2 H2 i x H3 st sm hi y => ?_⟩
  obtain ⟨rfl, hx⟩ := y
  obtain ⟨d, h1, h2⟩ := w.get hx
  exact ⟨F2, d, .refl, st, h1, h2.mono sm⟩
def zkn (lo : Int) (n : Nat) : List D := (List.range n).map fun i => .int (lo + (i : Nat))
theorem zp3 {F1 : Hp} {lo : Int} {n : Nat} : ItOk K F1 (zkn lo n) (Itr lo n) := by
  refine ⟨fun _ => True, YFn fun i => .int (lo + i), by rw [show (zkn lo n).length = n by simp [zkn]]; exact walk_range, fun _ _ _ _ _ _ => trivial, fun ι F2 S2 H2 i x H3 st sm hi y => ?_⟩
  obtain ⟨rfl, rfl⟩ := y
  exact ⟨F2, .int (lo + i), .refl, st, by simp [zkn] at hi ⊢; exact ⟨i, by simp [hi], rfl⟩, .int _⟩
def rng1 (ds : List DV) (S : zae) : Res (List D) := match ds with
  | [.dat (.int j)] => if -(2 ^ 62) ≤ j ∧ j < 2 ^ 62 then .ok (zkn 0 j.toNat) S else .bad
  | _ => .bad
def rng2 (ds : List DV) (S : zae) : Res (List D) := match ds with
  | [.dat (.int i), .dat (.int j)] => if -(2 ^ 62) ≤ i ∧ i < 2 ^ 62 ∧ -(2 ^ 62) ≤ j ∧ j < 2 ^ 62 then .ok (zkn i (j - i).toNat) S else .bad
  | _ => .bad
def lRg1 (f : AFn) : LFn := fun ρ S => (f ρ S).bind rng1
def lRg2 (f : AFn) : LFn := fun ρ S => (f ρ S).bind rng2
theorem zdz {tg : Expr} {f : AFn} (h : DA X W [a] f) (hm : X.mg "range" = none) (hg : Gl X "range" := by rfl) (hs : starEach [a] X.env = [(false, eval a X.env)] := by rfl) : DI X W tg (.Call (.Name "range" p) [a] [] pos) (lRg1 f) := by
  refine ⟨_, pi_range1 hg hm h.pa hs, fun σ H R ⟨ι, F, ρ, S, r, h⟩ => ?_⟩
  refine tA.bind (g := fun _ => rng1) r h fun vs ds ι1 F1 S1 H1 r1 w1 g1 h1 => ?_
  unfold rng1 at h1
  split at h1
  · rename_i j
    split at h1
    · rename_i hl
      cases w1 with
      | cons w ws =>
        cases ws
        have w' : Wd X.K F1 _ (.int j) := w
        cases w'
        exact ⟨j, rfl, hl.1, hl.2, h1 ι1 F1 H1 .refl r1.st _ zp3⟩
    · exact h1.elim
  · exact h1.elim
theorem di_range2 {tg : Expr} {f : AFn} (h : DA X W [a, b] f) (hm : X.mg "range" = none) (hg : Gl X "range" := by rfl) (hs : starEach [a, b] X.env = [(false, eval a X.env), (false, eval b X.env)] := by rfl) (hs2 : starEach [b] X.env = [(false, eval b X.env)] := by rfl) : DI X W tg (.Call (.Name "range" p) [a, b] [] pos) (lRg2 f) := by
  refine ⟨_, pi_range2 hg hm h.pa hs hs2, fun σ H R ⟨ι, F, ρ, S, r, h⟩ => ?_⟩
  refine tA.bind (g := fun _ => rng2) r h fun vs ds ι1 F1 S1 H1 r1 w1 g1 h1 => ?_
  unfold rng2 at h1
  split at h1
  · rename_i i j
    split at h1
    · rename_i hl
      cases w1 with
      | cons w ws =>
        cases ws with
        | cons u us =>
          cases us
          have w' : Wd X.K F1 _ (.int i) := w
          have u' : Wd X.K F1 _ (.int j) := u
          cases w'; cases u'
          exact ⟨i, j, rfl, hl, h1 ι1 F1 H1 .refl r1.st _ zp3⟩
    · exact h1.elim
  · exact h1.elim
/-! ## for -/
def zfl (g : GFn) (f : SFn) : List D → za2 → zae → RS
  | [], ρ, S => .nx ρ S
  | d :: ds, ρ, S => match g d ρ with
    | none => .bad
    | some ρ1 => (match f ρ1 S with
      | .nx ρ2 S2 => zfl g f ds ρ2 S2
      | .ct ρ2 S2 => zfl g f ds ρ2 S2
      | .bk ρ2 S2 => .nx ρ2 S2
      | r => r)
def sFor (l : LFn) (g : GFn) (f : SFn) : SFn := fun ρ S => (l ρ S).bindS ρ fun ds S1 => zfl g f ds ρ S1
theorem zgg {iter tg : Expr} {body : List Stmt} {l : LFn} {sl : List Nat} {g : GFn} {f : SFn} (hp : PassesOwn (model X.prog X.w) X.A X.env X.xe) (hc : X.calm = true) (hi : DI X W tg iter l) (hg : DG X tg sl g) (hb : DSs X W body f)
    (hs : ∀ x, foldedSetIterable iter X.env x = pure x := by intro _; rfl) : DS X W (.For tg iter body [] pos) (sFor l g f) := by
  obtain ⟨ti, pi, ki⟩ := hi.pi
  obtain ⟨tg', pg, kg⟩ := hg.pg
  obtain ⟨tb, pb, kb⟩ := hb.ps
  refine ⟨_, ps_for hp hc pi pg pb hs, fun D σ H ⟨ι, F, ρ, S, r, h⟩ => ki _ _ _ ⟨ι, F, ρ, S, r, ?_⟩⟩
  unfold sFor at h
  cases q : l ρ S with
  | bad => rw [q] at h; exact h
  | ex c S1 => rw [q] at h; exact fun C ι' F' H' g st m => h C σ ι' F' H' g (r.slots g st) m
  | ok ds S1 =>
    rw [q] at h
    intro ι1 F1 H1 g1 st1 J ⟨G, Y, w, hG, hY⟩
    refine for_it w (fun i σ' H' => ∃ ι2 F2 ρ2 S2, RR X.K ι2 F2 ρ2 S2 σ' H' ∧ Grow ι1 F1 H1 ι2 F2 H' ∧ PostS X.K X.mg W ι2 F2 H' (zfl g f (ds.drop i) ρ2 S2) D)
      ⟨ι1, F1, ρ, S1, r.slots g1 st1, .refl, PostS.grow (r := zfl g f ds ρ S1) h g1⟩ (fun i σ' H' _ ⟨ι2, F2, ρ2, S2, r2, g2, _⟩ => hG ι2 F2 S2 H' r2.st g2.sf) (fun i x σ' H' H2 hi ⟨ι2, F2, ρ2, S2, r2, g2, h2⟩ y => ?_) (fun σ' H' ⟨ι2, F2, ρ2, S2, r2, g2, h2⟩ => ?_)
    · obtain ⟨F3, d, g3, st3, hd, wd⟩ := hY ι2 F2 S2 H' i x H2 r2.st g2.sf hi y
      have ed : ds.drop i = d :: ds.drop (i + 1) := by
        rw [List.drop_eq_getElem_cons hi]
        obtain ⟨_, h⟩ := List.getElem?_eq_some_iff.mp hd
        rw [h]
      rw [ed] at h2
      simp only [zfl] at h2
      have r3 := r2.slots g3 st3
      cases e1 : g d ρ2 with
      | none => simp only [e1] at h2; exact h2.elim
      | some ρ3 =>
        simp only [e1] at h2
        refine kg x σ' H2 _ ι2 F3 ρ2 S2 d ρ3 r3 wd e1 fun σ3 r3' _ => kb _ _ _ ⟨ι2, F3, ρ3, S2, r3', ?_⟩
        have gg := g2.trans g3
        cases e2 : f ρ3 S2 with
        | nx ρ4 S4 => simp only [e2] at h2; exact fun σ4 ι4 F4 H4 g4 r4 => ⟨ι4, F4, ρ4, S4, r4, gg.trans g4, PostS.grow (r := zfl g f _ ρ4 S4) h2 (g3.trans g4)⟩
        | ct ρ4 S4 => simp only [e2] at h2; exact fun σ4 ι4 F4 H4 g4 r4 => ⟨ι4, F4, ρ4, S4, r4, gg.trans g4, PostS.grow (r := zfl g f _ ρ4 S4) h2 (g3.trans g4)⟩
        | bk ρ4 S4 => simp only [e2] at h2; exact fun σ4 ι4 F4 H4 g4 r4 => h2 σ4 ι4 F4 H4 (g3.trans g4) r4
        | rt dv S4 => simp only [e2] at h2; exact fun v ι4 F4 H4 g4 st4 w4 => h2 v ι4 F4 H4 (g3.trans g4) st4 w4
        | ex c ρ4 S4 => simp only [e2] at h2; exact fun C σ4 ι4 F4 H4 g4 r4 m => h2 C σ4 ι4 F4 H4 (g3.trans g4) r4 m
        | bad => simp only [e2] at h2; exact h2
    · rw [List.drop_length] at h2
      exact h2 σ' ι2 F2 H' .refl r2
/-! ## comprehensions -/
def Res.bindN {α β : Type} (r : Res α) (f : α → zae → Res β) : Res β := match r with
  | .ok a S => f a S
  | _ => .bad
@[simp] theorem Res.bindN_ok {α β : Type} (a : α) (S : zae) (f : α → zae → Res β) : (Res.ok a S).bindN f = f a S := rfl
def lcGo (g : GFn) (t : TFn) (f : XFn) (ρ : za2) : List D → zae → Res (List D)
  | [], S => .ok [] S
  | d :: ds, S => match g d ρ with
    | none => .bad
    | some ρ1 => (t ρ1 S).bindN fun b S1 => if b then (f ρ1 S1).bindN fun y S2 => (match y with
      | .dat z => (lcGo g t f ρ ds S2).bindN fun zs S3 => .ok (z :: zs) S3
      | _ => .bad) else lcGo g t f ρ ds S1
def zpf (ρ : za2) : List Nat → za2
  | [] => ρ
  | v :: vs => (zpf ρ vs).set v none
def lLc (l : LFn) (own : List Nat) (g : GFn) (t : TFn) (f : XFn) : LFn := fun ρ S => (l ρ S).bind fun ds S1 => if ds.length ≤ sizeLine then lcGo g t f (zpf ρ own) ds S1 else .bad
theorem RR.wipe {ρ : za2} {σ : L2.St} (r : RR K ι F ρ S σ H) : ∀ vs : List Nat, RR K ι F (zpf ρ vs) S (L2.wipe σ vs) H
  | [] => r
  | v :: vs => (r.wipe vs).unset v
def zgh : TFn := fun _ S => .ok true S
structure DTs (X : Cx) (W : WX) (ifs : List Expr) (t : TFn) : Prop where
  pt : PTs X ifs (tT X W t)
theorem zdk : DTs X W [] zgh := ⟨⟨fun pins s σ H Q I ⟨ι, F, ρ, S, r, h⟩ => pts_nil.run pins s σ H Q I (h ι F H .refl r.st)⟩⟩
theorem ziy {t : TFn} (h : DT X W c t) : DTs X W [c] t := ⟨pts_one h.pt⟩
abbrev W0 : WX := fun _ _ _ _ => False
theorem bindN_ok {α β : Type} {r : Res α} {f : α → zae → Res β} {E : XK} {Q : β → List Addr → Hp → Hp → Prop} (h : Post K mg E ι F H (r.bindN f) Q) : ∃ a S', r = .ok a S' ∧ Post K mg E ι F H (f a S') Q := by
  cases r with
  | ok a S' => exact ⟨a, S', rfl, h⟩
  | ex c S' => exact h.elim
  | bad => exact h.elim
theorem zq5 {α β : Type} {r : Res α} {f : α → zae → Res β} {b : β} {S' : zae} (h : r.bindN f = .ok b S') : ∃ a S1, r = .ok a S1 ∧ f a S1 = .ok b S' := by
  cases r with
  | ok a S1 => exact ⟨a, S1, rfl, h⟩
  | ex c S1 => cases h
  | bad => cases h
theorem lcGo_ok {g : GFn} {t : TFn} {f : XFn} {ρ : za2} : ∀ {ds : List D} {S : zae} {E : XK} {Q : List D → List Addr → Hp → Hp → Prop}, Post K mg E ι F H (lcGo g t f ρ ds S) Q → ∃ zs S', lcGo g t f ρ ds S = .ok zs S'
  | [], S, E, Q, h => ⟨[], S, rfl⟩
  | d :: ds, S, E, Q, h => by
    cases q : lcGo g t f ρ (d :: ds) S with
    | ok zs S' => exact ⟨zs, S', rfl⟩
    | bad => rw [q] at h; exact h.elim
    | ex c S' =>
      exfalso
      clear h
      simp only [lcGo] at q
      split at q
      · cases q
      · have nex : ∀ {α β : Type} (r : Res α) (k : α → zae → Res β), (∀ a S1 S2, k a S1 ≠ .ex c S2) → ∀ S2, r.bindN k ≠ .ex c S2 := fun r k hk S2 z => by
          cases r with
          | ok a S1 => exact hk a S1 S2 z
          | ex c S1 => cases z
          | bad => cases z
        have rc : ∀ ds S S2, lcGo g t f ρ ds S ≠ .ex c S2 := by
          intro ds
          induction ds with
          | nil => intro S S2 z; cases z
          | cons d ds ih =>
            intro S S2 z
            simp only [lcGo] at z
            split at z
            · cases z
            · refine nex _ _ (fun b S1 S3 => ?_) _ z
              cases b
              · exact ih S1 S3
              · refine nex _ _ (fun y S2 S4 => ?_) S3
                cases y with
                | dat y => exact nex _ _ (fun zs S5 S6 z => by cases z) S4
                | _ => intro z; cases z
        refine nex _ _ (fun b S1 S3 => ?_) _ q
        cases b
        · exact rc ds S1 S3
        · refine nex _ _ (fun y S2 S4 => ?_) S3
          cases y with
          | dat y => exact nex _ _ (fun zs S5 S6 z => by cases z) S4
          | _ => intro z; cases z
end
end DL
set_option maxHeartbeats 4000000
namespace DL
open PySem PySem.Spec PyProof.Rows L2
variable [Mode]
section
variable {X : Cx} {W : WX} {e a b c : Expr} {es : List Expr} {pos p : Pos} {K : PySem.W.Frag} {ι : List Addr} {F H : Hp} {S : zae} {mg : Str → Option Value}
def tG (K : PySem.W.Frag) (sl : List Nat) (g : GFn) : TG := fun v σ H Q => ∃ ι F ρ S d ρ', RR K ι F ρ S σ H ∧ Wd K F v d ∧ g d ρ = some ρ' ∧ ∀ σ', RR K ι F ρ' S σ' H → DL.Only sl σ σ' → Q σ' H
theorem DG.canon {tg : Expr} {sl : List Nat} {g : GFn} (h : DG X tg sl g) : PG X tg (tG X.K sl g) := by
  obtain ⟨t, p, k⟩ := h.pg
  exact ⟨fun pins s σ H v u Q I r ⟨ι, F, ρ, S, d, ρ', r0, w, e, q⟩ => p.run pins s σ H v u Q I r (k v σ H Q ι F ρ S d ρ' r0 w e q)⟩
theorem DI.canon {tg iter : Expr} {l : LFn} (h : DI X W tg iter l) : PI X tg iter (tI X W l) := by
  obtain ⟨t, p, k⟩ := h.pi
  exact ⟨fun pins s σ H R I q => p.run pins s σ H R I (k σ H R q)⟩
theorem lc_ent {own : List (Str × Nat)} {l : LFn} {g : GFn} {t : TFn} {f : XFn} {sl : List Nat} (hsl : ∀ i ∈ sl, i ∈ own.map (·.2)) {σ : L2.St} {H : Hp} {Q : VK} (h : tN X W (lLc l (own.map (·.2)) g t f) σ H Q) :
    tLc (tI X W l) (tG X.K sl g) (tT X W0 t) (tD X W0 f) (own.map (·.2)) σ H Q := by
  obtain ⟨ι, F, ρ, S, r, h⟩ := h
  refine ⟨ι, F, ρ, S, r, ?_⟩
  unfold lLc at h
  cases q : l ρ S with
  | bad => rw [q] at h; exact h
  | ex c S1 => rw [q] at h; exact h
  | ok ds S1 =>
    rw [q] at h
    simp only [Res.bind_ok] at h
    by_cases hl : ds.length ≤ sizeLine
    · simp only [hl, if_true] at h
      intro ι1 F1 H1 g1 st1 J ⟨G, Y, w, hG, hY⟩ D hD
      obtain ⟨zs0, S0, e0⟩ := lcGo_ok h
      rw [e0] at h
      have r1 := r.slots g1 st1
      have hF1 : F1 D = none := by
        cases q : F1 D with
        | none => rfl
        | some o => rw [st1.sub D o q] at hD; cases hD
      have hι1 : D ∉ ι1 := fun m => st1.full D m hD
      refine lc_it w (fun i H2 => ∃ ι2 F2 S2 acc avs zs, RR X.K ι2 F2 (zpf ρ (own.map (·.2))) S2 (L2.wipe σ (own.map (·.2))) H2 ∧ Grow ι1 F1 H1 ι2 F2 H2 ∧ H2 D = some (.lst avs) ∧ F2 D = none ∧ D ∉ ι2 ∧ WdA X.K F2 avs acc ∧ acc.length ≤ i ∧
          lcGo g t f (zpf ρ (own.map (·.2))) (ds.drop i) S2 = .ok zs S0 ∧ acc ++ zs = zs0)
        ⟨ι1, F1, S1, [], [], zs0, (r1.slots (zgt hD _) (st1.alone hD _)).wipe _, zgt hD _, upd_same, hF1, hι1, .nil, Nat.le_refl _, e0, rfl⟩
        (fun i H2 _ ⟨ι2, F2, S2, acc, avs, zs, r2, g2, _⟩ => hG ι2 F2 S2 H2 r2.st g2.sf) (fun i x H2 H3 hi ⟨ι2, F2, S2, acc, avs, zs, r2, g2, hd, hf, hn, wa, hla, el, ea⟩ y => ?_) (fun H2 ⟨ι2, F2, S2, acc, avs, zs, r2, g2, hd, hf, hn, wa, hla, el, ea⟩ => ?_)
      · obtain ⟨F3, d, g3, st3, hdi, wd⟩ := hY ι2 F2 S2 H2 i x H3 r2.st g2.sf hi y
        have ed : ds.drop i = d :: ds.drop (i + 1) := by
          rw [List.drop_eq_getElem_cons hi]
          obtain ⟨_, h⟩ := List.getElem?_eq_some_iff.mp hdi
          rw [h]
        have keepD : ∀ {ι' F' H'} , Grow ι2 F2 H2 ι' F' H' → H' D = some (.lst avs) ∧ F' D = none ∧ D ∉ ι' := fun gg => ⟨gg.keep D _ hd (fun _ z => nomatch z) hn, gg.new D _ hd (fun _ z => nomatch z) (fun _ z => nomatch z) hf hn, fun m => by
          rcases gg.nio D m with z | z
          · exact hn z
          · rw [hd] at z; cases z⟩
        rw [ed] at el
        simp only [lcGo] at el
        have r3 := r2.slots g3 st3
        cases e1 : g d (zpf ρ (own.map (·.2))) with
        | none => simp only [e1] at el; cases el
        | some ρ3 =>
          simp only [e1] at el
          refine ⟨ι2, F3, _, S2, d, ρ3, r3, wd, e1, fun σ3 r3' o3 => ⟨?_, ?_⟩⟩
          · have hw := o3 (own.map (·.2)) hsl
            rw [hw]
            have idem : ∀ vs : List Nat, ∀ σ : L2.St, (∀ i ∈ vs, σ[i]? = none ∨ σ[i]? = some none) → L2.wipe σ vs = σ := by
              intro vs
              induction vs with
              | nil => intro σ _; rfl
              | cons v vs ih =>
                intro σ hv
                show (L2.wipe σ vs).set v none = σ
                rw [ih σ fun i m => hv i (List.mem_cons_of_mem _ m)]
                apply List.ext_getElem?
                intro j
                rw [List.getElem?_set]
                split
                · rename_i e; subst e
                  rcases hv v List.mem_cons_self with z | z
                  · rw [z]; split
                    · rename_i hlt; rw [List.getElem?_eq_none_iff] at z; omega
                    · rfl
                  · rw [z]; split
                    · rfl
                    · rename_i hlt; have := (List.getElem?_eq_some_iff.mp z).1; omega
                · rfl
            refine idem _ _ fun i m => ?_
            cases q : (L2.wipe σ (own.map (·.2)))[i]? with
            | none => exact .inl rfl
            | some o =>
              cases o with
              | none => exact .inr rfl
              | some x => exact absurd m (wipe_some q).2
          · obtain ⟨b, S3, e2, el⟩ := zq5 el
            refine ⟨ι2, F3, ρ3, S2, r3', ?_⟩
            show Post X.K X.mg _ ι2 F3 H3 (t ρ3 S2) _
            rw [e2]
            intro ι4 F4 H4 g4 st4
            have g24 := g3.trans g4
            cases b with
            | false =>
              dsimp only
              rw [if_neg (by simp)]
              obtain ⟨k1, k2, k3⟩ := keepD g24
              exact ⟨ι4, F4, S3, acc, avs, zs, r2.slots g24 st4, g2.trans g24, k1, k2, k3, wa.mono g24.sf, by omega, el, ea⟩
            | true =>
              dsimp only
              rw [if_pos rfl]
              simp only [if_true] at el
              obtain ⟨y, S4, e3, el⟩ := zq5 el
              refine ⟨ι4, F4, ρ3, S3, r3'.slots g4 st4, ?_⟩
              show Post X.K X.mg _ ι4 F4 H4 (f ρ3 S3) _
              rw [e3]
              intro ι5 F5 H5 g5 st5 v wv
              cases y with
              | obj k => cases el
              | scr ns => cases el
              | exn c p => cases el
              | fn _ => cases el
              | spc _ => cases el
              | dat z =>
                simp only at el
                obtain ⟨zs', S5, e4, el⟩ := zq5 el
                cases el
                have g25 := g24.trans g5
                obtain ⟨k1, k2, k3⟩ := keepD g25
                refine ⟨avs, k1, ?_, ι5, F5, S4, acc ++ [z], avs ++ [v], zs', ?_, ?_, upd_same, k2, k3, (wa.mono g25.sf).append (.cons wv .nil), by simp; omega, e4, by rw [← ea]; simp⟩
                · rw [wa.length]; omega
                · have st6 : StR X.K ι5 F5 S4 (upd H5 D (.lst (avs ++ [v]))) := st5.own k1 k2 k3 _
                  exact ⟨st6, r2.len, fun i dv e => let ⟨v, h1, h2⟩ := r2.slot i dv e; ⟨v, h1, h2.grow g25⟩⟩
                · have g := g2.trans g25
                  exact ⟨g.pre, g.sf, fun b o e t2 n => by
                    rw [upd_ne (fun z => by rw [z, hD] at e; cases e)]; exact g.keep b o e t2 n, g.new, g.nio, fun b e => g.dom b (zdn e)⟩
      · rw [List.drop_length] at el
        cases el
        rw [List.append_nil] at ea
        subst ea
        exact h ι2 F2 H2 (g1.trans g2) r2.st D avs (g1.dom D hD) hd hf hn wa
    · simp only [hl, if_false] at h; exact h.elim
theorem zg7 {elt tg iter : Expr} {ifs : List Expr} {scope : Scope} {own : List (Str × Nat)} {l : LFn} {g : GFn} {t : TFn} {f : XFn} {sl : List Nat} (hc : X.calm = true) (hN : X.N.Nodup) (hi : DI X W tg iter l) (ok : BlkOk X.N X.env.scope scope own)
    (hg : ∀ (s : Shared) (H : Hp) (C : Addr) (cl : List (Str × Addr)) (fp : List Addr), DG (X.blk s H scope (compEnvC scope cl C X.env) fp) tg sl g)
    (ht : ∀ (s : Shared) (H : Hp) (C : Addr) (cl : List (Str × Addr)) (fp : List Addr), DTs (X.blk s H scope (compEnvC scope cl C X.env) fp) W0 ifs t)
    (he : ∀ (s : Shared) (H : Hp) (C : Addr) (cl : List (Str × Addr)) (fp : List Addr), DE (X.blk s H scope (compEnvC scope cl C X.env) fp) W0 elt f)
    (hsl : ∀ i ∈ sl, i ∈ own.map (·.2) := by decide) (hs : ∀ x, foldedSetIterable iter X.env x = pure x := by intro _; rfl) :
    NE X W (.ListComp elt [⟨tg, iter, ifs, 0⟩] scope pos) (lLc l (own.map (·.2)) g t f) :=
  ⟨PE.weak (pe_lc (g := tG X.K sl g) (tt := tT X W0 t) (te := tD X W0 f) hc hN hi.canon ok (fun s H C cl fp => (hg s H C cl fp).canon) (fun s H C cl fp => (ht s H C cl fp).pt) (fun s H C cl fp => (he s H C cl fp).pe) hs) fun σ H Q h => lc_ent hsl h⟩
theorem zj5 {i : Nat} {y : Str} {py spos : Pos} {elt tg iter : Expr} {ifs : List Expr} {scope : Scope} {own : List (Str × Nat)} {l : LFn} {g : GFn} {t : TFn} {f : XFn} {sl : List Nat} (hc : X.calm = true) (hN : X.N.Nodup)
    (hi : DI X W tg iter l) (ok : BlkOk X.N X.env.scope scope own)
    (hg : ∀ (s : Shared) (H : Hp) (C : Addr) (cl : List (Str × Addr)) (fp : List Addr), DG (X.blk s H scope (compEnvC scope cl C X.env) fp) tg sl g)
    (ht : ∀ (s : Shared) (H : Hp) (C : Addr) (cl : List (Str × Addr)) (fp : List Addr), DTs (X.blk s H scope (compEnvC scope cl C X.env) fp) W0 ifs t)
    (he : ∀ (s : Shared) (H : Hp) (C : Addr) (cl : List (Str × Addr)) (fp : List Addr), DE (X.blk s H scope (compEnvC scope cl C X.env) fp) W0 elt f)
    (hsl : ∀ i ∈ sl, i ∈ own.map (·.2) := by decide) (hy : X.N[i]? = some y := by rfl) (hyl : X.env.scope.names.lookup y = some .local := by rfl)
    (hsw : swapsWith (.ListComp elt [⟨tg, iter, ifs, 0⟩] scope pos) (some (.Name y py)) spos.line X.env = pure true := by exact sw_true rfl rfl rfl (by decide +kernel)) (hs : ∀ x, foldedSetIterable iter X.env x = pure x := by intro _; rfl) :
    DS X W (.Assign [.Name y py] (.ListComp elt [⟨tg, iter, ifs, 0⟩] scope pos) spos) (sSet i (xN1 (lLc l (own.map (·.2)) g t f))) :=
  ⟨_, ps_setLc (g := tG X.K sl g) (tt := tT X W0 t) (te := tD X W0 f) hc hN hy hyl hsw hi.canon ok (fun s H C cl fp => (hg s H C cl fp).canon) (fun s H C cl fp => (ht s H C cl fp).pt) (fun s H C cl fp => (he s H C cl fp).pe) hs, fun D σ H h => lc_ent hsl h.set.toN⟩
end
end DL
set_option maxHeartbeats 4000000
namespace DL
open PySem PySem.Spec PyProof.Rows L2
variable [Mode]
/-! ## defs: what they promise where nothing is being printed around them -/
structure RoomH (k : Nat) (A : Around) : Prop where
  dp : A.depth + 3 * k + 5 < recursionLimit
  un : A.units + 16 * k + 200 < cLine
theorem RoomH.of {k : Nat} {A : Around} (r : Room k A) : RoomH k A := ⟨r.dp, r.un⟩
theorem RoomH.mono {j k : Nat} {A : Around} (r : RoomH k A) (h : j ≤ k) : RoomH j A := ⟨by have := r.dp; omega, by have := r.un; omega⟩
theorem RoomH.deeper {k : Nat} {A : Around} (r : RoomH (k + 1) A) (env : Env) : RoomH k (A.deeper env) :=
  ⟨by have := r.dp; show A.depth + 1 + 3 * k + 5 < _; omega, by have := r.un; show A.units + 3 + 16 * k + 200 < _; omega⟩
theorem RoomH.depth {k : Nat} {A : Around} (r : RoomH k A) : A.depth < recursionLimit := by have := r.dp; omega
structure FnQ (q : Bool) (P : Program) (w : World) (K : PySem.W.Frag) (mg : Str → Option Value) (base : Heap) (k : Nat) (f : Addr) (fd : FuncData) (ps : List Str) (sp : Sp) : Prop where
  len : ∀ vs H Q E, sp vs H Q E → vs.length = ps.length
  run : ∀ (A : Around) (outer : List Env) (s : Shared) (H : Hp) (args : Args) (us : List Value) (vs : List V) (Q : VK) (E : XK), RoomH k A → (q = true → A.handled = none) → A.guards = some [] → Env0 P w K mg base A outer s H → BindsTo s fd args (ps.zip us) → Vals vs us → sp vs H Q E →
    codeAny (model P w) A (.call (.ref f) args) (CR (L2.CX P w) outer P w H s Q E) s
abbrev FnG := FnQ true
theorem RoomH.make {k : Nat} {A : Around} (r : RoomH (k + 1) A) (C : Addr) (us : List Value) (kw : List (Str × Value)) : RoomH k (A.under (.builtin "type.__call__" ⟨.ref C :: us, kw⟩)) :=
  ⟨by have := r.dp; rw [make_depth]; omega, by have := r.un; rw [make_units]; omega⟩
def cxQ (q : Bool) (P : Program) (w : World) (K : PySem.W.Frag) (mg : Str → Option Value) (base : Heap) (N : List Str) (qual : Str) (scope : Scope) (f : Addr) (cd : Value) (A : Around) (outer : List Env) (s : Shared) (H : Hp) (E : XK) : Cx :=
  { cxOf (L2.CX P w) P w K mg base N qual scope f cd A outer s H E with calm := q }
theorem inv_startQ {q : Bool} {P : Program} {w : World} {K : PySem.W.Frag} {mg : Str → Option Value} {base : Heap} {N ps : List Str} {qual : Str} {scope : Scope} {f : Addr} {cd : Value} {A : Around} {outer : List Env} {s s1 : Shared} {H : Hp} {E : XK} {us : List Value} {vs : List V}
    (S : FnScope N ps scope) (hd : q = true → A.handled = none) (e0 : Env0 P w K mg base A outer s H) (hl : vs.length = ps.length) (r : Vals vs us)
    (x : InCallC s s.heap.objs.size (bindL (envOfC qual scope s.heap.objs.size f cd).kindOf (ps.zip us) fun _ => none) (cellsFrom (s.heap.objs.size + 1) scope.names []) (bindC (envOfC qual scope s.heap.objs.size f cd).kindOf (ps.zip us) fun _ => none) s1) :
    Inv (cxQ q P w K mg base N qual scope f cd A outer s H E) [] (start N vs) H s1 := by
  have I := inv_start (CX := L2.CX P w) (A := { A with handled := none }) (E := E) (cd := cd) S rfl (⟨e0.frames, e0.mod, e0.bs, e0.bsz, e0.funs, e0.frf, e0.hok, e0.bare⟩ : Env0 P w K mg base { A with handled := none } outer s H) hl r x
  have o := I.ok
  exact ⟨⟨o.mod, o.kind, o.glob, o.blt, o.above, o.inj, o.has, o.cab, hd, Around.frames_deeper e0.frames, o.stk, o.exf, o.bs, o.bsz, o.noex, o.exfs, o.funs, o.frf⟩, I.os, I.bare, I.base, I.loc, I.cell, I.free, I.freeC, I.pin, I.hok, I.len⟩
section
variable {P : Program} {w : World} {K : PySem.W.Frag} {mg : Str → Option Value} {base : Heap}
theorem FnQ.mono {q : Bool} {j k : Nat} {f : Addr} {fd : FuncData} {ps : List Str} {sp : Sp} (F : FnQ q P w K mg base j f fd ps sp) (h : j ≤ k) : FnQ q P w K mg base k f fd ps sp :=
  ⟨F.len, fun A outer s H args us vs Q E hr => F.run A outer s H args us vs Q E (hr.mono h)⟩
theorem fnQ_of {q : Bool} {k : Nat} {f : Addr} {fd : FuncData} {x qual : Str} {params : Arguments} {body : List Stmt} {scope : Scope} {N ps : List Str} {sp : Sp} (F : FunD K x qual params body scope [] [] f fd) (Sc : FnScope N ps scope)
    (len : ∀ vs H Q E, sp vs H Q E → vs.length = ps.length)
    (hbody : ∀ (cdv : Value) (A : Around) (outer : List Env) (s : Shared) (H : Hp) (vs : List V) (Q : VK) (E : XK), RoomH k (A.deeper (envOfC qual scope s.heap.objs.size f cdv)) → A.guards = some [] → sp vs H Q E →
      ∃ t, PSs (cxQ q P w K mg base N qual scope f cdv A outer s H E) body t ∧ t { nx := fun _ H' => Q .non H', rt := Q } (start N vs) H)   : FnQ q P w K mg base (k + 1) f fd ps sp := by
  obtain ⟨oc, od, dV, kV, doc, pm, an, cdv, ct, osl, hfd, look, code, _, _⟩ := F.ex
  subst hfd
  constructor
  · exact len
  intro A outer s H args us vs Q E room hnd gd env0 bind rel hsp
  have hlen := len vs H Q E hsp
  have stays : ∀ b o, base.get? b = some o → s.heap.get? b = some o := fun b o e => (env0.bs b o e).1
  have KX : K.In s.heap := env0.mod.kin.keeps stays
  have NL : s.heap.NoLimit := env0.mod.nolimit.keeps stays
  have kinds : ∀ y ∈ ps.zip us, scope.names.lookup y.1 = some .local ∨ (scope.names.lookup y.1 = some .cell ∧ ((cellsFrom (s.heap.objs.size + 1) scope.names []).lookup y.1).isSome = true) := by
    rintro ⟨n, v⟩ hy
    have hn := (List.of_mem_zip hy).1
    cases Sc.par n hn with
    | inl q => exact Or.inl q
    | inr q => exact Or.inr ⟨q, PySem.W.cellsFrom_some _ _ _ (Or.inl q)⟩
  apply codeAny_call_function room.depth (KX _ _ look) rfl Sc.co Sc.gen rfl (PySem.W.codeRec_of KX code)
  apply bind
  refine wpAny_newFunctionEnv_cells Sc.kind kinds ?_
  intro env he s1 ic
  subst he
  refine ⟨NL.keeps ic.toInCall.keep, codeAny_func ?_⟩
  obtain ⟨t, ht, hq⟩ := hbody cdv A outer s H vs Q E (room.deeper _) gd hsp
  have I := inv_startQ (q := q) (P := P) (w := w) (mg := mg) (base := base) (E := E) Sc hnd env0 hlen rel ic
  refine wpAny_mono (ht.run [] s1 (start N vs) H _ I hq) ?_ (fun _ _ z => z)
  intro fl s' h
  cases fl with
  | ret u =>
    obtain ⟨v, σ', H', J, rv, q⟩ := h
    exact ⟨v, H', J.os, J.bare, J.base, J.hok, rv, q⟩
  | next =>
    obtain ⟨σ', H', J, q⟩ := h
    exact ⟨.non, H', J.os, J.bare, J.base, J.hok, rfl, q⟩
  | brk => exact h.elim fun _ z => z.elim fun _ z => z.2.elim
  | cont => exact h.elim fun _ z => z.elim fun _ z => z.2.elim
end
/-! ## defs over data -/
abbrev Fn := List DV → zae → Res DV
def spD (K : PySem.W.Frag) (mg : Str → Option Value) (n : Nat) (g : Fn) : Sp := fun vs H Q E => vs.length = n ∧ ∃ ι F S ds, StR K ι F S H ∧ WVs K ι F vs ds ∧ Post K mg E ι F H (g ds S) fun dv ι' F' H' => ∀ v, WV K ι' F' v dv → Q v H'
def zn_ (n : Nat) : DV → zae → Res DV
  | .dat d, S => .ok (.dat d) (S.take n)
  | .obj k, S => if k < n then .ok (.obj k) (S.take n) else match S[k]? with
    | some (some ds) => .ok (.obj n) (S.take n ++ [some ds])
    | _ => .bad
  | .scr _, _ => .bad
  | .exn c p, S => .ok (.exn c p) (S.take n)
  | .fn _, _ => .bad
  | .spc _, _ => .bad
def ends (n : Nat) : RS → Res DV
  | .nx _ S => .ok (.dat .non) (S.take n)
  | .rt v S => zn_ n v S
  | .ex c _ S => .ex c (S.take n)
  | _ => .bad
def zbl (N : Nat) (f : SFn) : Fn := fun ds S => ends S.length (f (ds.map some ++ List.replicate (N - ds.length) none) S)
section
variable {X : Cx} {W : WX} {e a b c : Expr} {es : List Expr} {pos p : Pos} {K : PySem.W.Frag} {ι : List Addr} {F H : Hp} {S : zae} {mg : Str → Option Value}
theorem StR.cut {ι0 ι' : List Addr} {F' H' : Hp} {S' : zae} {n : Nat} (st : StR K ι' F' S' H') (hp : ι0 <+: ι') (hn : ι0.length = n) (pm : Mode.plain = true) : StR K ι0 F' (S'.take n) H' := by
  have e : List.take n ι' = ι0 := by
    obtain ⟨t, rfl⟩ := hp
    rw [← hn]; simp
  have hl : n ≤ S'.length := by rw [← st.len, ← hn]; exact hp.length_le
  refine ⟨st.sub, by rw [hn]; simp [hl], fun _ => hp.sublist.nodup (st.nd pm), fun b hb => st.full b (hp.sublist.subset hb), fun k ds e2 fi => ?_, fun k ds e2 nf => ?_, st.tb, st.tf, fun k ds e2 nf => ?_⟩
  rotate_left 2
  · refine absurd (IsFst.nd (hp.sublist.nodup (st.nd pm)) ?_) nf
    have := (List.getElem?_eq_some_iff.mp e2).1
    rw [List.length_take] at this
    omega
  · rw [List.getElem?_take] at e2
    split at e2
    · rename_i hk
      obtain ⟨a, vs, h1, h2, h3, h4⟩ := st.cell k ds e2 ((IsFst.pre hp (by omega)).mpr fi)
      refine ⟨a, vs, ?_, h2, h3, h4⟩
      rw [← e, List.getElem?_take, if_pos hk]; exact h1
    · cases e2
  · refine absurd (IsFst.nd (hp.sublist.nodup (st.nd pm)) ?_) nf
    have := (List.getElem?_eq_some_iff.mp e2).1
    rw [List.length_take] at this
    omega
theorem Grow.cut {ι' : List Addr} {F' H' : Hp} (g : Grow ι F H ι' F' H') : Grow ι F H ι F' H' := ⟨List.prefix_rfl, g.sf, g.keep, g.new, fun b h => .inl h, g.dom⟩
theorem rr_start {vs : List V} {ds : List DV} {n : Nat} {N : List Str} (st : StR K ι F S H) (w : WVs K ι F vs ds) (hN : N.length = n) : RR K ι F (ds.map some ++ List.replicate (n - ds.length) none) S (start N vs) H := by
  refine ⟨st, by unfold L2.start; rw [hN]; simp [w.length], fun i dv e => ?_⟩
  have hi : i < ds.length := by
    by_cases h : i < ds.length
    · exact h
    · rw [List.getElem?_append_right (by simp; omega)] at e
      have := (List.getElem?_eq_some_iff.mp e)
      obtain ⟨_, h2⟩ := this
      simp at h2
  rw [List.getElem?_append_left (by simpa using hi)] at e
  simp at e
  have get : ∀ {vs : List V} {ds : List DV}, WVs K ι F vs ds → ∀ (i : Nat) (dv : DV), ds[i]? = some dv → ∃ v, vs[i]? = some v ∧ WV K ι F v dv := by
    intro vs ds w
    induction w with
    | nil => intro i dv e; simp at e
    | cons a _ ih =>
      intro i dv e
      cases i with
      | zero => simp at e; subst e; exact ⟨_, rfl, a⟩
      | succ i => simpa using ih i dv (by simpa using e)
  obtain ⟨v, h1, h2⟩ := get w i dv e
  refine ⟨v, ?_, h2⟩
  unfold L2.start
  rw [List.getElem?_append_left (by rw [List.length_map, w.length]; exact hi)]
  simp [h1]
theorem fn_D {q : Bool} {P : Program} {w : World} {base : Heap} {k n m : Nat} {f : Addr} {fd : FuncData} {x qual : Str} {params : Arguments} {body : List Stmt} {scope : Scope} {N ps : List Str} {g : SFn} (Fd : FunD K x qual params body scope [] [] f fd) (Sc : FnScope N ps scope)
    (hn : ps.length = n) (hm : N.length = m)
    (hbody : ∀ (cdv : Value) (A : Around) (outer : List Env) (s : Shared) (H : Hp) (E : XK), RoomH k (A.deeper (envOfC qual scope s.heap.objs.size f cdv)) → A.guards = some [] →
      DSs (cxQ q P w K mg base N qual scope f cdv A outer s H E) (fun cls d _ H => E cls d H) body g) (pm : Mode.plain = true := by rfl) : FnQ q P w K mg base (k + 1) f fd ps (spD K mg n (zbl m g)) := by
  refine fnQ_of Fd Sc (fun vs H Q E h => by rw [h.1, hn]) fun cdv A outer s H vs Q E hr hG h => ?_
  obtain ⟨t, pt, kt⟩ := (hbody cdv A outer s H E hr hG).ps
  refine ⟨t, pt, kt _ _ _ ?_⟩
  obtain ⟨hl, ι, F, S, ds, st, ws, po⟩ := h
  refine ⟨ι, F, _, S, rr_start st ws hm, ?_⟩
  show PostS K mg _ ι F H _ _
  unfold zbl at po
  cases qq : g (ds.map some ++ List.replicate (m - ds.length) none) S with
  | nx ρ' S' =>
    rw [qq] at po
    exact fun σ' ι' F' H' gr r => po ι F' H' gr.cut (r.st.cut gr.pre st.len pm) _ .non
  | rt dv S' =>
    rw [qq] at po
    intro v ι' F' H' gr st' wv
    cases dv with
    | dat d => exact po ι F' H' gr.cut (st'.cut gr.pre st.len pm) v wv
    | scr ns => exact po.elim
    | exn c p => exact po ι F' H' gr.cut (st'.cut gr.pre st.len pm) v wv
    | fn _ => exact po.elim
    | spc _ => exact po.elim
    | obj j =>
      simp only [ends, zn_] at po
      obtain ⟨a, h1, h2, h0⟩ := wv
      split at po
      · rename_i hj
        refine po ι F' H' gr.cut (st'.cut gr.pre st.len pm) v ⟨a, ?_, h2, (IsFst.pre gr.pre (by rw [st.len]; exact hj)).mp h0⟩
        obtain ⟨t, rfl⟩ := gr.pre
        rw [List.getElem?_append_left (by rw [st.len]; exact hj)] at h1; exact h1
      · rename_i hj
        split at po
        · rename_i es ej
          obtain ⟨a', vs', h3, h4, h5, h6⟩ := st'.cell j es ej h0
          rw [h1] at h3; cases h3
          have na : a ∉ ι := fun m => by
            obtain ⟨i, hi, e⟩ := List.mem_iff_getElem.mp m
            obtain ⟨t, rfl⟩ := gr.pre
            have e1 : (ι ++ t)[i]? = some a := by rw [List.getElem?_append_left hi, List.getElem?_eq_getElem hi, e]
            obtain ⟨i1, g1⟩ := List.getElem?_eq_some_iff.mp e1
            obtain ⟨i2, g2⟩ := List.getElem?_eq_some_iff.mp h1
            have : i = j := (List.getElem_inj (st'.nd pm)).mp (by rw [g1, g2])
            rw [st.len] at hi; omega
          have ha : H a = none := (gr.nio a (List.mem_of_getElem? h1)).resolve_left na
          exact po (ι ++ [a]) F' H' (zi3 gr.cut ha) ((st'.cut gr.pre st.len pm).add h4 h5 na h6) v ⟨a, by rw [← st.len]; simp, h2, by rw [← st.len]; exact IsFst.new na⟩
        · exact po.elim
  | ex c ρ' S' =>
    rw [qq] at po
    exact fun C σ' ι' F' H' gr r mc => po C ι F' H' gr.cut (r.st.cut gr.pre st.len pm) mc
  | bk ρ' S' => rw [qq] at po; exact po.elim
  | ct ρ' S' => rw [qq] at po; exact po.elim
  | bad => rw [qq] at po; exact po
structure DefQ (q : Bool) (P : Program) (w : World) (K : PySem.W.Frag) (mg : Str → Option Value) (base : Heap) (k : Nat) (x : Str) (n : Nat) (g : Fn) : Prop where
  ex : ∃ f fd ps, FnQ q P w K mg base k f fd ps (spD K mg n g) ∧ mg x = some (.ref f) ∧ PySem.W.keepIn K (.ref f) = true ∧ Binds K fd ps []
abbrev Def := DefQ true
theorem zaj {k n : Nat} {x : Str} {g : Fn} {fa : AFn} (F : DefQ X.calm X.prog X.w X.K X.mg X.base k x n g) (hr : RoomH k X.A) (hG : X.A.guards = some []) (tk : Takes X W) (ha : DA X W (e :: es) fa) (hn : (e :: es).length = n := by rfl) (hg : Gl X x := by rfl)
    (hdb : (x == ("__debug__" : Str)) = false := by decide) (he : starEach (e :: es) X.env = (false, eval e X.env) :: starEach es X.env := by rfl) (hpl : (backTo pos (starEach es X.env)).any (·.1) = false := by rfl)
    (hlen : ∀ ρ S ds S', fa ρ S = .ok ds S' → ds.length = n) : DE X W (.Call (.Name x p) (e :: es) [] pos) (xN g fa) := by
  obtain ⟨f, fd, ps, Fg, hm, hk, hb⟩ := F.ex
  refine ⟨⟨fun pins s σ H Q I h => ?_⟩⟩
  obtain ⟨ι, F, ρ, S, r, h⟩ := h
  apply wpAny_Call_Name_kw (ld_glob I hg hm ?_ hdb)
  refine PySem.W.callWith_K (h₀ := X.base) I.ok.mod.kin hk ?_ he hpl
  have hta : tA X W fa σ H (fun vs H1 => spD X.K X.mg n g vs H1 Q (fun c d H' => W c d σ H')) := by
    refine ⟨ι, F, ρ, S, r, ?_⟩
    unfold xN at h
    cases q : fa ρ S with
    | bad => rw [q] at h; exact h
    | ex c S1 => rw [q] at h; exact h
    | ok ds S1 =>
      rw [q] at h
      intro ι1 F1 H1 g1 st1 vs wv
      exact ⟨by rw [wv.length]; exact hlen _ _ _ _ q, ι1, F1, S1, ds, st1, wv, Post.grow (r := g ds S1) h g1⟩
  refine thn (ha.pa.run pos pins s σ H _ I hta) ?_
  rintro us s1 ⟨vs, H1, I1, rel, hsp⟩
  refine ⟨I1.kIn, ?_⟩
  have hl : us.length = ps.length := by rw [← rel.length]; exact Fg.len _ _ _ _ hsp
  have bd := hb s1 us I1.kIn (by simpa using hl)
  rw [List.append_nil] at bd
  apply wpAny_call
  refine codeAny_mono (Fg.run X.A X.stack s1 H1 ⟨us, []⟩ us vs Q _ hr I1.ok.hd hG I1.env0 bd rel hsp) ?_
  intro res s2 hq
  cases res with
  | error err => exact L2.passAt tk σ pins H1 s1 err s2 I1 hq
  | ok fl =>
    cases fl with
    | ret u => exact I1.after hq
    | next => exact hq.elim
    | brk => exact hq.elim
    | cont => exact hq.elim
end
end DL
set_option maxHeartbeats 4000000
namespace DL
open PySem PySem.Spec PyProof.Rows L2
variable [Mode]
section
variable {X : Cx} {W : WX} {e a b c : Expr} {es : List Expr} {pos p : Pos} {K : PySem.W.Frag} {ι : List Addr} {F H : Hp} {S : zae} {mg : Str → Option Value}
/-! ## raise X("..") -/
def zo0 (c : Str) : SFn := fun ρ S => .ex c ρ S
structure ExcD (K : PySem.W.Frag) (mg : Str → Option Value) (x : Str) : Prop where
  ex : ∃ C, mg x = some (.ref C) ∧ PySem.W.excIn K C He.veBase "ValueError.__new__" = true ∧ PySem.W.keepIn K (.ref C) = true ∧ PySem.W.subIn K (.ref C) (.type "BaseException") = some true ∧ PySem.W.typeIn K (.ref C) = some (.type "type")
theorem zk3 {x m : Str} {j : Nat} {p2 p3 : Pos} (hc : X.calm = true) (tk : Takes X W) (h : ExcD X.K X.mg x) (hg : Gl X x := by rfl) (hdb : (x == ("__debug__" : Str)) = false := by decide) :
    DS X W (.Raise (some (.Call (.Name x p) [.Constant (.str m) j p2] [] p3)) none pos) (zo0 x) := by
  obtain ⟨C, h1, h2, h3, h4, h5⟩ := h.ex
  refine ⟨_, ps_raise hc tk (pmk_own PySem.F.excBase_ValueError h2 h1 h3 (raises_own h4 h5) hg hdb), fun D σ H ⟨ι, F, ρ, S, r, h⟩ => ?_⟩
  exact h (C, none) σ ι F H .refl r ⟨h1, rfl⟩
/-! ## isinstance of data -/
def tyName : D → String
  | .non => "NoneType" | .bl _ => "bool" | .int _ => "int" | .str _ => "str" | .lst _ => "list" | .tup _ => "tuple" | .cas _ => "Case" | .dct _ => "dict" | .ptr _ => "dict"
def isiN (n T : String) : Bool := n == T || (T == "int" && n == "bool")
def isiB (T : String) (d : D) : Bool := isiN (tyName d) T
theorem isi_all : (["NoneType", "bool", "int", "str", "list", "tuple", "dict"].all fun n => ["int", "bool", "tuple", "list", "str"].all fun T => decide (kitB n T = some (isiN n T))) = true := by decide +kernel
def D.isC : D → Bool | .cas _ => true | _ => false
def tyD (K : PySem.W.Frag) (d : D) : Value := bif d.isC then .ref (He.ga K "Case") else .type (tyName d)
theorem tyName_mem (d : D) (h : d.isC = false) : tyName d ∈ ["NoneType", "bool", "int", "str", "list", "tuple", "dict"] := by cases d <;> first | (cases h; done) | simp [tyName]
def oIsi (T : String) (x : DV) (S : zae) : Res DV := match rd S x with
  | some d => .ok (.dat (.bl (isiB T d))) S
  | none => .bad
def xIsi (T : String) (f : XFn) : XFn := fun ρ S => (f ρ S).bind (oIsi T)
theorem Vw.ty {v : V} {d : D} (s : Same F H) (h : Vw K F H v d) : TyX K H v (tyD K d) := by
  cases h with
  | non => exact .base .non
  | bl b => exact .base (.bl b)
  | int i => exact .base (.int i)
  | str x => exact .base (.str x)
  | lst q w => exact .base (.lst q)
  | tup q w =>
    rcases q with (q | ⟨o, q⟩) | ⟨o, its, n, h1, h2, _⟩
    · exact .base (.tup (s _ _ q))
    · exact .fTuple (s _ _ q)
    · exact .kTuple h1 h2
  | cas h =>
    obtain ⟨dx, ca, la, fa, fs, cv, lo, fo, h1, _⟩ := h.of
    exact .base (.ins (s _ _ h1) h.kit.cl h.kit.ha h.kit.hn h.kit.htk h.kit.hm)
  | dct h => exact .fDict (s _ _ h)
theorem isi_kit (T : String) (hT : T ∈ ["int", "bool", "tuple", "list", "str"]) (d : D) (h : d.isC = false) : kitB (tyName d) T = some (isiB T d) := by
  exact of_decide_eq_true (List.all_eq_true.mp (List.all_eq_true.mp isi_all _ (tyName_mem d h)) T hT)
theorem isi_ty (T : String) (hT : T ∈ ["int", "bool", "tuple", "list", "str"]) {v : V} {d : D} (w : Vw K F H v d) : PySem.W.kitOne K (tyD K d) (.type T) = some (isiB T d) := by
  cases d with
  | cas c =>
    cases w with
    | cas h =>
      show PySem.W.kitOne K (.ref (He.ga K "Case")) (.type T) = some (isiB T (.cas c))
      rw [h.kit.kit T hT]
      simp only [List.mem_cons, List.not_mem_nil, or_false] at hT
      rcases hT with rfl | rfl | rfl | rfl | rfl <;> rfl
  | _ => exact kit_ty (isi_kit T hT _ rfl)
theorem zjf {f : XFn} {T : Str} {n : String} {p2 p3 : Pos} (h : DE X W a f) (hm : X.mg "isinstance" = none) (hmT : X.mg T = none) (hv : bootBuiltins T = some (.type n)) (hT : n ∈ ["int", "bool", "tuple", "list", "str"] := by decide) (hg : Gl X "isinstance" := by rfl) (hgT : Gl X T := by rfl) (hn : T ≠ "__name__" := by decide) (hdb : (T == ("__debug__" : Str)) = false := by decide)
    (he : starEach (a :: [.Name T p3]) X.env = (false, eval a X.env) :: starEach [.Name T p3] X.env := by rfl) (he2 : starEach (.Name T p3 :: []) X.env = (false, eval (.Name T p3) X.env) :: starEach [] X.env := by rfl) (hpl : (backTo pos (starEach [.Name T p3] X.env)).any (·.1) = false := by rfl) :
    DE X W (.Call (.Name "isinstance" p2) [a, .Name T p3] [] pos) (xIsi n f) := by
  refine ⟨PE.weak (pe_callB call_isi hg hm (by decide +kernel) (pa_cons h.pe (pa_cons (pe_bltn (v := .ty n) hgT hmT hv rfl hn hdb) pa_nil he2) he) (by decide) (by decide) he hpl) fun σ H Q ⟨ι, F, ρ, S, r, h⟩ => ?_⟩
  refine tD.bind (g := fun _ => oIsi n) r h fun v dv ι1 F1 S1 H1 r1 w1 g1 h1 => ?_
  unfold oIsi at h1
  cases ed : rd S1 dv with
  | none => simp only [ed] at h1; exact h1.elim
  | some d =>
    simp only [ed] at h1
    exact ⟨_, _, _, _, _, rfl, .ty n, (r1.st.vw w1 ed).ty r1.st.sub, isi_ty n hT (r1.st.vw w1 ed), h1 ι1 F1 H1 .refl r1.st _ (.bl _)⟩
/-! ## *x in a display -/
def zpd (f : XFn) (g : AFn) : AFn := fun ρ S => (f ρ S).bind fun x S1 => match rd S1 x with
  | some (.lst xs) => (g ρ S1).bind fun ds S2 => .ok (xs.map .dat ++ ds) S2
  | some (.tup xs) => (g ρ S1).bind fun ds S2 => .ok (xs.map .dat ++ ds) S2
  | _ => .bad
theorem WVs.of_wda {vs : List V} {ds : List D} (w : WdA K F vs ds) : WVs K ι F vs (ds.map .dat) := by
  induction ds generalizing vs with
  | nil => cases w; exact .nil
  | cons d ds ih =>
    cases w with
    | cons a b => exact .cons a (ih b)
theorem WVs.append {vs us : List V} {ds es : List DV} (h : WVs K ι F vs ds) (g : WVs K ι F us es) : WVs K ι F (vs ++ us) (ds ++ es) := by
  induction h with
  | nil => exact g
  | cons a _ ih => exact .cons a ih
theorem zos {f : XFn} {g : AFn} {p2 : Pos} (he : DE X W e f) (hs : DA X W es g) (hse : starEach (.Starred e p2 :: es) X.env = (true, eval e X.env) :: starEach es X.env := by rfl) : DA X W (.Starred e p2 :: es) (zpd f g) := by
  refine ⟨PA.weak (StX.pa_star he.pe hs.pa hse) fun σ H Q ⟨ι, F, ρ, S, r, h⟩ => ?_⟩
  refine tD.bind (g := fun ρ x S1 => match rd S1 x with
    | some (.lst xs) => (g ρ S1).bind fun ds S2 => .ok (xs.map .dat ++ ds) S2
    | some (.tup xs) => (g ρ S1).bind fun ds S2 => .ok (xs.map .dat ++ ds) S2
    | _ => .bad) r h fun v dv ι1 F1 S1 H1 r1 w1 g1 h1 => ?_
  cases ed : rd S1 dv with
  | none => simp only [ed] at h1; exact h1.elim
  | some d =>
    simp only [ed] at h1
    have vw := r1.st.vw w1 ed
    cases vw with
    | lst s w =>
      refine ⟨_, _, rfl, .inr (.of s), ?_⟩
      refine tA.bind (g := fun ρ ds S2 => .ok (_ ++ ds) S2) r1 h1 fun vs ds ι2 F2 S2 H2 r2 w2 g2 h2 => ?_
      exact h2 ι2 F2 H2 .refl r2.st _ ((WVs.of_wda (w.mono g2.sf)).append w2)
    | tup s w =>
      refine ⟨_, _, rfl, .inl (zdr r1.st.sub s), ?_⟩
      refine tA.bind (g := fun ρ ds S2 => .ok (_ ++ ds) S2) r1 h1 fun vs ds ι2 F2 S2 H2 r2 w2 g2 h2 => ?_
      exact h2 ι2 F2 H2 .refl r2.st _ ((WVs.of_wda (w.mono g2.sf)).append w2)
    | _ => exact h1.elim
/-! ## repr -/
def zoi (d : D) : Bool := d.py.showable && d.py.canLay0 && decide (d.py.depth ≤ 60) && decide (d.py.shown.length ≤ sizeLine)
def zj1 (d : D) : Option D := if zoi d = true then some (.str d.py.shown) else none
def rReprD (K : PySem.W.Frag) : List V → Hp → VK → Prop := fun xs H Q => ∃ x d, xs = [x] ∧ Dp K H x d ∧ d.showable = true ∧ d.canLay0 = true ∧ d.depth ≤ 60 ∧ d.shown.length ≤ sizeLine ∧ Q (.str d.shown) H
theorem zl9 (hG : X.A.guards = some []) (hu : X.A.units + 64 < cLine) : CallR X (.builtin "repr") (rReprD X.K) := by
  intro pins s σ H xs us Q I r h
  obtain ⟨x, d, rfl, hd, h1, h2, h3, h4, q⟩ := h
  cases r with
  | cons rx rr =>
    cases rr
    rename_i u
    obtain ⟨as, rs⟩ := Dp.reads I d x u hd rx
    cases hd with
    | non => cases rx; exact P.repr_of_none ⟨.str "None", H, I.tok _, ⟨_, rfl⟩, q⟩
    | bl b => cases rx; exact P.repr_of_bool ⟨.str (if _ then "True" else "False"), H, I.tok _, ⟨_, rfl⟩, q⟩
    | int i =>
      obtain ⟨t, rfl⟩ := rx
      exact P.repr_of_int (by simpa [PyData.showable] using h1) ⟨.str _, H, I.tok _, ⟨_, rfl⟩, q⟩
    | str y =>
      obtain ⟨t, rfl⟩ := rx
      exact P.repr_of_str ⟨.str _, H, I.tok _, ⟨_, rfl⟩, q⟩ h4
    | lst s w =>
      cases rx
      exact repr_of_reads' rs h1 (PyData.noDict_hsm (PyData.hasDict_of_canLay _ h2)) hG (by omega) (fun _ _ z => z) (fun h' u tk k => ⟨.str _, H, I.kept (t' := tk) k, ⟨_, rfl⟩, q⟩) h4
    | tup s w =>
      cases rx
      exact repr_of_reads' rs h1 (PyData.noDict_hsm (PyData.hasDict_of_canLay _ h2)) hG (by omega) (fun _ _ z => z) (fun h' u tk k => ⟨.str _, H, I.kept (t' := tk) k, ⟨_, rfl⟩, q⟩) h4
theorem zj4 : zk6 K (rReprD K) (o1 zj1) := o1_ok fun ι F H S v a c Q st va e q => by
  unfold zj1 at e
  split at e
  · rename_i h
    cases e
    unfold zoi at h
    simp only [Bool.and_eq_true, decide_eq_true_eq] at h
    exact ⟨_, _, rfl, (va.wd st.sub).dp h.1.1.2, h.1.1.1, h.1.1.2, h.1.2, h.2, q.same st (.str _)⟩
  · cases e
/-! ## pairs walked: zip, enumerate -/
def zoe (x y : D) : D := .tup [x, y]
def zipD (xs ys : List D) : List D := List.zipWith zoe xs ys
end
end DL
set_option maxHeartbeats 8000000
namespace PySem
namespace DLEnum
open L2 PyProof.Rows
set_option maxHeartbeats 1000000 in
theorem made {v : Value} {o : Obj} {H : Heap → Prop} (B : Begins v o H) :
    Meets (Builtin.«enumerate.__new__» ⟨[.type "enumerate", v], []⟩) (fun _ R s => H s.heap ∧
      R (.ok (.ret (.ref (s.heap.push o).objs.size))) { s with heap := (s.heap.push o).push { cls := .type "enumerate", data := .fields #[.none, .bool false, .ref s.heap.objs.size, rawInt 0, .none, .none] } }) :=
  .of_wp fun prog w A R s h => by
    obtain ⟨hp, g, d, tk, os⟩ := s
    obtain ⟨h1, h⟩ := h
    have hsub := sub_enumerate
    have it1 : ∀ {A' : Around} {E : Value → Shared → Prop} {Q : Value → Shared → Prop}, Q (.ref hp.objs.size) ⟨hp.push o, g, d, tk, os⟩ → wpAny (model prog w) A' (pyIter v) Q E ⟨hp, g, d, tk, os⟩ :=
      fun q => B.iter prog w _ _ ⟨hp, g, d, tk, os⟩ _ h1 q
    wp_walk using it1
    apply wpAny_stack_any
    intro st
    apply wpAny_pure
    split
    · rename_i c _ _ _ _ _
      cases (c == Value.type "enumerate") <;> (wp_walk using it1) <;> exact ⟨_, rfl, h⟩
    · wp_walk using it1
      exact ⟨_, rfl, h⟩
section
variable {prog : Program} {w : World} {A : Around} {E : Value → Shared → Prop} {s : Shared}
theorem begins {v : Value} {o : Obj} {H : Heap → Prop} {Q : Value → Shared → Prop} (B : Begins v o H) (h1 : H s.heap)
    (h : ∀ h', IsEnum h' (s.heap.objs.size + 1) s.heap.objs.size 0 .none → h'.get? s.heap.objs.size = some o → (∀ b o, s.heap.get? b = some o → h'.get? b = some o) → Q (.ref (s.heap.objs.size + 1)) { s with heap := h' }) :
    wpAny (model prog w) A (call (.type "enumerate") [v]) Q E s := by
  apply callType_new F.called_enumerate (by decide) (F.typeCall_enumerate_1 _) (F.newCall_enumerate_1 _) (fun obj => F.args_object_init_2 obj _) F.entry_enumerate_new (made B)
  have sz : (s.heap.push o).objs.size = s.heap.objs.size + 1 := Heap.size_push ..
  refine ⟨h1, ?_⟩
  show _ ∧ _
  rw [sz]
  have he : IsEnum ((s.heap.push o).push { cls := .type "enumerate", data := .fields #[.none, .bool false, .ref s.heap.objs.size, rawInt 0, .none, .none] }) (s.heap.objs.size + 1) s.heap.objs.size 0 .none := by
    have q := Heap.get?_push_size (s.heap.push o) (o := { cls := .type "enumerate", data := .fields #[.none, .bool false, .ref s.heap.objs.size, rawInt 0, .none, .none] }) rfl
    rw [sz] at q
    exact q
  exact ⟨⟨_, he, rfl⟩, h _ he (Heap.get?_push_of_some _ (Heap.get?_push_size _ B.free)) fun b o x => Heap.get?_push_of_some _ (Heap.get?_push_of_some _ x)⟩
end
end DLEnum
end PySem
set_option maxHeartbeats 4000000
namespace DL
open PySem PySem.Spec PyProof.Rows L2
variable [Mode]
/-! ## enumerate(a tuple) -/
def IteT (K : PySem.W.Frag) (a : Addr) : It :=
  ⟨fun i H => ∃ (xs : List V) (x : V), SqT K H a xs ∧ xs[i]? = some x, fun i H v H' => ∃ T x, v = .ref T ∧ H T = none ∧ H' = upd H T (.tup [.int (i : Nat), x]) ∧ ∀ xs, SqT K H a xs → xs[i]? = some x, fun i H => ∃ xs : List V, SqT K H a xs ∧ xs.length ≤ i⟩
theorem turn_enumT {P : Program} {w : World} {K : PySem.W.Frag} {elts : List Expr} {kk : Nat} {tpos : Pos} (a e it : Addr) :
    Turn P w K (.Tuple elts kk tpos) (IteT K a) [e, it] e (fun i h => (∃ old, IsEnum h e it ((i : Nat) : Int) old) ∧ h.IsTupleIter it a i ∧ e ≠ it ∧ e ≠ a ∧ it ≠ a) where
  mem := by simp
  obj := by
    intro i h st b hb
    obtain ⟨⟨old, he⟩, ⟨o, ho, hc, hd⟩, _⟩ := st
    rcases List.mem_cons.mp hb with z | hb
    · subst z; exact ⟨_, he, fun v q => nomatch q⟩
    · rcases List.mem_singleton.mp hb with z
      subst z
      exact ⟨o, ho, fun v q => by rw [hd] at q; cases q⟩
  keep := by
    intro i h h' st k
    obtain ⟨⟨old, he⟩, hi, ne⟩ := st
    exact ⟨⟨old, k e (by simp) _ he⟩, hi.at fun o q => k it (by simp) o q, ne⟩
  item := by
    intro X hP hw hK hc i pins s σ H E I hf st hg
    subst hP hw hK
    obtain ⟨⟨old, he⟩, hit, ne, nea, nia⟩ := st
    obtain ⟨xs, x, hq, hx⟩ := hg
    obtain ⟨its, rv, p, hz⟩ := I.tuple hq
    obtain ⟨u, hu, ru⟩ := rv.get hx
    have pT : s.heap.IsTuple a its.toArray := p
    have el : e < s.heap.objs.size := Heap.lt_size he
    have il : it < s.heap.objs.size := by
      obtain ⟨_, q, _⟩ := hit
      exact Heap.lt_size q
    have hlt : i < its.toArray.size := by
      have := (List.getElem?_eq_some_iff.mp hu).1
      simpa using this
    have hh : X.A.in1.handled = none := I.ok.hd hc
    refine wpAny_pyNext_enum_itemD (PySem.Draws.tuple hh it a (Ne.symm nia) its.toArray) he ⟨hit, pT⟩ hlt ne (by simp; exact ⟨ne, nea⟩) ?_
    intro y h' tk hy ho st' hT hsz hk
    have yu : y = u := by
      have h1 : its[i]? = some y := by simpa using hy
      rw [hu] at h1
      exact (Option.some.inj h1).symm
    subst yu
    refine ⟨_, rfl, wpAny_letOwnedTupleGo_enum (s := { s with heap := h', toks := tk + 1 }) ho ?_⟩
    intro h2 he2 sb
    have hT2 : h2.get? s.heap.objs.size = some { cls := .type "tuple", data := .seq #[.int i tk, y] } := (sb.2 _ (Nat.ne_of_gt el)).trans hT
    have new : ObjOk X.prog X.w (upd H s.heap.objs.size (.tup [.int (i : Nat), x])) h2 s.heap.objs.size (.tup [.int (i : Nat), x]) :=
      ⟨by show 2 ≤ sizeLine; decide, [.int i tk, y], .cons ⟨_, rfl⟩ (.cons ru .nil), ⟨_, hT2, rfl, _, rfl⟩⟩
    have I1 : Inv X pins σ (upd H s.heap.objs.size (.tup [.int (i : Nat), x])) { s with heap := h2, toks := tk + 1 } := by
      refine I.turnedNew (ch := [e, it]) ?_ hf (Nat.le_refl _) new
      intro b o hb q
      have nb : b ≠ e := fun z => hb (by simp [z])
      have nb2 : b ≠ it := fun z => hb (by simp [z])
      exact (sb.2 b nb).trans (hk b o nb nb2 q)
    refine ⟨.ref s.heap.objs.size, _, I1, rfl, ⟨_, x, rfl, I.hok.fresh (Nat.le_refl _), rfl, ?_⟩, ⟨⟨y, ?_⟩, st'.1.at fun o q => (sb.2 it (Ne.symm ne)).trans q, ne, nea, nia⟩, ?_⟩
    · intro zs hz
      rw [I.tuple_inj hz hq]
      exact hx
    · have e1 : ((i + 1 : Nat) : Int) = (i : Int) + 1 := by omega
      rw [e1]
      exact he2
    · intro b hb
      have lb : b < s.heap.objs.size := by
        rcases List.mem_cons.mp hb with z | hb
        · rw [z]; exact el
        · rw [List.mem_singleton.mp hb]; exact il
      rw [upd_ne (Nat.ne_of_lt lb)]
      exact (hf b hb).1
  done := by
    intro X hP hw hK hc i pins s σ H E I hf st hg
    subst hP hw hK
    obtain ⟨⟨old, he⟩, hit, ne, nea, nia⟩ := st
    obtain ⟨xs, hq, hx⟩ := hg
    obtain ⟨its, rv, p, hz⟩ := I.tuple hq
    have pT : s.heap.IsTuple a its.toArray := p
    obtain ⟨f0, f1, f2, f3, f4, f5⟩ := hf it (by simp)
    have hl := rv.length
    have hh : X.A.in1.handled = none := I.ok.hd hc
    have none_ : its.toArray[i]? = none := by
      simp
      omega
    have D : Draws X.prog X.w X.A.in1 it [it, a] i (fun _ _ => False) (fun j h => j = i ∧ h.IsTupleIter it a i ∧ h.IsTuple a its.toArray) :=
      { live := fun _ _ st => let ⟨o, ho, _⟩ := st.2.1; ⟨o, ho⟩
        frame := fun _ _ _ st k => ⟨st.1, st.2.1.at fun o e => k it (by simp) o e, st.2.2.at fun o e => k a (by simp) o e⟩
        item := fun j s Q E hj st _ => absurd st.1 (Nat.ne_of_lt hj)
        done := fun s Q E st hE => wpAny_nextOf_tuple_end hh st.2.1 st.2.2 none_ hE }
    refine wpAny_pyNext_enum_endD D he ⟨rfl, hit, pT⟩ ?_
    intro h' eb
    exact ⟨rfl, I.turned (t' := s.toks) (fun b o hb q => eb b o hb q) f0 f1 f3 f4 f5⟩
  self := by
    intro A i s Q E st h
    obtain ⟨⟨_, he⟩, _⟩ := st
    exact wpAny_pyIter_enum he h
def iEnumA (K : PySem.W.Frag) (ta : TA) : TI := fun σ H R => ta σ H fun vs H1 => ∃ a xs, vs = [.ref a] ∧ ((SqL K H1 a xs ∧ R (Ite K a) H1) ∨ (SqT K H1 a xs ∧ R (IteT K a) H1))
theorem pi_enumA {X : Cx} {e : Expr} {ta : TA} {p pos tpos : Pos} {elts : List Expr} {kk : Nat} (hg : Gl X "enumerate") (hm : X.mg "enumerate" = none) (ha : PA X [e] ta) (hs : starEach [e] X.env = [(false, eval e X.env)] := by rfl) :
    PI X (.Tuple elts kk tpos) (.Call (.Name "enumerate" p) [e] [] pos) (iEnumA X.K ta) := by
  constructor
  intro pins s σ H R I h
  apply Call_ (ld_blt I hg hm boot_enumerate (PyProof.Rows.callWith_type1 (thn (ha.run pos pins s σ H _ I h) ?_) hs rfl))
  rintro us s1 ⟨vs, H1, I1, r1, a, xs, ex, q⟩
  subst ex
  cases r1 with
  | cons r rr =>
    cases rr
    cases r
    have fresh : ∀ b ∈ [s1.heap.objs.size + 1, s1.heap.objs.size], FpOk X pins H1 b := by
      intro b hb
      have le : s1.heap.objs.size ≤ b := by
        rcases List.mem_cons.mp hb with z | hb
        · rw [z]; exact Nat.le_add_right _ _
        · rw [List.mem_singleton.mp hb]; exact Nat.le_refl _
      exact I1.fpOk le (I1.hok.fresh le)
    rcases q with ⟨hq, q⟩ | ⟨hq, q⟩
    · obtain ⟨its, rv, p', hz⟩ := I1.list hq
      apply call_enumerate_list p'.isList
      intro h' he hit hsz hk
      apply wpAny_pyIter_enum he
      exact ⟨s1.heap.objs.size + 1, [s1.heap.objs.size + 1, s1.heap.objs.size], _, _, H1, rfl, I1.kept (t' := s1.toks) hk, turn_enum a _ _, ⟨⟨.none, he⟩, hit, Nat.succ_ne_self _⟩, fresh, q⟩
    · obtain ⟨its, rv, p', hz⟩ := I1.tuple hq
      have pT : s1.heap.IsTuple a its.toArray := p'
      apply DLEnum.begins (begins_tuple a its.toArray) pT
      intro h' he ho hk
      have la : a < s1.heap.objs.size := by
        obtain ⟨_, q, _⟩ := pT
        exact Heap.lt_size q
      apply wpAny_pyIter_enum he
      exact ⟨s1.heap.objs.size + 1, [s1.heap.objs.size + 1, s1.heap.objs.size], _, _, H1, rfl, I1.kept (t' := s1.toks) hk, turn_enumT a _ _, ⟨⟨.none, he⟩, ⟨_, ho, rfl, rfl⟩, Nat.succ_ne_self _, Nat.ne_of_gt (Nat.lt_succ_of_lt la), Nat.ne_of_gt la⟩, fresh, q⟩
section
variable {X : Cx} {W : WX} {e a b c : Expr} {es : List Expr} {pos p : Pos} {K : PySem.W.Frag} {ι : List Addr} {F H : Hp} {S : zae} {mg : Str → Option Value}
def zng (xs : List D) : List D := (List.range xs.length).zipWith (fun i x => zoe (.int (i : Nat)) x) xs
theorem enumD_get {xs : List D} {i : Nat} {d : D} (h : xs[i]? = some d) : (zng xs)[i]? = some (zoe (.int (i : Nat)) d) := by
  have hi := (List.getElem?_eq_some_iff.mp h).1
  unfold zng
  rw [List.getElem?_zipWith, h, List.getElem?_range hi]
theorem zk0 (xs : List D) : (zng xs).length = xs.length := by simp [zng]
theorem znn {F1 : Hp} {H1 : Hp} {S1 : zae} (st : StR K ι F1 S1 H1) {T : Addr} (hT : H1 T = none) {u v : V} {d1 d2 : D} (w1 : Wd K F1 u d1) (w2 : Wd K F1 v d2) :
    Grow ι F1 H1 ι (upd F1 T (.tup [u, v])) (upd H1 T (.tup [u, v])) ∧ StR K ι (upd F1 T (.tup [u, v])) S1 (upd H1 T (.tup [u, v])) ∧ Wd K (upd F1 T (.tup [u, v])) (.ref T) (zoe d1 d2) :=
  have s2 := zhu st.sub hT (.tup [u, v])
  ⟨zhy st.sub hT _, st.push hT _, .tup (.of upd_same) (.cons (w1.mono s2) (.cons (w2.mono s2) .nil))⟩
theorem itOk_enumL {F1 : Hp} {p1 : Addr} {vs : List V} {ds : List D} (s1 : F1 p1 = some (.lst vs)) (w1 : WdA K F1 vs ds) : ItOk K F1 (zng ds) (Ite K p1) := by
  refine ⟨fun H => SqL K H p1 vs, (Ite K p1).yld, ⟨fun i H hi g => ?_, fun H g => ⟨vs, g, by rw [zk0, w1.length]; exact Nat.le_refl _⟩, fun i H x H' _ _ y => y⟩, fun ι F2 S2 H2 st sm => .of (st.sub _ _ (sm _ _ s1)), fun ι F2 S2 H2 i x H3 st sm hi y => ?_⟩
  · rw [zk0, ← w1.length] at hi
    exact ⟨vs, vs[i], g, List.getElem?_eq_getElem hi⟩
  · obtain ⟨T, u, rfl, hT, rfl, hu⟩ := y
    have hu' := hu vs (.of (st.sub _ _ (sm _ _ s1)))
    obtain ⟨d, h1, h2⟩ := w1.get hu'
    obtain ⟨g, st', w⟩ := znn st hT (.int ((i : Nat) : Int)) (h2.mono sm)
    exact ⟨_, _, g, st', enumD_get h1, w⟩
theorem itOk_enumT {F1 : Hp} {p1 : Addr} {vs : List V} {ds : List D} (s1 : SqT K F1 p1 vs) (w1 : WdA K F1 vs ds) : ItOk K F1 (zng ds) (IteT K p1) := by
  refine ⟨fun H => SqT K H p1 vs, (IteT K p1).yld, ⟨fun i H hi g => ?_, fun H g => ⟨vs, g, by rw [zk0, w1.length]; exact Nat.le_refl _⟩, fun i H x H' _ _ y => y⟩, fun ι F2 S2 H2 st sm => zdr st.sub (zdr sm s1), fun ι F2 S2 H2 i x H3 st sm hi y => ?_⟩
  · rw [zk0, ← w1.length] at hi
    exact ⟨vs, vs[i], g, List.getElem?_eq_getElem hi⟩
  · obtain ⟨T, u, rfl, hT, rfl, hu⟩ := y
    have hu' := hu vs (zdr st.sub (zdr sm s1))
    obtain ⟨d, h1, h2⟩ := w1.get hu'
    obtain ⟨g, st', w⟩ := znn st hT (.int ((i : Nat) : Int)) (h2.mono sm)
    exact ⟨_, _, g, st', enumD_get h1, w⟩
def enum1 (x : DV) (S : zae) : Res (List D) := match x with
  | .dat (.lst xs) => .ok (zng xs) S
  | .dat (.tup xs) => .ok (zng xs) S
  | _ => .bad
def lEnum (f : XFn) : LFn := fun ρ S => (f ρ S).bind enum1
theorem di_enum {f : XFn} {elts : List Expr} {kk : Nat} {tpos : Pos} (h : DE X W e f) (hm : X.mg "enumerate" = none) (hg : Gl X "enumerate" := by rfl) (hs : starEach [e] X.env = [(false, eval e X.env)] := by rfl) (hse : starEach (e :: []) X.env = (false, eval e X.env) :: starEach [] X.env := by rfl) :
    DI X W (.Tuple elts kk tpos) (.Call (.Name "enumerate" p) [e] [] pos) (lEnum f) := by
  refine ⟨_, pi_enumA hg hm (pa_cons h.pe pa_nil hse) hs, fun σ H R ⟨ι, F, ρ, S, r, h⟩ => ?_⟩
  refine tD.bind (g := fun _ => enum1) r h fun v dv ι1 F1 S1 H1 r1 w1 g1 h1 => ?_
  unfold enum1 at h1
  split at h1
  · rename_i xs
    have w' : Wd X.K F1 v (.lst xs) := w1
    cases w' with
    | lst s w => exact ⟨_, _, rfl, .inl ⟨.of (r1.st.sub _ _ s), h1 ι1 F1 H1 .refl r1.st _ (itOk_enumL s w)⟩⟩
  · rename_i xs
    have w' : Wd X.K F1 v (.tup xs) := w1
    cases w' with
    | tup s w => exact ⟨_, _, rfl, .inr ⟨zdr r1.st.sub s, h1 ι1 F1 H1 .refl r1.st _ (itOk_enumT s w)⟩⟩
  · exact h1.elim
/-! ## zip -/
theorem zip_goes {vs us : List V} {ds es : List D} {F1 : Hp} (w1 : WdA K F1 vs ds) (w2 : WdA K F1 us es) {i : Nat} (hi : i < (zipD ds es).length) : ∃ x y, vs[i]? = some x ∧ us[i]? = some y := by
  simp only [zipD, List.length_zipWith] at hi
  have h1 := w1.length
  have h2 := w2.length
  exact ⟨vs[i]'(by omega), us[i]'(by omega), List.getElem?_eq_getElem _, List.getElem?_eq_getElem _⟩
theorem zip_stops {vs us : List V} {ds es : List D} {F1 : Hp} (w1 : WdA K F1 vs ds) (w2 : WdA K F1 us es) : vs.length ≤ (zipD ds es).length ∨ us.length ≤ (zipD ds es).length := by
  simp only [zipD, List.length_zipWith, w1.length, w2.length]
  omega
theorem itOk_zipL {F1 : Hp} {p1 p2 : Addr} {vs us : List V} {ds es : List D} (s1 : F1 p1 = some (.lst vs)) (w1 : WdA K F1 vs ds) (s2 : F1 p2 = some (.lst us)) (w2 : WdA K F1 us es) : ItOk K F1 (zipD ds es) (Itz K p1 p2) := by
  refine ⟨fun H => SqL K H p1 vs ∧ SqL K H p2 us, (Itz K p1 p2).yld, ⟨fun i H hi g => ?_, fun H g => ⟨vs, us, g.1, g.2, zip_stops w1 w2⟩, fun i H x H' _ _ y => y⟩, fun ι F2 S2 H2 st sm => ⟨.of (st.sub _ _ (sm _ _ s1)), .of (st.sub _ _ (sm _ _ s2))⟩, fun ι F2 S2 H2 i x H3 st sm hi y => ?_⟩
  · obtain ⟨x, y, h1, h2⟩ := zip_goes w1 w2 hi
    exact ⟨vs, us, x, y, g.1, g.2, h1, h2⟩
  · obtain ⟨T, u, v, rfl, hT, rfl, hu, hv⟩ := y
    obtain ⟨d, h1, h2⟩ := w1.get (hu vs (.of (st.sub _ _ (sm _ _ s1))))
    obtain ⟨e, h3, h4⟩ := w2.get (hv us (.of (st.sub _ _ (sm _ _ s2))))
    obtain ⟨g, st', w⟩ := znn st hT (h2.mono sm) (h4.mono sm)
    exact ⟨_, _, g, st', by unfold zipD; rw [List.getElem?_zipWith, h1, h3], w⟩
theorem itOk_zipT {F1 : Hp} {p1 p2 : Addr} {vs us : List V} {ds es : List D} (s1 : SqT K F1 p1 vs) (w1 : WdA K F1 vs ds) (s2 : SqT K F1 p2 us) (w2 : WdA K F1 us es) : ItOk K F1 (zipD ds es) (RZ.ItzT K p1 p2) := by
  refine ⟨fun H => SqT K H p1 vs ∧ SqT K H p2 us, (RZ.ItzT K p1 p2).yld, ⟨fun i H hi g => ?_, fun H g => ⟨vs, us, g.1, g.2, zip_stops w1 w2⟩, fun i H x H' _ _ y => y⟩, fun ι F2 S2 H2 st sm => ⟨zdr st.sub (zdr sm s1), zdr st.sub (zdr sm s2)⟩, fun ι F2 S2 H2 i x H3 st sm hi y => ?_⟩
  · obtain ⟨x, y, h1, h2⟩ := zip_goes w1 w2 hi
    exact ⟨vs, us, x, y, g.1, g.2, h1, h2⟩
  · obtain ⟨T, u, v, rfl, hT, rfl, hu, hv⟩ := y
    obtain ⟨d, h1, h2⟩ := w1.get (hu vs (zdr st.sub (zdr sm s1)))
    obtain ⟨e, h3, h4⟩ := w2.get (hv us (zdr st.sub (zdr sm s2)))
    obtain ⟨g, st', w⟩ := znn st hT (h2.mono sm) (h4.mono sm)
    exact ⟨_, _, g, st', by unfold zipD; rw [List.getElem?_zipWith, h1, h3], w⟩
def zip2 (x y : DV) (S : zae) : Res (List D) := match x, y with
  | .dat (.lst xs), .dat (.lst ys) => .ok (zipD xs ys) S
  | .dat (.tup xs), .dat (.tup ys) => .ok (zipD xs ys) S
  | _, _ => .bad
def lZip (f g : XFn) : LFn := fun ρ S => (f ρ S).bind fun x S1 => (g ρ S1).bind fun y S2 => zip2 x y S2
theorem di_zip {f g : XFn} {elts : List Expr} {kk : Nat} {tpos : Pos} (ha : DE X W a f) (hb : DE X W b g) (hm : X.mg "zip" = none) (hg : Gl X "zip" := by rfl) (hs : starEach [a, b] X.env = (false, eval a X.env) :: starEach [b] X.env := by rfl) (hpl : (backTo pos (starEach [b] X.env)).any (·.1) = false := by rfl) (hse : starEach (b :: []) X.env = (false, eval b X.env) :: starEach [] X.env := by rfl) :
    DI X W (.Tuple elts kk tpos) (.Call (.Name "zip" p) [a, b] [] pos) (lZip f g) := by
  refine ⟨_, RZ.pi_zipA hg hm (pa_cons ha.pe (pa_cons hb.pe pa_nil hse) hs) hs hpl, fun σ H R ⟨ι, F, ρ, S, r, h⟩ => ?_⟩
  refine tD.bind (g := fun ρ x S1 => (g ρ S1).bind fun y S2 => zip2 x y S2) r h fun v dv ι1 F1 S1 H1 r1 w1 g1 h1 => ?_
  refine tD.bind (g := fun ρ y S2 => zip2 dv y S2) r1 h1 fun u du ι2 F2 S2 H2 r2 w2 g2 h2 => ?_
  have w1' := w1.grow g2
  unfold zip2 at h2
  split at h2
  · rename_i xs ys
    have wa : Wd X.K F2 v (.lst xs) := w1'
    have wb : Wd X.K F2 u (.lst ys) := w2
    cases wa with
    | lst s1 v1 =>
      cases wb with
      | lst s2 v2 => exact ⟨_, _, _, _, rfl, .inl ⟨.of (r2.st.sub _ _ s1), .of (r2.st.sub _ _ s2), h2 ι2 F2 H2 .refl r2.st _ (itOk_zipL s1 v1 s2 v2)⟩⟩
  · rename_i xs ys
    have wa : Wd X.K F2 v (.tup xs) := w1'
    have wb : Wd X.K F2 u (.tup ys) := w2
    cases wa with
    | tup s1 v1 =>
      cases wb with
      | tup s2 v2 => exact ⟨_, _, _, _, rfl, .inr ⟨zdr r2.st.sub s1, zdr r2.st.sub s2, h2 ι2 F2 H2 .refl r2.st _ (itOk_zipT s1 v1 s2 v2)⟩⟩
  · exact h2.elim
end
end DL
set_option maxHeartbeats 4000000
namespace DL
open PySem PySem.Spec PyProof.Rows L2
variable [Mode]
/-! ## sorted(set(ints)) -/
def insS (n : Int) : List Int → List Int
  | [] => [n]
  | m :: r => if n < m then n :: m :: r else if n = m then m :: r else m :: insS n r
def sset : List Int → List Int
  | [] => []
  | n :: ns => insS n (sset ns)
theorem zqn (n k : Int) : ∀ l : List Int, k ∈ insS n l ↔ k = n ∨ k ∈ l
  | [] => by simp [insS]
  | m :: r => by
    unfold insS
    have h := zqn n k r
    split
    · simp
    · split
      · rename_i e; subst e; simp
      · simp [h]
        constructor
        · rintro (h | h | h) <;> simp [h]
        · rintro (h | h | h) <;> simp [h]
theorem zo9 (n : Int) : ∀ l : List Int, l.Pairwise (· < ·) → (insS n l).Pairwise (· < ·)
  | [], _ => by simp [insS]
  | m :: r, h => by
    unfold insS
    rw [List.pairwise_cons] at h
    split
    · rename_i hn
      refine List.pairwise_cons.mpr ⟨fun k hk => ?_, List.pairwise_cons.mpr h⟩
      rcases List.mem_cons.mp hk with z | z
      · subst z; exact hn
      · have := h.1 k z; omega
    · split
      · exact List.pairwise_cons.mpr h
      · rename_i h1 h2
        refine List.pairwise_cons.mpr ⟨fun k hk => ?_, zo9 n r h.2⟩
        rcases (zqn n k r).mp hk with z | z
        · subst z; omega
        · exact h.1 k z
theorem zf7 : ∀ l : List Int, (sset l).Pairwise (· < ·)
  | [] => .nil
  | n :: r => zo9 n _ (zf7 r)
theorem zgz (k : Int) : ∀ l : List Int, k ∈ sset l ↔ k ∈ l
  | [] => by simp [sset]
  | n :: r => by
    show k ∈ insS n (sset r) ↔ _
    rw [zqn, zgz k r, List.mem_cons]
theorem zik : ∀ {a b : List Int}, a.Pairwise (· < ·) → b.Pairwise (· < ·) → (∀ k, k ∈ a ↔ k ∈ b) → a = b
  | [], [], _, _, _ => rfl
  | [], y :: b, _, _, h => absurd ((h y).mpr List.mem_cons_self) (by simp)
  | x :: a, [], _, _, h => absurd ((h x).mp List.mem_cons_self) (by simp)
  | x :: a, y :: b, ha, hb, h => by
    rw [List.pairwise_cons] at ha hb
    have e : x = y := by
      rcases List.mem_cons.mp ((h x).mp List.mem_cons_self) with z | z
      · exact z
      · rcases List.mem_cons.mp ((h y).mpr List.mem_cons_self) with q | q
        · exact q.symm
        · have := ha.1 y q; have := hb.1 x z; omega
    subst e
    have nx : x ∉ a := fun m => by have := ha.1 x m; omega
    have ny : x ∉ b := fun m => by have := hb.1 x m; omega
    have t : a = b := zik ha.2 hb.2 fun k => by
      have q := h k
      simp only [List.mem_cons] at q
      constructor
      · intro m
        rcases q.mp (.inr m) with z | z
        · subst z; exact absurd m nx
        · exact z
      · intro m
        rcases q.mpr (.inr m) with z | z
        · subst z; exact absurd m ny
        · exact z
    rw [t]
section
variable {X : Cx} {W : WX} {e a b c : Expr} {es : List Expr} {pos p : Pos} {K : PySem.W.Frag} {ι : List Addr} {F H : Hp} {S : zae} {mg : Str → Option Value}
def rSetI (K : PySem.W.Frag) (w : World) : List V → Hp → VK → Prop := fun xs H Q => ∃ (a : Addr) (ns : List Int), xs = [V.ref a] ∧ (SqL K H a (ns.map V.int) ∨ SqT K H a (ns.map V.int)) ∧ ns.length < 64 ∧
  ∀ p c, H p = none → c ≤ ns.length → Q (.ref p) (upd H p (SetO w p (fun j => decide (j ∈ ns)) c))
theorem cr_setI (hc : X.calm = true) : CallR X (.type "set") (rSetI X.K X.w) := by
  intro pins s σ H xs us Q I r h
  obtain ⟨a, ns, rfl, hq, hl, q⟩ := h
  rw [Vals.ref1 r]
  have hb : ns.length + 1 < scanBound := by unfold scanBound; omega
  have fin : ∀ (h' : Heap) (tk c : Nat), SetR X.w h' s.heap.objs.size (fun j => decide (j ∈ ns)) c → c ≤ ns.length → (∀ b o, s.heap.get? b = some o → h'.get? b = some o) → EP X pins σ Q (.ref s.heap.objs.size) { s with heap := h', toks := tk } := by
    intro h' tk c R hc k
    exact ⟨.ref s.heap.objs.size, _, I.laid (t' := tk) k (Nat.le_refl _) (setO_new R), rfl, q _ c (I.hok.fresh (Nat.le_refl _)) hc⟩
  rcases hq with hq | hq
  · obtain ⟨its, rv, p, hz⟩ := I.list hq
    exact PySem.DLSet.set_of_list ns (I.ok.hd hc) p.isList (by simpa using RZ.intsAre_vals rv) hb fin
  · obtain ⟨its, rv, p, hz⟩ := I.tuple hq
    exact call_set_tupI ns (I.ok.hd hc) p (by simpa using RZ.intsAre_vals rv) hb fin
def zq8 (x : DV) (S : zae) : Res (List D) := match rd S x with
  | some (.lst xs) => (match zh_ xs with
    | some ns => if ns.length < 64 then .ok ((sset ns).map .int) S else .bad
    | none => .bad)
  | some (.tup xs) => (match zh_ xs with
    | some ns => if ns.length < 64 then .ok ((sset ns).map .int) S else .bad
    | none => .bad)
  | _ => .bad
def zk_ (f : XFn) : LFn := fun ρ S => (f ρ S).bind zq8
theorem zj7 {f : XFn} {p2 p3 : Pos} (hc : X.calm = true) (h : DE X W a f) (hm : X.mg "sorted" = none) (hm2 : X.mg "set" = none) (hg : Gl X "sorted" := by rfl) (hg2 : Gl X "set" := by rfl)
    (he : starEach (a :: []) X.env = (false, eval a X.env) :: starEach [] X.env := by rfl)
    (he2 : starEach (.Call (.Name "set" p2) [a] [] p3 :: []) X.env = (false, eval (.Call (.Name "set" p2) [a] [] p3) X.env) :: starEach [] X.env := by rfl) :
    NE X W (.Call (.Name "sorted" p) [.Call (.Name "set" p2) [a] [] p3] [] pos) (zk_ f) := by
  refine ⟨PE.weak (pe_callB (cr_sortedSet hc) hg hm (by decide +kernel) (pa_cons (pe_callTy (cr_setI hc) hg2 hm2 (by decide +kernel) (pa_cons h.pe pa_nil he) (by decide) (by decide) he rfl) pa_nil he2) (by decide) (by decide) he2 rfl) fun σ H Q ⟨ι, F, ρ, S, r, h⟩ => ?_⟩
  refine tD.bind (g := fun _ => zq8) r h fun v dv ι1 F1 S1 H1 r1 w1 g1 h1 => ?_
  unfold zq8 at h1
  cases ed : rd S1 dv with
  | none => simp only [ed] at h1; exact h1.elim
  | some d =>
    have vw := r1.st.vw w1 ed
    have core : ∀ (ns : List Int) (p0 : Addr) (vs : List V) (xs : List D), (SqL X.K H1 p0 vs ∨ SqT X.K H1 p0 vs) → WdA X.K F1 vs xs → zh_ xs = some ns → ns.length < 64 →
        Post X.K X.mg (fun c d H' => W c d σ H') ι1 F1 H1 (.ok ((sset ns).map D.int) S1) (fun ds ι' F' H' => ∀ p vs, H p = none → H' p = some (.lst vs) → F' p = none → p ∉ ι' → WdA X.K F' vs ds → Q (V.ref p) H') →
        rSetI X.K X.w [.ref p0] H1 (fun x H2 => rSortedSet X.w [x] H2 Q) := by
      intro ns p0 vs xs hs w ei hl hp
      have ev := zk8 w ei
      subst ev
      refine ⟨p0, ns, rfl, hs, hl, fun p c hp0 hc => ⟨p, _, c, rfl, upd_same, by omega, fun ns' p' h1 h2 h3 h4 => ?_⟩⟩
      have e : ns' = sset ns := zik h1 (zf7 ns) fun k => by
        rw [h2 k, zgz]
        simp
      subst e
      have st2 := r1.st.alone hp0 (SetO X.w p (fun j => decide (j ∈ ns)) c)
      exact zo5 st2 (g1.trans (zgt hp0 _)) (Post.grow (r := Res.ok _ S1) hp (zgt hp0 _)) (znm _) h4
    cases vw with
    | lst s w =>
      rename_i p0 vs xs
      simp only [ed] at h1
      cases ei : zh_ xs with
      | none => simp only [ei] at h1; exact h1.elim
      | some ns =>
        simp only [ei] at h1
        by_cases hl : ns.length < 64
        · simp only [hl, if_true] at h1
          exact (core ns _ _ _ (.inl (.of s)) w ei hl h1)
        · simp only [hl, if_false] at h1; exact h1.elim
    | tup s w =>
      rename_i p0 vs xs
      simp only [ed] at h1
      cases ei : zh_ xs with
      | none => simp only [ei] at h1; exact h1.elim
      | some ns =>
        simp only [ei] at h1
        by_cases hl : ns.length < 64
        · simp only [hl, if_true] at h1
          exact (core ns _ _ _ (.inr (zdr r1.st.sub s)) w ei hl h1)
        · simp only [hl, if_false] at h1; exact h1.elim
    | _ => simp only [ed] at h1; exact h1.elim
end
end DL
set_option maxHeartbeats 4000000
namespace DL
open PySem PySem.Spec PyProof.Rows L2
variable [Mode]
/-! ## the law: its call over the heap behind the top, with the script alone tracked -/
section
variable {P : Program} {w : World} {K : PySem.W.Frag} {mg mb : Str → Option Value} {k : Nat} {fa a : Addr} {fd : FuncData} {x : Str} {g : Fn} {s1 : Shared} {vs : List Value} {ns : List Int}
structure Starts (K : PySem.W.Frag) (h : Heap) (a : Addr) (H : Hp) : Prop where
  scr : H a = none ∨ ∃ ob xs, H a = some (.frz ob (.lst xs))
  all : ∀ b, H b ≠ none → b = a ∨ b ∈ zdm K
  key : H a ≠ none → K.lookup a = none
  tab : ∀ b ∈ zdm K, H b = some (.tbl #[]) ∧ PySem.isCodeTable h b ∧ K.lookup b = none
theorem law_run (KX : K.In s1.heap) (hns : s1.heap.Ns mainGlobals mg) (hb : s1.heap.Ns builtinsNs mb) (hbb : ∀ x : Str, x ≠ "__name__" → mb x = bootBuiltins x) (hlim : s1.heap.NoLimit) (hg : s1.gens = #[])
    (ha : s1.heap.get? a = some { cls := .type "list", data := .seq vs.toArray }) (hi : IntsAre vs ns) (hl : ns.length ≤ sizeLine) (hr : Room k callerA)
    (Fg : ∀ base : Heap, K.In base → base.Ns mainGlobals mg → FnG P w K mg base k fa fd [x] (spD K mg 1 g)) (bind : ∀ (s : Shared) (u : Value), BindsTo s fd ⟨[u], []⟩ [(x, u)])
    (ans : ∃ S, g [.scr ns] [] = .ok (.dat (.bl true)) S) (H : Hp) (B : Starts K s1.heap a H) (hS : SqL K H a (ns.map V.int)) (hok : HOk P w H s1.heap) :
    codeAny (model P w) callerA (.call (.ref fa) ⟨[.ref a], []⟩) (fun r s' => r = .ok (.ret (.bool true)) ∧ OldK s1.heap s'.heap ∧ s'.os = s1.os ∧ AllBare s'.gens) s1 := by
  have isA : ∀ {b : Addr} {u : HO}, H b = some u → b = a ∨ b ∈ zdm K := fun {b u} q => B.all b (by rw [q]; simp)
  have atT : ∀ b ∈ zdm K, s1.heap.get? b = some { cls := .none, data := .fields #[] } := fun b hb => hok b _ (B.tab b hb).1
  have naT : a ∉ zdm K := fun m => by
    have := atT a m
    rw [ha] at this
    cases this
  have nsOf : ∀ {b : Addr} {m : Str → Option Value}, s1.heap.Ns b m → (hidT s1.heap H).Ns b m := by
    intro b m h
    obtain ⟨o, es, ep, e, d, r⟩ := h
    refine ⟨o, es, ep, hidT_get e ?_, d, r⟩
    cases q : H b with
    | none => rfl
    | some u =>
      rcases isA q with z | z
      · subst z
        rw [ha] at e
        cases e
        exact nomatch (show Data.seq vs.toArray _ = Data.dict es ep from d)
      · rw [atT b z] at e
        cases e
        exact nomatch (show Data.fields _ = Data.dict es ep from d)
  have KB : K.In (hidT s1.heap H) := by
    intro b o e
    refine hidT_get (KX b o e) ?_
    cases q : H b with
    | none => rfl
    | some u =>
      rcases isA q with z | z
      · subst z
        have := B.key (by rw [q]; simp)
        rw [this] at e
        cases e
      · rw [(B.tab b z).2.2] at e
        cases e
  have md : Mod K mg (hidT s1.heap H) := by
    refine ⟨KB, nsOf hns, ⟨mb, nsOf hb, hbb⟩, ?_⟩
    obtain ⟨mc, h1, h2⟩ := hlim
    exact ⟨mc, nsOf h1, h2⟩
  have e0 : Env0 P w K mg (hidT s1.heap H) callerA [] s1 H :=
    { frames := rfl
      mod := md
      bs := fun b o e => of_hidT e
      bsz := Nat.le_of_eq (hidT_size _ _)
      funs := trivial
      frf := fun b hb => nomatch hb
      hok := hok
      bare := .of_eq hg }
  obtain ⟨S, ea⟩ := ans
  let F : Hp := fun b => if b = a then H a else none
  have fA : F a = H a := if_pos rfl
  have fN : ∀ b, b ≠ a → F b = none := fun b h => if_neg h
  have sFH : Same F H := fun b o e => by
    by_cases h : b = a
    · subst h; rw [fA] at e; exact e
    · rw [fN b h] at e; cases e
  have st : StR K [] F [] H := ⟨sFH, rfl, fun _ => List.nodup_nil, fun b hb => (nomatch hb), fun k ds e => by simp at e, fun k ds e => by simp at e, fun b hb => LamX.TabS.nil (B.tab b.1 (List.mem_map_of_mem hb)).1, fun b hb => fN b (fun z => naT (z ▸ hb)), fun k ds e => by simp at e⟩
  have hSF : SqL K F a (ns.map V.int) := by
    rcases hS with (z | ⟨o, z⟩) | z
    · exact .inl (.inl (by rw [fA]; exact z))
    · exact .inl (.inr ⟨o, by rw [fA]; exact z⟩)
    · exact .inr z
  have sp : spD K mg 1 g [.ref a] H (fun v _ => v = .bl true) (fun _ _ _ => False) := by
    refine ⟨rfl, [], F, [], [.scr ns], st, .cons ⟨a, rfl, hSF⟩ .nil, ?_⟩
    rw [ea]
    intro ι' F' H' gr st' v wv
    have wv' : Wd K F' v (.bl true) := wv
    cases wv'
    rfl
  refine codeAny_mono ((Fg _ KB (nsOf hns)).run callerA [] s1 H ⟨[.ref a], []⟩ [.ref a] [.ref a] _ _ (.of hr) (fun _ => hr.hd) rfl e0 (bind s1 (.ref a)) (.cons rfl .nil) sp) ?_
  intro r s' h
  cases r with
  | error e =>
    obtain ⟨_, _, _, _, _, _, _, _, _, _, _, _, z⟩ := h
    exact z.elim
  | ok fl =>
    cases fl with
    | next => exact h.elim
    | brk => exact h.elim
    | cont => exact h.elim
    | ret u =>
      obtain ⟨v, H', os, bare, un, hok', rv, q⟩ := h
      have q' : v = .bl true := q
      subst q'
      obtain rfl : u = Value.bool true := rv
      have keep : ∀ b o, s1.heap.get? b = some o → b ∉ zdm K → s'.heap.get? b = some o := by
        intro b o e nt
        cases q : H b with
        | none => exact un.keep b o e q (fun z => nomatch (show b ∈ ([] : List Addr) from z)) (by simp)
        | some u =>
          rcases isA q with z | z
          · subst z
            rcases B.scr with z | ⟨ob, xs, z⟩
            · rw [q] at z; cases z
            · obtain ⟨e1, _⟩ := hok b _ z
              obtain ⟨e2, _⟩ := hok' b _ (un.frzs b ob _ z)
              rw [e] at e1
              cases e1
              exact e2
          · exact absurd z nt
      have keepT : ∀ b ∈ zdm K, ∃ more, s'.heap.get? b = some { cls := .none, data := .fields (#[] ++ more) } := fun b hb => by
        obtain ⟨more, hm⟩ := un.tbls b _ (B.tab b hb).1
        exact ⟨more, hok' b _ hm⟩
      refine ⟨rfl, ⟨fun b o e => ?_, fun b o e => ?_⟩, os, bare⟩
      · by_cases hb : b ∈ zdm K
        · obtain ⟨more, hm⟩ := keepT b hb
          have := atT b hb
          rw [e] at this
          cases this
          exact .inr (.inl ⟨(B.tab b hb).2.1, rfl, #[], more, rfl, hm⟩)
        · exact .inl (keep b o e hb)
      · by_cases hb : b ∈ zdm K
        · obtain ⟨more, hm⟩ := keepT b hb
          exact ⟨_, hm⟩
        · exact ⟨o, keep b o e hb⟩
def TabLook (K : PySem.W.Frag) (h : Heap) : Prop := ∀ b ∈ zdm K, h.get? b = some { cls := .none, data := .fields #[] } ∧ PySem.isCodeTable h b ∧ K.lookup b = none
theorem walkD {l : PySem.W.OpenLaw} {n : Nat} {q : Program} {loose : List Str} {XP : (Str → Option Value) → Heap → Prop} {YP : World → Heap → Prop} {d : DefRec}
    (hn : l.most = some n) (hn2 : n ≤ sizeLine) (hdf : d.params.defaults = []) (hr : Room k callerA)
    (F : ∀ (w : World) (mg : Str → Option Value) (fa : Addr) (h : Heap), YP w h → h.Ns mainGlobals mg → mg d.name = some (.ref fa) →
      ∃ (K : PySem.W.Frag) (fd : FuncData), K.In h ∧ TabLook K h ∧ (∀ (s : Shared) (u : Value), BindsTo s fd ⟨[u], []⟩ [(x, u)]) ∧ (∀ base : Heap, K.In base → base.Ns mainGlobals mg → FnG l.prog w K mg base k fa fd [x] (spD K mg 1 g)))
    (ans : ∀ ns : List Int, ns.length ≤ n → ∃ S, g [.scr ns] [] = .ok (.dat (.bl true)) S) :
    PySem.W.WalkO q loose XP YP l.row.toRowW d [] (fun f vs => PySem.call f vs) := by
  apply Att.attach_call hn hdf
  intro w s0 s1 mg mb fa o pm cd doc a vs ns G Y ho hd hcd hmg hobj hints hlen hg
  obtain ⟨K, fd, KX, hT, hb, hF⟩ := F w mg fa _ Y G.T.g hmg
  have hl : ns.length ≤ sizeLine := Nat.le_trans hlen hn2
  have core := law_run KX G.T.g G.T.b G.T.builtins G.T.nolimit hg hobj hints hl hr hF hb (ans ns hlen)
  have rv := vals_ints hints
  have lenV := hints.length
  have naT : a ∉ zdm K := fun m => by
    have := (hT a m).1
    rw [hobj] at this
    cases this
  cases hk : K.lookup a with
  | some ob =>
    have e := KX a ob hk
    rw [hobj] at e
    cases e
    refine core (fun b => if b ∈ zdm K then some (.tbl #[]) else none) ⟨.inl (if_neg naT), fun b hb => ?_, fun h => absurd (if_neg naT) h, fun b hb => ⟨if_pos hb, (hT b hb).2⟩⟩ ?_ ?_
    · by_cases hm : b ∈ zdm K
      · exact .inr hm
      · exact absurd (if_neg hm) hb
    · exact .inr ⟨_, vs.toArray, _, hk, rfl, rfl, rfl, by rw [List.size_toArray, lenV]; exact hl, by simpa using rv⟩
    · intro b u z
      by_cases hm : b ∈ zdm K
      · have z2 := (if_pos hm).symm.trans z
        cases z2
        exact (hT b hm).1
      · exact nomatch (if_neg hm).symm.trans z
  | none =>
    have ifA : (if a ∈ zdm K then some (HO.tbl #[]) else if a = a then some (HO.frz { cls := .type "list", data := .seq vs.toArray } (.lst (ns.map V.int))) else none) = some (HO.frz { cls := .type "list", data := .seq vs.toArray } (.lst (ns.map V.int))) := by
      rw [if_neg naT, if_pos rfl]
    refine core (fun b => if b ∈ zdm K then some (.tbl #[]) else if b = a then some (.frz { cls := .type "list", data := .seq vs.toArray } (.lst (ns.map V.int))) else none) ⟨.inr ⟨_, _, ifA⟩, fun b hb => ?_, fun _ => hk, fun b hb => ⟨if_pos hb, (hT b hb).2⟩⟩ (.inl (.inr ⟨_, ifA⟩)) ?_
    · by_cases hm : b ∈ zdm K
      · exact .inr hm
      · by_cases h2 : b = a
        · exact .inl h2
        · exact absurd ((if_neg hm).trans (if_neg h2)) hb
    · intro b u z
      by_cases hm : b ∈ zdm K
      · have z2 := (if_pos hm).symm.trans z
        cases z2
        exact (hT b hm).1
      · by_cases h2 : b = a
        · have z2 := ((if_neg hm).trans (if_pos h2)).symm.trans z
          cases z2
          subst h2
          exact ⟨hobj, by rw [List.length_map]; exact hl, vs, _, rv, hobj⟩
        · exact nomatch ((if_neg hm).trans (if_neg h2)).symm.trans z
end
end DL
set_option maxHeartbeats 4000000
namespace PySem
namespace DLTup
open L2 PyProof.Rows
theorem mul_self (l : Addr) (items : Array Value) (n : Nat) (dd : Option Addr) (sl : Array (Option Value)) (x : Int) (u : Tok) (c0 : (decide (x < -(2 ^ 63)) || decide (x ≥ 2 ^ 63)) = false) (c1 : (items.isEmpty || x == 1) = true) :
    Meets (Builtin.«tuple.__mul__» ⟨[.ref l, .int x u], []⟩) (fun _ R s => s.heap.get? l = some { cls := .type "tuple", dict := dd, data := .seq items n, slots := sl } ∧ R (.ok (.ret (.ref l))) s) :=
  .of_wp fun prog w A R s h => by
    obtain ⟨hp, g, d, tk, os⟩ := s
    obtain ⟨hl, h⟩ := h
    have f1 := AutoSeq1.idx_int
    wp_walk using wpAny_loadPart' hl
    repeat (first
      | (refine wpAny_ite_false (decide_eq_false (by rw [c0]; exact Bool.false_ne_true)) ?_; wp_walk using wpAny_loadPart' hl)
      | (refine wpAny_ite_true (decide_eq_true c1) ?_; wp_walk using wpAny_loadPart' hl))
    all_goals exact ⟨_, rfl, h⟩
end DLTup
end PySem
namespace DL
open PySem PySem.Spec PyProof.Rows L2
variable [Mode]
section
variable {X : Cx} {W : WX} {e a b c : Expr} {es : List Expr} {pos p : Pos} {K : PySem.W.Frag} {ι : List Addr} {F H : Hp} {S : zae} {mg : Str → Option Value}
/-! ## tuple * 1, () * n: the same tuple -/
def rRepE (K : PySem.W.Frag) : R2 := fun x y H Q => ∃ l k xs, x = V.ref l ∧ y = V.int k ∧ SqT K H l xs ∧ (xs = [] ∨ k = 1) ∧ -1000 ≤ k ∧ k ≤ 1000 ∧ Q (.ref l) H
theorem op_repE : OpR X (binaryOp .Mult) (rRepE X.K) := by
  intro pins s σ H x y v u Q I rx ry ⟨l, k, xs, ex, ey, hT, hk, h1, h2, q⟩
  subst ex
  subst ey
  cases rx
  obtain ⟨t, rfl⟩ := ry
  obtain ⟨its, r, ⟨⟨cls, dd, data, sl⟩, ho, hc, n, hd⟩, hs⟩ := I.tuple hT
  simp only at hc hd
  subst hc hd
  have c0 : (decide (k < -(2 ^ 63)) || decide (k ≥ 2 ^ 63)) = false := by
    rw [decide_eq_false (by omega), decide_eq_false (by omega)]
    rfl
  have c1 : (its.toArray.isEmpty || k == 1) = true := by
    rcases hk with e | e
    · subst e
      cases r
      rfl
    · subst e
      simp
  exact wpAny_binaryOp_repeat_ref (T := "tuple") (U := "int") (by decide) ⟨_, ho, rfl⟩ (fun s' => typeIs_int s' k t) noFill_tuple_mul F.fills_int_mul F.slot_int_rmul repeat_tuple F.slot_int_index.lookup
    (call_meets F.slot_int_rmul (typeIs_int s k t) F.entry_int_rmul (F.args_int_rmul_2 _ _) (int_rmul_tuple k t l its.toArray n dd sl)
      ⟨ho, rfl, ⟨_, ho, rfl⟩, call_meets F.slot_tuple_mul ⟨_, ho, rfl⟩ F.entry_tuple_mul (F.args_tuple_mul_2 _ _) (PySem.DLTup.mul_self l its.toArray n dd sl k t c0 c1) ⟨ho, ⟨.ref l, H, I, rfl, q⟩⟩⟩)
def zji : D → D → Option D
  | .tup a, .int k => if (a = [] ∨ k = 1) ∧ -1000 ≤ k ∧ k ≤ 1000 then some (.tup a) else dMul (.tup a) (.int k)
  | x, y => dMul x y
abbrev rMulA (K : PySem.W.Frag) : R2 := fun x y H Q => rMulD K x y H Q ∨ rRepE K x y H Q
theorem zkw : OpR X (binaryOp .Mult) (rMulA X.K) := op_mulD.or op_repE
theorem zi8 : OpOk K (rMulA K) (o2 zji) := zk9 fun ι F H S v u a b c Q st va vb e q => by
  unfold zji at e
  split at e
  · split at e
    · rename_i hk
      cases e
      cases va with
      | tup s w =>
        cases vb
        refine .inr ⟨_, _, _, rfl, rfl, zdr st.sub s, ?_, hk.2.1, hk.2.2, q.same st (.tup s w)⟩
        rcases hk.1 with z | z
        · subst z
          cases w
          exact .inl rfl
        · exact .inr z
    · exact .inl (dMul_core st va vb e q)
  · exact .inl (dMul_core st va vb e q)
/-! ## -n -/
def neg1 (x : DV) (S : zae) : Res DV := match x with
  | .dat (.int i) => .ok (.dat (.int (-i))) S
  | _ => .bad
def xNeg (f : XFn) : XFn := fun ρ S => (f ρ S).bind neg1
/-! ## a list or a tuple walked -/
def iSeq (K : PySem.W.Frag) (tl : TE) : TI := fun σ H R => tl σ H fun x H1 => ∃ a, x = .ref a ∧ (((∃ xs, SqL K H1 a xs) ∧ R (Itl K a) H1) ∨ ((∃ xs, SqT K H1 a xs) ∧ R (Itt K a) H1))
theorem pi_seq {tg l : Expr} {tl : TE} (hl : PE X l tl) : PI X tg l (iSeq X.K tl) := by
  constructor
  intro pins s σ H R I h
  apply thn (hl.run pins s σ H _ I h)
  rintro v s1 ⟨x, H1, I1, r1, a, ex, q⟩
  subst ex
  cases r1
  have fresh : ∀ b ∈ [s1.heap.objs.size], FpOk X pins H1 b := by
    intro b hb
    rw [List.mem_singleton.mp hb]
    exact I1.fpOk (Nat.le_refl _) (I1.hok.fresh (Nat.le_refl _))
  rcases q with ⟨⟨xs, hq⟩, q⟩ | ⟨⟨xs, hq⟩, q⟩
  · obtain ⟨its, rv, p, hz⟩ := I1.list hq
    apply wpAny_pyIter_list p.isList
    exact ⟨s1.heap.objs.size, [s1.heap.objs.size], _, _, H1, rfl, I1.kept (t' := s1.toks) (fun b o e => Heap.get?_push_of_some _ e), turn_list a _, ⟨_, Heap.get?_push_size _ rfl, rfl, rfl⟩, fresh, q⟩
  · obtain ⟨its, rv, p, hz⟩ := I1.tuple hq
    apply wpAny_pyIter_tuple (show s1.heap.IsTuple a its.toArray from p)
    exact ⟨s1.heap.objs.size, [s1.heap.objs.size], _, _, H1, rfl, I1.kept (t' := s1.toks) (fun b o e => Heap.get?_push_of_some _ e), turn_tuple a _, ⟨_, Heap.get?_push_size _ rfl, rfl, rfl⟩, fresh, q⟩
def zkj (x : DV) (S : zae) : Res (List D) := match x with
  | .dat (.lst xs) => .ok xs S
  | .dat (.tup xs) => .ok xs S
  | _ => .bad
def lIt (f : XFn) : LFn := fun ρ S => (f ρ S).bind zkj
theorem zdh {tg : Expr} {f : XFn} (h : DE X W e f) : DI X W tg e (lIt f) := by
  refine ⟨_, pi_seq h.pe, fun σ H R ⟨ι, F, ρ, S, r, h⟩ => ?_⟩
  refine tD.bind (g := fun _ => zkj) r h fun v dv ι1 F1 S1 H1 r1 w1 g1 h1 => ?_
  unfold zkj at h1
  split at h1
  · rename_i xs
    have w' : Wd X.K F1 v (.lst xs) := w1
    cases w' with
    | lst s w => exact ⟨_, rfl, .inl ⟨⟨_, .of (r1.st.sub _ _ s)⟩, h1 ι1 F1 H1 .refl r1.st _ (itOk_list s w)⟩⟩
  · rename_i xs
    have w' : Wd X.K F1 v (.tup xs) := w1
    cases w' with
    | tup s w => exact ⟨_, rfl, .inr ⟨⟨_, zdr r1.st.sub s⟩, h1 ι1 F1 H1 .refl r1.st _ (itOk_tup s w)⟩⟩
  · exact h1.elim
/-! ## more new lists -/
def sRetN (f : LFn) : SFn := fun ρ S => (f ρ S).bindS ρ fun ds S1 => .rt (.obj S1.length) (S1 ++ [some ds])
theorem ds_retN {f : LFn} (h : NE X W e f) : DS X W (.Return (some e) pos) (sRetN f) := by
  refine ⟨_, ps_ret h.pe, fun D σ H ⟨ι, F, ρ, S, r, h⟩ => ⟨ι, F, ρ, S, r, ?_⟩⟩
  unfold sRetN at h
  cases q : f ρ S with
  | bad => rw [q] at h; exact h
  | ex c S1 => rw [q] at h; exact fun C ι' F' H' g st m => h C σ ι' F' H' g (r.slots g st) m
  | ok ds S1 =>
    rw [q] at h
    intro ι' F' H' g st p vs hp hH hF hι w
    exact h (.ref p) (ι' ++ [p]) F' H' (zi3 g hp) (st.add hH hF hι w) (wv_new hι st.len)
/-! ## a, b = e1, e2 -/
def sPar (i j : Nat) (f g : XFn) : SFn := fun ρ S => (f ρ S).bindS ρ fun x S1 => (g ρ S1).bindS ρ fun y S2 => .nx ((ρ.set i (some x)).set j (some y)) S2
/-! ## how many arguments; a def bound -/
def AL (f : AFn) (n : Nat) : Prop := ∀ ρ S ds S', f ρ S = .ok ds S' → ds.length = n
theorem zao : AL aNil 0 := fun ρ S ds S' e => by cases e; rfl
theorem zab {f : XFn} {g : AFn} {n : Nat} (h : AL g n) : AL (zac f g) (n + 1) := fun ρ S ds S' e => by
  unfold zac at e
  cases q : f ρ S with
  | ok d S1 =>
    rw [q] at e
    simp only [Res.bind_ok] at e
    cases q2 : g ρ S1 with
    | ok es S2 =>
      rw [q2] at e
      cases e
      simp [h _ _ _ _ q2]
    | ex c S2 => rw [q2] at e; cases e
    | bad => rw [q2] at e; cases e
  | ex c S1 => rw [q] at e; cases e
  | bad => rw [q] at e; cases e
theorem zdj {q : Bool} {P : Program} {w : World} {base : Heap} {k n m : Nat} {x : Str} {params : Arguments} {body : List Stmt} {scope : Scope} {N ps : List Str} {g : SFn} (h : ∃ f fd, FunD K x x params body scope [] [] f fd ∧ mg x = some (.ref f)) (Sc : FnScope N ps scope)
    (hb : ∀ (kV doc pm : Value) (an : Option Addr) (cdv ct : Value) (us : List Value), us.length = ps.length → bindArgs (PySem.W.fnOf x x params body scope .none kV doc pm an cdv ct) ⟨us, []⟩ = pure (ps.zip us))
    (hbody : ∀ (f : Addr) (cdv : Value) (A : Around) (outer : List Env) (s : Shared) (H : Hp) (E : XK), RoomH k (A.deeper (envOfC x scope s.heap.objs.size f cdv)) → A.guards = some [] →
      DSs (cxQ q P w K mg base N x scope f cdv A outer s H E) (fun cls d _ H => E cls d H) body g) (hn : ps.length = n := by rfl) (hm : N.length = m := by rfl) (plm : Mode.plain = true := by rfl) : DefQ q P w K mg base (k + 1) x n (zbl m g) := by
  obtain ⟨f, fd, Fd, hmg⟩ := h
  exact ⟨f, fd, ps, fn_D Fd Sc hn hm (hbody f) plm, hmg, Fd.kp, Fd.bindsN hb⟩
end
end DL
set_option maxHeartbeats 4000000
namespace DL
open PySem PySem.Spec PyProof.Rows L2
variable [Mode]
section
variable {X : Cx} {W : WX} {e a b c : Expr} {es : List Expr} {pos p : Pos} {K : PySem.W.Frag} {ι : List Addr} {F H : Hp} {S : zae} {mg : Str → Option Value}
/-! ## comparisons as tests -/
def bool1 (x : DV) (S : zae) : Res Bool := match x with
  | .dat (.bl b) => .ok b S
  | _ => .bad
def tBl (f : XFn) : TFn := fun ρ S => (f ρ S).bind bool1
theorem tT_bl {f : XFn} {σ : L2.St} {H : Hp} {Q : Bool → Hp → Prop} (h : tT X W (tBl f) σ H Q) : tD X W f σ H fun x H' => ∃ k, x = .bl k ∧ Q k H' := by
  obtain ⟨ι, F, ρ, S, r, h⟩ := h
  refine tD.bind (g := fun _ => bool1) r h fun v dv ι1 F1 S1 H1 r1 w1 g1 h1 => ?_
  unfold bool1 at h1
  split at h1
  · rename_i k
    have w' : Wd X.K F1 v (.bl k) := w1
    cases w'
    exact ⟨k, rfl, h1 ι1 F1 H1 .refl r1.st⟩
  · exact h1.elim
theorem zbe {op : CmpOp} {r : R2} {o : Op2} {f g : XFn} (ho : OpR X (compareOp op) r) (k : OpOk X.K r o) (ha : DE X W a f) (hb : DE X W b g) (hm : behindInMarks op b = false := by rfl) : DT X W (.Compare a [op] [b] pos) (tBl (x2 o f g)) := by
  refine ⟨PT.weak (pt_cmpR ho ha.pe hb.pe hm) fun σ H Q h => ?_⟩
  obtain ⟨ι, F, ρ, S, r0, h⟩ := tT_bl h
  refine tD.bind (g := fun ρ x S1 => (g ρ S1).bind fun y S2 => o x y S2) r0 h fun v dv ι1 F1 S1 H1 r1 w1 g1 h1 => ?_
  refine tD.bind (g := fun ρ y S2 => o dv y S2) r1 h1 fun u du ι2 F2 S2 H2 r2 w2 g2 h2 => ?_
  exact k _ _ ι2 F2 H2 S2 v u dv du _ r2.st (w1.grow g2) w2 h2
theorem dt_chain {op op' : CmpOp} {r r' : R2} {o o' : Op2} {f g k : XFn} (ho : OpR X (compareOp op) r) (ho' : OpR X (compareOp op') r') (k1 : OpOk X.K r o) (k2 : OpOk X.K r' o') (ha : DE X W a f) (hb : DE X W b g) (hc : DE X W c k)
    (hm : lastMarks [op, op'] [b, c] = false := by rfl) : DT X W (.Compare a [op, op'] [b, c] pos) (tBl (zmn o o' f g k)) := by
  refine ⟨PT.weak (pt_chain ho ho' ha.pe hb.pe hc.pe hm) fun σ H Q h => ?_⟩
  obtain ⟨ι, F, ρ, S, r0, h⟩ := tT_bl h
  refine tD.bind (g := fun ρ x S1 => (g ρ S1).bind fun y S2 => (o x y S2).bind fun z S3 => match z with
    | .dat (.bl true) => (k ρ S3).bind fun w S4 => o' y w S4
    | .dat (.bl false) => .ok (.dat (.bl false)) S3
    | _ => .bad) r0 h fun v dv ι1 F1 S1 H1 r1 w1 g1 h1 => ?_
  refine tD.bind (g := fun ρ y S2 => (o dv y S2).bind fun z S3 => match z with
    | .dat (.bl true) => (k ρ S3).bind fun w S4 => o' y w S4
    | .dat (.bl false) => .ok (.dat (.bl false)) S3
    | _ => .bad) r1 h1 fun u du ι2 F2 S2 H2 r2 w2 g2 h2 => ?_
  refine k1 X.mg (fun c d H' => W c d σ H') ι2 F2 H2 S2 v u dv du _ r2.st (w1.grow g2) w2 ?_
  cases q : o dv du S2 with
  | ex c S3 => rw [q] at h2; exact h2
  | bad => rw [q] at h2; exact h2
  | ok z S3 =>
    rw [q] at h2
    intro ι3 F3 H3 g3 st3 zv wz
    have h3 := Post.grow (r := (match z with
      | .dat (.bl true) => (k ρ S3).bind fun w S4 => o' du w S4
      | .dat (.bl false) => .ok (.dat (.bl false)) S3
      | _ => .bad)) h2 g3
    have r3 := r2.slots g3 st3
    split at h3
    · have w' : Wd X.K F3 zv (.bl true) := wz
      cases w'
      refine ⟨true, rfl, ?_⟩
      rw [if_pos rfl]
      refine tD.bind (g := fun ρ w S4 => o' du w S4) r3 h3 fun t dt ι4 F4 S4 H4 r4 w4 g4 h4 => ?_
      exact k2 _ _ ι4 F4 H4 S4 u t du dt _ r4.st ((w2.grow g3).grow g4) w4 h4
    · have w' : Wd X.K F3 zv (.bl false) := wz
      cases w'
      exact ⟨false, rfl, by rw [if_neg (by simp)]; exact h3 ι3 F3 H3 .refl st3 _ (.bl _)⟩
    · exact h3.elim
theorem zo1 {h : Heap} {x : Str} (X : K.In h) (G : h.Ns mainGlobals mg) (c1 : (He.Fa.glo x).ok K = true) (c2 : (He.Fa.exc x).ok K = true) : ExcD K mg x := ⟨_, He.glo_ok X G c1, (He.exc_ok c2).1, (He.exc_ok c2).2.1, (He.exc_ok c2).2.2.1, (He.exc_ok c2).2.2.2⟩
/-! ## == of two texts, of any signs -/
def dNeS : D → D → Option D
  | .str x, .str y => some (.bl (!decide (x = y)))
  | a, b => dNe a b
theorem op_neS (hu : X.A.units + 64 < cLine) : OpR X (compareOp .NotEq) (fun x y H Q => rNeDD X.K x y H Q ∨ rNe x y H Q) := (zgc hu).or op_ne
theorem dNeS_ok : OpOk K (fun x y H Q => rNeDD K x y H Q ∨ rNe x y H Q) (o2 dNeS) := zk9 fun ι F H S v u a b c Q st va vb e q => by
  unfold dNeS at e
  split at e
  · cases e
    cases va
    cases vb
    rename_i x y
    have e1 : (decide (V.str x = V.str y)) = decide (x = y) := by simp
    exact .inr ⟨rfl, by rw [e1]; exact q.same st (.bl _)⟩
  · unfold dNe at e
    split at e
    · rename_i h
      cases e
      obtain ⟨h1, h2, h3⟩ := zqo h
      exact .inl ⟨_, _, (va.wd st.sub).dp h1, (vb.wd st.sub).dp h2, h1, h2, h3, q.same st (.bl _)⟩
    · cases e
theorem ru64 {k : Nat} {A : Around} (r : RoomH k A) : A.units + 64 < cLine := by have := r.un; omega
theorem ru65 {k : Nat} {A : Around} (r : RoomH k A) : A.units + 65 < cLine := by have := r.un; omega
end
end DL
set_option maxHeartbeats 4000000
namespace DL
open PySem PySem.Spec PyProof.Rows L2
variable [Mode]
section
variable {X : Cx} {W : WX} {pos : Pos}
theorem DSs.canon {st : List Stmt} {f : SFn} (h : DSs X W st f) : PSs X st (tS X W f) := by
  obtain ⟨t, p, k⟩ := h.ps
  exact ⟨fun pins s σ H D I q => p.run pins s σ H D I (k D σ H q)⟩
/-! ## try .. except X: .., several clauses without names -/
abbrev Hds := List ((Str → Option Bool) × SFn)
structure CatD (K : PySem.W.Frag) (mg : Str → Option Value) (x : Str) (m : Str → Option Bool) : Prop where
  ex : ∃ D, mg x = some (.ref D) ∧ ∀ c b C, m c = some b → mg c = some (.ref C) → PySem.W.exmOne K (.ref C) (.ref D) = some b
inductive HdsD (X : Cx) : List ExceptHandler → Hds → Prop
  | nil : HdsD X [] []
  | cons {x : Str} {m : Str → Option Bool} {f : SFn} {b0 : Stmt} {suite : List Stmt} {np hp : Pos} {hds : List ExceptHandler} {l : Hds} (hm : CatD X.K X.mg x m) (hg : Gl X x) (hdb : (x == ("__debug__" : Str)) = false)
      (hsu : ∀ (a : Addr) (pn : List (Addr × Obj)), DSs (X.suite a pn) W0 (b0 :: suite) f) (r : HdsD X hds l) : HdsD X (.ExceptHandler (some (.Name x np)) none (b0 :: suite) hp :: hds) ((m, f) :: l)
end
end DL
namespace DL
open PySem PySem.Spec PyProof.Rows L2
variable [Mode]
/-! ## which classes a clause catches, by a table -/
inductive CatF (K : PySem.W.Frag) (y : Str) : List (Str × Bool) → Prop
  | nil : CatF K y []
  | cons {x : Str} {b : Bool} {l : List (Str × Bool)} (h1 : (He.Fa.glo x).ok K = true) (h2 : (He.Fa.exm x y b).ok K = true) (r : CatF K y l) : CatF K y ((x, b) :: l)
end DL
set_option maxHeartbeats 4000000
namespace DL
open PySem PySem.Spec PyProof.Rows L2
variable [Mode]
section
variable {X : Cx} {W : WX} {e a b c : Expr} {es : List Expr} {pos p : Pos} {K : PySem.W.Frag} {ι : List Addr} {F H : Hp} {S : zae} {mg : Str → Option Value}
/-! ## comprehensions with two sources -/
end
end DL
set_option maxHeartbeats 8000000
namespace PySem
namespace DLSort
open L2 PyProof.Rows
section
variable {prog : Program} {w : World} {A : Around} {E : Value → Shared → Prop} {s : Shared}
theorem gather {t : Addr} {us : List Value} {R : List Value → Shared → Prop} (ht : s.heap.IsTuple t us.toArray) (fits : us.length ≤ sizeLine)
    (h : R us { s with heap := (s.heap.push (seqObj "list" #[] 0)).update s.heap.objs.size (Obj.mapSeq (· ++ us.toArray)) }) : wpAny (model prog w) A (collect (.ref t)) R E s := by
  obtain ⟨ob, gt, cl, m, dt⟩ := id ht
  unfold collect
  apply wpAny_bind
  apply wpAny_runValue
  apply codeAny_builtin entry_proto_collect'
  show wpAny _ _ (do again (.builtin "list.__iadd__" ⟨[← newList [], .ref t], []⟩)) _ _ s
  apply wpAny_bind
  refine wpAny_newList ?_
  refine wpAny_pure ⟨Code.quiet_builtin _ (by decide +kernel), ?_⟩
  apply codeAny_builtin entry_list_iadd'
  have gt2 : (s.heap.push (seqObj "list" #[] 0)).get? t = some ob := Heap.get?_push_of_some _ gt
  show wpAny _ _ (Builtin.List.listExtendWith (.ref s.heap.objs.size) (.ref t) (.ref s.heap.objs.size)) _ _ { s with heap := s.heap.push (seqObj "list" #[] 0) }
  unfold Builtin.List.listExtendWith
  apply wpAny_bind
  refine wpAny_typeOf (s := { s with heap := s.heap.push (seqObj "list" #[] 0) }) (T := "tuple") (show Shared.TypeIs _ (.ref t) "tuple" from ⟨ob, gt2, cl⟩) ?_
  have tt : (Value.type "tuple" == Value.type "tuple") = true := by rfl
  rw [if_pos (by rw [tt]; simp)]
  apply wpAny_bind
  apply listItems_at gt2 dt
  apply wpAny_bind
  apply listItems_at (xs := #[]) (n := 0) (Heap.get?_push_size _ rfl) rfl
  rw [if_neg (by simp)]
  apply wpAny_bind
  refine listUpdate_at (xs := #[]) (n := 0) (Heap.get?_push_size _ rfl) rfl ?_ (Nat.zero_le _) (by
    show (#[] ++ us.toArray).size ≤ sizeLine + 1
    simp only [Array.size_append, List.size_toArray, List.length_nil]
    omega)
  apply wpAny_pure
  show wpAny (model prog w) A (do
      let o ← load s.heap.objs.size
      match o.data with
      | .seq ys _ => pure ys.toList
      | _ => unsupported "internal:collect") R E { s with heap := (s.heap.push (seqObj "list" #[] 0)).update s.heap.objs.size (Obj.mapSeq (· ++ us.toArray)) }
  apply wpAny_bind
  refine wpAny_load (get?_update_seq (Heap.get?_push_size _ rfl) _) ?_
  show wpAny _ _ (pure ((#[] : Array Value) ++ us.toArray).toList) R E _
  have e : ((#[] : Array Value) ++ us.toArray).toList = us := by simp
  rw [e]
  exact wpAny_pure h
theorem sorted_tuple {t : Addr} {us : List Value} {ns : List Int} {R : Value → Shared → Prop} (hI : IntsAre us ns) (ht : s.heap.IsTuple t us.toArray) (fits : us.length ≤ sizeLine)
    (h : ∀ out : List Value, SrtO.Srtd SrtO.ltIv out → SrtO.Stb SrtO.ltIv out us → R (.ref (s.heap.objs.size + 1)) { s with heap := sortedAll s.heap us out.toArray }) :
    wpAny (model prog w) A (call (.builtin "sorted") [.ref t]) R E s := by
  apply Calls.call_function_entry kind_sorted plain_sorted entry_sorted (args_sorted1 _)
  unfold Builtin.«sorted»
  refine wpAny_bind (m := checkCount "sorted" 1 1 _) (wpAny_pure ?_)
  apply wpAny_bind
  refine gather ht fits ?_
  apply wpAny_bind
  refine wpAny_newList ?_ fits
  have sz : ((s.heap.push (seqObj "list" #[] 0)).update s.heap.objs.size (Obj.mapSeq (· ++ us.toArray))).objs.size = s.heap.objs.size + 1 := by rw [Heap.size_update, size_push']
  have here : (((s.heap.push (seqObj "list" #[] 0)).update s.heap.objs.size (Obj.mapSeq (· ++ us.toArray))).push (seqObj "list" us.toArray 0)).get? (s.heap.objs.size + 1) = some (seqObj "list" us.toArray 0) := by
    rw [← sz]; exact Heap.get?_push_size _ rfl
  show wpAny _ _ _ _ _ { s with heap := ((s.heap.push (seqObj "list" #[] 0)).update s.heap.objs.size (Obj.mapSeq (· ++ us.toArray))).push (seqObj "list" us.toArray 0) }
  rw [sz]
  apply wpAny_bind
  apply wpAny_holding
  refine wpAny_call_entry slot_list_sort ⟨_, here, rfl⟩ entry_list_sort (SrtO.list_sort_ord SrtO.swo_int here fits (fun two => SrtO.ints_sortable hI two) fun out a b => ⟨_, rfl, ?_⟩) (args_list_sort _)
  exact wpAny_pure ⟨_, rfl, h out a b⟩
end
end DLSort
end PySem
namespace DL
open PySem PySem.Spec PyProof.Rows L2
variable [Mode]
section
variable {X : Cx} {W : WX} {e a b c : Expr} {es : List Expr} {pos p : Pos} {K : PySem.W.Frag} {ι : List Addr} {F H : Hp} {S : zae} {mg : Str → Option Value}
/-! ## sorted(x), any data that can be compared -/
def dOrd (x y : D) : Bool := PySem.W.dataLe false D.py x y
def canSort (xs : List D) : Bool := (xs.all fun x => xs.all fun y => PySem.W.alike x.py y.py) &&
  ((xs.all fun x => match x.py with | .tuple (_ :: _) => true | _ => false) || (xs.all fun x => match x.py with | .none => false | .tuple _ => false | _ => true)) && (xs.all fun x => decide (x.py.depth ≤ 40))
def EachD (K : PySem.W.Frag) (G : Hp) (s : Shared) (v : Value) (d : D) : Prop := ∃ u : V, RelV u v ∧ Wd K G u d
theorem eachD_of {G : Hp} {s : Shared} : ∀ {vs : List V} {us : List Value} {ds : List D}, WdA K G vs ds → Vals vs us → PySem.W.EachIs (EachD K G s) us ds
  | _, _, _, .nil, .nil => .nil
  | _, _, _, .cons w ws, .cons r rs => .cons ⟨_, r, w⟩ (eachD_of ws rs)
theorem ofEachD {G : Hp} {s : Shared} {us : List Value} {ds : List D} (h : PySem.W.EachIs (EachD K G s) us ds) : ∃ vs : List V, Vals vs us ∧ WdA K G vs ds := by
  induction h with
  | nil => exact ⟨[], .nil, .nil⟩
  | cons h _ ih =>
    obtain ⟨u, r, w⟩ := h
    obtain ⟨vs, a, b⟩ := ih
    exact ⟨u :: vs, .cons r a, .cons w b⟩
mutual
theorem Wd.dpA {K : PySem.W.Frag} {F : Hp} : ∀ {d : D} {v : V}, Wd K F v d → PySem.W.alike d.py d.py = true → Dp K F v d.py
  | .non, _, h, _ => by cases h; exact .non
  | .bl _, _, h, _ => by cases h; exact .bl _
  | .int _, _, h, _ => by cases h; exact .int _
  | .str _, _, h, _ => by cases h; exact .str _
  | .lst ds, _, h, c => by
    cases h with
    | lst s a => exact .lst (.of s) (WdA.dpA a (by simpa [D.py, PySem.W.alike] using c))
  | .tup ds, _, h, c => by
    cases h with
    | tup s a => exact .tup s (WdA.dpA a (by simpa [D.py, PySem.W.alike] using c))
  | .cas _, _, _, c => by simp [D.py, PySem.W.alike] at c
  | .dct _, _, _, c => by simp [D.py, PySem.W.alike] at c
  | .ptr _, _, _, c => by simp [D.py, PySem.W.alike] at c
theorem WdA.dpA {K : PySem.W.Frag} {F : Hp} : ∀ {ds : List D} {vs : List V}, WdA K F vs ds → PySem.W.alikeAll (D.pys ds) (D.pys ds) = true → DpAll K F vs (D.pys ds)
  | [], _, h, _ => by cases h; exact .nil
  | d :: ds, _, h, c => by
    simp only [D.pys, PySem.W.alikeAll, Bool.and_eq_true] at c
    cases h with
    | cons a b => exact .cons (Wd.dpA a c.1) (WdA.dpA b c.2)
end
theorem readsD_of {pins : List (Addr × Obj)} {σ : L2.St} {G H : Hp} {s : Shared} (I : Inv X pins σ H s) (sm : Same G H) : ∀ {vs : List V} {us : List Value} {ds : List D}, WdA X.K G vs ds → Vals vs us → (∀ d ∈ ds, PySem.W.alike d.py d.py = true) → PySem.W.EachIs (fun v b => ∃ as, Reads s.heap v (D.py b) as) us ds
  | _, _, _, .nil, .nil, _ => .nil
  | _, _, _, .cons w ws, .cons r rs, h => .cons (Dp.reads I _ _ _ (Wd.dpA (w.mono sm) (h _ (List.mem_cons_self ..))) r) (readsD_of I sm ws rs fun d hd => h d (List.mem_cons_of_mem _ hd))
def rSortD (K : PySem.W.Frag) : List V → Hp → VK → Prop := fun xs H Q => ∃ (a : Addr) (vs : List V) (ds : List D) (G : Hp), xs = [V.ref a] ∧ SqL K H a vs ∧ Same G H ∧ WdA K G vs ds ∧ canSort ds = true ∧
  ∀ p ws, H p = none → WdA K G ws (ds.mergeSort dOrd) → Q (.ref p) (upd H p (.lst ws))
theorem cr_sortD (hu : X.A.units + 64 < cLine) : CallR X (.builtin "sorted") (rSortD X.K) := by
  intro pins s σ H xs us Q I r h
  obtain ⟨a, vs, ds, G, rfl, hq, sm, wd, can, q⟩ := h
  rw [Vals.ref1 r]
  obtain ⟨its, rv, pl, hz⟩ := I.list hq
  unfold canSort at can
  simp only [Bool.and_eq_true, Bool.or_eq_true, List.all_eq_true, decide_eq_true_eq] at can
  obtain ⟨⟨c1, c2⟩, c3⟩ := can
  have e0 : PySem.W.EachIs (EachD X.K G s) its ds := eachD_of wd rv
  have er : PySem.W.EachIs (fun v b => ∃ as, Reads s.heap v (D.py b) as) its ds := readsD_of I sm wd rv fun d hd => c1 d hd d hd
  refine PySem.W.sorted_data (enc := D.py) (R := EachD X.K G s) pl.isList e0 er ?_ ?_ (by rw [← wd.length]; exact hz) (fun b hb => by have := c3 b hb; omega) fun out hl eo => ?_
  · intro d hd d' hd'
    obtain ⟨x, hx, rfl⟩ := List.mem_map.mp hd
    obtain ⟨y, hy, rfl⟩ := List.mem_map.mp hd'
    exact c1 x hx y hy
  · rcases c2 with c2 | c2
    · left
      intro d hd
      obtain ⟨x, hx, rfl⟩ := List.mem_map.mp hd
      have := c2 x hx
      split at this
      · rename_i y r e; exact ⟨y, r, e⟩
      · cases this
    · right
      intro d hd
      obtain ⟨x, hx, rfl⟩ := List.mem_map.mp hd
      have := c2 x hx
      refine ⟨fun z => ?_, fun xs z => ?_⟩
      · rw [z] at this; exact absurd this (by simp)
      · rw [z] at this; exact absurd this (by simp)
  · obtain ⟨ws, rw_, ww⟩ := ofEachD eo
    obtain ⟨ep, he⟩ := PyProof.Rows.sortedAll_at s.heap its out.toArray
    have hlen : ws.length ≤ sizeLine := by
      rw [ww.length, List.length_mergeSort, ← wd.length]; exact hz
    exact ⟨.ref _, upd H (s.heap.objs.size + 1) (.lst ws), I.laid (t' := s.toks) (fun _ _ => PyProof.Rows.sortedAll_old) (Nat.le_succ _) ⟨hlen, out, ep, rw_, he⟩, rfl, q _ ws (I.hok.fresh (Nat.le_succ _)) ww⟩
def isortI (ns : List Int) : List Int := ns.mergeSort fun a b => decide (a ≤ b)
def rSortTI (K : PySem.W.Frag) : List V → Hp → VK → Prop := fun vs H Q => ∃ (a : Addr) (ns : List Int), vs = [V.ref a] ∧ SqT K H a (ns.map V.int) ∧ ∀ (ns' : List Int) (p : Addr), ns'.Perm ns → ns'.Pairwise (· ≤ ·) → H p = none → Q (.ref p) (upd H p (.lst (ns'.map V.int)))
theorem cr_sortTI : CallR X (.builtin "sorted") (rSortTI X.K) := by
  intro pins s σ H vs us Q I r h
  obtain ⟨a, ns, rfl, hs, q⟩ := h
  obtain ⟨its, rv, hl, hz⟩ := I.tuple hs
  rw [Vals.ref1 r]
  have hi := rv.ints
  refine PySem.DLSort.sorted_tuple hi hl (by rw [← rv.length]; exact hz) fun out h1 h2 => ?_
  obtain ⟨k1, k2, k3⟩ := SrtO.ints_out hi h1 h2
  obtain ⟨ep, he⟩ := PyProof.Rows.sortedAll_at s.heap its out.toArray
  have hlen : ((out.map SrtO.iv).map V.int).length ≤ sizeLine := by rw [List.length_map, k2.length_eq]; simpa using hz
  refine ⟨.ref _, upd H (s.heap.objs.size + 1) (.lst ((out.map SrtO.iv).map V.int)), ?_, rfl, q _ _ k2 k3 (I.hok.fresh (Nat.le_succ _))⟩
  exact I.laid (t' := s.toks) (fun _ _ => PyProof.Rows.sortedAll_old) (Nat.le_succ _) ⟨hlen, out, ep, vals_of_ints k1, he⟩
theorem isortI_eq {a b : List Int} (hp : a.Perm b) (hs : a.Pairwise (· ≤ ·)) : a = isortI b := by
  have h1 : (isortI b).Pairwise (· ≤ ·) := by
    have := List.pairwise_mergeSort (le := fun a b : Int => decide (a ≤ b)) (by intro a b c h1 h2; simp at *; omega) (by intro a b; simp; omega) b
    exact this.imp fun h => by simpa using h
  exact List.Perm.eq_of_pairwise (le := (· ≤ ·)) (fun x y _ _ h1 h2 => by omega) hs h1 (hp.trans (List.mergeSort_perm b _).symm)
def zi9 (x : DV) (S : zae) : Res (List D) := match rd S x with
  | some (.lst xs) => if canSort xs = true then .ok (xs.mergeSort dOrd) S else .bad
  | some (.tup xs) => (match zh_ xs with
    | some ns => .ok ((isortI ns).map .int) S
    | none => .bad)
  | _ => .bad
def zn4 (f : XFn) : LFn := fun ρ S => (f ρ S).bind zi9
theorem ne_sorted {f : XFn} (h : DE X W a f) (hu : X.A.units + 64 < cLine) (hm : X.mg "sorted" = none) (hg : Gl X "sorted" := by rfl) (he : starEach (a :: []) X.env = (false, eval a X.env) :: starEach [] X.env := by rfl) :
    NE X W (.Call (.Name "sorted" p) [a] [] pos) (zn4 f) := by
  refine ⟨PE.weak (pe_callB (r := fun vs H Q => rSortD X.K vs H Q ∨ rSortTI X.K vs H Q) (fun pins s σ H xs us Q I r h => h.elim (cr_sortD hu pins s σ H xs us Q I r) (cr_sortTI pins s σ H xs us Q I r)) hg hm (by decide +kernel) (pa_cons h.pe pa_nil he) (by decide) (by decide) he rfl) fun σ H Q ⟨ι, F, ρ, S, r, h⟩ => ?_⟩
  refine tD.bind (g := fun _ => zi9) r h fun v dv ι1 F1 S1 H1 r1 w1 g1 h1 => ?_
  unfold zi9 at h1
  cases ed : rd S1 dv with
  | none => simp only [ed] at h1; exact h1.elim
  | some d =>
    have vw := r1.st.vw w1 ed
    cases vw with
    | lst s w =>
      simp only [ed] at h1
      split at h1
      · rename_i hc
        exact .inl ⟨_, _, _, F1, rfl, .of s, r1.st.sub, w, hc, fun p ws hp ww => zo5 r1.st g1 h1 ww hp⟩
      · exact h1.elim
    | tup s w =>
      rename_i p0 vs xs
      simp only [ed] at h1
      cases ei : zh_ xs with
      | none => simp only [ei] at h1; exact h1.elim
      | some ns =>
        simp only [ei] at h1
        have ev := zk8 w ei
        subst ev
        refine .inr ⟨_, ns, rfl, zdr r1.st.sub s, fun ns' p hp hs hn => ?_⟩
        have := isortI_eq hp hs
        subst this
        exact zo5 r1.st g1 h1 (znm _) hn
    | _ => simp only [ed] at h1; exact h1.elim
end
end DL
set_option maxHeartbeats 8000000
namespace PySem
namespace DLSetT
open L2 PyProof.Rows
theorem few_of {α : Type} [DecidableEq α] : ∀ (l m : List α), l.Nodup → (∀ x ∈ l, x ∈ m) → l.length ≤ m.length
  | [], _, _, _ => Nat.zero_le _
  | x :: l, m, hn, hs => by
    rw [List.nodup_cons] at hn
    have hx : x ∈ m := hs x (List.mem_cons_self ..)
    have ih := few_of l (m.erase x) hn.2 fun y hy => (List.mem_erase_of_ne (fun z => hn.1 (by rw [← z]; exact hy))).mpr (hs y (List.mem_cons_of_mem _ hy))
    have := List.length_erase_of_mem hx
    have := List.length_pos_of_mem hx
    simp only [List.length_cons]
    omega
abbrev void (w : World) : Obj := { cls := .type "set", dict := none, data := .set #[] 0 (.fresh 0 0 (!w.params.followText "set-order")) }
section
variable {P : Program} {w : World} {A : Around} {E : Value → Shared → Prop} {s : Shared}
theorem take_all {I : Addr} {fp wr : List Addr} {G : Array GenState → Array GenState → Prop} {n : Nat} {Pv : Nat → Value → Prop} {St : Nat → Shared → Prop} {R : Result → Shared → Prop}
    (W : WalksS P w A.in1 I fp wr G n Pv St) (S : Addr) (off : S ∉ fp) (ks : List (Addr × List Int)) (cnt : n = ks.length) (Dl : List (List Int)) (small : Dl.length < 63) (inD : ∀ p ∈ ks, p.2 ∈ Dl) (val : ∀ i v, Pv i v → ∃ p, ks[i]? = some p ∧ v = .ref p.1)
    (h0 : Heap) (tup : ∀ p ∈ ks, L2.IsT P w h0 p.2 p.1) (free : h0.get? S = none) (wfree : ∀ b ∈ wr, h0.get? b = none) (room : A.in1.units < cLine) :
    ∀ (m i : Nat) (s : Shared), n - i = m → i ≤ n → St i s → (∀ b o, h0.get? b = some o → s.heap.get? b = some o) → (∃ L es ep t, SetTR P w s.heap S L es ep t ∧ Got ks i L) →
      (∀ s' L es ep t, Moved (S :: wr) G s s' → SetTR P w s'.heap S L es ep t → Got ks n L → (∀ b o, h0.get? b = some o → s'.heap.get? b = some o) → R (.ok (.ret .none)) s') →
      codeAny (model P w) A (.builtin "set.update.loop" ⟨[.ref S, .ref I], []⟩) R s := by
  have Sw : S ∉ wr := fun m => off (W.sub _ m)
  have wid : ∀ b ∈ wr, b ∈ S :: wr := fun b m => List.mem_cons_of_mem _ m
  have hold : ∀ {s s' : Shared}, Moved wr G s s' → (∀ b o, h0.get? b = some o → s.heap.get? b = some o) → ∀ b o, h0.get? b = some o → s'.heap.get? b = some o := by
    intro s s' mv k b o q
    refine mv.heap b o (fun m => ?_) (k b o q)
    rw [wfree b m] at q
    cases q
  intro m
  induction m with
  | zero =>
    intro i s em hi st keep ⟨L, es, ep, t, hS, g⟩ fin
    obtain rfl : i = n := by omega
    apply codeAny_builtin F.entry_set_update_loop
    rw [Around.under_plainId F.plain_set_update_loop _]
    show wpAny _ A.in1 (pyNext (.ref I) >>= _) _ _ s
    apply wpAny_bind
    refine W.done s _ _ st fun s' mv => ?_
    show wpAny _ A.in1 (ret Value.none) _ _ s'
    have keep2 := hold mv keep
    have sub : ∀ p ∈ L, p ∈ ks := fun p hp => List.mem_of_mem_take (g.sub p hp)
    apply wpAny_pure
    exact fin s' L es ep t (mv.mono wid) (hS.keep (fun o q => mv.heap S o Sw q) fun p hp => isT_keep (tup p (sub p hp)) keep2) g keep2
  | succ m ih =>
    intro i s em hi st keep ⟨L, es, ep, t, hS, g⟩ fin
    have lt : i < n := by omega
    apply codeAny_builtin F.entry_set_update_loop
    rw [Around.under_plainId F.plain_set_update_loop _]
    show wpAny _ A.in1 (pyNext (.ref I) >>= _) _ _ s
    apply wpAny_bind
    refine W.item i s _ _ lt st fun v s' pv st' mv => ?_
    obtain ⟨p, hp, rfl⟩ := val i v pv
    have keep2 := hold mv keep
    have sub : ∀ p ∈ L, p ∈ ks := fun p hp => List.mem_of_mem_take (g.sub p hp)
    have S2 : SetTR P w s'.heap S L es ep t := hS.keep (fun o q => mv.heap S o Sw q) fun q hq => isT_keep (tup q (sub q hq)) keep2
    have tp : L2.IsT P w s'.heap p.2 p.1 := isT_keep (tup p (List.mem_of_getElem? hp)) keep2
    have lL : L.length ≤ Dl.length := by
      have := few_of (L.map (·.2)) Dl hS.nd fun x hx => by
        obtain ⟨q, hq, rfl⟩ := List.mem_map.mp hx
        exact inD q (sub q hq)
      simpa using this
    show wpAny _ A.in1 (holding [Value.ref p.1] (setAdd S (.ref p.1)) >>= _) _ _ s'
    apply wpAny_bind
    apply wpAny_holding
    unfold setAdd
    apply wpAny_holding
    apply wpAny_bind
    refine wpAny_pyHash_tuple room tp ?_
    refine add_at (s := { s' with toks := s'.toks + (p.2.length + 1) }) S2 tp room (by omega) fun b h' L' es' ep' t' sb S3 same more => ?_
    have g2 : Got ks (i + 1) L' := by
      by_cases z : p.2 ∈ L.map (·.2)
      · rw [same z]; exact g.same hp z
      · exact g.more hp (more z)
    have keep3 : ∀ b o, h0.get? b = some o → h'.get? b = some o := by
      intro b o q
      rw [sb.2 b (fun z => by rw [z, free] at q; cases q)]
      exact keep2 b o q
    apply wpAny_pure
    refine ⟨plainId_quiet F.plain_set_update_loop _, ih (i + 1) _ (by omega) lt (W.frame _ s' _ _ st' (Nat.le_add_right _ _) fun b hb o q => ?_) keep3 ⟨L', es', ep', t', S3, g2⟩ fun s'' L2 es2 ep2 t2 mv2 S4 g3 keep4 => ?_⟩
    · rw [sb.2 b (fun z : b = S => off (by rw [← z]; exact hb))]; exact q
    · refine fin s'' L2 es2 ep2 t2 (Moved.trans W.gtrans ((mv.mono wid).then_heap (Nat.le_add_right _ _) fun b o hb q => ?_) mv2) S4 g3 keep4
      rw [sb.2 b (fun z : b = S => hb (by rw [z]; exact List.mem_cons_self))]; exact q
theorem set_of_tups {l : Addr} {items : Array Value} (ks : List (Addr × List Int)) (Dl : List (List Int)) {Q : Value → Shared → Prop} (hh : A.handled = none) (hl : s.heap.IsList l items) (hit : items.toList = ks.map fun p => Value.ref p.1)
    (tup : ∀ p ∈ ks, L2.IsT P w s.heap p.2 p.1) (small : Dl.length < 63) (inD : ∀ p ∈ ks, p.2 ∈ Dl) (room : A.units + 3 < cLine)
    (h : ∀ (h' : Heap) (tk : Nat) L es ep t, SetTR P w h' s.heap.objs.size L es ep t → Got ks ks.length L → (∀ b o, s.heap.get? b = some o → h'.get? b = some o) → Q (.ref s.heap.objs.size) { s with heap := h', toks := tk }) :
    wpAny (model P w) A (call (.type "set") [.ref l]) Q E s := by
  have cnt : items.size = ks.length := by simpa using congrArg List.length hit
  obtain ⟨c, tl, hmro⟩ := F.called_set.mro
  have hmade := F.called_set.made
  have hsub := F.called_set.sub
  apply wpAny_call
  apply codeAny_of_tree
  show wpAny _ _ (callAny (.type "set") _) _ _ _
  apply wpAny_pure
  refine ⟨Code.quiet_builtin _ (by decide +kernel), ?_⟩
  apply codeAny_builtin F.entry_type_call
  rw [Around.under_plain (weight_type_call_type "set" [.ref l] []) rfl]
  have h1 := F.called_set.notType
  have h2 := F.called_set.canCreate
  have hct := F.typeCall_set_1 (.ref l)
  repeat (any_goals (first | assumption | wp_step))
  refine codeAny_mono (code_set_led1 (.ref l) (E := E) (Q₁ := fun ob s1 => ob = .ref s.heap.objs.size ∧ s1 = { s with heap := s.heap.push (void w) }) ⟨rfl, rfl⟩) ?_
  intro r s1 hr
  cases r with
  | error e => exact hr
  | ok fl =>
    cases fl with
    | ret ob =>
      obtain ⟨rfl, rfl⟩ := hr
      have hS : (s.heap.push (void w)).get? s.heap.objs.size = some (void w) := Heap.get?_push_size _ rfl
      have hT : Shared.TypeIs { s with heap := s.heap.push (void w) } (.ref s.heap.objs.size) "set" := ⟨_, hS, rfl⟩
      have hli := F.called_set.init.lookup
      have hbi := F.called_set.init.bind (.ref s.heap.objs.size)
      repeat (any_goals (first | assumption | wp_step))
      refine codeAny_mono (codeAny_call_builtin (R := wants (fun r s2 => r = .none ∧ ∃ h' tk L es ep t, s2 = { s with heap := h', toks := tk } ∧ SetTR P w h' s.heap.objs.size L es ep t ∧ Got ks ks.length L ∧
          ∀ b o, s.heap.get? b = some o → h'.get? b = some o) E) F.called_set.init.plain F.entry_set_init (check_set_init_1 hT ?_)) ?_
      · obtain ⟨ol, hol, hcl, nl, hdl⟩ := hl
        obtain ⟨ocls, odict, odata, oslots⟩ := ol
        simp only at hcl hdl
        subst hcl
        subst hdl
        have hol1 : (s.heap.push (void w)).get? l = some { cls := .type "list", dict := odict, data := .seq items nl, slots := oslots } := Heap.get?_push_of_some _ hol
        have hsls := F.sub_list_set
        have hslf := F.sub_list_frozenset
        have hne : (Value.type "list" == Value.type "dict") = false := by decide
        have hl1 : (s.heap.push (void w)).IsList l items := ⟨_, hol1, rfl, nl, rfl⟩
        unfold Builtin.«set.__init__» noKeywords Builtin.Frozenset.updateFrom
        generalize hPI : pyIter = PI
        wp_walk
        subst hPI
        refine wpAny_pyIter_list hl1 ?_
        refine wpAny_bind (wpAny_runValue ?_)
        have lt : l < s.heap.objs.size := Heap.lt_size hol
        have calm3 : A.in1.in1.in1.handled = none := by simp [hh]
        have sz : (s.heap.push (void w)).objs.size = s.heap.objs.size + 1 := Heap.size_push ..
        have apart : l ≠ (s.heap.push (void w)).objs.size := by rw [sz]; exact Nat.ne_of_lt (Nat.lt_succ_of_lt lt)
        have free : s.heap.objs.size ∉ [(s.heap.push (void w)).objs.size, l] := by
          rw [sz]
          simp only [List.mem_cons, List.not_mem_nil, or_false, not_or]
          exact ⟨Nat.ne_of_lt (Nat.lt_succ_self _), Nat.ne_of_gt lt⟩
        have val : ∀ (i : Nat) (v : Value), items[i]? = some v → ∃ p, ks[i]? = some p ∧ v = .ref p.1 := by
          intro i v hv
          have q : items.toList[i]? = some v := by rw [Array.getElem?_toList]; exact hv
          rw [hit, List.getElem?_map] at q
          cases hq : ks[i]? with
          | none => rw [hq] at q; cases q
          | some p => rw [hq] at q; cases q; exact ⟨p, rfl, rfl⟩
        have void_of : ∀ b, s.heap.objs.size ≤ b → s.heap.get? b = none := by
          intro b hb
          cases q : s.heap.get? b with
          | none => rfl
          | some o => exact absurd (Nat.lt_of_lt_of_le (Heap.lt_size q) hb) (Nat.lt_irrefl _)
        refine take_all ((Walks.list calm3 _ l apart items).toS) s.heap.objs.size free ks cnt Dl small inD val s.heap tup (void_of _ (Nat.le_refl _)) (fun b hb => void_of b ?_) room (items.size - 0) 0 _ (by omega) (Nat.zero_le _)
          ⟨⟨_, Heap.get?_push_size _ rfl, rfl, rfl⟩, (hl1.push _)⟩ (fun b o q => Heap.get?_push_of_some _ (Heap.get?_push_of_some _ q)) ?hA ?hB
        case hA =>
          refine ⟨[], #[], 0, _, setTR_fresh ?_, Got.zero ks⟩
          exact Heap.get?_push_of_some _ hS
        case hB =>
          intro s' L es ep t mv hS' g keep
          obtain ⟨h', g2, d', tk', os'⟩ := s'
          obtain rfl : g2 = s.gens := mv.gens
          obtain rfl : d' = s.drawn := mv.drawn
          obtain rfl : os' = s.os := mv.os
          show wpAny _ _ _ _ _ _
          apply wpAny_pure
          show wpAny _ _ (ret Value.none) _ _ _
          rw [cnt] at g
          exact wpAny_pure ⟨rfl, h', tk', L, es, ep, t, rfl, hS', g, keep⟩
        · rw [List.mem_singleton.mp hb, sz]
          exact Nat.le_succ _
      · intro r2 s2 hr2
        cases r2 with
        | error e => exact hr2
        | ok fl2 =>
          cases fl2 with
          | ret v2 =>
            obtain ⟨rfl, h', tk, L, es, ep, t, rfl, hS', g, keep⟩ := hr2
            repeat (any_goals (first | assumption | wp_step))
            exact h _ _ _ _ _ _ hS' g keep
          | _ => exact hr2.elim
    | _ => exact hr.elim
end
end DLSetT
end PySem
set_option maxHeartbeats 4000000
namespace DL
open PySem PySem.Spec PyProof.Rows L2
variable [Mode]
/-! ## the order of tuples of ints -/
abbrev lx (a b : List Int) : Bool := HT.lexLt a b
theorem lx_irr : ∀ a : List Int, lx a a = false
  | [] => rfl
  | x :: a => by show (if x = x then HT.lexLt a a else _) = false; rw [if_pos rfl]; exact lx_irr a
theorem lx_tr : ∀ {a b c : List Int}, lx a b = true → lx b c = true → lx a c = true
  | [], [], _, h, _ => nomatch h
  | [], _ :: _, [], _, h => nomatch h
  | [], _ :: _, _ :: _, _, _ => rfl
  | _ :: _, [], _, h, _ => nomatch h
  | _ :: _, _ :: _, [], _, h => nomatch h
  | x :: a, y :: b, z :: c, h1, h2 => by
    have h1 : (if x = y then HT.lexLt a b else decide (x < y)) = true := h1
    have h2 : (if y = z then HT.lexLt b c else decide (y < z)) = true := h2
    show (if x = z then HT.lexLt a c else decide (x < z)) = true
    by_cases e1 : x = y
    · rw [if_pos e1] at h1
      by_cases e2 : y = z
      · rw [if_pos e2] at h2
        rw [if_pos (e1.trans e2)]
        exact lx_tr h1 h2
      · rw [if_neg e2] at h2
        rw [if_neg (by rw [e1]; exact e2), e1]
        exact h2
    · rw [if_neg e1, decide_eq_true_eq] at h1
      by_cases e2 : y = z
      · rw [if_neg (by omega), decide_eq_true_eq]
        omega
      · rw [if_neg e2, decide_eq_true_eq] at h2
        rw [if_neg (by omega), decide_eq_true_eq]
        omega
theorem lx_tri : ∀ {a b : List Int}, lx a b = false → lx b a = false → a = b
  | [], [], _, _ => rfl
  | [], _ :: _, h, _ => nomatch h
  | _ :: _, [], _, h => nomatch h
  | x :: a, y :: b, h1, h2 => by
    have h1 : (if x = y then HT.lexLt a b else decide (x < y)) = false := h1
    have h2 : (if y = x then HT.lexLt b a else decide (y < x)) = false := h2
    by_cases e : x = y
    · subst e
      rw [if_pos rfl] at h1 h2
      rw [lx_tri h1 h2]
    · rw [if_neg e, decide_eq_false_iff_not] at h1
      rw [if_neg (fun z => e z.symm), decide_eq_false_iff_not] at h2
      omega
def insL (n : List Int) : List (List Int) → List (List Int)
  | [] => [n]
  | m :: r => bif lx n m then n :: m :: r else bif lx m n then m :: insL n r else m :: r
def zdc : List (List Int) → List (List Int)
  | [] => []
  | n :: ns => insL n (zdc ns)
theorem zrh (n k : List Int) : ∀ l, k ∈ insL n l ↔ k = n ∨ k ∈ l
  | [] => by simp [insL]
  | m :: r => by
    unfold insL
    have h := zrh n k r
    cases h1 : lx n m
    · cases h2 : lx m n
      · have := lx_tri h1 h2
        subst this
        simp
      · simp only [cond_false, cond_true, List.mem_cons, h]
        constructor
        · rintro (h | h | h) <;> simp [h]
        · rintro (h | h | h) <;> simp [h]
    · simp
theorem zog (n : List Int) : ∀ l, l.Pairwise (fun a b => lx a b = true) → (insL n l).Pairwise (fun a b => lx a b = true)
  | [], _ => by simp [insL]
  | m :: r, h => by
    unfold insL
    rw [List.pairwise_cons] at h
    cases h1 : lx n m
    · cases h2 : lx m n
      · exact List.pairwise_cons.mpr h
      · refine List.pairwise_cons.mpr ⟨fun k hk => ?_, zog n r h.2⟩
        rcases (zrh n k r).mp hk with z | z
        · subst z; exact h2
        · exact h.1 k z
    · refine List.pairwise_cons.mpr ⟨fun k hk => ?_, List.pairwise_cons.mpr h⟩
      rcases List.mem_cons.mp hk with z | z
      · subst z; exact h1
      · exact lx_tr h1 (h.1 k z)
theorem zjk : ∀ l, (zdc l).Pairwise (fun a b => lx a b = true)
  | [] => .nil
  | n :: r => zog n _ (zjk r)
theorem zg5 (k : List Int) : ∀ l, k ∈ zdc l ↔ k ∈ l
  | [] => by simp [zdc]
  | n :: r => by
    show k ∈ insL n (zdc r) ↔ _
    rw [zrh, zg5 k r, List.mem_cons]
theorem znv : ∀ {a b : List (List Int)}, a.Pairwise (fun a b => lx a b = true) → b.Pairwise (fun a b => lx a b = true) → (∀ k, k ∈ a ↔ k ∈ b) → a = b
  | [], [], _, _, _ => rfl
  | [], y :: b, _, _, h => absurd ((h y).mpr List.mem_cons_self) (by simp)
  | x :: a, [], _, _, h => absurd ((h x).mp List.mem_cons_self) (by simp)
  | x :: a, y :: b, ha, hb, h => by
    rw [List.pairwise_cons] at ha hb
    have no : ∀ {u v : List Int}, lx u v = true → lx v u = true → False := fun h1 h2 => by
      have := lx_tr h1 h2
      rw [lx_irr] at this
      cases this
    have e : x = y := by
      rcases List.mem_cons.mp ((h x).mp List.mem_cons_self) with z | z
      · exact z
      · rcases List.mem_cons.mp ((h y).mpr List.mem_cons_self) with q | q
        · exact q.symm
        · exact (no (ha.1 y q) (hb.1 x z)).elim
    subst e
    have nx : x ∉ a := fun m => by have := ha.1 x m; rw [lx_irr] at this; cases this
    have ny : x ∉ b := fun m => by have := hb.1 x m; rw [lx_irr] at this; cases this
    have t : a = b := znv ha.2 hb.2 fun k => by
      have q := h k
      simp only [List.mem_cons] at q
      constructor
      · intro m
        rcases q.mp (.inr m) with z | z
        · subst z; exact absurd m nx
        · exact z
      · intro m
        rcases q.mpr (.inr m) with z | z
        · subst z; exact absurd m ny
        · exact z
    rw [t]
theorem code_lx {B : Int} : ∀ {a b : List Int}, a.length = b.length → TS.Bd B a → TS.Bd B b → TS.code B a ≤ TS.code B b → a ≠ b → lx a b = true
  | [], [], _, _, _, _, n => absurd rfl n
  | [], _ :: _, h, _, _, _, _ => nomatch h
  | _ :: _, [], h, _, _, _, _ => nomatch h
  | x :: a, y :: b, hl, ha, hb, hc, n => by
    have hl2 : a.length = b.length := by simpa using hl
    show (if x = y then HT.lexLt a b else decide (x < y)) = true
    by_cases e : x = y
    · subst e
      rw [if_pos rfl]
      refine code_lx hl2 ha.tail hb.tail ?_ (fun z => n (by rw [z]))
      rcases Int.lt_or_le (TS.code B b) (TS.code B a) with z | z
      · have := (TS.code_same (B := B) (d := x) (r := b) (q := a) hl2.symm).mpr z
        omega
      · exact z
    · rw [if_neg e, decide_eq_true_eq]
      rcases Int.lt_or_le y x with z | z
      · have := TS.code_lt (B := B) hl2.symm hb.tail ha.tail z
        omega
      · omega
def tupsI : List D → Option (List (List Int))
  | [] => some []
  | .tup xs :: r => match zh_ xs, tupsI r with
    | some a, some b => some (a :: b)
    | _, _ => none
  | _ :: _ => none
def tupsOk (L : List (List Int)) : Bool := (match L with | [] => true | a :: _ => decide (1 ≤ a.length) && L.all fun b => decide (b.length = a.length)) && (L.all fun b => b.all fun x => decide (0 ≤ x)) && decide ((zdc L).length < 63)
theorem bound_of : ∀ L : List (List Int), (∀ b ∈ L, ∀ x ∈ b, 0 ≤ x) → ∃ B : Int, ∀ b ∈ L, TS.Bd B b
  | [], _ => ⟨0, fun b h => nomatch h⟩
  | a :: L, h => by
    obtain ⟨B, hB⟩ := bound_of L fun b hb => h b (List.mem_cons_of_mem _ hb)
    have one : ∀ a : List Int, ∃ C : Int, ∀ x ∈ a, x < C := by
      intro a
      induction a with
      | nil => exact ⟨0, fun x h => nomatch h⟩
      | cons y a ih =>
        obtain ⟨C, hC⟩ := ih
        refine ⟨max C (y + 1), fun x hx => ?_⟩
        rcases List.mem_cons.mp hx with rfl | hx
        · omega
        · have := hC x hx; omega
    obtain ⟨C, hC⟩ := one a
    refine ⟨max B C, fun b hb => ?_⟩
    rcases List.mem_cons.mp hb with rfl | hb
    · exact fun x hx => ⟨h b List.mem_cons_self x hx, by have := hC x hx; omega⟩
    · exact fun x hx => ⟨(hB b hb x hx).1, by have := (hB b hb x hx).2; omega⟩
section
variable {X : Cx} {W : WX} {e a b c : Expr} {es : List Expr} {pos p : Pos} {K : PySem.W.Frag} {ι : List Addr} {F H : Hp} {S : zae} {mg : Str → Option Value}
theorem tupsI_ok : ∀ {xs : List D} {vs : List V} {L : List (List Int)}, WdA K F vs xs → tupsI xs = some L → ∃ ks : List (Addr × List Int), vs = ks.map (fun p => V.ref p.1) ∧ ks.map (·.2) = L ∧ ∀ p ∈ ks, SqT K F p.1 (p.2.map V.int) ∧ Wd K F (.ref p.1) (.tup (p.2.map .int))
  | [], _, _, .nil, e => by cases e; exact ⟨[], rfl, rfl, fun p h => nomatch h⟩
  | d :: xs, _, L, .cons w ws, e => by
    cases w with
    | tup s u =>
      rename_i a us ds
      simp only [tupsI] at e
      split at e
      · rename_i ns r e1 e2
        cases e
        obtain ⟨ks, h1, h2, h3⟩ := tupsI_ok ws e2
        have ev := zk8 u e1
        have ed : ds = ns.map .int := by
          clear h1 h2 h3 s u ev e2 ws
          induction ds generalizing ns with
          | nil => cases e1; rfl
          | cons d ds ih =>
            cases d <;> simp only [zh_] at e1 <;> try cases e1
            cases q : zh_ ds with
            | none => rw [q] at e1; cases e1
            | some b => rw [q] at e1; cases e1; rw [ih b q]; rfl
        subst ev
        subst ed
        refine ⟨(a, ns) :: ks, by rw [h1]; rfl, by rw [← h2]; rfl, fun p hp => ?_⟩
        rcases List.mem_cons.mp hp with rfl | hp
        · exact ⟨s, .tup s u⟩
        · exact h3 p hp
      · cases e
    | _ => cases e
def rSetT2 (K : PySem.W.Frag) (P : Program) (w : World) : List V → Hp → VK → Prop := fun xs H Q => ∃ (l : Addr) (ks : List (Addr × List Int)) (Dl : List (List Int)), xs = [V.ref l] ∧ SqL K H l (ks.map fun p => V.ref p.1) ∧ (∀ p ∈ ks, SqT K H p.1 (p.2.map V.int)) ∧ Dl.length < 63 ∧ (∀ p ∈ ks, p.2 ∈ Dl) ∧
  ∀ a L, H a = none → (∀ p ∈ L, p ∈ ks) → (∀ p ∈ ks, p.2 ∈ L.map (·.2)) → Q (.ref a) (upd H a (SetTO P w a L))
theorem cr_setT2 (hc : X.calm = true) (hu : X.A.units + 64 < cLine) : CallR X (.type "set") (rSetT2 X.K X.prog X.w) := by
  intro pins s σ H xs us Q I r h
  obtain ⟨l, ks, Dl, rfl, hl, hk, hf, hD, q⟩ := h
  rw [Vals.ref1 r]
  obtain ⟨its, rv, pl, hz⟩ := I.list hl
  have new : H s.heap.objs.size = none := I.hok.fresh (Nat.le_refl _)
  apply PySem.DLSetT.set_of_tups (P := X.prog) (w := X.w) ks Dl (I.ok.hd hc) pl.isList (by simpa using refs_of_vals rv) (fun p hp => I.isT (hk p hp)) hf hD (by omega)
  intro h' tk L es ep t R g k
  refine ⟨.ref s.heap.objs.size, upd H s.heap.objs.size (SetTO X.prog X.w s.heap.objs.size L), ?_, rfl, q _ L new (fun p hp => List.mem_of_mem_take (g.sub p hp)) fun p hp => g.all p (by rw [List.take_length]; exact hp)⟩
  exact I.laid (t' := tk) k (Nat.le_refl _) (setTO_new R.t0)
def sortT (x : DV) (S : zae) : Res (List D) := match rd S x with
  | some (.lst xs) => (match tupsI xs with
    | some L => if tupsOk L = true then .ok ((zdc L).map fun l => .tup (l.map .int)) S else .bad
    | none => .bad)
  | _ => .bad
def zk2 (f : XFn) : LFn := fun ρ S => (f ρ S).bind sortT
theorem zo4 {f : XFn} {p2 p3 : Pos} (hc : X.calm = true) (hu : X.A.units + 64 < cLine) (h : DE X W a f) (hm : X.mg "sorted" = none) (hm2 : X.mg "set" = none) (hg : Gl X "sorted" := by rfl) (hg2 : Gl X "set" := by rfl)
    (he : starEach (a :: []) X.env = (false, eval a X.env) :: starEach [] X.env := by rfl)
    (he2 : starEach (.Call (.Name "set" p2) [a] [] p3 :: []) X.env = (false, eval (.Call (.Name "set" p2) [a] [] p3) X.env) :: starEach [] X.env := by rfl) :
    NE X W (.Call (.Name "sorted" p) [.Call (.Name "set" p2) [a] [] p3] [] pos) (zk2 f) := by
  refine ⟨PE.weak (pe_callB (cr_sortedT hc) hg hm (by decide +kernel) (pa_cons (pe_callTy (cr_setT2 hc hu) hg2 hm2 (by decide +kernel) (pa_cons h.pe pa_nil he) (by decide) (by decide) he rfl) pa_nil he2) (by decide) (by decide) he2 rfl) fun σ H Q ⟨ι, F, ρ, S, r, h⟩ => ?_⟩
  refine tD.bind (g := fun _ => sortT) r h fun v dv ι1 F1 S1 H1 r1 w1 g1 h1 => ?_
  unfold sortT at h1
  cases ed : rd S1 dv with
  | none => simp only [ed] at h1; exact h1.elim
  | some d =>
    have vw := r1.st.vw w1 ed
    cases vw with
    | lst s w =>
      rename_i p0 vs xs
      simp only [ed] at h1
      cases ei : tupsI xs with
      | none => simp only [ei] at h1; exact h1.elim
      | some L =>
        simp only [ei] at h1
        by_cases hl : tupsOk L = true
        · simp only [hl, if_true] at h1
          obtain ⟨ks, rfl, hL, hk⟩ := tupsI_ok w ei
          unfold tupsOk at hl
          simp only [Bool.and_eq_true, List.all_eq_true, decide_eq_true_eq] at hl
          obtain ⟨⟨l1, l2⟩, l3⟩ := hl
          obtain ⟨B, hB⟩ := bound_of L l2
          have mem : ∀ p ∈ ks, p.2 ∈ L := fun p hp => by rw [← hL]; exact List.mem_map_of_mem hp
          refine ⟨p0, ks, zdc L, rfl, .of s, fun p hp => zdr r1.st.sub (hk p hp).1, l3, fun p hp => (zg5 _ _).mpr (mem p hp), fun a L1 ha sub all => ?_⟩
          obtain ⟨d0, hd0, hlen⟩ : ∃ d0 : Nat, 1 ≤ d0 ∧ ∀ b ∈ L, b.length = d0 := by
            cases L with
            | nil => exact ⟨1, Nat.le_refl _, fun b h => nomatch h⟩
            | cons x L' =>
              simp only [Bool.and_eq_true, decide_eq_true_eq, List.all_eq_true] at l1
              exact ⟨x.length, l1.1, fun b hb => l1.2 b hb⟩
          have sm : Same H1 (upd H1 a (SetTO X.prog X.w a L1)) := fun b u q => by rw [upd_ne (ne_of_none q ha)]; exact q
          refine ⟨a, L1, d0, B, rfl, upd_same, fun p hp => zdr sm (zdr r1.st.sub (hk p (sub p hp)).1), hd0, fun p hp => ⟨hlen _ (mem p (sub p hp)), hB _ (mem p (sub p hp))⟩, fun L2 p' pm nd few pw hp' => ?_⟩
          have in2 : ∀ q ∈ L2, q ∈ ks := fun q hq => sub q (pm.mem_iff.mp hq)
          have eL : L2.map (·.2) = zdc L := by
            refine znv ?_ (zjk L) fun k => ?_
            · rw [List.pairwise_map]
              have nd2 : L2.Pairwise (fun a b => a.2 ≠ b.2) := by
                have := nd
                rw [List.Nodup, List.pairwise_map] at this
                exact this
              refine List.Pairwise.imp_of_mem (fun {x y} hx hy hxy => ?_) (List.Pairwise.and pw nd2)
              have h1 := mem x (in2 x hx)
              have h2 := mem y (in2 y hy)
              exact code_lx (by rw [hlen _ h1, hlen _ h2]) (hB _ h1) (hB _ h2) hxy.1 hxy.2
            · rw [zg5, ← hL]
              constructor
              · intro m
                obtain ⟨q, hq, rfl⟩ := List.mem_map.mp m
                exact List.mem_map_of_mem (in2 q hq)
              · intro m
                obtain ⟨q, hq, rfl⟩ := List.mem_map.mp m
                obtain ⟨q', hq', e⟩ := List.mem_map.mp (all q hq)
                exact List.mem_map.mpr ⟨q', pm.mem_iff.mpr hq', e⟩
          have wd : WdA X.K F1 (L2.map fun q => V.ref q.1) ((zdc L).map fun l => D.tup (l.map .int)) := by
            rw [← eL]
            have : ∀ M : List (Addr × List Int), (∀ q ∈ M, q ∈ ks) → WdA X.K F1 (M.map fun q => V.ref q.1) ((M.map (·.2)).map fun l => D.tup (l.map .int)) := by
              intro M
              induction M with
              | nil => intro _; exact .nil
              | cons q M ih => intro hM; exact .cons (hk q (hM q List.mem_cons_self)).2 (ih fun z hz => hM z (List.mem_cons_of_mem _ hz))
            exact this L2 in2
          have st2 := r1.st.alone ha (SetTO X.prog X.w a L1)
          exact zo5 st2 (g1.trans (zgt ha _)) (Post.grow (r := Res.ok _ S1) h1 (zgt ha _)) wd hp'
        · simp only [hl, if_false] at h1; exact h1.elim
    | _ => simp only [ed] at h1; exact h1.elim
end
end DL
set_option maxHeartbeats 4000000
namespace DL
open PySem PySem.Spec PyProof.Rows L2
variable [Mode]
section
variable {X : Cx} {W : WX} {e a b c : Expr} {es : List Expr} {pos p : Pos} {K : PySem.W.Frag} {ι : List Addr} {F H : Hp} {S : zae} {mg : Str → Option Value}
/-! ## while -/
/-! ## a live list walked by a for -/
def zmk (S : zae) (k n : Nat) : Option (List D) := match S[k]? with
  | some (some c) => if c.length = n then some c else none
  | _ => none
def zg9 (g : GFn) (f : SFn) (k n : Nat) : Nat → za2 → zae → RS
  | 0, ρ, S => match zmk S k n with
    | some _ => .nx ρ S
    | none => .bad
  | m + 1, ρ, S => match zmk S k n with
    | none => .bad
    | some c => match c[n - (m + 1)]? with
      | none => .bad
      | some d => match g d ρ with
        | none => .bad
        | some ρ1 => (match f ρ1 S with
          | .nx ρ2 S2 => zg9 g f k n m ρ2 S2
          | .ct ρ2 S2 => zg9 g f k n m ρ2 S2
          | .bk ρ2 S2 => .nx ρ2 S2
          | r => r)
def forO (g : GFn) (f : SFn) (x : DV) : SFn := fun ρ S => match x with
  | .obj k => (match S[k]? with
    | some (some c) => zg9 g f k c.length c.length ρ S
    | _ => .bad)
  | _ => .bad
def sForO (e : XFn) (g : GFn) (f : SFn) : SFn := fun ρ S => (e ρ S).bindS ρ fun x S1 => forO g f x ρ S1
theorem cellN_at {k n : Nat} {c : List D} (h : zmk S k n = some c) : S[k]? = some (some c) ∧ c.length = n := by
  unfold zmk at h
  split at h
  · rename_i c' q
    split at h
    · rename_i hl; cases h; exact ⟨q, hl⟩
    · cases h
  · cases h
theorem forGoO_nx {g : GFn} {f : SFn} {k n m : Nat} {ρ ρ1 ρ2 : za2} {S2 : zae} {c : List D} {d : D} (h1 : zmk S k n = some c) (h2 : c[n - (m + 1)]? = some d) (h3 : g d ρ = some ρ1) (h4 : f ρ1 S = .nx ρ2 S2) : zg9 g f k n (m + 1) ρ S = zg9 g f k n m ρ2 S2 := by
  simp only [zg9, h1, h2, h3, h4]
theorem zq_ {k : Nat} {a : Addr} {c : List D} (st : StR K ι F S H) (e : S[k]? = some (some c)) (ha : AtF ι k a) : ∃ vs, H a = some (.lst vs) ∧ WdA K F vs c := by
  obtain ⟨a', vs, h3, h4, h5, h6⟩ := st.cell _ _ e ha.2
  rw [ha.1] at h3; cases h3
  exact ⟨vs, h4, h6⟩
theorem zkv {g : GFn} {f : SFn} {k n m : Nat} {ρ : za2} (h : zg9 g f k n m ρ S ≠ .bad) : ∃ c, S[k]? = some (some c) ∧ c.length = n := by
  cases q : zmk S k n with
  | none => exact absurd (by cases m <;> simp only [zg9, q]) h
  | some c => exact ⟨c, cellN_at q⟩
theorem PostS.nbad {W : WX} {r : RS} {D : Ends} (h : PostS K mg W ι F H r D) : r ≠ .bad := fun e => by rw [e] at h; exact h.elim
theorem pre_at {ι ι' : List Addr} {k : Nat} {a : Addr} (h : ι <+: ι') (e : AtF ι k a) : AtF ι' k a := by
  have hl := (List.getElem?_eq_some_iff.mp e.1).1
  refine ⟨?_, (IsFst.pre h hl).mpr e.2⟩
  obtain ⟨t, rfl⟩ := h
  replace e := e.1
  rw [List.getElem?_append_left (List.getElem?_eq_some_iff.mp e).1]
  exact e
theorem ds_forO {iter tg : Expr} {body : List Stmt} {l : XFn} {sl : List Nat} {g : GFn} {f : SFn} (hp : PassesOwn (model X.prog X.w) X.A X.env X.xe) (hc : X.calm = true) (hi : DE X W iter l) (hg : DG X tg sl g) (hb : DSs X W body f)
    (hs : ∀ x, foldedSetIterable iter X.env x = pure x := by intro _; rfl) : DS X W (.For tg iter body [] pos) (sForO l g f) := by
  obtain ⟨tg', pg, kg⟩ := hg.pg
  obtain ⟨tb, pb, kb⟩ := hb.ps
  refine ⟨_, ps_for hp hc (pi_seq hi.pe) pg pb hs, fun D σ H ⟨ι, F, ρ, S, r, h⟩ => ?_⟩
  refine tD.bindS (g := fun ρ x S1 => forO g f x ρ S1) r h fun v dv ι1 F1 S1 H1 r1 w1 g1 h1 => ?_
  cases dv with
  | dat d => exact h1.elim
  | scr ns => exact h1.elim
  | exn c p => exact h1.elim
  | fn _ => exact h1.elim
  | spc _ => exact h1.elim
  | obj k =>
    simp only [forO] at h1
    split at h1
    · rename_i c0 q0
      obtain ⟨a, ha1, rfl, ha2⟩ := w1
      have ha : AtF _ _ _ := ⟨ha1, ha2⟩
      obtain ⟨vs0, hv0, wv0⟩ := zq_ r1.st q0 ha
      refine ⟨a, rfl, .inl ⟨⟨vs0, .of hv0⟩, ?_⟩⟩
      generalize hn : c0.length = n at h1
      have w : Walk (Itl X.K a) n (fun H => ∃ vs, SqL X.K H a vs ∧ vs.length = n) (fun i H x H' => H' = H ∧ ∀ vs, SqL X.K H a vs → vs[i]? = some x) := by
        refine ⟨fun i H hi ⟨vs, q, hl⟩ => ?_, fun H ⟨vs, q, hl⟩ => ?_, fun i H x H' hi _ y => ?_⟩
        · subst hl; exact (walk_list (K := X.K)).goes i H hi q
        · subst hl; exact (walk_list (K := X.K)).stops H q
        · exact ⟨y.1, y.2⟩
      refine for_it w (fun i σ' H' => ∃ ι2 F2 ρ2 S2, RR X.K ι2 F2 ρ2 S2 σ' H' ∧ Grow ι1 F1 H1 ι2 F2 H' ∧ PostS X.K X.mg W ι2 F2 H' (zg9 g f k n (n - i) ρ2 S2) D)
        ⟨ι1, F1, ρ, S1, r1, .refl, h1⟩ (fun i σ' H' _ ⟨ι2, F2, ρ2, S2, r2, g2, h2⟩ => ?_) (fun i x σ' H' H2 hi ⟨ι2, F2, ρ2, S2, r2, g2, h2⟩ y => ?_) (fun σ' H' ⟨ι2, F2, ρ2, S2, r2, g2, h2⟩ => ?_)
      · obtain ⟨c, q, hl⟩ := zkv h2.nbad
        obtain ⟨vs, hv, wv⟩ := zq_ r2.st q (pre_at g2.pre ha)
        exact ⟨vs, .of hv, by rw [wv.length]; exact hl⟩
      · obtain ⟨c, q, hl⟩ := zkv h2.nbad
        obtain ⟨vs, hv, wv⟩ := zq_ r2.st q (pre_at g2.pre ha)
        obtain ⟨rfl, y⟩ := y
        obtain ⟨d, hd, wd⟩ := wv.get (y vs (.of hv))
        obtain ⟨m, hm⟩ : ∃ m, n - i = m + 1 := ⟨n - i - 1, by omega⟩
        have e0 : zmk S2 k n = some c := by simp only [zmk, q, hl, if_true]
        have e3 : c[n - (m + 1)]? = some d := by rw [show n - (m + 1) = i by omega]; exact hd
        rw [hm] at h2
        simp only [zg9, e0, e3] at h2
        have em : m = n - (i + 1) := by omega
        cases e1 : g d ρ2 with
        | none => simp only [e1] at h2; exact h2.elim
        | some ρ3 =>
          simp only [e1] at h2
          refine kg x σ' H2 _ ι2 F2 ρ2 S2 d ρ3 r2 wd e1 fun σ3 r3' _ => kb _ _ _ ⟨ι2, F2, ρ3, S2, r3', ?_⟩
          cases e2 : f ρ3 S2 with
          | nx ρ4 S4 => simp only [e2] at h2; exact fun σ4 ι4 F4 H4 g4 r4 => ⟨ι4, F4, ρ4, S4, r4, g2.trans g4, em ▸ PostS.grow (r := zg9 g f k n m ρ4 S4) h2 g4⟩
          | ct ρ4 S4 => simp only [e2] at h2; exact fun σ4 ι4 F4 H4 g4 r4 => ⟨ι4, F4, ρ4, S4, r4, g2.trans g4, em ▸ PostS.grow (r := zg9 g f k n m ρ4 S4) h2 g4⟩
          | bk ρ4 S4 => simp only [e2] at h2; exact fun σ4 ι4 F4 H4 g4 r4 => h2 σ4 ι4 F4 H4 g4 r4
          | rt dv S4 => simp only [e2] at h2; exact fun v ι4 F4 H4 g4 st4 w4 => h2 v ι4 F4 H4 g4 st4 w4
          | ex cc ρ4 S4 => simp only [e2] at h2; exact fun C σ4 ι4 F4 H4 g4 r4 mm => h2 C σ4 ι4 F4 H4 g4 r4 mm
          | bad => simp only [e2] at h2; exact h2
      · obtain ⟨c, q, hl⟩ := zkv h2.nbad
        have e0 : zmk S2 k n = some c := by simp only [zmk, q, hl, if_true]
        rw [Nat.sub_self] at h2
        simp only [zg9, e0] at h2
        exact h2 σ' ι2 F2 H' .refl r2
    · exact h1.elim
/-! ## a comprehension over a live list -/
/-! ## a comprehension within a comprehension -/
/-! ## x in a list of texts -/
def zh0 : List D → Option (List Str)
  | [] => some []
  | .str x :: r => (zh0 r).map (x :: ·)
  | _ => none
def dInS : D → D → Option D
  | .str x, .lst ys => (zh0 ys).map fun ss => .bl (ss.contains x)
  | .str x, .tup ys => (zh0 ys).map fun ss => .bl (ss.contains x)
  | a, b => dIn a b
def dNinS : D → D → Option D
  | .str x, .lst ys => (zh0 ys).map fun ss => .bl (!ss.contains x)
  | .str x, .tup ys => (zh0 ys).map fun ss => .bl (!ss.contains x)
  | a, b => dNin a b
theorem zob : ∀ {xs : List D} {vs : List V} {ss : List Str}, WdA K F vs xs → zh0 xs = some ss → vs = ss.map V.str
  | [], _, _, .nil, e => by cases e; rfl
  | d :: xs, _, ss, .cons w ws, e => by
    cases w with
    | str x =>
      simp only [zh0] at e
      cases q : zh0 xs with
      | none => rw [q] at e; cases e
      | some r => rw [q] at e; cases e; rw [zob ws q]; rfl
    | _ => cases e
theorem inV_strs (x : Str) (ss : List Str) : inV (V.str x) (ss.map V.str) = ss.contains x := by
  induction ss with
  | nil => rfl
  | cons y ss ih =>
    have e : eqV (V.str y) (V.str x) = (x == y) := by
      show (y == x) = (x == y)
      by_cases h : x = y
      · subst h; rfl
      · have h2 : ¬ y = x := fun z => h z.symm
        rw [beq_eq_false_iff_ne.mpr h, beq_eq_false_iff_ne.mpr h2]
    have e2 : inV (V.str x) ((y :: ss).map V.str) = (eqV (V.str y) (V.str x) || inV (V.str x) (ss.map V.str)) := rfl
    rw [e2, e, ih, List.contains_cons]
theorem flat_strs (ss : List Str) : (ss.map V.str).all flatV = true := by simp [flatV]
theorem dIn_rule {d1 d2 d3 : D} {v u : V} {Q : VK} (st : StR K ι F S H) (va : Vw K F H v d1) (vb : Vw K F H u d2) (e : dIn d1 d2 = some d3) (q : Ret K ι F H S d3 Q) : zps K false v u H Q := by
  have wb := (vb.wd st.sub).dp
  cases d2 <;> simp only [dIn] at e <;> first | (cases e; done) | skip
  all_goals
    split at e
    · rename_i h
      cases e
      obtain ⟨h1, h2, h3⟩ := znu h
      refine ⟨_, _, (va.wd st.sub).dp h1, by first | exact .inl (wb h2) | exact .inr (wb h2), h1, h2, h3, ?_⟩
      rw [zoh]
      exact q.same st (.bl _)
    · cases e
theorem dNin_rule {d1 d2 d3 : D} {v u : V} {Q : VK} (st : StR K ι F S H) (va : Vw K F H v d1) (vb : Vw K F H u d2) (e : dNin d1 d2 = some d3) (q : Ret K ι F H S d3 Q) : zps K true v u H Q := by
  have wb := (vb.wd st.sub).dp
  cases d2 <;> simp only [dNin] at e <;> first | (cases e; done) | skip
  all_goals
    split at e
    · rename_i h
      cases e
      obtain ⟨h1, h2, h3⟩ := znu h
      refine ⟨_, _, (va.wd st.sub).dp h1, by first | exact .inl (wb h2) | exact .inr (wb h2), h1, h2, h3, ?_⟩
      rw [zoh]
      exact q.same st (.bl _)
    · cases e
theorem op_inS (hu : X.A.units + 65 < cLine) : OpR X (compareOp .In) (fun x y H Q => zps X.K false x y H Q ∨ rIn X.K false x y H Q) := (zqc hu).or op_in_seq
theorem op_ninS (hu : X.A.units + 65 < cLine) : OpR X (compareOp .NotIn) (fun x y H Q => zps X.K true x y H Q ∨ rIn X.K true x y H Q) := (zno hu).or op_notIn_seq
theorem zns {neg : Bool} {x : Str} {y : D} {ys : List D} {ss : List Str} {v u : V} {Q : VK} (st : StR K ι F S H) (va : Vw K F H v (.str x)) (vb : Vw K F H u y) (hy : y = .lst ys ∨ y = .tup ys) (e : zh0 ys = some ss)
    (q : Ret K ι F H S (.bl (if neg then !ss.contains x else ss.contains x)) Q) : rIn K neg v u H Q := by
  cases va
  rcases hy with rfl | rfl
  · cases vb with
    | lst s w =>
      have := zob w e
      subst this
      refine ⟨_, _, rfl, .inl (.of s), rfl, flat_strs ss, ?_⟩
      rw [inV_strs]
      exact q.same st (.bl _)
  · cases vb with
    | tup s w =>
      have := zob w e
      subst this
      refine ⟨_, _, rfl, .inr (zdr st.sub s), rfl, flat_strs ss, ?_⟩
      rw [inV_strs]
      exact q.same st (.bl _)
theorem dInS_ok : OpOk K (fun x y H Q => zps K false x y H Q ∨ rIn K false x y H Q) (o2 dInS) := zk9 fun ι F H S v u a b c Q st va vb e q => by
  unfold dInS at e
  split at e
  · rename_i x ys
    cases eq : zh0 ys with
    | none => rw [eq] at e; cases e
    | some ss => rw [eq] at e; cases e; exact .inr (zns (neg := false) st va vb (.inl rfl) eq q)
  · rename_i x ys
    cases eq : zh0 ys with
    | none => rw [eq] at e; cases e
    | some ss => rw [eq] at e; cases e; exact .inr (zns (neg := false) st va vb (.inr rfl) eq q)
  · exact .inl (dIn_rule st va vb e q)
theorem dNinS_ok : OpOk K (fun x y H Q => zps K true x y H Q ∨ rIn K true x y H Q) (o2 dNinS) := zk9 fun ι F H S v u a b c Q st va vb e q => by
  unfold dNinS at e
  split at e
  · rename_i x ys
    cases eq : zh0 ys with
    | none => rw [eq] at e; cases e
    | some ss => rw [eq] at e; cases e; exact .inr (zns (neg := true) st va vb (.inl rfl) eq q)
  · rename_i x ys
    cases eq : zh0 ys with
    | none => rw [eq] at e; cases e
    | some ss => rw [eq] at e; cases e; exact .inr (zns (neg := true) st va vb (.inr rfl) eq q)
  · exact .inl (dNin_rule st va vb e q)
end
end DL
set_option maxHeartbeats 4000000
namespace L2
open PySem PySem.Spec PyProof.Rows
/-! ## an exception kept behind its clause -/
section
variable {X : Cx} {pins : List (Addr × Obj)} {σ : St} {H : Hp} {s : Shared}
end
section
variable {X : Cx} {x n : Str} {c : Value} {i j : Nat} {body suite : List Stmt} {b₀ : Stmt} {np hpos tpos : Pos} {tb : WX → TS} {Wout : WX}
end
end L2
namespace DL
open PySem PySem.Spec PyProof.Rows L2
variable [Mode]
section
variable {X : Cx} {W : WX} {e a b c : Expr} {es : List Expr} {pos p : Pos} {K : PySem.W.Frag} {ι : List Addr} {F H : Hp} {S : zae} {mg : Str → Option Value}
/-! ## try .. except X as n: y = n -/
/-! ## isinstance of a kept exception -/
def IsiT (K : PySem.W.Frag) (tv : Value) (t : List (Str × Bool)) : Prop := ∀ c b, t.lookup c = some b → ExcC K (He.ga K c) ∧ PySem.W.kitOne K (.ref (He.ga K c)) tv = some b
structure IsiD (K : PySem.W.Frag) (mg : Str → Option Value) (y : Str) (t : List (Str × Bool)) : Prop where
  ex : ∃ V, mg y = some (.ref V) ∧ IsiT K (.ref V) t
/-! ## is None, of anything -/
def isNo : D → Bool
  | .non => true
  | _ => false
def oIsNo (neg : Bool) : Op2 := fun x y S => match y with
  | .dat .non => (match x with
    | .dat d => .ok (.dat (.bl (isNo d != neg))) S
    | _ => .ok (.dat (.bl neg)) S)
  | _ => .bad
theorem oIsNo_core {neg : Bool} {v u : V} {x y : DV} {Q : VK} {E : XK} (st : StR K ι F S H) (va : WV K ι F v x) (vb : WV K ι F u y) (h : Post K mg E ι F H (oIsNo neg x y S) fun dv ι' F' H' => ∀ z, WV K ι' F' z dv → Q z H') : u = .non ∧ Q (.bl (decide (v = .non) != neg)) H := by
  unfold oIsNo at h
  split at h
  · cases vb
    refine ⟨rfl, ?_⟩
    cases x with
    | dat d =>
      have e : decide (v = .non) = isNo d := by
        have w : Wd K F v d := va
        cases w <;> rfl
      rw [e]
      exact h ι F H .refl st _ (.bl _)
    | obj k =>
      obtain ⟨a, _, rfl, _⟩ := va
      have z := h ι F H .refl st _ (.bl neg)
      cases neg <;> exact z
    | scr ns =>
      obtain ⟨a, rfl, _⟩ := va
      have z := h ι F H .refl st _ (.bl neg)
      cases neg <;> exact z
    | exn c p =>
      obtain ⟨a, rfl, _⟩ := va
      have z := h ι F H .refl st _ (.bl neg)
      cases neg <;> exact z
    | fn x =>
      obtain rfl : _ = V.ref (He.ga K x) := va
      have z := h ι F H .refl st _ (.bl neg)
      cases neg <;> exact z
    | spc x =>
      obtain ⟨a, _, rfl, _⟩ := va
      have z := h ι F H .refl st _ (.bl neg)
      cases neg <;> exact z
  · exact h.elim
theorem oNot_ok : OpOk K (fun x y H Q => y = .non ∧ Q (.bl (!decide (x = .non))) H) (oIsNo true) := fun mg E ι F H S v u x y Q st va vb h => by
  have := oIsNo_core st va vb h
  simpa using this
/-! ## what is never reached -/
end
end DL
set_option maxHeartbeats 4000000
namespace DL
open PySem PySem.Spec PyProof.Rows L2
variable [Mode]
section
variable {X : Cx} {W : WX} {e a b c : Expr} {es : List Expr} {pos p : Pos} {K : PySem.W.Frag} {ι : List Addr} {F H : Hp} {S : zae} {mg : Str → Option Value}
/-! ## l.count(x), l.index(x) -/
end
/-! ## a head with facts of one's own -/
/-! ## facts of classes of exceptions -/
def excB (K : PySem.W.Frag) (x : Str) : Bool := He.eqO (PySem.W.findIn K (.ref (He.ga K x)) "__getattribute__") (some (some (.builtin "BaseException.__getattribute__"))) && (He.eqO (PySem.W.findIn K (.ref (He.ga K x)) "__getattr__") (some none) &&
  (decide (PySem.W.subIn K (.ref (He.ga K x)) (.type "BaseException") = some true) && (PySem.W.hasDictIn K (He.ga K x) && (He.eqO (PySem.W.findIn K (.ref (He.ga K x)) "__class__") (some (some (.builtin "object.__class__"))) &&
  (He.eqO (PySem.W.specialIn K (.builtin "object.__class__") "__get__") (some (some (.builtin "getset_descriptor.__get__"))) && (decide (PySem.W.takesIn K (.builtin "object.__class__") = some true) && decide (PySem.W.mroIn K (He.ga K x) (.type "object") = some true)))))))
def kitB (K : PySem.W.Frag) (tv : Value) (t : List (Str × Bool)) : Bool := t.all fun q => excB K q.1 && decide (PySem.W.kitOne K (.ref (He.ga K q.1)) tv = some q.2)
end DL
set_option maxHeartbeats 4000000
namespace PySem.RevS
open PySem PySem.Spec PyProof.Rows HT
section
variable {prog : Program} {w : World} {A : Around} {E : Value → Shared → Prop} {s : Shared}
end
end PySem.RevS
namespace L2
open PySem PySem.Spec PyProof.Rows
section
variable {X : Cx} {e c : Expr} {te tc : TE} {pos p2 : Pos}
end
end L2
namespace DL
open PySem PySem.Spec PyProof.Rows L2
variable [Mode]
section
variable {X : Cx} {W : WX} {e a b c : Expr} {es : List Expr} {pos p p2 : Pos} {K : PySem.W.Frag} {ι : List Addr} {F H : Hp} {S : zae} {mg : Str → Option Value}
/-! ## x[::-1] -/
/-! ## a new list where it stands, to be changed later -/
def xNew (l : LFn) : XFn := fun ρ S => (l ρ S).bind fun ds S1 => .ok (.obj S1.length) (S1 ++ [some ds])
theorem NE.deN {l : LFn} (h : NE X W e l) : DE X W e (xNew l) := ⟨PE.weak h.pe fun σ H Q ⟨ι, F, ρ, S, r, h0⟩ => by
  refine ⟨ι, F, ρ, S, r, ?_⟩
  unfold xNew at h0
  cases q : l ρ S with
  | bad => rw [q] at h0; exact h0
  | ex c S1 => rw [q] at h0; exact h0
  | ok ds S1 =>
    rw [q] at h0
    intro ι' F' H' g st p vs hp hH hF hι w
    exact h0 _ F' H' (zi3 g hp) (st.add hH hF hι w) _ (wv_new hι st.len)⟩
/-! ## a, b, .. = x, y, .. -/
def setAll : List Nat → List DV → za2 → Option za2
  | [], [], ρ => some ρ
  | i :: is, v :: vs, ρ => setAll is vs (ρ.set i (some v))
  | _, _, _ => none
structure DN (X : Cx) (tgs : List Expr) (is : List Nat) : Prop where
  pg : ∃ t, PGs X tgs t ∧ ∀ vs σ H Q ι F ρ S ds ρ', RR X.K ι F ρ S σ H → WVs X.K ι F vs ds → setAll is ds ρ = some ρ' → (∀ σ', RR X.K ι F ρ' S σ' H → Q σ' H) → t vs σ H Q
end
/-! ## defs that call themselves -/
section
variable {P : Program} {w : World} {K : PySem.W.Frag} {mg : Str → Option Value} {base : Heap}
theorem def_bad {q : Bool} {k n : Nat} {x : Str} {params : Arguments} {body : List Stmt} {scope : Scope} {ps : List Str} (h : ∃ f fd, FunD K x x params body scope [] [] f fd ∧ mg x = some (.ref f))
    (hb : ∀ (kV doc pm : Value) (an : Option Addr) (cdv ct : Value) (us : List Value), us.length = ps.length → bindArgs (PySem.W.fnOf x x params body scope .none kV doc pm an cdv ct) ⟨us, []⟩ = pure (ps.zip us))
    (hn : ps.length = n) : DefQ q P w K mg base k x n (fun _ _ => .bad) := by
  obtain ⟨f, fd, Fd, hm⟩ := h
  exact ⟨f, fd, ps, ⟨fun vs H Q E h => by rw [h.1, hn], fun A outer s H args us vs Q E _ _ _ _ _ _ h => by
    obtain ⟨_, ι, F, S, ds, _, _, po⟩ := h
    exact po.elim⟩, hm, Fd.kp, Fd.bindsN hb⟩
theorem def_lv {q : Bool} {k j n : Nat} {x : Str} {g : Fn} (h : DefQ q P w K mg base k x n g) (e : k = j) : DefQ q P w K mg base j x n g := e ▸ h
end
end DL
set_option maxHeartbeats 4000000
namespace DL
open PySem PySem.Spec PyProof.Rows L2
/-! # Special cells: defs that make them or are handed them -/
abbrev SM : Mode := ⟨false⟩
abbrev PM : Mode := plainMode
section
variable {K : PySem.W.Frag} {ι : List Addr} {F H : Hp} {S : zae} {mg : Str → Option Value}
structure StC (K : PySem.W.Frag) (ι : List Addr) (F : Hp) (S : zae) (H : Hp) : Prop where
  sub : Same F H
  len : ι.length = S.length
  full : ∀ b ∈ ι, H b ≠ none
  cell : ∀ (k : Nat) (ds : List D), S[k]? = some (some ds) → IsFst ι k → ∃ a vs, ι[k]? = some a ∧ H a = some (.lst vs) ∧ F a = none ∧ WdA K F vs ds
  spec : ∀ (k : Nat) (ds : List D), S[k]? = some (some ds) → ¬ IsFst ι k → ∃ a, ι[k]? = some a ∧ SpAt K ι F H a ds
  tb : TbsOk K H
  tf : ∀ P ∈ zdm K, F P = none
  snd : ∀ (k : Nat) (ds : List D), S[k]? = some (some ds) → ¬ IsFst ι k → IsSnd ι k
theorem StR.core {M : Mode} (st : @StR M K ι F S H) : StC K ι F S H := ⟨@StR.sub M _ _ _ _ _ st, @StR.len M _ _ _ _ _ st, @StR.full M _ _ _ _ _ st, @StR.cell M _ _ _ _ _ st, @StR.spec M _ _ _ _ _ st, @StR.tb M _ _ _ _ _ st, @StR.tf M _ _ _ _ _ st, @StR.snd M _ _ _ _ _ st⟩
theorem StC.sm (c : StC K ι F S H) : @StR SM K ι F S H := @StR.mk SM _ _ _ _ _ c.sub c.len (fun h => absurd h Bool.false_ne_true) c.full c.cell c.spec c.tb c.tf c.snd
theorem StC.pm (c : StC K ι F S H) (nd : ι.Nodup) : @StR PM K ι F S H := @StR.mk PM _ _ _ _ _ c.sub c.len (fun _ => nd) c.full c.cell c.spec c.tb c.tf c.snd
theorem StR.weak (st : @StR PM K ι F S H) : @StR SM K ι F S H := st.core.sm
theorem StR.add2 {M : Mode} (st : @StR M K ι F S H) {p : Addr} {vs : List V} {ds : List D} (hH : H p = some (.lst vs)) (hF : F p = none) (hι : p ∉ ι) (w : WdA K F vs ds) : @StR M K (ι ++ [p]) F (S ++ [some ds]) H := StR.add st hH hF hι w
theorem StR.cutS {ι0 ι' : List Addr} {F' H' : Hp} {S' : zae} {n : Nat} (st : @StR SM K ι' F' S' H') (hp : ι0 <+: ι') (hn : ι0.length = n) (nd : ι0.Nodup) : @StR PM K ι0 F' (S'.take n) H' := by
  replace st := st.core
  refine StC.pm ?_ nd
  have e : List.take n ι' = ι0 := by
    obtain ⟨t, rfl⟩ := hp
    rw [← hn]; simp
  have hl : n ≤ S'.length := by rw [← st.len, ← hn]; exact hp.length_le
  refine ⟨st.sub, by rw [hn]; simp [hl], fun b hb => st.full b (hp.sublist.subset hb), fun k ds e2 fi => ?_, fun k ds e2 nf => ?_, st.tb, st.tf, fun k ds e2 nf => ?_⟩
  rotate_left 2
  · refine absurd (IsFst.nd nd ?_) nf
    have := (List.getElem?_eq_some_iff.mp e2).1
    rw [List.length_take] at this
    omega
  · rw [List.getElem?_take] at e2
    split at e2
    · rename_i hk
      obtain ⟨a, vs, h1, h2, h3, h4⟩ := st.cell k ds e2 ((IsFst.pre hp (by omega)).mpr fi)
      refine ⟨a, vs, ?_, h2, h3, h4⟩
      rw [← e, List.getElem?_take, if_pos hk]; exact h1
    · cases e2
  · refine absurd (IsFst.nd nd ?_) nf
    have := (List.getElem?_eq_some_iff.mp e2).1
    rw [List.length_take] at this
    omega
/-! ## a def that keeps all that it makes -/
def zqi : RS → Res DV
  | .nx _ S => .ok (.dat .non) S
  | .rt v S => .ok v S
  | .ex c _ S => .ex c S
  | _ => .bad
def zm_ (N : Nat) (f : SFn) : Fn := fun ds S => zqi (f (ds.map some ++ List.replicate (N - ds.length) none) S)
theorem fn_S [Mode] {q : Bool} {P : Program} {w : World} {base : Heap} {k n m : Nat} {f : Addr} {fd : FuncData} {x qual : Str} {params : Arguments} {body : List Stmt} {scope : Scope} {N ps : List Str} {g : SFn} (Fd : FunD K x qual params body scope [] [] f fd) (Sc : FnScope N ps scope)
    (hn : ps.length = n) (hm : N.length = m)
    (hbody : ∀ (cdv : Value) (A : Around) (outer : List Env) (s : Shared) (H : Hp) (E : XK), RoomH k (A.deeper (envOfC qual scope s.heap.objs.size f cdv)) → A.guards = some [] →
      DSs (cxQ q P w K mg base N qual scope f cdv A outer s H E) (fun cls d _ H => E cls d H) body g) : FnQ q P w K mg base (k + 1) f fd ps (spD K mg n (zm_ m g)) := by
  refine fnQ_of Fd Sc (fun vs H Q E h => by rw [h.1, hn]) fun cdv A outer s H vs Q E hr hG h => ?_
  obtain ⟨t, pt, kt⟩ := (hbody cdv A outer s H E hr hG).ps
  refine ⟨t, pt, kt _ _ _ ?_⟩
  obtain ⟨hl, ι, F, S, ds, st, ws, po⟩ := h
  refine ⟨ι, F, _, S, rr_start st ws hm, ?_⟩
  show PostS K mg _ ι F H _ _
  unfold zm_ at po
  cases qq : g (ds.map some ++ List.replicate (m - ds.length) none) S with
  | nx ρ' S' =>
    rw [qq] at po
    exact fun σ' ι' F' H' gr r => po ι' F' H' gr r.st _ .non
  | rt dv S' =>
    rw [qq] at po
    exact fun v ι' F' H' gr st' wv => po ι' F' H' gr st' v wv
  | ex c ρ' S' =>
    rw [qq] at po
    exact fun C σ' ι' F' H' gr r mc => po C ι' F' H' gr r.st mc
  | bk ρ' S' => rw [qq] at po; exact po.elim
  | ct ρ' S' => rw [qq] at po; exact po.elim
  | bad => rw [qq] at po; exact po
theorem def_S [Mode] {q : Bool} {P : Program} {w : World} {base : Heap} {k n m : Nat} {x : Str} {params : Arguments} {body : List Stmt} {scope : Scope} {N ps : List Str} {g : SFn} (h : ∃ f fd, FunD K x x params body scope [] [] f fd ∧ mg x = some (.ref f)) (Sc : FnScope N ps scope)
    (hb : ∀ (kV doc pm : Value) (an : Option Addr) (cdv ct : Value) (us : List Value), us.length = ps.length → bindArgs (PySem.W.fnOf x x params body scope .none kV doc pm an cdv ct) ⟨us, []⟩ = pure (ps.zip us))
    (hbody : ∀ (f : Addr) (cdv : Value) (A : Around) (outer : List Env) (s : Shared) (H : Hp) (E : XK), RoomH k (A.deeper (envOfC x scope s.heap.objs.size f cdv)) → A.guards = some [] →
      DSs (cxQ q P w K mg base N x scope f cdv A outer s H E) (fun cls d _ H => E cls d H) body g) (hn : ps.length = n := by rfl) (hm : N.length = m := by rfl) : DefQ q P w K mg base (k + 1) x n (zm_ m g) := by
  obtain ⟨f, fd, Fd, hmg⟩ := h
  exact ⟨f, fd, ps, fn_S Fd Sc hn hm (hbody f), hmg, Fd.kp, Fd.bindsN hb⟩
/-! ## such a def called from a plain one -/
def sealF (g : Fn) : Fn := fun ds S => match g ds S with
  | .ok dv S' => zn_ S.length dv S'
  | .ex c S' => .ex c (S'.take S.length)
  | .bad => .bad
theorem spD_seal {n : Nat} {g : Fn} {vs : List V} {Q : VK} {E : XK} (h : @spD PM K mg n (sealF g) vs H Q E) : @spD SM K mg n g vs H Q E := by
  obtain ⟨hl, ι, F, S, ds, st, ws, po⟩ := h
  refine ⟨hl, ι, F, S, ds, st.weak, ws, ?_⟩
  have nd := st.nd rfl
  have sl := st.len
  unfold sealF at po
  cases qq : g ds S with
  | bad => rw [qq] at po; exact po
  | ex c S' =>
    rw [qq] at po
    exact fun C ι' F' H' gr st' m => po C ι F' H' gr.cut (st'.cutS gr.pre sl nd) m
  | ok dv S' =>
    rw [qq] at po
    intro ι' F' H' gr st' v wv
    have cu := st'.cutS gr.pre sl nd
    cases dv with
    | dat d => exact po ι F' H' gr.cut cu v wv
    | scr ns => exact po.elim
    | exn c p => exact po ι F' H' gr.cut cu v wv
    | fn _ => exact po.elim
    | spc _ => exact po.elim
    | obj j =>
      simp only [zn_] at po
      obtain ⟨a, h1, h2, h0⟩ := wv
      split at po
      · rename_i hj
        refine po ι F' H' gr.cut cu v ⟨a, ?_, h2, (IsFst.pre gr.pre (by rw [sl]; exact hj)).mp h0⟩
        obtain ⟨t, rfl⟩ := gr.pre
        rw [List.getElem?_append_left (by rw [sl]; exact hj)] at h1; exact h1
      · rename_i hj
        split at po
        · rename_i es ej
          obtain ⟨a', vs', h3, h4, h5, h6⟩ := st'.core.cell j es ej h0
          rw [h1] at h3; cases h3
          have na : a ∉ ι := fun m => by
            obtain ⟨i, hi, e⟩ := List.mem_iff_getElem.mp m
            obtain ⟨t, rfl⟩ := gr.pre
            have e1 : (ι ++ t)[i]? = some a := by rw [List.getElem?_append_left hi, List.getElem?_eq_getElem hi, e]
            rw [sl] at hi
            exact h0 i (by omega) (e1.trans h1.symm)
          have ha : H a = none := (gr.nio a (List.mem_of_getElem? h1)).resolve_left na
          exact po (ι ++ [a]) F' H' (zi3 gr.cut ha) (cu.add2 h4 h5 na h6) v ⟨a, by rw [← sl]; simp, h2, by rw [← sl]; exact IsFst.new na⟩
        · exact po.elim
theorem def_seal {q : Bool} {P : Program} {w : World} {base : Heap} {k n : Nat} {x : Str} {g : Fn} (D : @DefQ SM q P w K mg base k x n g) : @DefQ PM q P w K mg base k x n (sealF g) := by
  obtain ⟨f, fd, ps, Fg, hm, hk, hb⟩ := D
  exact ⟨f, fd, ps, ⟨fun vs H Q E h => Fg.len vs H Q E (spD_seal h), fun A outer s H args us vs Q E hr hq hG e0 hbd rel h => Fg.run A outer s H args us vs Q E hr hq hG e0 hbd rel (spD_seal h)⟩, hm, hk, hb⟩
/-! ## a plain def called from such a one: it is handed data alone, and perhaps the first cell -/
def argM : List DV → Option Nat
  | [] => some 0
  | .dat _ :: ds => argM ds
  | .exn _ _ :: ds => argM ds
  | .fn _ :: ds => argM ds
  | .obj 0 :: ds => match argM ds with
    | some _ => some 1
    | none => none
  | _ :: _ => none
def hasM (S : zae) : Nat → Bool
  | 0 => true
  | _ => match S[0]? with
    | some (some _) => true
    | _ => false
def zpb (g : Fn) : Fn := fun ds S => match argM ds with
  | some m => bif hasM S m then (match g ds (S.take m) with
    | .ok (.dat d) S' => .ok (.dat d) (S'.take m ++ S.drop m)
    | .ok (.obj k) S' => if k < m then .ok (.obj k) (S'.take m ++ S.drop m) else (match S'[k]? with
      | some (some xs) => .ok (.obj S.length) (S'.take m ++ S.drop m ++ [some xs])
      | _ => .bad)
    | .ex c S' => .ex c (S'.take m ++ S.drop m)
    | _ => .bad) else .bad
  | none => .bad
theorem zoj : ∀ {ds : List DV} {m : Nat}, argM ds = some m → m ≤ 1
  | [], m, h => by cases h; omega
  | .dat _ :: ds, m, h => zoj (ds := ds) h
  | .exn _ _ :: ds, m, h => zoj (ds := ds) h
  | .fn _ :: ds, m, h => zoj (ds := ds) h
  | .obj 0 :: ds, m, h => by
    simp only [argM] at h
    cases q : argM ds with
    | none => rw [q] at h; cases h
    | some j => rw [q] at h; cases h; omega
  | .obj (_ + 1) :: _, _, h => by cases h
  | .scr _ :: _, _, h => by cases h
  | .spc _ :: _, _, h => by cases h
theorem zn9 : ∀ {ds : List DV} {vs : List V} {m : Nat}, argM ds = some m → WVs K ι F vs ds → WVs K (ι.take m) F vs ds
  | [], _, _, _, w => by cases w; exact .nil
  | .dat _ :: ds, _, m, h, w => by
    cases w with
    | cons a b => exact .cons a (zn9 (ds := ds) h b)
  | .exn _ _ :: ds, _, m, h, w => by
    cases w with
    | cons a b => exact .cons a (zn9 (ds := ds) h b)
  | .fn _ :: ds, _, m, h, w => by
    cases w with
    | cons a b => exact .cons a (zn9 (ds := ds) h b)
  | .obj 0 :: ds, _, m, h, w => by
    simp only [argM] at h
    cases q : argM ds with
    | none => rw [q] at h; cases h
    | some j =>
      rw [q] at h; cases h
      cases w with
      | cons a b =>
        obtain ⟨p, h1, h2, h3⟩ := a
        have hj := zoj q
        refine .cons ⟨p, by rw [List.getElem?_take, if_pos (by omega)]; exact h1, h2, fun i hi => by omega⟩ ?_
        have b' := zn9 (ds := ds) q b
        rcases Nat.lt_or_ge j 1 with hj0 | hj1
        · have : j = 0 := by omega
          subst this
          -- no cell is named
          have key : ∀ {ds : List DV} {vs : List V}, WVs K (ι.take 0) F vs ds → WVs K (ι.take 1) F vs ds := by
            intro ds vs w
            induction w with
            | nil => exact .nil
            | @cons v vs d ds a _ ih =>
              refine .cons ?_ ih
              cases d with
              | obj k => obtain ⟨p, h1, _⟩ := a; simp at h1
              | spc k => obtain ⟨p, h1, _⟩ := a; simp at h1
              | dat d => exact a
              | scr d => exact a
              | exn d _ => exact a
              | fn d => exact a
          exact key b'
        · have : j = 1 := by omega
          subst this; exact b'
  | .obj (_ + 1) :: _, _, _, h, _ => by cases h
  | .scr _ :: _, _, _, h, _ => by cases h
  | .spc _ :: _, _, _, h, _ => by cases h
theorem one_nd {m : Nat} (h : m ≤ 1) : (ι.take m).Nodup := by
  rcases Nat.lt_or_ge m 1 with q | q
  · have : m = 0 := by omega
    subst this; simp
  · have : m = 1 := by omega
    subst this
    cases ι with
    | nil => simp
    | cons a t => simp
theorem zrf {m : Nat} : ι.take m <+: ι := List.take_prefix _ _
theorem StR.some_ {m : Nat} (st : @StR SM K ι F S H) (h : m ≤ 1) : @StR PM K (ι.take m) F (S.take m) H := by
  replace st := st.core
  refine StC.pm ?_ (one_nd h)
  refine ⟨st.sub, by simp [st.len], fun b hb => st.full b (List.mem_of_mem_take hb), fun k ds e fi => ?_, fun k ds e nf => ?_, st.tb, st.tf, fun k ds e nf => ?_⟩
  rotate_left 2
  · refine absurd (IsFst.nd (one_nd h) ?_) nf
    have hk := (List.getElem?_eq_some_iff.mp e).1
    rw [List.length_take] at hk ⊢
    rw [st.len]; exact hk
  · have hk := (List.getElem?_eq_some_iff.mp e).1
    rw [List.length_take] at hk
    rw [List.getElem?_take, if_pos (by omega)] at e
    have hk' : k < (ι.take m).length := by rw [List.length_take, st.len]; exact hk
    obtain ⟨a, vs, h1, h2, h3, h4⟩ := st.cell k ds e ((IsFst.pre zrf hk').mpr fi)
    exact ⟨a, vs, by rw [List.getElem?_take, if_pos (by omega)]; exact h1, h2, h3, h4⟩
  · refine absurd (IsFst.nd (one_nd h) ?_) nf
    have hk := (List.getElem?_eq_some_iff.mp e).1
    rw [List.length_take] at hk ⊢
    rw [st.len]; exact hk
theorem StR.back {m : Nat} {ι' : List Addr} {F' H' : Hp} {S' : zae} (st : @StR SM K ι F S H) (hM : hasM S m = true) (h1 : m ≤ 1) (gr : Grow (ι.take m) F H ι' F' H') (st' : @StR PM K ι' F' S' H') : @StR SM K ι F' (S'.take m ++ S.drop m) H' ∧ Grow ι F H ι F' H' := by
  replace st := st.core
  replace st' := st'.core
  have hmS : m ≤ S.length := by
    unfold hasM at hM
    cases m with
    | zero => omega
    | succ m =>
      simp only at hM
      split at hM
      · rename_i q; have := (List.getElem?_eq_some_iff.mp q).1; omega
      · cases hM
  have lt : (ι.take m).length = m := by rw [List.length_take, st.len]; omega
  have hlS : m ≤ S'.length := by rw [← st'.len, ← lt]; exact gr.pre.length_le
  have out : ∀ b o, H b = some o → NoTb o → b ∉ ι.take m → H' b = some o := gr.keep
  have g2 : Grow ι F H ι F' H' := ⟨List.prefix_rfl, gr.sf, fun b o e t n => gr.keep b o e t fun z => n (List.mem_of_mem_take z), fun b o e t t2 f n => gr.new b o e t t2 f fun z => n (List.mem_of_mem_take z), fun b h => .inl h, gr.dom⟩
  have notin : ∀ {k : Nat} {a : Addr}, m ≤ k → ι[k]? = some a → IsFst ι k → a ∉ ι.take m := fun {k a} hk e fi z => by
    obtain ⟨i, hi, e2⟩ := List.mem_iff_getElem.mp z
    have hi' : i < m := by rw [lt] at hi; exact hi
    refine fi i (by omega) ?_
    rw [e]
    have : (ι.take m)[i]? = some a := by rw [List.getElem?_eq_getElem hi, e2]
    rw [List.getElem?_take, if_pos hi'] at this
    exact this
  refine ⟨StC.sm ⟨st'.sub, ?_, fun b hb z => st.full b hb (gr.dom b z), fun k ds e fi => ?_, fun k ds e nf => ?_, st'.tb, st'.tf, fun k ds e nf => ?_⟩, g2⟩
  rotate_left 3
  · have hk : ¬ k < m := fun z => nf fun i hi => by omega
    rw [List.getElem?_append_right (by rw [List.length_take]; omega), List.getElem?_drop, List.length_take, Nat.min_eq_left hlS, Nat.add_sub_cancel' (by omega)] at e
    exact st.snd k ds e nf
  · rw [List.length_append, List.length_take, List.length_drop, st.len]; omega
  · by_cases hk : k < m
    · rw [List.getElem?_append_left (by rw [List.length_take]; omega), List.getElem?_take, if_pos hk] at e
      have hki : k < (ι.take m).length := by rw [lt]; exact hk
      have e1 : ι'[k]? = ι[k]? := by
        obtain ⟨t, ht⟩ := gr.pre
        rw [← ht, List.getElem?_append_left hki, List.getElem?_take, if_pos hk]
      obtain ⟨a, vs, q1, q2, q3, q4⟩ := st'.cell k ds e ((IsFst.pre gr.pre hki).mpr ((IsFst.pre zrf hki).mp fi))
      exact ⟨a, vs, by rw [← e1]; exact q1, q2, q3, q4⟩
    · rw [List.getElem?_append_right (by rw [List.length_take]; omega), List.getElem?_drop, List.length_take, Nat.min_eq_left hlS, Nat.add_sub_cancel' (by omega)] at e
      obtain ⟨a, vs, q1, q2, q3, q4⟩ := st.cell k ds e fi
      have no := notin (by omega) q1 fi
      exact ⟨a, vs, q1, gr.keep a _ q2 (fun _ z => nomatch z) no, gr.new a _ q2 (fun _ z => nomatch z) (fun _ z => nomatch z) q3 no, q4.mono gr.sf⟩
  · have hk : ¬ k < m := fun z => nf fun i hi => by omega
    rw [List.getElem?_append_right (by rw [List.length_take]; omega), List.getElem?_drop, List.length_take, Nat.min_eq_left hlS, Nat.add_sub_cancel' (by omega)] at e
    obtain ⟨a, q1, q2⟩ := st.spec k ds e nf
    refine ⟨a, q1, q2.move List.prefix_rfl gr.sf fun o eo nl nt => ?_⟩
    have no : a ∉ ι.take m := fun z => by
      obtain ⟨i, hi, e2⟩ := List.mem_iff_getElem.mp z
      have hi' : i < m := by rw [lt] at hi; exact hi
      have hi0 : i = 0 := by omega
      subst hi0
      have hm1 : m = 1 := by omega
      subst hm1
      have ei : ι[0]? = some a := by
        have : (ι.take 1)[0]? = some a := by rw [List.getElem?_eq_getElem hi, e2]
        rw [List.getElem?_take, if_pos (by omega)] at this
        exact this
      unfold hasM at hM
      simp only at hM
      split at hM
      · rename_i xs q
        obtain ⟨a2, vs, z1, z2, _⟩ := st.cell 0 xs q fun i hi => by omega
        rw [ei] at z1; cases z1
        rw [eo] at z2; cases z2
        exact nl _ rfl
      · cases hM
    exact ⟨gr.keep a o eo (fun ps z => nt.2 ps z) no, fun f => gr.new a o eo (fun xs z => nt.1 xs z) (fun ps z => nt.2 ps z) f no⟩
theorem spD_lift {n : Nat} {g : Fn} {vs : List V} {Q : VK} {E : XK} (h : @spD SM K mg n (zpb g) vs H Q E) : @spD PM K mg n g vs H Q E := by
  obtain ⟨hl, ι, F, S, ds, st, ws, po⟩ := h
  unfold zpb at po
  cases qm : argM ds with
  | none => rw [qm] at po; exact po.elim
  | some m =>
    rw [qm] at po
    have hm1 := zoj qm
    have sl := st.core.len
    cases hM : hasM S m with
    | false => simp only [hM, cond_false] at po; exact po.elim
    | true =>
      simp only [hM, cond_true] at po
      refine ⟨hl, ι.take m, F, S.take m, ds, st.some_ hm1, zn9 qm ws, ?_⟩
      have lt : (ι.take m).length ≤ m := by rw [List.length_take]; omega
      cases qq : g ds (S.take m) with
      | bad => rw [qq] at po; exact po
      | ex c S' =>
        rw [qq] at po
        intro C ι' F' H' gr st' mc
        obtain ⟨st2, g2⟩ := st.back hM hm1 gr st'
        exact po C ι F' H' g2 st2 mc
      | ok dv S' =>
        rw [qq] at po
        intro ι' F' H' gr st' v wv
        obtain ⟨st2, g2⟩ := st.back hM hm1 gr st'
        cases dv with
        | dat d => exact po ι F' H' g2 st2 v wv
        | scr ns => exact po.elim
        | exn c p => exact po.elim
        | fn _ => exact po.elim
        | spc _ => exact po.elim
        | obj k =>
          obtain ⟨a, w1, w2, w3⟩ := wv
          simp only at po
          have hmS : m = (ι.take m).length := by
            have : m ≤ S.length := by
              unfold hasM at hM
              cases m with
              | zero => omega
              | succ m =>
                simp only at hM
                split at hM
                · rename_i q; have := (List.getElem?_eq_some_iff.mp q).1; omega
                · cases hM
            rw [List.length_take, sl]; omega
          split at po
          · rename_i hk
            have hki : k < (ι.take m).length := by omega
            refine po ι F' H' g2 st2 v ⟨a, ?_, w2, (IsFst.pre zrf hki).mpr ((IsFst.pre gr.pre hki).mp w3)⟩
            obtain ⟨t, ht⟩ := gr.pre
            rw [← ht, List.getElem?_append_left hki, List.getElem?_take, if_pos hk] at w1
            exact w1
          · rename_i hk
            split at po
            · rename_i xs ex
              obtain ⟨a2, vs2, z1, z2, z3, z4⟩ := st'.core.cell k xs ex w3
              rw [w1] at z1; cases z1
              have na : a ∉ ι.take m := fun z => by
                obtain ⟨i, hi, e2⟩ := List.mem_iff_getElem.mp z
                obtain ⟨t, ht⟩ := gr.pre
                have e1 : ι'[i]? = some a := by rw [← ht, List.getElem?_append_left hi, List.getElem?_eq_getElem hi, e2]
                exact w3 i (by omega) (e1.trans w1.symm)
              have ha : H a = none := (gr.nio a (List.mem_of_getElem? w1)).resolve_left na
              have nι : a ∉ ι := fun z => st.core.full a z ha
              exact po (ι ++ [a]) F' H' (zi3 g2 ha) (st2.add2 z2 z3 nι z4) v ⟨a, by rw [← sl]; simp, w2, by rw [← sl]; exact IsFst.new nι⟩
            · exact po.elim
theorem def_lift {q : Bool} {P : Program} {w : World} {base : Heap} {k n : Nat} {x : Str} {g : Fn} (D : @DefQ PM q P w K mg base k x n g) : @DefQ SM q P w K mg base k x n (zpb g) := by
  obtain ⟨f, fd, ps, Fg, hm, hk, hb⟩ := D
  refine @DefQ.mk SM _ _ _ _ _ _ _ _ _ _ ?_
  exact ⟨f, fd, ps, ⟨fun vs H Q E h => Fg.len vs H Q E (spD_lift h), fun A outer s H args us vs Q E hr hq hG e0 hbd rel h => Fg.run A outer s H args us vs Q E hr hq hG e0 hbd rel (spD_lift h)⟩, hm, hk, hb⟩
end
end DL
set_option maxHeartbeats 4000000
namespace DL
open PySem PySem.Spec PyProof.Rows L2
local instance (priority := 2000) smI : Mode := SM
theorem ru9 {k : Nat} {A : Around} (r : RoomH k A) : A.units + 9 < cLine := by have := r.un; omega
/-! # A live dict whose keys are tuples of ints and of such tuples -/
section
variable {P : Program} {w : World} {K : PySem.W.Frag} {H : Hp} {h : Heap}
mutual
theorem nky_is (hok : HOk P w H h) (KX : K.In h) : ∀ {d : D} {v : V} {u : Value} {k : NestedKey}, Wd K H v d → RelV v u → nkyD d = some k → NestedIs h k u
  | .non, v, u, k, wd, r, e => by
    cases wd; cases e
    obtain rfl : u = .none := r
    exact .none
  | .int i, v, u, k, wd, r, e => by
    cases wd; cases e
    obtain ⟨t, rfl⟩ : ∃ t, u = .int i t := r
    exact .int i t
  | .tup ds, v, u, k, wd, r, e => by
    cases wd with
    | tup sq wa =>
      rename_i a vs
      obtain rfl : u = .ref a := r
      obtain ⟨its, o, n, h1, h2, h3, h4⟩ := sqT_at hok KX sq
      simp only [nkyD] at e
      cases q : nkyDs ds with
      | none => rw [q] at e; cases e
      | some ks =>
        rw [q] at e; cases e
        exact .tup h2 h3 h4 (nkys_is hok KX wa h1 q)
  | .bl _, _, _, _, _, _, e => by cases e
  | .str _, _, _, _, _, _, e => by cases e
  | .lst _, _, _, _, _, _, e => by cases e
  | .cas _, _, _, _, _, _, e => by cases e
  | .dct _, _, _, _, _, _, e => by cases e
  | .ptr _, _, _, _, _, _, e => by cases e
theorem nkys_is (hok : HOk P w H h) (KX : K.In h) : ∀ {ds : List D} {vs : List V} {us : List Value} {ks : List NestedKey}, WdA K H vs ds → Vals vs us → nkyDs ds = some ks → NestedAll h ks us
  | [], vs, us, ks, wd, r, e => by
    cases wd; cases e; cases r; exact .nil
  | d :: ds, vs, us, ks, wd, r, e => by
    cases wd with
    | cons wa wb =>
      cases r with
      | cons ra rb =>
        simp only [nkyDs] at e
        cases q : nkyD d with
        | none => rw [q] at e; cases e
        | some k =>
          cases q2 : nkyDs ds with
          | none => rw [q, q2] at e; cases e
          | some ks2 =>
            rw [q, q2] at e; cases e
            exact .cons (nky_is hok KX wa ra q) (nkys_is hok KX wb rb q2)
end
mutual
theorem nky_hash (w w' : World) : ∀ {d : D} {k : NestedKey}, nkyD d = some k → k.hash w = k.hash w'
  | .non, k, e => by cases e; rfl
  | .int i, k, e => by cases e; rfl
  | .tup ds, k, e => by
    simp only [nkyD] at e
    cases q : nkyDs ds with
    | none => rw [q] at e; cases e
    | some ks =>
      rw [q] at e; cases e
      simp only [NestedKey.hash]
      rw [nkys_hash w w' q]
  | .bl _, _, e => by cases e
  | .str _, _, e => by cases e
  | .lst _, _, e => by cases e
  | .cas _, _, e => by cases e
  | .dct _, _, e => by cases e
  | .ptr _, _, e => by cases e
theorem nkys_hash (w w' : World) : ∀ {ds : List D} {ks : List NestedKey}, nkyDs ds = some ks → NestedKey.hashes w ks = NestedKey.hashes w' ks
  | [], ks, e => by cases e; rfl
  | d :: ds, ks, e => by
    simp only [nkyDs] at e
    cases q : nkyD d with
    | none => rw [q] at e; cases e
    | some k =>
      cases q2 : nkyDs ds with
      | none => rw [q, q2] at e; cases e
      | some ks2 =>
        rw [q, q2] at e; cases e
        simp only [NestedKey.hashes]
        rw [nky_hash w w' q, nkys_hash w w' q2]
end
def pkD : D → Option NestedKey
  | .tup [kd, _] => nkyD kd
  | _ => none
def inN (ps : List D) (k : NestedKey) : Bool := ps.any fun p => decide (pkD p = some k)
def setV (k : NestedKey) (vd : D) : D → D
  | .tup [kd, v] => if nkyD kd = some k then .tup [kd, vd] else .tup [kd, v]
  | d => d
def putN (ps : List D) (k : NestedKey) (kd vd : D) : List D := bif inN ps k then ps.map (setV k vd) else ps ++ [.tup [kd, vd]]
variable {ι : List Addr} {F : Hp} {a : Addr} {xs : List (NestedKey × Addr × Value)} {ds : List D}
theorem PairN.at_ (p : PairN K ι F xs ds) (k : NestedKey) : (atKey xs k).isSome = inN ds k := by
  induction p with
  | nil => rfl
  | @cons k' b u v kd vd xs ds h1 h2 h3 h4 _ ih =>
    unfold inN at ih ⊢
    unfold atKey at ih ⊢
    simp only [List.any_cons, List.find?_cons, pkD, h1.1, Option.some.injEq]
    by_cases e : k' = k
    · simp [e]
    · simp only [e, decide_false, Bool.false_or]
      exact ih
theorem PairN.set (p : PairN K ι F xs ds) {k : NestedKey} {u : Value} {v : V} {vd : D} (r : RelV v u) (f : SpV K ι F v vd) : PairN K ι F (xs.map (putAt k u)) (ds.map (setV k vd)) := by
  induction p with
  | nil => exact .nil
  | @cons k' b u' v' kd vd' xs ds h1 h2 h3 h4 _ ih =>
    simp only [List.map_cons, putAt, setV, h1.1, Option.some.injEq]
    by_cases e : k' = k
    · simp only [e, if_true]
      exact .cons (e ▸ h1) h2 r f ih
    · simp only [e, if_false]
      exact .cons h1 h2 h3 h4 ih
theorem PairN.snoc (p : PairN K ι F xs ds) {k : NestedKey} {b : Addr} {u : Value} {v : V} {kd vd : D} (h1 : nkyD kd = some k ∧ k.depth ≤ 8) (h2 : Wd K F (.ref b) kd) (r : RelV v u) (f : SpV K ι F v vd) : PairN K ι F (xs ++ [(k, b, u)]) (ds ++ [.tup [kd, vd]]) := by
  induction p with
  | nil => exact .cons h1 h2 r f .nil
  | cons a1 a2 a3 a4 _ ih => exact .cons a1 a2 a3 a4 ih
theorem PairN.put (p : PairN K ι F xs ds) {k : NestedKey} {b : Addr} {u : Value} {v : V} {kd vd : D} (h1 : nkyD kd = some k ∧ k.depth ≤ 8) (h2 : Wd K F (.ref b) kd) (r : RelV v u) (f : SpV K ι F v vd) : PairN K ι F (storedH xs k b u) (putN ds k kd vd) := by
  unfold storedH putN
  rw [p.at_ k]
  cases inN ds k with
  | true => simp only [if_true, cond_true]; exact p.set r f
  | false => simp only [Bool.false_eq_true, if_false, cond_false]; exact p.snoc h1 h2 r f
theorem PairN.length (p : PairN K ι F xs ds) : xs.length = ds.length := by
  induction p with
  | nil => rfl
  | cons _ _ _ _ _ ih => simp [ih]
theorem PairN.wd (p : PairN K ι F xs ds) {x : NestedKey × Addr × Value} (m : x ∈ xs) : ∃ kd, nkyD kd = some x.1 ∧ x.1.depth ≤ 8 ∧ Wd K F (.ref x.2.1) kd := by
  induction p with
  | nil => cases m
  | cons h1 h2 _ _ _ ih =>
    rcases List.mem_cons.mp m with rfl | m
    · exact ⟨_, h1.1, h1.2, h2⟩
    · exact ih m
theorem PairN.dict (p : PairN K ι F xs ds) (hok : HOk P w H h) (KX : K.In h) (sm : Same F H) (e : H a = some (DicN a xs)) : (a == sysModules) = false ∧ h.DictOfH (nestedKind P w) a xs := by
  obtain ⟨⟨h0, o, es, ep, w0, h1, h2, h3, h4, h5⟩, _⟩ := hok a _ e
  refine ⟨h0, o, es, ep, h1, h2, h3, ?_, fun x m => ?_, h5⟩
  · rw [h4]
    refine List.map_congr_left fun x m => ?_
    obtain ⟨kd, q, _, _⟩ := p.wd m
    show (⟨x.1.hash w0, .ref x.2.1, x.2.2⟩ : DictEntry) = ⟨x.1.hash w, .ref x.2.1, x.2.2⟩
    rw [nky_hash w0 w q]
  · obtain ⟨kd, q, q2, q3⟩ := p.wd m
    exact ⟨nky_is hok KX (q3.mono sm) rfl q, q2⟩
theorem dicN_ok {H' : Hp} (hd : (a == sysModules) = false) (dd : h.DictOfH (nestedKind P w) a xs) : ObjOk P w H' h a (DicN a xs) := by
  obtain ⟨o, es, ep, h1, h2, h3, h4, _, h5⟩ := dd
  refine ⟨⟨hd, o, es, ep, w, h1, h2, h3, h4, h5⟩, ⟨o, h1⟩, fun g1 g2 ⟨k0, o', es', ep', w', k1, k2, k3, k4, k5⟩ st => ⟨k0, o', es', ep', w', st _ k1, k2, k3, k4, k5⟩⟩
end
section
variable {X : Cx} {W : WX} {e a b c : Expr} {pos p pos' : Pos} {K : PySem.W.Frag} {ι : List Addr} {F H : Hp} {S : zae} {mg : Str → Option Value}
/-! ## {} -/
def tDNewN : TE := fun _ H Q => ∀ p, H p = none → Q (.ref p) (upd H p (DicN p []))
theorem pe_dnewN : PE X (.Dict [] [] pos) tDNewN := ⟨fun pins s σ H Q I h =>
  wpAny_Dict_empty ⟨.ref s.heap.objs.size, _, I.laid (a := s.heap.objs.size) (o := DicN s.heap.objs.size []) (t' := s.toks) (fun _ _ q => Heap.get?_push_of_some _ q) (Nat.le_refl _)
    (dicN_ok (P := X.prog) (w := X.w) (beq_eq_false_iff_ne.mpr (Ne.symm (Nat.ne_of_lt I.big))) (Heap.DictOfH.new s.heap)), rfl, h _ (I.hok.fresh (Nat.le_refl _))⟩⟩
theorem sp_new {p : Addr} {o : HO} {ds : List D} (st : StR K ι F S H) (hp : H p = none) (ho : SpO K (ι ++ [p, p]) F p o ds) : StR K (ι ++ [p, p]) F (S ++ [none, some ds]) (upd H p o) ∧ Grow ι F H (ι ++ [p, p]) F (upd H p o) ∧ WV K (ι ++ [p, p]) F (.ref p) (.spc (S.length + 1)) := by
  have hF : F p = none := by
    cases q : F p with
    | none => rfl
    | some o => rw [st.sub p o q] at hp; cases hp
  have nι : p ∉ ι := fun m => st.full p m hp
  have st1 := st.alone hp o
  have sl := st.len
  have pr : ι <+: ι ++ [p, p] := List.prefix_append _ _
  have i1 : (ι ++ [p, p])[ι.length]? = some p := by simp
  have i2 : (ι ++ [p, p])[ι.length + 1]? = some p := by simp
  refine ⟨StC.sm ⟨st1.sub, by simp [sl], fun b hb => ?_, fun k es e fi => ?_, fun k es e nf => ?_, st1.tb, st1.tf, fun k es e nf => ?_⟩, ⟨pr, Same.refl _, fun b u e _ _ => by rw [upd_ne (fun z => by rw [z, hp] at e; cases e)]; exact e, fun _ _ _ _ _ f _ => f, fun b hb => ?_, fun b e => zdn e⟩, p, by rw [← sl]; exact i2, rfl, fun z => z ι.length (by omega) (by rw [← sl, i1, i2])⟩
  rotate_left 3
  · by_cases hk : k < S.length
    · rw [List.getElem?_append_left hk] at e
      have hk' : k < ι.length := by omega
      exact (IsSnd.pre pr hk').mpr (st1.snd k es e fun z => nf ((IsFst.pre pr hk').mpr z))
    · have h' := (List.getElem?_eq_some_iff.mp e).1
      simp at h'
      rcases Nat.lt_or_ge S.length k with q | q
      · have : k = S.length + 1 := by omega
        subst this
        refine ⟨ι.length, by omega, by rw [← sl, i1, i2], fun j hj z => ?_⟩
        rw [i1, List.getElem?_append_left hj] at z
        exact nι (List.mem_of_getElem? z)
      · have : k = S.length := by omega
        subst this
        simp at e
  rotate_left
  · rcases List.mem_append.mp hb with z | z
    · exact st1.full b z
    · simp at z; subst z; rw [upd_same]; exact fun z => nomatch z
  · by_cases hk : k < S.length
    · rw [List.getElem?_append_left hk] at e
      have hk' : k < ι.length := by omega
      obtain ⟨a1, vs, q1, q2, q3, q4⟩ := st1.cell k es e ((IsFst.pre pr hk').mp fi)
      exact ⟨a1, vs, by rw [List.getElem?_append_left hk']; exact q1, q2, q3, q4⟩
    · have h' := (List.getElem?_eq_some_iff.mp e).1
      simp at h'
      rcases Nat.lt_or_ge S.length k with q | q
      · have : k = S.length + 1 := by omega
        subst this
        exact absurd (show (ι ++ [p, p])[ι.length]? = (ι ++ [p, p])[S.length + 1]? by rw [← sl, i1, i2]) (fi ι.length (by omega))
      · have : k = S.length := by omega
        subst this
        simp at e
  · by_cases hk : k < S.length
    · rw [List.getElem?_append_left hk] at e
      have hk' : k < ι.length := by omega
      obtain ⟨a1, q1, q2⟩ := st1.spec k es e fun z => nf ((IsFst.pre pr hk').mpr z)
      exact ⟨a1, by rw [List.getElem?_append_left hk']; exact q1, q2.move pr (Same.refl _) fun o e _ _ => ⟨e, fun f => f⟩⟩
    · have h' := (List.getElem?_eq_some_iff.mp e).1
      simp at h'
      rcases Nat.lt_or_ge S.length k with q | q
      · have : k = S.length + 1 := by omega
        subst this
        rw [List.getElem?_append_right (by omega)] at e
        simp at e
        subst e
        exact ⟨p, by rw [← sl]; exact i2, hF, o, upd_same, ho⟩
      · have : k = S.length := by omega
        subst this
        simp at e
  · rcases List.mem_append.mp hb with z | z
    · exact .inl z
    · simp at z; subst z; exact .inr hp
def xNewN : XFn := fun _ S => .ok (.spc (S.length + 1)) (S ++ [none, some [.str "{}n"]])
theorem de_newN : DE X W (.Dict [] [] pos) xNewN := by
  refine ⟨PE.weak pe_dnewN fun σ H Q ⟨ι, F, ρ, S, r, h⟩ => fun p hp => ?_⟩
  obtain ⟨st, g, wv⟩ := sp_new (ds := [.str "{}n"]) r.st hp (.dnk .nil)
  exact h _ _ _ g st _ wv
/-! ## k in d -/
def spcOf (S : zae) : DV → Option (Nat × List D)
  | .spc k => match S[k]? with
    | some (some ds) => some (k, ds)
    | _ => none
  | _ => none
theorem spc_at {x : DV} {k : Nat} {ds : List D} {v : V} (st : StR K ι F S H) (w : WV K ι F v x) (e : spcOf S x = some (k, ds)) : ∃ a, v = .ref a ∧ ι[k]? = some a ∧ ¬ IsFst ι k ∧ SpAt K ι F H a ds ∧ S[k]? = some (some ds) := by
  cases x with
  | spc j =>
    simp only [spcOf] at e
    split at e
    · rename_i es q
      cases e
      obtain ⟨a, h1, h2, h3⟩ := w
      obtain ⟨a', h4, h5⟩ := st.spec _ _ q h3
      rw [h1] at h4; cases h4
      exact ⟨a, h2, h1, h3, h5, q⟩
    · cases e
  | _ => cases e
theorem StR.putS {k : Nat} {a : Addr} {o o' : HO} {ds ds' : List D} (st : StR K ι F S H) (hk : ι[k]? = some a) (nf : ¬ IsFst ι k) (hF : F a = none) (hH : H a = some o) (nl : ∀ xs, o ≠ .lst xs) (hS : S[k]? = some (some ds))
    (ho : SpO K ι F a o' ds') (tb : TbsOk K (upd H a o')) : StR K ι F (S.set k (some ds')) (upd H a o') := by
  refine StC.sm ⟨fun b u e => ?_, by simp [st.len], fun b hb => zls (st.full b hb), fun j es e fi => ?_, fun j es e n => ?_, tb, st.tf, fun j es e n => ?_⟩
  rotate_left 3
  · by_cases hj : k = j
    · subst hj; exact st.snd _ _ hS nf
    · rw [List.getElem?_set_ne hj] at e; exact st.snd j es e n
  · rw [upd_ne (fun z => by rw [z, hF] at e; cases e)]; exact st.sub b u e
  · have hj : k ≠ j := fun z => nf (z ▸ fi)
    rw [List.getElem?_set_ne hj] at e
    obtain ⟨a1, vs, q1, q2, q3, q4⟩ := st.cell j es e fi
    have n : a1 ≠ a := fun z => by rw [z, hH] at q2; cases q2; exact nl _ rfl
    exact ⟨a1, vs, q1, by rw [upd_ne n]; exact q2, q3, q4⟩
  · by_cases hj : k = j
    · subst hj
      have hl := (List.getElem?_eq_some_iff.mp hS).1
      rw [List.getElem?_set_self hl] at e
      cases e
      exact ⟨a, hk, hF, o', upd_same, ho⟩
    · rw [List.getElem?_set_ne hj] at e
      obtain ⟨a1, q1, q2⟩ := st.spec j es e n
      have ne : a1 ≠ a := fun z => hj (IsSnd.one (st.snd k ds hS nf) (st.snd j es e n) hk (z ▸ q1))
      exact ⟨a1, q1, q2.move List.prefix_rfl (Same.refl _) fun o e _ _ => ⟨by rw [upd_ne ne]; exact e, fun f => f⟩⟩
theorem grow_spc {k : Nat} {a : Addr} {o : HO} (hk : ι[k]? = some a) : Grow ι F H ι F (upd H a o) := by
  have m : a ∈ ι := List.mem_of_getElem? hk
  exact ⟨List.prefix_rfl, Same.refl _, fun b u e _ n => by rw [upd_ne (fun z => n (by rw [z]; exact m))]; exact e, fun b u e _ _ f _ => f, fun b h => .inl h, fun b h => zdn h⟩
def rInN (K : PySem.W.Frag) : R2 := fun x y H Q => ∃ a b xs k ι F ds kd, y = .ref a ∧ x = .ref b ∧ H a = some (DicN a xs) ∧ PairN K ι F xs ds ∧ Same F H ∧ Wd K F x kd ∧ nkyD kd = some k ∧ k.depth ≤ 8 ∧ Q (.bl (inN ds k)) H
theorem op_inN (hu : X.A.units + 9 < cLine) : OpR X (compareOp .In) (rInN X.K) := by
  intro pins s σ H x y v u Q I rx ry ⟨a, b, xs, k, ι, F, ds, kd, e1, e2, e3, p, sm, wk, nk, dk, q⟩
  subst e1 e2
  obtain rfl : u = Value.ref a := ry
  obtain rfl : v = Value.ref b := rx
  obtain ⟨hd, dd⟩ := p.dict I.hok I.kIn sm e3
  have hk : (nestedKind X.prog X.w).is s.heap k b := ⟨nky_is I.hok I.kIn (wk.mono sm) rfl nk, dk⟩
  refine wpAny_in_heap (knd := nestedKind X.prog X.w) (by show X.A.units + 1 + 8 < cLine; omega) hk hd dd ?_
  rw [p.at_ k]
  exact ⟨.bl (inN ds k), H, I.tok _, rfl, q⟩
def oInN (x y : DV) (S : zae) : Res DV := match x, spcOf S y with
  | .dat (.tup t), some (_, .str w :: ps) => (match nkyD (.tup t) with
    | some k => if w = "{}n" ∧ k.depth ≤ 8 then .ok (.dat (.bl (inN ps k))) S else .bad
    | none => .bad)
  | _, _ => .bad
theorem oInN_ok : OpOk K (rInN K) oInN := by
  intro mg E ι F H S v u x y Q st wx wy h
  unfold oInN at h
  split at h
  · rename_i t k0 w ps es
    split at h
    · rename_i k nk
      split at h
      · rename_i hh
        obtain ⟨rfl, dk⟩ := hh
        obtain ⟨a, e1, e2, e3, e4, _⟩ := spc_at st wy es
        obtain ⟨f0, o, ho, so⟩ := e4
        cases so with
        | dnk pr =>
          rename_i xs
          have wx' : Wd K F v (.tup t) := wx
          have wx2 := wx'
          cases wx' with
          | tup sq wa =>
            rename_i b vs
            exact ⟨a, b, xs, k, ι, F, ps, _, e1, rfl, ho, pr, st.sub, wx2, nk, dk, h ι F H .refl st _ (.bl _)⟩
        | ins _ h0 _ _ => exact absurd (by decide) h0
      · exact h.elim
    · exact h.elim
  · exact h.elim
/-! ## d[k] = v -/
theorem tbs_dic {pins : List (Addr × Obj)} {σ : L2.St} {s : Shared} {a : Addr} {xs : List (NestedKey × Addr × Value)} {o' : HO} (I : Inv X pins σ H s) (t : TbsOk K H) (e : H a = some (DicN a xs)) : TbsOk K (upd H a o') := fun p hp => by
  obtain ⟨ps, h1, h2, h3⟩ := t p hp
  have nP : p.1 ≠ a := fun z => by rw [z, e] at h1; cases h1
  refine ⟨ps, by rw [upd_ne nP]; exact h1, h2, fun pos cv hc => ?_⟩
  obtain ⟨c, e1, e2⟩ := h3 pos cv hc
  refine ⟨c, e1, ?_⟩
  have nc : c ≠ a := fun z => by
    subst z
    obtain ⟨⟨_, o, es, ep, w0, g1, g2, g3, _⟩, _⟩ := I.hok c _ e
    obtain ⟨⟨oc, vs, t, k1, k2, _⟩, _⟩ := I.hok c _ e2
    rw [g1] at k1; cases k1
    rw [g3] at k2; cases k2
  rw [upd_ne nc]; exact e2
def sDPutN (K : PySem.W.Frag) (td ty tv : TE) : TS := fun D σ H => tv σ H fun v H1 => td σ H1 fun x H2 => ty σ H2 fun y H3 => ∃ a b xs k ι F ds kd vd, x = .ref a ∧ y = .ref b ∧ H3 a = some (DicN a xs) ∧ PairN K ι F xs ds ∧ Same F H3 ∧ Wd K F y kd ∧ nkyD kd = some k ∧ k.depth ≤ 8 ∧
  xs.length < sizeLine ∧ SpV K ι F v vd ∧ TbsOk K H3 ∧ ∀ xs', PairN K ι F xs' (putN ds k kd vd) → TbsOk K (upd H3 a (DicN a xs')) → D.nx σ (upd H3 a (DicN a xs'))
theorem ps_dputN {o i value : Expr} {td ty tv : TE} (hu : X.A.units + 9 < cLine) (ho : PE X o td) (hi : PE X i ty) (hv : PE X value tv) (hs : swapsWith value (some (.Subscript o i pos')) pos.line X.env = pure false) :
    PS X (.Assign [.Subscript o i pos'] value pos) (sDPutN X.K td ty tv) := by
  refine ⟨fun pins s σ H D I h => ?_⟩
  refine wpAny_Assign_Subscript (thn (hv.run pins s σ H _ I h) fun r s1 ⟨v, H1, I1, rv, q1⟩ => thn (ho.run pins s1 σ H1 _ I1 q1) fun u s2 ⟨x, H2, I2, rx, q2⟩ => thn (hi.run pins s2 σ H2 _ I2 q2) fun iv s3 ⟨y, H3, I3, ry, a, b, xs, k, ι, F, ds, kd, vd, ex, ey, ea, pr, sm, wk, nk, dk, hl, sv, tb, q3⟩ => ?_) hs
  subst ex ey
  obtain rfl : u = Value.ref a := rx
  obtain rfl : iv = Value.ref b := ry
  obtain ⟨hd, dd⟩ := pr.dict I3.hok I3.kIn sm ea
  have hk : (nestedKind X.prog X.w).is s3.heap k b := ⟨nky_is I3.hok I3.kIn (wk.mono sm) rfl nk, dk⟩
  refine wpAny_setItem_heap (knd := nestedKind X.prog X.w) (hsz := Nat.le_of_lt hl) (by show X.A.units + 1 + 8 < cLine; omega) hk dd fun h' dd' hsb => ?_
  have pr' := pr.put ⟨nk, dk⟩ wk rv sv
  have tb' := tbs_dic (o' := DicN a (storedH xs k b r)) I3 tb ea
  have he : ∃ q, h'.get? a = some q := let ⟨q, _, _, hq, _⟩ := dd'; ⟨q, hq⟩
  exact ⟨σ, _, d_write I3 (by rw [ea]; exact True.intro) hsb he (dicN_ok hd dd'), q3 _ pr' tb'⟩
def putDN (x y v : DV) (ρ : za2) (S : zae) : RS := match spcOf S x, y, v with
  | some (k, .str w :: ps), .dat (.tup t), .dat vd => (match nkyD (.tup t) with
    | some key => if w = "{}n" ∧ key.depth ≤ 8 ∧ ps.length < sizeLine then .nx ρ (S.set k (some (.str w :: putN ps key (.tup t) vd))) else .bad
    | none => .bad)
  | _, _, _ => .bad
def sPutN (fd fk fv : XFn) : SFn := fun ρ S => (fv ρ S).bindS ρ fun v S1 => (fd ρ S1).bindS ρ fun x S2 => (fk ρ S2).bindS ρ fun y S3 => putDN x y v ρ S3
theorem ds_putN {o i value : Expr} {fd fk fv : XFn} (hu : X.A.units + 9 < cLine) (ho : DE X W o fd) (hi : DE X W i fk) (hv : DE X W value fv) (hs : swapsWith value (some (.Subscript o i pos')) pos.line X.env = pure false := by rfl) :
    DS X W (.Assign [.Subscript o i pos'] value pos) (sPutN fd fk fv) := by
  refine ⟨_, ps_dputN hu ho.pe hi.pe hv.pe hs, fun D σ H ⟨ι, F, ρ, S, r, h⟩ => ?_⟩
  refine tD.bindS (g := fun ρ v S1 => (fd ρ S1).bindS ρ fun x S2 => (fk ρ S2).bindS ρ fun y S3 => putDN x y v ρ S3) r h fun v dv ι1 F1 S1 H1 r1 w1 g1 h1 => ?_
  refine tD.bindS (g := fun ρ x S2 => (fk ρ S2).bindS ρ fun y S3 => putDN x y dv ρ S3) r1 h1 fun x dx ι2 F2 S2 H2 r2 w2 g2 h2 => ?_
  refine tD.bindS (g := fun ρ y S3 => putDN dx y dv ρ S3) r2 h2 fun y dy ι3 F3 S3 H3 r3 w3 g3 h3 => ?_
  unfold putDN at h3
  split at h3
  · rename_i k w ps t vd es
    split at h3
    · rename_i key nk
      split at h3
      · rename_i hh
        obtain ⟨rfl, dk, hl⟩ := hh
        obtain ⟨a, e1, e2, e3, e4, e5⟩ := spc_at r3.st (w2.grow g3) es
        obtain ⟨f0, o, hoo, so⟩ := e4
        cases so with
        | dnk pr =>
          rename_i xs
          have wy : Wd X.K F3 y (.tup t) := w3
          have wy2 := wy
          cases wy with
          | tup sq wa =>
            rename_i b vs
            refine ⟨a, b, xs, key, ι3, F3, ps, _, vd, e1, rfl, hoo, pr, r3.st.sub, wy2, nk, dk, by rw [pr.length]; exact hl, .dat ((w1.grow g2).grow g3), r3.st.tb, fun xs' pr' tb' => ?_⟩
            have gp := grow_spc (F := F3) (H := H3) (o := DicN a xs') e2
            exact h3 σ ι3 F3 _ gp (r3.slots gp (r3.st.putS e2 e3 f0 hoo (fun xs z => nomatch z) e5 (.dnk pr') tb'))
        | ins _ h0 _ _ => exact absurd (by decide) h0
      · exact h3.elim
    · exact h3.elim
  · exact h3.elim
end
end DL
set_option maxHeartbeats 4000000
namespace PySem.DLTup0
open PySem PySem.Spec PyProof.Rows
end PySem.DLTup0
namespace L2
open PySem PySem.Spec PyProof.Rows
end L2
namespace DL
open PySem PySem.Spec PyProof.Rows L2
variable [Mode]
section
variable {X : Cx} {W : WX} {pos : Pos}
/-! ## tuple * n, any n -/
/-! ## except X as e: return isinstance(e, C) -/
end
end DL
set_option maxHeartbeats 4000000
namespace DL
open PySem PySem.Spec PyProof.Rows L2
variable [Mode]
section
variable {X : Cx} {W : WX} {e a b c : Expr} {es : List Expr} {pos p : Pos} {K : PySem.W.Frag} {ι : List Addr} {F H : Hp} {S : zae} {mg : Str → Option Value}
/-! ## len(set(x)), x of ints -/
end
end DL
set_option maxHeartbeats 4000000
namespace DL
open PySem PySem.Spec PyProof.Rows L2
variable [Mode]
section
variable {X : Cx} {W : WX} {e a b c : Expr} {es : List Expr} {pos p : Pos} {K : PySem.W.Frag} {ι : List Addr} {F H : Hp} {S : zae} {mg : Str → Option Value}
/-! ## min and max of two ints -/
/-! ## list(range(n)) -/
end
end DL
set_option maxHeartbeats 4000000
namespace DL
open PySem PySem.Spec PyProof.Rows L2
section
variable {X : Cx} {W : WX} {e a b c : Expr} {es : List Expr} {pos p : Pos} {K : PySem.W.Frag} {ι : List Addr} {F H : Hp} {S : zae} {mg : Str → Option Value}
/-! ## max and min of a list or a tuple of ints -/
end
end DL
set_option maxHeartbeats 4000000
namespace DL
open PySem PySem.Spec PyProof.Rows L2
variable [Mode]
section
variable {X : Cx} {W : WX} {e a b c : Expr} {es : List Expr} {pos p : Pos} {K : PySem.W.Frag} {ι : List Addr} {F H : Hp} {S : zae} {mg : Str → Option Value}
/-! ## what a frozen case tells: columns, count -/
def casFs (c : Cas) (ca la fa : Addr) : List (Str × V) := [("columns", .ref ca), ("count", .int (c.n : Nat)), ("labels", .ref la), ("facts", .ref fa)]
/-! ## labels and facts -/
theorem zh4 (n m : Nat) : (zdf n m).length = n * m := by
  unfold zdf
  induction n with
  | zero => simp
  | succ n ih => rw [List.range_succ, List.flatMap_append, List.length_append, ih]; simp [Nat.succ_mul]
theorem cellKeys_get {n m r k : Nat} (hr : r < n) (hk : k < m) : (zdf n m)[r * m + k]? = some [Sum.inl ((r : Nat) : Int), Sum.inl ((k : Nat) : Int)] := by
  induction n with
  | zero => omega
  | succ n ih =>
    have e : zdf (n + 1) m = zdf n m ++ (List.range m).map fun c => [Sum.inl ((n : Nat) : Int), Sum.inl ((c : Nat) : Int)] := by
      unfold zdf
      rw [List.range_succ, List.flatMap_append]
      simp
    rw [e]
    by_cases h : r < n
    · rw [List.getElem?_append_left]
      · exact ih h
      · rw [zh4]
        have h1 : (r + 1) * m ≤ n * m := Nat.mul_le_mul_right m h
        rw [Nat.succ_mul] at h1
        omega
    · have : r = n := by omega
      subst this
      rw [List.getElem?_append_right (by rw [zh4]; omega), zh4]
      simp [show r * m + k - r * m = k by omega, hk]
theorem zkp (n m : Nat) : (zdf n m).Nodup := by
  unfold zdf
  rw [List.nodup_iff_pairwise_ne, List.pairwise_flatMap]
  refine ⟨fun r _ => ?_, List.pairwise_lt_range.imp fun {r r'} h x hx y hy e => ?_⟩
  · rw [List.pairwise_map]
    refine List.pairwise_lt_range.imp fun {a b} h e => ?_
    simp at e
    omega
  · obtain ⟨a, _, rfl⟩ := List.mem_map.mp hx
    obtain ⟨b, _, rfl⟩ := List.mem_map.mp hy
    simp at e
    omega
end
end DL
set_option maxHeartbeats 4000000
namespace DL
open PySem PySem.Spec PyProof.Rows L2
variable [Mode]
section
variable {X : Cx} {W : WX} {e a b c : Expr} {es : List Expr} {pos p apos : Pos} {K : PySem.W.Frag} {ι : List Addr} {F H : Hp} {S : zae} {mg : Str → Option Value}
/-! ## methods of a frozen case -/
structure MDef (P : Program) (w : World) (K : PySem.W.Frag) (mg : Str → Option Value) (base : Heap) (k : Nat) (C : Addr) (m : Str) (n : Nat) (g : Fn) : Prop where
  ex : ∃ f fd ps, FnG P w K mg base k f fd ps (spD K mg n g) ∧ Meth K C m f ∧ Binds K fd ps []
end
end DL
set_option maxHeartbeats 4000000
namespace DL
open PySem PySem.Spec PyProof.Rows L2
variable [Mode]
section
variable {X : Cx} {W : WX} {e a b c : Expr} {es : List Expr} {pos p apos : Pos} {K : PySem.W.Frag} {ι : List Addr} {F H : Hp} {S : zae} {mg : Str → Option Value}
/-! ## a case as it stands in the heap, live or frozen -/
abbrev labO (c : Cas) : HO := .dT ((zdf c.n c.cols.length).zip (c.lab.map fun l => V.int (l : Nat)))
abbrev facO (c : Cas) (fs : Nat → Addr) : HO := .dK ((List.range c.facts.length).map fun i => (Sum.inl ((i : Nat) : Int), V.ref (fs i)))
structure CasR (K : PySem.W.Frag) (H : Hp) (a : Addr) (c : Cas) (dx ca la fa : Addr) (fs : Nat → Addr) : Prop where
  ins : H a = some (.ins (He.ga K "Case") dx (casFs c ca la fa))
  lb : Rd H la (labO c)
  ft : Rd H fa (facO c fs)
  fl : ∀ i, i < c.facts.length → H (fs i) = some (.lst ((c.facts.getD i []).map V.int))
  l1 : c.lab.length = c.n * c.cols.length
  l2 : c.facts.length = c.n * c.cols.length
  l3 : ∀ l ∈ c.lab, l < c.facts.length
structure CasL (K : PySem.W.Frag) (H : Hp) (a : Addr) (c : Cas) (dx ca la fa : Addr) (fs : Nat → Addr) : Prop where
  ins : H a = some (.ins (He.ga K "Case") dx (casFs c ca la fa))
  own : H dx = some (.own a)
  lb : H la = some (labO c)
  ft : H fa = some (facO c fs)
  fl : ∀ i, i < c.facts.length → H (fs i) = some (.lst ((c.facts.getD i []).map V.int))
  inj : ∀ i j, i < c.facts.length → j < c.facts.length → fs i = fs j → i = j
  l1 : c.lab.length = c.n * c.cols.length
  l2 : c.facts.length = c.n * c.cols.length
  l3 : ∀ l ∈ c.lab, l < c.facts.length
  l4 : c.lab.length < 1000
theorem CasL.r {H : Hp} {a : Addr} {c : Cas} {dx ca la fa : Addr} {fs : Nat → Addr} (h : CasL K H a c dx ca la fa fs) : CasR K H a c dx ca la fa fs := ⟨h.ins, .of h.lb, .of h.ft, h.fl, h.l1, h.l2, h.l3⟩
def Cas.at_ (c : Cas) (r k : Nat) : Nat := c.lab.getD (r * c.cols.length + k) 0
theorem cell_lt {c : Cas} {r k : Nat} (hr : r < c.n) (hk : k < c.cols.length) : r * c.cols.length + k < c.n * c.cols.length := by
  have h1 : (r + 1) * c.cols.length ≤ c.n * c.cols.length := Nat.mul_le_mul_right _ hr
  rw [Nat.succ_mul] at h1
  omega
theorem at_lt {c : Cas} {r k : Nat} (l1 : c.lab.length = c.n * c.cols.length) (l3 : ∀ l ∈ c.lab, l < c.facts.length) (hr : r < c.n) (hk : k < c.cols.length) : c.at_ r k < c.facts.length := by
  have h := cell_lt hr hk
  refine l3 _ ?_
  unfold Cas.at_
  rw [List.getD_eq_getElem?_getD, List.getElem?_eq_getElem (by omega)]
  exact List.getElem_mem _
/-! ## a method by its raw promise -/
structure MRaw (P : Program) (w : World) (K : PySem.W.Frag) (mg : Str → Option Value) (base : Heap) (k : Nat) (C : Addr) (m : Str) (sp : Sp) : Prop where
  ex : ∃ f fd ps, FnG P w K mg base k f fd ps sp ∧ Meth K C m f ∧ Binds K fd ps []
/-! ## known, learn -/
def Cas.learn (c : Cas) (r k : Nat) (v : Int) : Cas := if v ∈ c.facts.getD (c.at_ r k) [] then c else { c with facts := c.facts.set (c.at_ r k) (c.facts.getD (c.at_ r k) [] ++ [v]) }
structure Mutd (H H' : Hp) (la : Addr) (fs : Nat → Addr) (n : Nat) : Prop where
  keep : ∀ b o, H b = some o → b ≠ la → (∀ i, i < n → b ≠ fs i) → H' b = some o
  dom : ∀ b, H' b = none → H b = none
theorem Mutd.refl {la : Addr} {fs : Nat → Addr} {n : Nat} : Mutd H H la fs n := ⟨fun _ _ h _ _ => h, fun _ h => h⟩
theorem Mutd.trans {H1 H2 : Hp} {la : Addr} {fs : Nat → Addr} {n : Nat} (a : Mutd H H1 la fs n) (b : Mutd H1 H2 la fs n) : Mutd H H2 la fs n := ⟨fun c o h n1 n2 => b.keep c o (a.keep c o h n1 n2) n1 n2, fun c h => a.dom c (b.dom c h)⟩
theorem Mutd.push {la : Addr} {fs : Nat → Addr} {n : Nat} {p : Addr} (hp : H p = none) (o : HO) : Mutd H (upd H p o) la fs n := ⟨fun b u e _ _ => by rw [upd_ne (fun z => by rw [z, hp] at e; cases e)]; exact e, fun b h => zdn h⟩
theorem CasL.ne {H : Hp} {a : Addr} {c : Cas} {dx ca la fa : Addr} {fs : Nat → Addr} (L : CasL K H a c dx ca la fa fs) {i : Nat} (hi : i < c.facts.length) : a ≠ fs i ∧ dx ≠ fs i ∧ la ≠ fs i ∧ fa ≠ fs i := by
  have e := L.fl i hi
  refine ⟨fun h => ?_, fun h => ?_, fun h => ?_, fun h => ?_⟩
  · have := L.ins; rw [h, e] at this; cases this
  · have := L.own; rw [h, e] at this; cases this
  · have := L.lb; rw [h, e] at this; cases this
  · have := L.ft; rw [h, e] at this; cases this
theorem getD_set {α : Type} {xs : List α} {i j : Nat} {x d : α} (hi : i < xs.length) : (xs.set i x).getD j d = if i = j then x else xs.getD j d := by
  rw [List.getD_eq_getElem?_getD, List.getD_eq_getElem?_getD, List.getElem?_set]
  by_cases h : i = j
  · subst h; simp [hi]
  · simp [h]
theorem CasL.add {H : Hp} {a : Addr} {c : Cas} {dx ca la fa : Addr} {fs : Nat → Addr} (L : CasL K H a c dx ca la fa fs) {i : Nat} (hi : i < c.facts.length) (xs : List Int) : CasL K (upd H (fs i) (.lst (xs.map V.int))) a { c with facts := c.facts.set i xs } dx ca la fa fs := by
  obtain ⟨n1, n2, n3, n4⟩ := L.ne hi
  refine ⟨by rw [upd_ne n1]; exact L.ins, by rw [upd_ne n2]; exact L.own, by rw [upd_ne n3]; exact L.lb, by rw [upd_ne n4, L.ft]; show some (HO.dK _) = some (HO.dK _); rw [List.length_set], fun j hj => ?_, fun i j h1 h2 => L.inj i j (by simpa using h1) (by simpa using h2), L.l1, by simpa using L.l2, fun l hl => by simpa using L.l3 l hl, L.l4⟩
  have hj : j < c.facts.length := by simpa using hj
  show upd H (fs i) _ (fs j) = some (.lst (((c.facts.set i xs).getD j []).map V.int))
  rw [getD_set hi]
  by_cases h : i = j
  · subst h
    rw [if_pos rfl, upd_same]
  · rw [if_neg h, upd_ne (fun e => h (L.inj j i hj hi e).symm)]
    exact L.fl j hj
theorem Mutd.add {la : Addr} {fs : Nat → Addr} {n i : Nat} (hi : i < n) (hf : H (fs i) ≠ none) (o : HO) : Mutd H (upd H (fs i) o) la fs n := ⟨fun b u e _ h => by rw [upd_ne (h i hi)]; exact e, fun b h => zdn h⟩
end
end DL
set_option maxHeartbeats 4000000
namespace DL
open PySem PySem.Spec PyProof.Rows L2
section
variable {X : Cx} {W : WX} {K : PySem.W.Frag} {F H : Hp}
/-! ## join -/
def Cas.relab (c : Cas) (kept lost : Nat) : Cas := { c with lab := c.lab.map fun l => if l = lost then kept else l }
def Cas.join (c : Cas) (r1 k1 r2 k2 : Nat) : Cas := if c.at_ r1 k1 = c.at_ r2 k2 then c else (c.facts.getD (c.at_ r2 k2) []).foldl (fun d v => d.learn r1 k1 v) (c.relab (c.at_ r1 k1) (c.at_ r2 k2))
theorem zg8 (c : Cas) (r k : Nat) (v : Int) : (c.learn r k v).lab = c.lab ∧ (c.learn r k v).cols = c.cols ∧ (c.learn r k v).n = c.n ∧ (c.learn r k v).facts.length = c.facts.length := by
  unfold Cas.learn
  split
  · exact ⟨rfl, rfl, rfl, rfl⟩
  · exact ⟨rfl, rfl, rfl, by simp⟩
theorem zi0 (c : Cas) (r k r' k' : Nat) (v : Int) : (c.learn r k v).at_ r' k' = c.at_ r' k' := by
  obtain ⟨h1, h2, _⟩ := zg8 c r k v
  unfold Cas.at_
  rw [h1, h2]
theorem zdw (c : Cas) (r k : Nat) (v : Int) (h : c.at_ r k < c.facts.length) (l : Nat) : (c.learn r k v).facts.getD l [] = if l = c.at_ r k ∧ v ∉ c.facts.getD l [] then c.facts.getD l [] ++ [v] else c.facts.getD l [] := by
  unfold Cas.learn
  by_cases hv : v ∈ c.facts.getD (c.at_ r k) []
  · rw [if_pos hv, if_neg]
    rintro ⟨e, h2⟩
    subst e
    exact h2 hv
  · rw [if_neg hv]
    show (c.facts.set _ _).getD l [] = _
    rw [getD_set h]
    by_cases e : c.at_ r k = l
    · subst e
      rw [if_pos rfl, if_pos ⟨rfl, hv⟩]
    · rw [if_neg e, if_neg]
      rintro ⟨e2, _⟩
      exact e e2.symm
theorem mapK_no {κ : Type} [DecidableEq κ] {k : κ} {v : V} : ∀ {l : List (κ × V)}, (∀ p ∈ l, p.1 ≠ k) → l.map (fun kv => if kv.1 = k then (kv.1, v) else kv) = l
  | [], _ => rfl
  | p :: l, h => by
    rw [List.map_cons, if_neg (h p (by simp)), mapK_no fun q hq => h q (by simp [hq])]
theorem mapK_zip {κ : Type} [DecidableEq κ] {v : Nat} : ∀ {ks : List κ} {vs : List Nat} {i : Nat} {k : κ}, ks.Nodup → ks[i]? = some k → i < vs.length →
    ((ks.zip (vs.map fun l => V.int ((l : Nat) : Int))).any fun kv => decide (kv.1 = k)) = true ∧ (ks.zip (vs.map fun l => V.int ((l : Nat) : Int))).map (fun kv => if kv.1 = k then (kv.1, V.int ((v : Nat) : Int)) else kv) = ks.zip ((vs.set i v).map fun l => V.int ((l : Nat) : Int))
  | [], _, _, _, _, h, _ => by simp at h
  | _ :: _, [], _, _, _, _, h => by simp at h
  | k0 :: ks, v0 :: vs, 0, k, nd, h1, _ => by
    simp at h1
    subst h1
    rw [List.nodup_cons] at nd
    refine ⟨by simp, ?_⟩
    rw [List.map_cons, List.zip_cons_cons, List.map_cons, if_pos rfl, mapK_no, List.set_cons_zero, List.map_cons, List.zip_cons_cons]
    intro p hp e
    exact nd.1 (e ▸ (List.of_mem_zip hp).1)
  | k0 :: ks, v0 :: vs, i + 1, k, nd, h1, h2 => by
    rw [List.nodup_cons] at nd
    simp only [List.getElem?_cons_succ] at h1
    have ne : ¬ k0 = k := fun e => nd.1 (e ▸ List.mem_of_getElem? h1)
    have ih := mapK_zip (v := v) (ks := ks) (vs := vs) (i := i) (k := k) nd.2 h1 (by simpa using h2)
    refine ⟨?_, ?_⟩
    · rw [List.map_cons, List.zip_cons_cons, List.any_cons, ih.1, Bool.or_true]
    · rw [List.map_cons, List.zip_cons_cons, List.map_cons, if_neg ne, ih.2, List.set_cons_succ, List.map_cons, List.zip_cons_cons]
theorem putK_zip {κ : Type} [DecidableEq κ] {v : Nat} {ks : List κ} {vs : List Nat} {i : Nat} {k : κ} (nd : ks.Nodup) (h1 : ks[i]? = some k) (h2 : i < vs.length) : putK (ks.zip (vs.map fun l => V.int ((l : Nat) : Int))) k (.int ((v : Nat) : Int)) = ks.zip ((vs.set i v).map fun l => V.int ((l : Nat) : Int)) := by
  have h := mapK_zip (v := v) nd h1 h2
  unfold putK
  rw [if_pos h.1, h.2]
theorem CasL.put {a : Addr} {c : Cas} {dx ca la fa : Addr} {fs : Nat → Addr} (L : CasL K H a c dx ca la fa fs) {i v : Nat} {k : List Key} (hk : (zdf c.n c.cols.length)[i]? = some k) (hi : i < c.lab.length) (hv : v < c.facts.length) :
    CasL K (upd H la (.dT (putK ((zdf c.n c.cols.length).zip (c.lab.map fun l => V.int (l : Nat))) k (.int ((v : Nat) : Int))))) a { c with lab := c.lab.set i v } dx ca la fa fs := by
  have na : a ≠ la := fun h => by have := L.ins; rw [h, L.lb] at this; cases this
  have nd : dx ≠ la := fun h => by have := L.own; rw [h, L.lb] at this; cases this
  have nf : fa ≠ la := fun h => by have := L.ft; rw [h, L.lb] at this; cases this
  refine ⟨by rw [upd_ne na]; exact L.ins, by rw [upd_ne nd]; exact L.own, ?_, by rw [upd_ne nf]; exact L.ft, fun j hj => ?_, L.inj, by simpa using L.l1, L.l2, fun l hl => ?_, by simpa using L.l4⟩
  · rw [upd_same, putK_zip (zkp _ _) hk hi]
  · rw [upd_ne (L.ne hj).2.2.1.symm]
    exact L.fl j hj
  · rcases List.mem_or_eq_of_mem_set hl with h | h
    · exact L.l3 l h
    · exact h ▸ hv
theorem CasL.push {a : Addr} {c : Cas} {dx ca la fa : Addr} {fs : Nat → Addr} (L : CasL K H a c dx ca la fa fs) {p : Addr} (hp : H p = none) (o : HO) : CasL K (upd H p o) a c dx ca la fa fs := by
  have n : ∀ b u, H b = some u → upd H p o b = some u := fun b u e => by rw [upd_ne (fun z => by rw [z, hp] at e; cases e)]; exact e
  exact ⟨n _ _ L.ins, n _ _ L.own, n _ _ L.lb, n _ _ L.ft, fun i hi => n _ _ (L.fl i hi), L.inj, L.l1, L.l2, L.l3, L.l4⟩
theorem zp6 {r k : Nat} : ∀ (ys : List Int) (d : Cas), d.at_ r k < d.facts.length → 
    let e := ys.foldl (fun d v => d.learn r k v) d
    e.lab = d.lab ∧ e.cols = d.cols ∧ e.n = d.n ∧ e.facts.length = d.facts.length ∧ e.at_ r k = d.at_ r k ∧ (∀ l, l ≠ d.at_ r k → e.facts.getD l [] = d.facts.getD l []) ∧ (e.facts.getD (d.at_ r k) []).length ≤ (d.facts.getD (d.at_ r k) []).length + ys.length
  | [], d, _ => ⟨rfl, rfl, rfl, rfl, rfl, fun _ _ => rfl, Nat.le_refl _⟩
  | v :: ys, d, h => by
    obtain ⟨a1, a2, a3, a4⟩ := zg8 d r k v
    have a5 := zi0 d r k r k v
    have lf := zdw d r k v h
    obtain ⟨b1, b2, b3, b4, b5, b6, b7⟩ := zp6 ys (d.learn r k v) (by rw [a5, a4]; exact h)
    refine ⟨b1.trans a1, b2.trans a2, b3.trans a3, b4.trans a4, b5.trans a5, fun l hl => ?_, ?_⟩
    · rw [List.foldl_cons, b6 l (by rw [a5]; exact hl), lf l, if_neg (fun h => hl h.1)]
    · rw [a5] at b7
      have := lf (d.at_ r k)
      have h2 : ((d.learn r k v).facts.getD (d.at_ r k) []).length ≤ (d.facts.getD (d.at_ r k) []).length + 1 := by
        rw [this]
        split <;> simp
      rw [List.foldl_cons, List.length_cons]
      omega
theorem zqr {c : Cas} {kept lost r k : Nat} (l1 : c.lab.length = c.n * c.cols.length) (hr : r < c.n) (hk : k < c.cols.length) : (c.relab kept lost).at_ r k = if c.at_ r k = lost then kept else c.at_ r k := by
  have h := cell_lt hr hk
  unfold Cas.at_ Cas.relab
  simp only [List.getD_eq_getElem?_getD, List.getElem?_map, List.getElem?_eq_getElem (show r * c.cols.length + k < c.lab.length by omega), Option.map_some, Option.getD_some]
end
end DL
set_option maxHeartbeats 4000000
namespace DL
open PySem PySem.Spec PyProof.Rows L2
section
variable {X : Cx} {W : WX} {K : PySem.W.Frag} {F H : Hp}
/-! ## a new case -/
def Cas.new (cols : List (Option (List Int))) (n : Nat) : Cas := { cols := cols, n := n, lab := List.range (n * cols.length), facts := List.replicate (n * cols.length) [] }
structure Part (K : PySem.W.Frag) (H0 H : Hp) (x : Addr) (n m t : Nat) (dx ca la fa : Addr) (fs : Nat → Addr) : Prop where
  ins : H x = some (.ins (He.ga K "Case") dx [("columns", .ref ca), ("count", .int (n : Nat)), ("labels", .ref la), ("facts", .ref fa)])
  own : H dx = some (.own x)
  lb : H la = some (.dT (((zdf n m).take t).zip ((List.range t).map fun l => V.int (l : Nat))))
  ft : H fa = some (.dK ((List.range t).map fun i => (Sum.inl ((i : Nat) : Int), V.ref (fs i))))
  fl : ∀ i, i < t → H (fs i) = some (.lst [])
  inj : ∀ i j, i < t → j < t → fs i = fs j → i = j
  f1 : H0 la = none
  f2 : H0 fa = none
  f3 : ∀ i, i < t → H0 (fs i) = none
  keep : ∀ b o, H0 b = some o → b ≠ x → H b = some o
  dom : ∀ b, H b = none → H0 b = none
theorem Part.done {H0 : Hp} {x : Addr} {n : Nat} {cols : List (Option (List Int))} {dx ca la fa : Addr} {fs : Nat → Addr} (hz : n * cols.length < 1000) (P : Part K H0 H x n cols.length (n * cols.length) dx ca la fa fs) : CasL K H x (Cas.new cols n) dx ca la fa fs := by
  have e : (Cas.new cols n).facts.length = n * cols.length := by simp [Cas.new]
  refine ⟨P.ins, P.own, ?_, ?_, fun i hi => ?_, fun i j hi hj h => P.inj i j (by omega) (by omega) h, by simp [Cas.new], by simp [Cas.new], fun l hl => ?_, by simp [Cas.new]; exact hz⟩
  · have := P.lb
    rw [List.take_of_length_le (by rw [zh4]; exact Nat.le_refl _)] at this
    exact this
  · show H fa = some (.dK ((List.range (Cas.new cols n).facts.length).map _))
    rw [e]
    exact P.ft
  · have := P.fl i (by omega)
    have g : (Cas.new cols n).facts.getD i [] = [] := by
      simp [Cas.new, List.getD_eq_getElem?_getD, List.getElem?_replicate]
      split <;> rfl
    rw [g]
    exact this
  · rw [e]
    simpa [Cas.new] using hl
theorem valV_none {κ : Type} [DecidableEq κ] {kvs : List (κ × V)} {k : κ} (h : ∀ p ∈ kvs, p.1 ≠ k) : valV kvs k = none := by
  induction kvs with
  | nil => rfl
  | cons p r ih => rw [valV_neg (h p (by simp)), ih fun q hq => h q (by simp [hq])]
theorem Part.cell {H0 : Hp} {x : Addr} {n m t r k : Nat} {dx ca la fa : Addr} {fs : Nat → Addr} (P : Part K H0 H x n m t dx ca la fa fs) (ht : t = r * m + k) (hr : r < n) (hk : k < m) {p q : Addr} (hp : H p = none)
    (hq : upd (upd H p (.tup [.int (r : Nat), .int (k : Nat)])) la (.dT (putK (((zdf n m).take t).zip ((List.range t).map fun l => V.int (l : Nat))) [Sum.inl ((r : Nat) : Int), Sum.inl ((k : Nat) : Int)] (.int (t : Nat)))) q = none) :
    Part K H0 (upd (upd (upd (upd H p (.tup [.int (r : Nat), .int (k : Nat)])) la (.dT (putK (((zdf n m).take t).zip ((List.range t).map fun l => V.int (l : Nat))) [Sum.inl ((r : Nat) : Int), Sum.inl ((k : Nat) : Int)] (.int (t : Nat))))) q (.lst [])) fa (.dK (putK ((List.range t).map fun i => (Sum.inl ((i : Nat) : Int), V.ref (fs i))) (Sum.inl ((t : Nat) : Int)) (.ref q)))) x n m (t + 1) dx ca la fa (fun i => if i = t then q else fs i) := by
  have hq1 : q ≠ la := fun e => by rw [e, upd_same] at hq; cases hq
  have hqH : H q = none := zdn (zdn hq)
  have hc : (zdf n m)[t]? = some [Sum.inl ((r : Nat) : Int), Sum.inl ((k : Nat) : Int)] := by rw [ht]; exact cellKeys_get hr hk
  have htl : t < (zdf n m).length := (List.getElem?_eq_some_iff.mp hc).1
  have ne : ∀ {b : Addr} {o : HO}, H b = some o → b ≠ la → b ≠ fa → (upd (upd (upd (upd H p (.tup [.int (r : Nat), .int (k : Nat)])) la (.dT (putK (((zdf n m).take t).zip ((List.range t).map fun l => V.int (l : Nat))) [Sum.inl ((r : Nat) : Int), Sum.inl ((k : Nat) : Int)] (.int (t : Nat))))) q (.lst [])) fa (.dK (putK ((List.range t).map fun i => (Sum.inl ((i : Nat) : Int), V.ref (fs i))) (Sum.inl ((t : Nat) : Int)) (.ref q)))) b = some o := fun {b o} e h1 h2 => by
    rw [upd_ne h2, upd_ne (fun z => by rw [z, hqH] at e; cases e), upd_ne h1, upd_ne (fun z => by rw [z, hp] at e; cases e)]
    exact e
  have lf : la ≠ fa := fun e => by have := P.lb; rw [e, P.ft] at this; cases this
  have xl : x ≠ la := fun e => by have := P.ins; rw [e, P.lb] at this; cases this
  have xf : x ≠ fa := fun e => by have := P.ins; rw [e, P.ft] at this; cases this
  refine ⟨ne P.ins xl xf, ne P.own (fun e => by have := P.own; rw [e, P.lb] at this; cases this) (fun e => by have := P.own; rw [e, P.ft] at this; cases this), ?_, ?_, fun i hi => ?_, fun i j hi hj h => ?_, P.f1, P.f2, fun i hi => ?_, fun b o e h => ?_, fun b h => P.dom b (zdn (zdn (zdn (zdn h))))⟩
  · rw [upd_ne lf, upd_ne (Ne.symm hq1), upd_same]
    congr 2
    rw [putK_new _ (valV_none fun pp hpp e => by
      have h1 := (List.of_mem_zip hpp).1
      rw [e] at h1
      obtain ⟨j, hj, hj2⟩ := List.mem_take_iff_getElem.mp h1
      have nd := zkp n m
      have : j = t := (List.getElem_inj nd).mp (hj2.trans (by rw [List.getElem?_eq_getElem htl] at hc; exact (Option.some.inj hc).symm))
      omega)]
    have e1 : (zdf n m).take (t + 1) = (zdf n m).take t ++ [[Sum.inl ((r : Nat) : Int), Sum.inl ((k : Nat) : Int)]] := by rw [List.take_succ, hc]; rfl
    rw [e1, List.range_succ, List.map_append, List.zip_append (by simp; omega)]
    rfl
  · rw [upd_same]
    congr 2
    rw [putK_new _ (valV_none fun pp hpp e => by
      obtain ⟨j, hj, rfl⟩ := List.mem_map.mp hpp
      have := List.mem_range.mp hj
      simp at e
      omega)]
    rw [List.range_succ, List.map_append]
    congr 1
    · refine List.map_congr_left fun i hi => ?_
      have := List.mem_range.mp hi
      rw [if_neg (by omega)]
    · simp
  · by_cases e : i = t
    · subst e
      show upd _ fa _ (if i = i then q else fs i) = _
      rw [if_pos rfl, upd_ne (fun z => by rw [z, P.ft] at hqH; cases hqH), upd_same]
    · simp only [if_neg e]
      have := P.fl i (by omega)
      exact ne this (fun z => by rw [z, P.lb] at this; cases this) (fun z => by rw [z, P.ft] at this; cases this)
  · by_cases e1 : i = t
    · by_cases e2 : j = t
      · omega
      · simp only [if_pos e1, if_neg e2] at h
        have := P.fl j (by omega)
        rw [← h, hqH] at this
        cases this
    · by_cases e2 : j = t
      · simp only [if_neg e1, if_pos e2] at h
        have := P.fl i (by omega)
        rw [h, hqH] at this
        cases this
      · simp only [if_neg e1, if_neg e2] at h
        exact P.inj i j (by omega) (by omega) h
  · by_cases e : i = t
    · simp only [if_pos e]; exact P.dom q hqH
    · simp only [if_neg e]; exact P.f3 i (by omega)
  · exact ne (P.keep b o e h) (fun z => by rw [z, P.f1] at e; cases e) (fun z => by rw [z, P.f2] at e; cases e)
end
end DL
set_option maxHeartbeats 4000000
namespace DL
open PySem PySem.Spec PyProof.Rows L2
section
variable {X : Cx} {W : WX} {K : PySem.W.Frag} {F H : Hp}
/-! ## dict(d), d a dict whose keys are tuples -/
end
end DL
set_option maxHeartbeats 4000000
namespace DL
open PySem PySem.Spec PyProof.Rows L2
variable [Mode]
section
variable {X : Cx} {W : WX} {K : PySem.W.Frag} {F H : Hp} {e : Expr} {es : List Expr} {pos p : Pos}
/-! ## C(..), by a raw promise -/
structure KRaw (P : Program) (w : World) (K : PySem.W.Frag) (mg : Str → Option Value) (base : Heap) (k : Nat) (x : Str) (C : Addr) (sp : Sp) : Prop where
  ex : ∃ f fd ps, FnG P w K mg base k f fd ps sp ∧ Mk K C f ∧ Binds K fd ps [] ∧ mg x = some (.ref C)
/-! ## copied -/
structure CasZ (K : PySem.W.Frag) (H : Hp) (a : Addr) (c : Cas) (dx ca la fa : Addr) (fs : Nat → Addr) : Prop where
  ins : H a = some (.ins (He.ga K "Case") dx (casFs c ca la fa))
  lb : ∃ lo, H la = some (.frz lo (labO c))
  ft : ∃ fo, H fa = some (.frz fo (facO c fs))
  fl : ∀ i, i < c.facts.length → H (fs i) = some (.lst ((c.facts.getD i []).map V.int))
  l1 : c.lab.length = c.n * c.cols.length
  l2 : c.facts.length = c.n * c.cols.length
  l3 : ∀ l ∈ c.lab, l < c.facts.length
structure Fts (H1 H : Hp) (D : Addr) (c : Cas) (t : Nat) (fs : Nat → Addr) : Prop where
  d : H D = some (.dK ((List.range t).map fun i => (Sum.inl ((i : Nat) : Int), V.ref (fs i))))
  fl : ∀ i, i < t → H (fs i) = some (.lst ((c.facts.getD i []).map V.int))
  inj : ∀ i j, i < t → j < t → fs i = fs j → i = j
  fr : ∀ i, i < t → H1 (fs i) = none
  keep : ∀ b o, H1 b = some o → H b = some o
  dom : ∀ b, H b = none → H1 b = none
end
end DL
set_option maxHeartbeats 4000000
namespace DL
open PySem PySem.Spec PyProof.Rows L2
variable [Mode]
section
variable {X : Cx} {W : WX} {K : PySem.W.Frag} {mg : Str → Option Value} {ι : List Addr} {F H : Hp} {S : zae} {e a b c : Expr} {es : List Expr} {pos p : Pos}
/-! ## a live case in a slot -/
def Own (a dx la fa : Addr) (fs : Nat → Addr) (n : Nat) (b : Addr) : Prop := b = a ∨ b = dx ∨ b = la ∨ b = fa ∨ ∃ i, i < n ∧ b = fs i
structure LiveC (K : PySem.W.Frag) (ι : List Addr) (F H : Hp) (a : Addr) (c : Cas) (O : Addr → Prop) : Prop where
  kit : CasK K
  of : ∃ dx ca la fa fs cv, CasL K H a c dx ca la fa fs ∧ SqT K F ca cv ∧ ColVs K F cv c.cols ∧ ∀ b, O b ↔ Own a dx la fa fs c.facts.length b
  out : ∀ b, O b → b ∉ ι
  free : ∀ b, O b → F b = none
theorem CasL.own_some {H : Hp} {a : Addr} {c : Cas} {dx ca la fa : Addr} {fs : Nat → Addr} (L : CasL K H a c dx ca la fa fs) {b : Addr} (h : Own a dx la fa fs c.facts.length b) : ∃ o, H b = some o ∧ NoT o ∧ NoTb o ∧ ∀ φ, o ≠ .ext φ := by
  rcases h with rfl | rfl | rfl | rfl | ⟨i, hi, rfl⟩
  · exact ⟨_, L.ins, fun _ z => (nomatch z), fun _ z => (nomatch z), fun _ z => nomatch z⟩
  · exact ⟨_, L.own, fun _ z => (nomatch z), fun _ z => (nomatch z), fun _ z => nomatch z⟩
  · exact ⟨_, L.lb, fun _ z => (nomatch z), fun _ z => (nomatch z), fun _ z => nomatch z⟩
  · exact ⟨_, L.ft, fun _ z => (nomatch z), fun _ z => (nomatch z), fun _ z => nomatch z⟩
  · exact ⟨_, L.fl i hi, fun _ z => (nomatch z), fun _ z => (nomatch z), fun _ z => nomatch z⟩
theorem CasL.keep {H H' : Hp} {a : Addr} {c : Cas} {dx ca la fa : Addr} {fs : Nat → Addr} (L : CasL K H a c dx ca la fa fs) (k : ∀ b o, Own a dx la fa fs c.facts.length b → H b = some o → H' b = some o) : CasL K H' a c dx ca la fa fs :=
  ⟨k _ _ (.inl rfl) L.ins, k _ _ (.inr (.inl rfl)) L.own, k _ _ (.inr (.inr (.inl rfl))) L.lb, k _ _ (.inr (.inr (.inr (.inl rfl)))) L.ft, fun i hi => k _ _ (.inr (.inr (.inr (.inr ⟨i, hi, rfl⟩)))) (L.fl i hi), L.inj, L.l1, L.l2, L.l3, L.l4⟩
structure GrowL (O : Addr → Prop) (ι : List Addr) (F H : Hp) (ι' : List Addr) (F' H' : Hp) : Prop where
  pre : ι <+: ι'
  sf : Same F F'
  keep : ∀ b o, H b = some o → NoTb o → b ∉ ι → ¬ O b → H' b = some o
  new : ∀ b o, H b = some o → NoT o → NoTb o → F b = none → b ∉ ι → ¬ O b → F' b = none
  nio : ∀ b ∈ ι', b ∈ ι ∨ H b = none
  dom : ∀ b, H' b = none → H b = none
theorem GrowL.of {O : Addr → Prop} {ι' : List Addr} {F' H' : Hp} (g : Grow ι F H ι' F' H') : GrowL O ι F H ι' F' H' := ⟨g.pre, g.sf, fun b o h t n _ => g.keep b o h t n, fun b o h t t2 f n _ => g.new b o h t t2 f n, g.nio, g.dom⟩
theorem GrowL.refl {O : Addr → Prop} : GrowL O ι F H ι F H := .of .refl
theorem GrowL.trans {O : Addr → Prop} {ι1 ι2 : List Addr} {F1 F2 H1 H2 : Hp} (a : GrowL O ι F H ι1 F1 H1) (b : GrowL O ι1 F1 H1 ι2 F2 H2) : GrowL O ι F H ι2 F2 H2 := by
  have full : ∀ c o, H c = some o → H1 c ≠ none := fun c o h z => by rw [a.dom c z] at h; cases h
  have out : ∀ c o, H c = some o → c ∉ ι → c ∉ ι1 := fun c o h n m => by
    rcases a.nio c m with q | q
    · exact n q
    · rw [h] at q; cases q
  refine ⟨a.pre.trans b.pre, a.sf.trans b.sf, fun c o h t n no => b.keep c o (a.keep c o h t n no) t (out c o h n) no, fun c o h t t2 f n no => b.new c o (a.keep c o h t2 n no) t t2 (a.new c o h t t2 f n no) (out c o h n) no, fun c m => ?_, fun c h => a.dom c (b.dom c h)⟩
  rcases b.nio c m with q | q
  · exact a.nio c q
  · exact .inr (a.dom c q)
theorem Grow.live {O : Addr → Prop} {ι1 ι2 : List Addr} {F1 F2 H1 H2 : Hp} (a : Grow ι F H ι1 F1 H1) (fr : ∀ b, O b → H b = none) (b : GrowL O ι1 F1 H1 ι2 F2 H2) : Grow ι F H ι2 F2 H2 := by
  have out : ∀ c o, H c = some o → c ∉ ι → c ∉ ι1 := fun c o h n m => by
    rcases a.nio c m with q | q
    · exact n q
    · rw [h] at q; cases q
  have no : ∀ c o, H c = some o → ¬ O c := fun c o h z => by rw [fr c z] at h; cases h
  refine ⟨a.pre.trans b.pre, a.sf.trans b.sf, fun c o h t n => b.keep c o (a.keep c o h t n) t (out c o h n) (no c o h), fun c o h t t2 f n => b.new c o (a.keep c o h t2 n) t t2 (a.new c o h t t2 f n) (out c o h n) (no c o h), fun c m => ?_, fun c h => a.dom c (b.dom c h)⟩
  rcases b.nio c m with q | q
  · exact a.nio c q
  · exact .inr (a.dom c q)
theorem LiveC.grow {a : Addr} {c : Cas} {O : Addr → Prop} {ι' : List Addr} {F' H' : Hp} (L : LiveC K ι F H a c O) (g : Grow ι F H ι' F' H') : LiveC K ι' F' H' a c O := by
  obtain ⟨dx, ca, la, fa, fs, cv, L1, sq, cw, ho⟩ := L.of
  have sm : ∀ b, O b → ∃ o, H b = some o ∧ NoT o ∧ NoTb o ∧ ∀ φ, o ≠ .ext φ := fun b h => L1.own_some ((ho b).mp h)
  refine ⟨L.kit, ⟨dx, ca, la, fa, fs, cv, L1.keep fun b o h e => g.keep b o e (by
    obtain ⟨o2, e2, _, t2, _⟩ := L1.own_some h
    rw [e] at e2; cases e2; exact t2) (L.out b ((ho b).mpr h)), zdr g.sf sq, cw.mono g.sf, ho⟩, fun b h hm => ?_, fun b h => ?_⟩
  · obtain ⟨o, e, _⟩ := sm b h
    rcases g.nio b hm with q | q
    · exact L.out b h q
    · rw [e] at q; cases q
  · obtain ⟨o, e, t, t2, _⟩ := sm b h
    exact g.new b o e t t2 (L.free b h) (L.out b h)
inductive RL where
  | nx (ρ : za2) (S : zae) (c : Cas) | fin (r : RS)
abbrev CFn := za2 → zae → Cas → RL
def PostF (K : PySem.W.Frag) (mg : Str → Option Value) (W : WX) (O : Addr → Prop) (ι : List Addr) (F H : Hp) (r : RS) (D : Ends) : Prop := match r with
  | .rt dv S' => ∀ v ι' F' H', GrowL O ι F H ι' F' H' → StR K ι' F' S' H' → WV K ι' F' v dv → D.rt v H'
  | .ex c ρ' S' => ∀ (C : Addr × Option Addr) σ' ι' F' H', GrowL O ι F H ι' F' H' → RR K ι' F' ρ' S' σ' H' → XIs K mg F' c C → W (.ref C.1) C.2 σ' H'
  | _ => False
def PostL (K : PySem.W.Frag) (mg : Str → Option Value) (W : WX) (k : Nat) (a : Addr) (O : Addr → Prop) (ι : List Addr) (F H : Hp) (r : RL) (D : Ends) : Prop := match r with
  | .nx ρ' S' c' => ∀ σ' ι' F' H', GrowL O ι F H ι' F' H' → RR K ι' F' ρ' S' σ' H' → σ'[k]? = some (some (.ref a)) → LiveC K ι' F' H' a c' O → D.nx σ' H'
  | .fin r => PostF K mg W O ι F H r D
theorem PostF.grow {O : Addr → Prop} {r : RS} {D : Ends} {ι1 : List Addr} {F1 H1 : Hp} (h : PostF K mg W O ι F H r D) (g : GrowL O ι F H ι1 F1 H1) : PostF K mg W O ι1 F1 H1 r D := by
  cases r with
  | rt dv S' => exact fun v ι' F' H' g' st w => h v ι' F' H' (g.trans g') st w
  | ex c ρ' S' => exact fun C σ' ι' F' H' g' r m => h C σ' ι' F' H' (g.trans g') r m
  | _ => exact h
theorem PostL.grow {k : Nat} {a : Addr} {O : Addr → Prop} {r : RL} {D : Ends} {ι1 : List Addr} {F1 H1 : Hp} (h : PostL K mg W k a O ι F H r D) (g : GrowL O ι F H ι1 F1 H1) : PostL K mg W k a O ι1 F1 H1 r D := by
  cases r with
  | nx ρ' S' c' => exact fun σ' ι' F' H' g' r s l => h σ' ι' F' H' (g.trans g') r s l
  | fin r => exact PostF.grow (r := r) h g
def tL (X : Cx) (W : WX) (k : Nat) (f : CFn) : TS := fun D σ H => ∃ ι F ρ S a c O, RR X.K ι F ρ S σ H ∧ σ[k]? = some (some (.ref a)) ∧ LiveC X.K ι F H a c O ∧ PostL X.K X.mg W k a O ι F H (f ρ S c) D
structure DC (X : Cx) (W : WX) (k : Nat) (st : Stmt) (f : CFn) : Prop where
  ps : ∃ t, PS X st t ∧ ∀ D σ H, tL X W k f D σ H → t D σ H
structure DCs (X : Cx) (W : WX) (k : Nat) (st : List Stmt) (f : CFn) : Prop where
  ps : ∃ t, PSs X st t ∧ ∀ D σ H, tL X W k f D σ H → t D σ H
def lSeq (f g : CFn) : CFn := fun ρ S c => match f ρ S c with
  | .nx ρ' S' c' => g ρ' S' c'
  | r => r
variable {k : Nat}
theorem tL.seq {f g : CFn} {D : Ends} {σ : L2.St} {H : Hp} (h : tL X W k (lSeq f g) D σ H) : tL X W k f { D with nx := tL X W k g D } σ H := by
  obtain ⟨ι, F, ρ, S, a, c, O, r, s, l, h⟩ := h
  refine ⟨ι, F, ρ, S, a, c, O, r, s, l, ?_⟩
  unfold lSeq at h
  cases q : f ρ S c with
  | nx ρ' S' c' => rw [q] at h; exact fun σ' ι' F' H' g' r' s' l' => ⟨ι', F', ρ', S', a, c', O, r', s', l', PostL.grow (r := g ρ' S' c') h g'⟩
  | fin rr =>
    rw [q] at h
    have h : PostF X.K X.mg W O ι F H rr D := h
    show PostF X.K X.mg W O ι F H rr _
    cases rr with
    | rt dv S' => exact h
    | ex c ρ' S' => exact h
    | _ => exact h
/-! ## an expression, then more -/
theorem tD.bindL {f : XFn} {g : za2 → DV → zae → Cas → RL} {σ : L2.St} {H : Hp} {R : VK} {D : Ends} {ι : List Addr} {F : Hp} {ρ : za2} {S : zae} {a : Addr} {c : Cas} {O : Addr → Prop} (r : RR X.K ι F ρ S σ H) (s : σ[k]? = some (some (.ref a))) (l : LiveC X.K ι F H a c O)
    (h : PostL X.K X.mg W k a O ι F H (match f ρ S with | .ok v S1 => g ρ v S1 c | .ex x S1 => .fin (.ex x ρ S1) | .bad => .fin .bad) D)
    (kk : ∀ v dv ι1 F1 S1 H1, RR X.K ι1 F1 ρ S1 σ H1 → WV X.K ι1 F1 v dv → Grow ι F H ι1 F1 H1 → LiveC X.K ι1 F1 H1 a c O → PostL X.K X.mg W k a O ι1 F1 H1 (g ρ dv S1 c) D → R v H1) : tD X W f σ H R := by
  refine ⟨ι, F, ρ, S, r, ?_⟩
  cases q : f ρ S with
  | ok dv S1 =>
    rw [q] at h
    exact fun ι1 F1 H1 g1 st v wv => kk v dv ι1 F1 S1 H1 (r.slots g1 st) wv g1 (l.grow g1) (PostL.grow (r := g ρ dv S1 c) h (.of g1))
  | ex x S1 => rw [q] at h; exact fun C ι' F' H' g' st m => h C σ ι' F' H' (.of g') (r.slots g' st) m
  | bad => rw [q] at h; exact h
/-! ## for -/
theorem zqu {σ : L2.St} {k : Nat} : ∀ {vs : List Nat}, k ∉ vs → (wipe σ vs)[k]? = σ[k]?
  | [], _ => rfl
  | v :: vs, h => by
    show ((wipe σ vs).set v none)[k]? = _
    rw [List.getElem?_set_ne (fun e => h (by simp [e])), zqu fun m => h (by simp [m])]
theorem Only.get {sl : List Nat} {σ σ' : L2.St} (o : Only sl σ σ') {k : Nat} (h : k ∉ sl) : σ'[k]? = σ[k]? := by
  have := o sl fun i hi => hi
  rw [← zqu (σ := σ') h, ← zqu (σ := σ) h, this]
abbrev ICn := za2 → zae → Cas → Res (List D)
def tIL (X : Cx) (W : WX) (k : Nat) (f : ICn) : TI := fun σ H R => ∃ ι F ρ S a c O, RR X.K ι F ρ S σ H ∧ σ[k]? = some (some (.ref a)) ∧ LiveC X.K ι F H a c O ∧ Post X.K X.mg (fun c d H' => W c d σ H') ι F H (f ρ S c) fun ds ι' F' H' => ∀ J, ItOk X.K F' ds J → R J H'
structure DIL (X : Cx) (W : WX) (k : Nat) (tg e : Expr) (f : ICn) : Prop where
  pi : ∃ t, PI X tg e t ∧ ∀ σ H R, tIL X W k f σ H R → t σ H R
end
end DL
set_option maxHeartbeats 4000000
namespace DL
open PySem PySem.Spec PyProof.Rows L2
variable [Mode]
section
variable {X : Cx} {W : WX} {K : PySem.W.Frag} {mg : Str → Option Value} {ι : List Addr} {F H : Hp} {S : zae} {e a b c : Expr} {es : List Expr} {pos p apos : Pos} {k : Nat}
/-! ## learn and join of the live case -/
/-! ## the live case frozen -/
theorem WV.same {F F' : Hp} (sm : Same F F') {v : V} {dv : DV} (h : WV K ι F v dv) : WV K ι F' v dv := by
  cases dv with
  | dat d => exact Wd.mono sm h
  | obj k => exact h
  | scr ns =>
    obtain ⟨a, h1, h2⟩ := h
    exact ⟨a, h1, sm.seq h2⟩
  | exn c p =>
    obtain ⟨a, h1, h2⟩ := h
    exact ⟨a, h1, h2.mono sm⟩
  | fn x => exact h
  | spc k => exact h
end
end DL
set_option maxHeartbeats 4000000
namespace DL
open PySem PySem.Spec PyProof.Rows L2
variable [Mode]
section
variable {X : Cx} {W : WX} {K : PySem.W.Frag} {mg : Str → Option Value} {ι : List Addr} {F H : Hp} {S : zae} {e a b c : Expr} {es : List Expr} {pos p apos : Pos} {k : Nat}
/-! ## a new live case -/
abbrev NFn := za2 → zae → Res Cas
structure Ext (H H' : Hp) : Prop where
  same : Same H H'
  dom : ∀ b, H' b = none → H b = none
def tNewC (X : Cx) (W : WX) (f : NFn) : TE := fun σ H Q => ∃ ι F ρ S, RR X.K ι F ρ S σ H ∧ Post X.K X.mg (fun c d H' => W c d σ H') ι F H (f ρ S) fun c ι' F' H1 => ∀ a O H2, Ext H1 H2 → (∀ b, O b → H1 b = none) → LiveC X.K ι' F' H2 a c O → Q (.ref a) H2
structure DNew (X : Cx) (W : WX) (e : Expr) (f : NFn) : Prop where
  pe : PE X e (tNewC X W f)
theorem StR.ext {H' : Hp} (st : StR K ι F S H) (x : Ext H H') : StR K ι F S H' := st.re (fun b o e => x.same b o (st.sub b o e)) (Same.refl _) (fun b hb z => st.full b hb (x.dom b z)) (fun b o _ e _ _ f => ⟨x.same _ _ e, f⟩) (st.tb.ext (fun b o e _ => x.same b o e)) st.tf
theorem Ext.grow {H' : Hp} (x : Ext H H') : Grow ι F H ι F H' := ⟨List.prefix_rfl, Same.refl _, fun b o e _ _ => x.same b o e, fun _ _ _ _ _ f _ => f, fun _ h => .inl h, x.dom⟩
/-! ## Case(columns, n) -/
/-! ## x.copied() -/
theorem ColVs.length : ∀ {vs : List V} {cs : List (Option (List Int))}, ColVs K F vs cs → vs.length = cs.length
  | [], [], _ => rfl
  | _ :: _, _ :: _, ⟨_, h⟩ => by simp [ColVs.length h]
  | [], _ :: _, h => h.elim
  | _ :: _, [], h => h.elim
end
end DL
set_option maxHeartbeats 4000000
namespace DL
open PySem PySem.Spec PyProof.Rows L2
variable [Mode]
section
variable {X : Cx} {W : WX} {K : PySem.W.Frag} {mg : Str → Option Value} {ι : List Addr} {F H : Hp} {S : zae} {e a b c : Expr} {es : List Expr} {pos p apos : Pos} {k : Nat}
/-! ## the cells of a frozen case, walked -/
/-! ## the class statement, what the head must show of it -/
def clsB : Stmt → List Stmt
  | .ClassDef _ _ _ b .. => b
  | _ => []
def mth (s : Stmt) (j : Nat) : Stmt := (clsB s).getD j (.Pass ⟨0, 0, 0, 0⟩)
end
end DL
set_option maxHeartbeats 4000000
namespace DL
open PySem PySem.Spec PyProof.Rows L2
variable [Mode]
section
variable {X : Cx} {W : WX} {e a b c : Expr} {es : List Expr} {pos p apos : Pos} {K : PySem.W.Frag} {ι : List Addr} {F H : Hp} {S : zae} {mg : Str → Option Value} {k : Nat}
/-! ## x.m() on a frozen case -/
/-! ## two slots at once, beside the live case -/
end
end DL
set_option maxHeartbeats 4000000
namespace PySem
namespace DLSort
open L2 PyProof.Rows PySem.W
section
variable {prog : Program} {w : World} {A : Around} {E : Value → Shared → Prop} {s : Shared}
end
end DLSort
end PySem
namespace DL
open PySem PySem.Spec PyProof.Rows L2
variable [Mode]
section
variable {X : Cx} {W : WX} {K : PySem.W.Frag} {mg : Str → Option Value} {ι : List Addr} {F H : Hp} {S : zae} {e a b c : Expr} {es : List Expr} {pos p apos : Pos} {k : Nat}
/-! ## sorted(x.labels) -/
end
end DL
set_option maxHeartbeats 4000000
namespace DL
open PySem PySem.Spec PyProof.Rows L2
variable [Mode]
section
variable {X : Cx} {W : WX} {K : PySem.W.Frag} {mg : Str → Option Value} {ι : List Addr} {F H : Hp} {S : zae} {e a b c : Expr} {es : List Expr} {pos p : Pos}
/-! ## a dict that is made and filled in place, in a slot -/
abbrev Map := List (Key × Int)
abbrev mapO (m : Map) : HO := .dK (m.map fun p => (p.1, V.int p.2))
structure LiveM (K : PySem.W.Frag) (ι : List Addr) (F H : Hp) (a : Addr) (m : Map) (O : Addr → Prop) : Prop where
  of : H a = some (mapO m)
  own : ∀ b, O b ↔ b = a
  out : a ∉ ι
  free : F a = none
theorem LiveM.grow {a : Addr} {m : Map} {O : Addr → Prop} {ι' : List Addr} {F' H' : Hp} (L : LiveM K ι F H a m O) (g : Grow ι F H ι' F' H') : LiveM K ι' F' H' a m O := by
  refine ⟨g.keep a _ L.of (fun _ z => nomatch z) L.out, L.own, fun hm => ?_, g.new a _ L.of (fun _ z => nomatch z) (fun _ z => nomatch z) L.free L.out⟩
  rcases g.nio a hm with q | q
  · exact L.out q
  · rw [L.of] at q; cases q
inductive RM where
  | nx (ρ : za2) (S : zae) (c : Map) | fin (r : RS)
abbrev MFn := za2 → zae → Map → RM
def PostM (K : PySem.W.Frag) (mg : Str → Option Value) (W : WX) (k : Nat) (a : Addr) (O : Addr → Prop) (ι : List Addr) (F H : Hp) (r : RM) (D : Ends) : Prop := match r with
  | .nx ρ' S' c' => ∀ σ' ι' F' H', GrowL O ι F H ι' F' H' → RR K ι' F' ρ' S' σ' H' → σ'[k]? = some (some (.ref a)) → LiveM K ι' F' H' a c' O → D.nx σ' H'
  | .fin r => PostF K mg W O ι F H r D
theorem PostM.grow {k : Nat} {a : Addr} {O : Addr → Prop} {r : RM} {D : Ends} {ι1 : List Addr} {F1 H1 : Hp} (h : PostM K mg W k a O ι F H r D) (g : GrowL O ι F H ι1 F1 H1) : PostM K mg W k a O ι1 F1 H1 r D := by
  cases r with
  | nx ρ' S' c' => exact fun σ' ι' F' H' g' r s l => h σ' ι' F' H' (g.trans g') r s l
  | fin r => exact PostF.grow (r := r) h g
def tLM (X : Cx) (W : WX) (k : Nat) (f : MFn) : TS := fun D σ H => ∃ ι F ρ S a c O, RR X.K ι F ρ S σ H ∧ σ[k]? = some (some (.ref a)) ∧ LiveM X.K ι F H a c O ∧ PostM X.K X.mg W k a O ι F H (f ρ S c) D
structure DM (X : Cx) (W : WX) (k : Nat) (st : Stmt) (f : MFn) : Prop where
  ps : ∃ t, PS X st t ∧ ∀ D σ H, tLM X W k f D σ H → t D σ H
structure DMs (X : Cx) (W : WX) (k : Nat) (st : List Stmt) (f : MFn) : Prop where
  ps : ∃ t, PSs X st t ∧ ∀ D σ H, tLM X W k f D σ H → t D σ H
def mSeq (f g : MFn) : MFn := fun ρ S c => match f ρ S c with
  | .nx ρ' S' c' => g ρ' S' c'
  | r => r
variable {k : Nat}
theorem tLM.seq {f g : MFn} {D : Ends} {σ : L2.St} {H : Hp} (h : tLM X W k (mSeq f g) D σ H) : tLM X W k f { D with nx := tLM X W k g D } σ H := by
  obtain ⟨ι, F, ρ, S, a, c, O, r, s, l, h⟩ := h
  refine ⟨ι, F, ρ, S, a, c, O, r, s, l, ?_⟩
  unfold mSeq at h
  cases q : f ρ S c with
  | nx ρ' S' c' => rw [q] at h; exact fun σ' ι' F' H' g' r' s' l' => ⟨ι', F', ρ', S', a, c', O, r', s', l', PostM.grow (r := g ρ' S' c') h g'⟩
  | fin rr =>
    rw [q] at h
    have h : PostF X.K X.mg W O ι F H rr D := h
    show PostF X.K X.mg W O ι F H rr _
    cases rr with
    | rt dv S' => exact h
    | ex c ρ' S' => exact h
    | _ => exact h
/-! ## an expression, then more -/
/-! ## for -/
abbrev IMn := za2 → zae → Map → Res (List D)
def tIM (X : Cx) (W : WX) (k : Nat) (f : IMn) : TI := fun σ H R => ∃ ι F ρ S a c O, RR X.K ι F ρ S σ H ∧ σ[k]? = some (some (.ref a)) ∧ LiveM X.K ι F H a c O ∧ Post X.K X.mg (fun c d H' => W c d σ H') ι F H (f ρ S c) fun ds ι' F' H' => ∀ J, ItOk X.K F' ds J → R J H'
structure DIM (X : Cx) (W : WX) (k : Nat) (tg e : Expr) (f : IMn) : Prop where
  pi : ∃ t, PI X tg e t ∧ ∀ σ H R, tIM X W k f σ H R → t σ H R
end
end DL
set_option maxHeartbeats 4000000
namespace DL
open PySem PySem.Spec PyProof.Rows L2
variable [Mode]
section
variable {X : Cx} {W : WX} {K : PySem.W.Frag} {mg : Str → Option Value} {ι : List Addr} {F H : Hp} {S : zae} {e a b c : Expr} {es : List Expr} {pos p apos : Pos} {k : Nat}
/-! ## reading and filling a dict in place -/
def mGet (m : Map) (k : Key) : Option Int := (m.find? fun p => decide (p.1 = k)).map (·.2)
theorem RR.put {ρ : za2} {σ : L2.St} {a : Addr} {m : Map} {O : Addr → Prop} {m' : Map} (r : RR K ι F ρ S σ H) (l : LiveM K ι F H a m O) : RR K ι F ρ S σ (upd H a (mapO m')) ∧ GrowL O ι F H ι F (upd H a (mapO m')) ∧ LiveM K ι F (upd H a (mapO m')) a m' O := by
  have nF : ∀ b o, F b = some o → b ≠ a := fun b o e h => by rw [h, l.free] at e; cases e
  refine ⟨⟨r.st.re (fun b o e => by rw [upd_ne (nF b o e)]; exact r.st.sub b o e) (Same.refl _) (fun b hb z => r.st.full b hb (zdn z)) (fun b o hb e _ _ f => ⟨by rw [upd_ne (by rintro rfl; exact l.out hb)]; exact e, f⟩) (r.st.tb.upd (fun o e => by rw [l.of] at e; cases e; exact ⟨fun _ z => (nomatch z), fun _ z => nomatch z⟩) _) r.st.tf, r.len, r.slot⟩, ⟨List.prefix_rfl, Same.refl _, fun b o e _ _ h => by rw [upd_ne (fun z => h ((l.own b).mpr z))]; exact e, fun b o _ _ _ f _ _ => f, fun b h => .inl h, fun b h => zdn h⟩, ⟨upd_same, l.own, l.out, l.free⟩⟩
/-! ### an expression that reads it -/
abbrev XMn := za2 → zae → Map → Res DV
def tDM (X : Cx) (W : WX) (k : Nat) (f : XMn) : TE := fun σ H Q => ∃ ι F ρ S a m O, RR X.K ι F ρ S σ H ∧ σ[k]? = some (some (.ref a)) ∧ LiveM X.K ι F H a m O ∧ Post X.K X.mg (fun c d H' => W c d σ H') ι F H (f ρ S m) fun dv ι' F' H' => ∀ v, WV X.K ι' F' v dv → Q v H'
structure DEM (X : Cx) (W : WX) (k : Nat) (e : Expr) (f : XMn) : Prop where
  pe : PE X e (tDM X W k f)
/-! ### statements -/
/-! ### it is made, and it is left as it is -/
/-! ### reading it when it is left as it is -/
end
end DL
set_option maxHeartbeats 4000000
namespace DL
open PySem PySem.Spec PyProof.Rows L2
variable [Mode]
section
variable {X : Cx} {W : WX} {K : PySem.W.Frag} {mg : Str → Option Value} {ι : List Addr} {F H : Hp} {S : zae} {e a b c : Expr} {es : List Expr} {pos p apos : Pos} {k : Nat}
/-! ## x == [], of a list of anything -/
/-! ## a, b, c = x, y, z -/
end
end DL
set_option maxHeartbeats 4000000
namespace PySem.AutoSeq1
open PySem PyProof
end PySem.AutoSeq1
namespace DL
open PySem PySem.Spec PyProof.Rows L2
variable [Mode]
section
variable {X : Cx} {W : WX} {K : PySem.W.Frag} {mg : Str → Option Value} {ι : List Addr} {F H : Hp} {S : zae} {e a b c : Expr} {es : List Expr} {pos p apos : Pos} {k : Nat}
/-! ## x.extend(a tuple) -/
/-! ## x or y, as values -/
end
end DL
set_option maxHeartbeats 400000
namespace DL
open PySem PySem.Spec PyProof.Rows L2
/-! ## cases, by what they say -/
abbrev Gv := List (Nat × Option Int)
abbrev Ru := Gv × Nat × Option Int
def Cas.fact (c : Cas) (r k : Nat) : List Int := c.facts.getD (c.at_ r k) []
structure Cas.Ok (c : Cas) : Prop where
  n9 : c.n ≤ 9
  m5 : c.cols.length ≤ 5
  l1 : c.lab.length = c.n * c.cols.length
  l2 : c.facts.length = c.n * c.cols.length
  l3 : ∀ l ∈ c.lab, l < c.facts.length
  sm : ∀ l, (c.facts.getD l []).length ≤ 64
theorem Cas.Ok.lt {c : Cas} (h : c.Ok) {r k : Nat} (hr : r < c.n) (hk : k < c.cols.length) : c.at_ r k < c.facts.length := at_lt h.l1 h.l3 hr hk
theorem Cas.Ok.mem {c : Cas} (h : c.Ok) {r k : Nat} (hr : r < c.n) (hk : k < c.cols.length) : c.at_ r k ∈ c.lab := by
  have hh := cell_lt hr hk
  have h1 := h.l1
  unfold Cas.at_
  rw [List.getD_eq_getElem?_getD, List.getElem?_eq_getElem (by omega)]
  exact List.getElem_mem _
theorem Cas.Ok.cell {c : Cas} (h : c.Ok) {l : Nat} (hl : l ∈ c.lab) : ∃ r k, r < c.n ∧ k < c.cols.length ∧ c.at_ r k = l := by
  obtain ⟨i, hi, e⟩ := List.getElem_of_mem hl
  have h1 := h.l1
  have hm : 0 < c.cols.length := by
    rcases Nat.eq_zero_or_pos c.cols.length with z | z
    · rw [z, Nat.mul_zero] at h1; omega
    · exact z
  refine ⟨i / c.cols.length, i % c.cols.length, (Nat.div_lt_iff_lt_mul hm).mpr (by omega), Nat.mod_lt _ hm, ?_⟩
  unfold Cas.at_
  have : i / c.cols.length * c.cols.length + i % c.cols.length = i := by rw [Nat.mul_comm]; exact Nat.div_add_mod _ _
  rw [this, List.getD_eq_getElem?_getD, List.getElem?_eq_getElem hi]
  exact e
structure Cas.Sat (c : Cas) (M : Nat → Nat → Int) : Prop where
  kn : ∀ r k, r < c.n → k < c.cols.length → ∀ v ∈ c.fact r k, M r k = v
  eq : ∀ r k r' k', r < c.n → k < c.cols.length → r' < c.n → k' < c.cols.length → c.at_ r k = c.at_ r' k' → M r k = M r' k'
/-! ### learn -/
theorem zmg (c : Cas) (r k : Nat) (v : Int) : (c.learn r k v).cols = c.cols := (zg8 c r k v).2.1
theorem learn_n (c : Cas) (r k : Nat) (v : Int) : (c.learn r k v).n = c.n := (zg8 c r k v).2.2.1
theorem Cas.Ok.learn {c : Cas} (h : c.Ok) {r k : Nat} {v : Int} (hr : r < c.n) (hk : k < c.cols.length) (hs : (c.fact r k).length < 64) : (c.learn r k v).Ok := by
  obtain ⟨a1, a2, a3, a4⟩ := zg8 c r k v
  refine ⟨by rw [a3]; exact h.n9, by rw [a2]; exact h.m5, by rw [a1, a2, a3]; exact h.l1, by rw [a4, a2, a3]; exact h.l2, by rw [a1, a4]; exact h.l3, fun l => ?_⟩
  rw [zdw c r k v (h.lt hr hk)]
  split
  · rename_i hh
    obtain ⟨rfl, _⟩ := hh
    have : (c.facts.getD (c.at_ r k) []).length < 64 := hs
    simp
    simp at this
    omega
  · exact h.sm l
theorem fact_learn {c : Cas} (h : c.Ok) {r k : Nat} (v : Int) (hr : r < c.n) (hk : k < c.cols.length) (r' k' : Nat) : (c.learn r k v).fact r' k' = if c.at_ r' k' = c.at_ r k ∧ v ∉ c.fact r' k' then c.fact r' k' ++ [v] else c.fact r' k' := by
  unfold Cas.fact
  rw [zi0, zdw c r k v (h.lt hr hk)]
theorem zpk {c : Cas} (h : c.Ok) {r k : Nat} {v u : Int} (hr : r < c.n) (hk : k < c.cols.length) {r' k' : Nat} : u ∈ (c.learn r k v).fact r' k' ↔ u ∈ c.fact r' k' ∨ (c.at_ r' k' = c.at_ r k ∧ u = v) := by
  rw [fact_learn h v hr hk]
  split
  · rename_i hh
    simp [hh.1]
  · rename_i hh
    constructor
    · exact .inl
    · rintro (h1 | ⟨h1, rfl⟩)
      · exact h1
      · refine Classical.byContradiction fun n => hh ⟨h1, n⟩
/-! ### join -/
theorem fold_mem {r k : Nat} : ∀ (ys : List Int) (d : Cas), d.at_ r k < d.facts.length → ∀ l u, u ∈ (ys.foldl (fun d v => d.learn r k v) d).facts.getD l [] ↔ u ∈ d.facts.getD l [] ∨ (l = d.at_ r k ∧ u ∈ ys)
  | [], d, _, l, u => by simp
  | v :: ys, d, h, l, u => by
    rw [List.foldl_cons, fold_mem ys (d.learn r k v) (by rw [zi0]; rw [(zg8 d r k v).2.2.2]; exact h), zi0, zdw d r k v h]
    split
    · rename_i hh
      simp only [List.mem_append, hh.1, true_and, List.mem_cons, List.not_mem_nil, or_false]
      constructor
      · rintro ((a | a) | a)
        · exact .inl a
        · exact .inr (.inl a)
        · exact .inr (.inr a)
      · rintro (a | a | a)
        · exact .inl (.inl a)
        · exact .inl (.inr a)
        · exact .inr a
    · rename_i hh
      simp only [List.mem_cons]
      constructor
      · rintro (a | ⟨a, b⟩)
        · exact .inl a
        · exact .inr ⟨a, .inr b⟩
      · rintro (a | ⟨a, rfl | b⟩)
        · exact .inl a
        · exact .inl (Classical.byContradiction fun n => hh ⟨a, n⟩)
        · exact .inr ⟨a, b⟩
structure Joined (c d : Cas) (p q : Nat) : Prop where
  cols : d.cols = c.cols
  n : d.n = c.n
  at_ : ∀ r k, r < c.n → k < c.cols.length → d.at_ r k = if c.at_ r k = q then p else c.at_ r k
  mem : ∀ l u, u ∈ d.facts.getD l [] ↔ u ∈ c.facts.getD l [] ∨ (l = p ∧ u ∈ c.facts.getD q [])
  lab : d.lab = c.lab.map fun l => if l = q then p else l
  fl : d.facts.length = c.facts.length
  len : ∀ l, (d.facts.getD l []).length ≤ (c.facts.getD l []).length + (if l = p then (c.facts.getD q []).length else 0)
theorem join_is {c : Cas} (h : c.Ok) {r1 k1 r2 k2 : Nat} (hr1 : r1 < c.n) (hk1 : k1 < c.cols.length) (hr2 : r2 < c.n) (hk2 : k2 < c.cols.length) (ne : c.at_ r1 k1 ≠ c.at_ r2 k2) : Joined c (c.join r1 k1 r2 k2) (c.at_ r1 k1) (c.at_ r2 k2) := by
  have e : c.join r1 k1 r2 k2 = (c.facts.getD (c.at_ r2 k2) []).foldl (fun d v => d.learn r1 k1 v) (c.relab (c.at_ r1 k1) (c.at_ r2 k2)) := by unfold Cas.join; rw [if_neg ne]
  have ra : (c.relab (c.at_ r1 k1) (c.at_ r2 k2)).at_ r1 k1 = c.at_ r1 k1 := by rw [zqr h.l1 hr1 hk1, if_neg ne]
  have hlt : (c.relab (c.at_ r1 k1) (c.at_ r2 k2)).at_ r1 k1 < (c.relab (c.at_ r1 k1) (c.at_ r2 k2)).facts.length := by rw [ra]; exact h.lt hr1 hk1
  obtain ⟨f1, f2, f3, f4, f5, f6, f7⟩ := zp6 (r := r1) (k := k1) (c.facts.getD (c.at_ r2 k2) []) (c.relab (c.at_ r1 k1) (c.at_ r2 k2)) hlt
  rw [e]
  refine ⟨f2, f3, fun r k hr hk => ?_, fun l u => ?_, f1, f4, fun l => ?_⟩
  · have : ((c.facts.getD (c.at_ r2 k2) []).foldl (fun d v => d.learn r1 k1 v) (c.relab (c.at_ r1 k1) (c.at_ r2 k2))).at_ r k = (c.relab (c.at_ r1 k1) (c.at_ r2 k2)).at_ r k := by
      show List.getD (Cas.lab _) (r * (Cas.cols _).length + k) 0 = _
      rw [f1, f2]
      rfl
    rw [this]
    exact zqr h.l1 hr hk
  · rw [fold_mem _ _ hlt, ra]
    rfl
  · by_cases hl : l = c.at_ r1 k1
    · subst hl
      rw [if_pos rfl]
      rw [ra] at f7
      exact f7
    · rw [if_neg hl, f6 l (by rw [ra]; exact hl)]
      exact Nat.le_refl _
theorem Joined.ok {c d : Cas} {p q : Nat} (h : c.Ok) (j : Joined c d p q) (hp : p < c.facts.length) (hs : (c.facts.getD p []).length + (c.facts.getD q []).length ≤ 64) : d.Ok := by
  refine ⟨by rw [j.n]; exact h.n9, by rw [j.cols]; exact h.m5, by rw [j.lab, List.length_map, j.n, j.cols]; exact h.l1, by rw [j.fl, j.n, j.cols]; exact h.l2, fun l hl => ?_, fun l => ?_⟩
  · rw [j.lab] at hl
    rw [j.fl]
    obtain ⟨l', h1, rfl⟩ := List.mem_map.mp hl
    split
    · exact hp
    · exact h.l3 _ h1
  · have := j.len l
    have h2 := h.sm l
    split at this
    · rename_i e; subst e; omega
    · omega
theorem Joined.sat {c d : Cas} {r1 k1 r2 k2 : Nat} (h : c.Ok) (hr1 : r1 < c.n) (hk1 : k1 < c.cols.length) (hr2 : r2 < c.n) (hk2 : k2 < c.cols.length) (j : Joined c d (c.at_ r1 k1) (c.at_ r2 k2)) {M : Nat → Nat → Int} : d.Sat M ↔ c.Sat M ∧ M r1 k1 = M r2 k2 := by
  have fc : ∀ r k, r < c.n → k < c.cols.length → ∀ u, u ∈ d.fact r k ↔ u ∈ c.facts.getD (d.at_ r k) [] ∨ (d.at_ r k = c.at_ r1 k1 ∧ u ∈ c.facts.getD (c.at_ r2 k2) []) := fun r k hr hk u => j.mem _ u
  constructor
  · intro s
    have e12 : M r1 k1 = M r2 k2 := s.eq r1 k1 r2 k2 (by rw [j.n]; exact hr1) (by rw [j.cols]; exact hk1) (by rw [j.n]; exact hr2) (by rw [j.cols]; exact hk2) (by
      rw [j.at_ r1 k1 hr1 hk1, j.at_ r2 k2 hr2 hk2, if_pos rfl]
      split <;> rfl)
    refine ⟨⟨fun r k hr hk u hu => ?_, fun r k r' k' hr hk hr' hk' e => s.eq r k r' k' (by rw [j.n]; exact hr) (by rw [j.cols]; exact hk) (by rw [j.n]; exact hr') (by rw [j.cols]; exact hk') (by rw [j.at_ r k hr hk, j.at_ r' k' hr' hk', e])⟩, e12⟩
    refine s.kn r k (by rw [j.n]; exact hr) (by rw [j.cols]; exact hk) u ((fc r k hr hk u).mpr ?_)
    rw [j.at_ r k hr hk]
    by_cases e : c.at_ r k = c.at_ r2 k2
    · rw [if_pos e]
      refine .inr ⟨rfl, ?_⟩
      rw [← e]
      exact hu
    · rw [if_neg e]
      exact .inl hu
  · rintro ⟨s, e12⟩
    have rep : ∀ r k, r < c.n → k < c.cols.length → (d.at_ r k = c.at_ r k ∨ (c.at_ r k = c.at_ r2 k2 ∧ d.at_ r k = c.at_ r1 k1)) := fun r k hr hk => by
      rw [j.at_ r k hr hk]
      by_cases e : c.at_ r k = c.at_ r2 k2
      · rw [if_pos e]; exact .inr ⟨e, rfl⟩
      · rw [if_neg e]; exact .inl rfl
    refine ⟨fun r k hr hk u hu => ?_, fun r k r' k' hr hk hr' hk' e => ?_⟩
    · rw [j.n] at hr
      rw [j.cols] at hk
      rcases rep r k hr hk with a | ⟨a, b⟩
      · rcases (fc r k hr hk u).mp hu with q | ⟨q1, q2⟩
        · rw [a] at q; exact s.kn r k hr hk u q
        · rw [s.eq r k r1 k1 hr hk hr1 hk1 (a ▸ q1), e12]
          exact s.kn r2 k2 hr2 hk2 u q2
      · have e1 : M r k = M r2 k2 := s.eq r k r2 k2 hr hk hr2 hk2 a
        rcases (fc r k hr hk u).mp hu with q | ⟨q1, q2⟩
        · rw [b] at q; rw [e1, ← e12]; exact s.kn r1 k1 hr1 hk1 u q
        · rw [e1]; exact s.kn r2 k2 hr2 hk2 u q2
    · rw [j.n] at hr hr'
      rw [j.cols] at hk hk'
      rcases rep r k hr hk with a | ⟨a, b⟩
      · rcases rep r' k' hr' hk' with a' | ⟨a', b'⟩
        · exact s.eq r k r' k' hr hk hr' hk' (by rw [← a, ← a', e])
        · rw [s.eq r k r1 k1 hr hk hr1 hk1 (by rw [← a, e, b']), e12]
          exact (s.eq r' k' r2 k2 hr' hk' hr2 hk2 a').symm
      · rw [s.eq r k r2 k2 hr hk hr2 hk2 a]
        rcases rep r' k' hr' hk' with a' | ⟨a', b'⟩
        · rw [s.eq r' k' r1 k1 hr' hk' hr1 hk1 (by rw [← a', ← e, b]), e12]
        · exact (s.eq r' k' r2 k2 hr' hk' hr2 hk2 a').symm
/-! ### the measure -/
def cnt (N : Nat) (p : Nat → Bool) : Nat := ((List.range N).filter p).length
theorem znt (N : Nat) (p : Nat → Bool) : cnt (N + 1) p = cnt N p + (if p N = true then 1 else 0) := by
  unfold cnt
  rw [List.range_succ, List.filter_append, List.length_append, List.filter_cons, List.filter_nil]
  split <;> simp
theorem cnt_le {N : Nat} {p q : Nat → Bool} (h : ∀ i, i < N → p i = true → q i = true) : cnt N p ≤ cnt N q := by
  induction N with
  | zero => simp [cnt]
  | succ N ih =>
    rw [znt, znt]
    have := ih fun i hi => h i (by omega)
    have h1 := h N (by omega)
    split
    · rename_i e; rw [if_pos (h1 e)]; omega
    · split <;> omega
theorem cnt_lt {N : Nat} {p q : Nat → Bool} (h : ∀ i, i < N → p i = true → q i = true) {j : Nat} (hj : j < N) (hq : q j = true) (hp : p j = false) : cnt N p < cnt N q := by
  induction N with
  | zero => omega
  | succ N ih =>
    rw [znt, znt]
    by_cases e : j = N
    · subst e
      rw [if_neg (by simp [hp]), if_pos hq]
      have := cnt_le (N := j) fun i hi => h i (by omega)
      omega
    · have := ih (fun i hi => h i (by omega)) (by omega)
      have h1 := h N (by omega)
      split
      · rename_i e; rw [if_pos (h1 e)]; omega
      · split <;> omega
def Cas.mu (c : Cas) : Nat := cnt c.facts.length (fun l => decide (l ∈ c.lab)) + cnt c.facts.length (fun l => decide (l ∈ c.lab) && (c.facts.getD l []).isEmpty)
theorem mu_learn {c : Cas} (h : c.Ok) {r k : Nat} {v : Int} (hr : r < c.n) (hk : k < c.cols.length) (he : c.fact r k = []) : (c.learn r k v).mu < c.mu := by
  obtain ⟨a1, a2, a3, a4⟩ := zg8 c r k v
  unfold Cas.mu
  rw [a1, a4]
  have : cnt c.facts.length (fun l => decide (l ∈ c.lab) && ((c.learn r k v).facts.getD l []).isEmpty) < cnt c.facts.length (fun l => decide (l ∈ c.lab) && (c.facts.getD l []).isEmpty) := by
    refine cnt_lt (j := c.at_ r k) (fun i hi e => ?_) (h.lt hr hk) ?_ ?_
    · simp only [Bool.and_eq_true, decide_eq_true_eq] at e ⊢
      refine ⟨e.1, ?_⟩
      have e2 := e.2
      rw [zdw c r k v (h.lt hr hk)] at e2
      split at e2
      · simp at e2
      · exact e2
    · have e2 : c.facts.getD (c.at_ r k) [] = [] := he
      rw [e2]
      simp only [List.isEmpty_nil, Bool.and_true, decide_eq_true_eq]
      exact h.mem hr hk
    · rw [zdw c r k v (h.lt hr hk)]
      have e2 : c.facts.getD (c.at_ r k) [] = [] := he
      rw [e2, if_pos ⟨rfl, by simp⟩]
      simp
  omega
end DL
set_option maxHeartbeats 400000
namespace DL
open PySem PySem.Spec PyProof.Rows L2
/-! ## the search in a case -/
def cellNs (n m : Nat) : List (Nat × Nat) := (List.range n).flatMap fun r => (List.range m).map fun k => (r, k)
theorem mem_cellNs {n m r k : Nat} : (r, k) ∈ cellNs n m ↔ r < n ∧ k < m := by
  simp [cellNs]
def Cas.badAt (c : Cas) (r k : Nat) : Bool := decide (1 < (c.fact r k).length) || (match c.cols.getD k none with
  | none => false
  | some ns => (c.fact r k).any fun v => !decide (v ∈ ns))
def Cas.clash (c : Cas) : Bool := (cellNs c.n c.cols.length).any fun p => c.badAt p.1 p.2
inductive Goal where
  | no | val (r k : Nat) (v : Int) | eq (r k r' k' : Nat)
def Cas.alike (c : Cas) (r k r' k' : Nat) : Bool := decide (c.at_ r k = c.at_ r' k') || (c.fact r k).any fun v => decide (v ∈ c.fact r' k')
def Cas.goal (c : Cas) : Goal → Bool
  | .no => false
  | .val r k v => decide (v ∈ c.fact r k)
  | .eq r k r' k' => c.alike r k r' k'
def Cas.entS (c : Cas) (row : Nat) (p : Nat × Option Int) : Bool := match p.2 with
  | none => false
  | some v => decide (v ∈ c.fact row p.1)
def Cas.entJ (c : Cas) (p : Nat × Option Int) : Bool := match p.2 with
  | none => c.alike 0 p.1 1 p.1
  | some v => decide (v ∈ c.fact 0 p.1) && decide (v ∈ c.fact 1 p.1)
def Cas.canStep (c : Cas) (t : Ru) (row : Nat) : Bool := t.2.2.isSome && t.1.all (c.entS row)
def Cas.canJoin (c : Cas) (t : Ru) : Bool := t.2.2.isNone && (decide (c.n = 2) && t.1.all c.entJ)
inductive Head where
  | step (k row : Nat) | join (k : Nat)
def Cas.stepOk (c : Cas) (t : Ru) (row : Nat) : Bool := c.canStep t row && (match t.2.2 with | none => false | some v => !decide (v ∈ c.fact row t.2.1))
def Cas.stepTo (c : Cas) (t : Ru) (row : Nat) : Cas := match t.2.2 with
  | none => c
  | some v => c.learn row t.2.1 v
def Cas.nextRow (c : Cas) (k : Nat) (t : Ru) : List Nat → Option (Head × Cas)
  | [] => none
  | row :: rows => if c.stepOk t row = true then some (.step k row, c.stepTo t row) else c.nextRow k t rows
def Cas.joinOk (c : Cas) (t : Ru) : Bool := c.canJoin t && !c.alike 0 t.2.1 1 t.2.1
def Cas.nextGo (c : Cas) : Nat → List Ru → Option (Head × Cas)
  | _, [] => none
  | k, t :: ts => match c.nextRow k t (List.range c.n) with
    | some x => some x
    | none => if c.joinOk t = true then some (.join k, c.join 0 t.2.1 1 t.2.1) else c.nextGo (k + 1) ts
def Cas.next (c : Cas) (ts : List Ru) : Option (Head × Cas) := c.nextGo 0 ts
def Cas.unknown (c : Cas) (cells : List (Nat × Nat)) : Option (Nat × Nat) := cells.find? fun p => (c.fact p.1 p.2).isEmpty
structure okRu (m : Nat) (t : Ru) : Prop where
  c : t.2.1 < m
  g : ∀ p ∈ t.1, p.1 < m
def Keep (n : Nat) (M : Nat → Nat → Int) (t : Ru) : Prop := match t.2.2 with
  | some w => ∀ r, r < n → (∀ p ∈ t.1, p.2 = some (M r p.1)) → M r t.2.1 = w
  | none => n = 2 → (∀ p ∈ t.1, match p.2 with | none => M 0 p.1 = M 1 p.1 | some v => M 0 p.1 = v ∧ M 1 p.1 = v) → M 0 t.2.1 = M 1 t.2.1
def GoalH (M : Nat → Nat → Int) : Goal → Prop
  | .no => False
  | .val r k v => M r k = v
  | .eq r k r' k' => M r k = M r' k'
def okGoal (n m : Nat) : Goal → Prop
  | .no => True
  | .val r k _ => r < n ∧ k < m
  | .eq r k r' k' => (r < n ∧ k < m) ∧ r' < n ∧ k' < m
/-! ### what is known holds -/
theorem Cas.Sat.alike {c : Cas} {M : Nat → Nat → Int} (s : c.Sat M) {r k r' k' : Nat} (hr : r < c.n) (hk : k < c.cols.length) (hr' : r' < c.n) (hk' : k' < c.cols.length) (h : c.alike r k r' k' = true) : M r k = M r' k' := by
  unfold Cas.alike at h
  simp only [Bool.or_eq_true, decide_eq_true_eq, List.any_eq_true] at h
  rcases h with h | ⟨v, h1, h2⟩
  · exact s.eq _ _ _ _ hr hk hr' hk' h
  · rw [s.kn r k hr hk v h1, s.kn r' k' hr' hk' v h2]
theorem Cas.Sat.goal {c : Cas} {M : Nat → Nat → Int} (s : c.Sat M) {g : Goal} (hg : okGoal c.n c.cols.length g) (h : c.goal g = true) : GoalH M g := by
  cases g with
  | no => cases h
  | val r k v => exact s.kn r k hg.1 hg.2 v (by simpa [Cas.goal] using h)
  | eq r k r' k' => exact s.alike hg.1.1 hg.1.2 hg.2.1 hg.2.2 h
theorem zn3 {c : Cas} (h : c.clash = false) {r k : Nat} (hr : r < c.n) (hk : k < c.cols.length) : (c.fact r k).length ≤ 1 ∧ ∀ ns, c.cols.getD k none = some ns → ∀ v ∈ c.fact r k, v ∈ ns := by
  unfold Cas.clash at h
  rw [List.any_eq_false] at h
  have := h (r, k) (mem_cellNs.mpr ⟨hr, hk⟩)
  unfold Cas.badAt at this
  simp only [Bool.or_eq_true, decide_eq_true_eq, not_or, Bool.not_eq_true] at this
  refine ⟨by omega, fun ns e v hv => ?_⟩
  rw [e] at this
  have h2 := this.2
  simp only [List.any_eq_false] at h2
  have := h2 v hv
  simpa using this
/-! ### a step, a join -/
structure Moved (ts : List Ru) (c d : Cas) : Prop where
  ok : d.Ok
  cols : d.cols = c.cols
  n : d.n = c.n
  less : d.clash = true ∨ d.mu < c.mu
  sat : ∀ M, (∀ t ∈ ts, Keep c.n M t) → (d.Sat M ↔ c.Sat M)
  up : ∀ M, d.Sat M → c.Sat M
  kn : ∀ r k, r < c.n → k < c.cols.length → ∀ v ∈ c.fact r k, v ∈ d.fact r k
theorem zm1 {c : Cas} {t : Ru} {k : Nat} : ∀ (rows : List Nat), c.nextRow k t rows = none → ∀ r ∈ rows, c.stepOk t r = false
  | [], _, r, hr => by cases hr
  | row :: rows, e, r, hr => by
    unfold Cas.nextRow at e
    split at e
    · cases e
    · rename_i hs
      rcases List.mem_cons.mp hr with rfl | hr
      · simpa using hs
      · exact zm1 rows e r hr
theorem zou {c : Cas} : ∀ (us : List Ru) (k : Nat), c.nextGo k us = none → ∀ t ∈ us, (∀ r, r < c.n → c.stepOk t r = false) ∧ c.joinOk t = false
  | [], _, _, t, ht => by cases ht
  | u :: us, k, e, t, ht => by
    unfold Cas.nextGo at e
    cases q : c.nextRow k u (List.range c.n) with
    | some y => rw [q] at e; cases e
    | none =>
      rw [q] at e
      simp only at e
      split at e
      · cases e
      · rename_i hs
        rcases List.mem_cons.mp ht with rfl | ht
        · exact ⟨fun r hr => zm1 _ q r (List.mem_range.mpr hr), by simpa using hs⟩
        · exact zou us (k + 1) e t ht
end DL
set_option maxHeartbeats 400000
namespace DL
open PySem PySem.Spec PyProof.Rows L2
/-! ## no value twice, and all values below a bound -/
structure Cas.Fine (c : Cas) (B : Int) : Prop where
  nd : ∀ l, (c.facts.getD l []).Nodup
  lt : ∀ l, ∀ v ∈ c.facts.getD l [], v < B
theorem Cas.Fine.learn {c : Cas} {B : Int} (h : c.Ok) (f : c.Fine B) {r k : Nat} {v : Int} (hr : r < c.n) (hk : k < c.cols.length) (hv : v < B) : (c.learn r k v).Fine B := by
  refine ⟨fun l => ?_, fun l u hu => ?_⟩
  · rw [zdw c r k v (h.lt hr hk)]
    split
    · rename_i hh
      rw [List.nodup_append]
      refine ⟨f.nd l, by simp, fun a ha b hb => ?_⟩
      simp at hb
      subst hb
      exact fun e => hh.2 (e ▸ ha)
    · exact f.nd l
  · rw [zdw c r k v (h.lt hr hk)] at hu
    split at hu
    · rcases List.mem_append.mp hu with q | q
      · exact f.lt l u q
      · simp at q; omega
    · exact f.lt l u hu
theorem fold_fine {r k : Nat} {B : Int} : ∀ (ys : List Int) (d : Cas), d.at_ r k < d.facts.length → d.Fine B → (∀ y ∈ ys, y < B) → (ys.foldl (fun d v => d.learn r k v) d).Fine B
  | [], d, _, f, _ => f
  | v :: ys, d, h, f, hy => by
    rw [List.foldl_cons]
    refine fold_fine ys (d.learn r k v) (by rw [zi0, (zg8 d r k v).2.2.2]; exact h) ⟨fun l => ?_, fun l u hu => ?_⟩ fun y hh => hy y (by simp [hh])
    · rw [zdw d r k v h]
      split
      · rename_i hh
        rw [List.nodup_append]
        refine ⟨f.nd l, by simp, fun a ha b hb => ?_⟩
        simp at hb
        subst hb
        exact fun e => hh.2 (e ▸ ha)
      · exact f.nd l
    · rw [zdw d r k v h] at hu
      split at hu
      · rcases List.mem_append.mp hu with q | q
        · exact f.lt l u q
        · simp at q; have := hy v (by simp); omega
      · exact f.lt l u hu
theorem Cas.Fine.join {c : Cas} {B : Int} (h : c.Ok) (f : c.Fine B) {r1 k1 r2 k2 : Nat} (hr1 : r1 < c.n) (hk1 : k1 < c.cols.length) (hr2 : r2 < c.n) (hk2 : k2 < c.cols.length) : (c.join r1 k1 r2 k2).Fine B := by
  by_cases e : c.at_ r1 k1 = c.at_ r2 k2
  · have : c.join r1 k1 r2 k2 = c := by unfold Cas.join; rw [if_pos e]
    rw [this]; exact f
  · have : c.join r1 k1 r2 k2 = (c.facts.getD (c.at_ r2 k2) []).foldl (fun d v => d.learn r1 k1 v) (c.relab (c.at_ r1 k1) (c.at_ r2 k2)) := by unfold Cas.join; rw [if_neg e]
    rw [this]
    refine fold_fine _ _ ?_ ⟨f.nd, f.lt⟩ fun y hy => f.lt _ y hy
    rw [zqr h.l1 hr1 hk1, if_neg e]
    exact h.lt hr1 hk1
def RuLt (B : Int) (t : Ru) : Prop := (∀ p ∈ t.1, ∀ v, p.2 = some v → v < B) ∧ ∀ v, t.2.2 = some v → v < B
/-! ## the leaves -/
def Enough (F : Nat) (c : Cas) : Prop := 1 ≤ F ∧ (c.clash = true ∨ c.mu + 2 ≤ F)
theorem Enough.next {F : Nat} {ts : List Ru} {c d : Cas} (e : Enough (F + 1) c) (nc : c.clash = false) (m : Moved ts c d) : Enough F d := by
  rcases e.2 with h | h
  · rw [nc] at h; cases h
  · rcases m.less with q | q
    · exact ⟨by omega, .inl q⟩
    · exact ⟨by omega, .inr (by omega)⟩
theorem Enough.split {F : Nat} {c : Cas} (e : Enough (F + 1) c) (nc : c.clash = false) (h : c.Ok) {r k : Nat} {v : Int} (hr : r < c.n) (hk : k < c.cols.length) (he : c.fact r k = []) : Enough F (c.learn r k v) := by
  rcases e.2 with q | q
  · rw [nc] at q; cases q
  · have := mu_learn (v := v) h hr hk he
    exact ⟨by omega, .inr (by omega)⟩
def Closed (n : Nat) (cols : List (Option (List Int))) (cells : List (Nat × Nat)) : Prop := ∀ p ∈ cells, p.1 < n ∧ p.2 < cols.length ∧ ∃ ns, cols.getD p.2 none = some ns
theorem unknown_none {c : Cas} {cells : List (Nat × Nat)} (h : c.unknown cells = none) : ∀ p ∈ cells, c.fact p.1 p.2 ≠ [] := by
  unfold Cas.unknown at h
  rw [List.find?_eq_none] at h
  intro p hp e
  exact h p hp (by simp [e])
structure Leaf (ts : List Ru) (g : Goal) (cells : List (Nat × Nat)) (B : Int) (c L : Cas) : Prop where
  ok : L.Ok
  fine : L.Fine B
  cols : L.cols = c.cols
  n : L.n = c.n
  nc : L.clash = false
  ng : L.goal g = false
  nx : L.next ts = none
  un : L.unknown cells = none
  up : ∀ M, L.Sat M → c.Sat M
  kn : ∀ r k, r < c.n → k < c.cols.length → ∀ v ∈ c.fact r k, v ∈ L.fact r k
def ColsLt (B : Int) (cols : List (Option (List Int))) : Prop := ∀ k ns, cols.getD k none = some ns → ∀ v ∈ ns, v < B
def InCols (n : Nat) (cols : List (Option (List Int))) (M : Nat → Nat → Int) : Prop := ∀ r k ns, r < n → k < cols.length → cols.getD k none = some ns → M r k ∈ ns
/-! ## the table of a leaf -/
structure Generic (L : Cas) (B : Int) (M : Nat → Nat → Int) : Prop where
  kn : ∀ r k, r < L.n → k < L.cols.length → L.fact r k ≠ [] → M r k ∈ L.fact r k
  un : ∀ r k, r < L.n → k < L.cols.length → L.fact r k = [] → B ≤ M r k
  eq : ∀ r k r' k', r < L.n → k < L.cols.length → r' < L.n → k' < L.cols.length → L.at_ r k = L.at_ r' k' → M r k = M r' k'
  ne : ∀ r k r' k', r < L.n → k < L.cols.length → r' < L.n → k' < L.cols.length → L.fact r k = [] → L.fact r' k' = [] → M r k = M r' k' → L.at_ r k = L.at_ r' k'
section
variable {L : Cas} {B : Int} {M : Nat → Nat → Int} {ts : List Ru} {g : Goal}
theorem Generic.one (G : Generic L B M) (nc : L.clash = false) {r k : Nat} (hr : r < L.n) (hk : k < L.cols.length) : ∀ v ∈ L.fact r k, M r k = v := fun v hv => by
  obtain ⟨b1, _⟩ := zn3 nc hr hk
  have ne : L.fact r k ≠ [] := fun e => by rw [e] at hv; cases hv
  have := G.kn r k hr hk ne
  match e : L.fact r k with
  | [] => exact absurd e ne
  | [a] =>
    rw [e] at hv this
    simp at hv this
    omega
  | a :: b :: l => rw [e] at b1; simp at b1
theorem Generic.sat (G : Generic L B M) (nc : L.clash = false) : L.Sat M := ⟨fun r k hr hk v hv => G.one nc hr hk v hv, G.eq⟩
theorem Generic.val (G : Generic L B M) {r k : Nat} (hr : r < L.n) (hk : k < L.cols.length) {v : Int} (hv : v < B) (e : M r k = v) : v ∈ L.fact r k := by
  by_cases q : L.fact r k = []
  · have := G.un r k hr hk q
    omega
  · exact e ▸ G.kn r k hr hk q
theorem Generic.alike (G : Generic L B M) (f : L.Fine B) {r k r' k' : Nat} (hr : r < L.n) (hk : k < L.cols.length) (hr' : r' < L.n) (hk' : k' < L.cols.length) (e : M r k = M r' k') : L.alike r k r' k' = true := by
  unfold Cas.alike
  simp only [Bool.or_eq_true, decide_eq_true_eq, List.any_eq_true]
  by_cases q : L.fact r k = []
  · by_cases q' : L.fact r' k' = []
    · exact .inl (G.ne r k r' k' hr hk hr' hk' q q' e)
    · have h1 := G.un r k hr hk q
      have h2 := f.lt _ _ (G.kn r' k' hr' hk' q')
      omega
  · have h2 := G.kn r k hr hk q
    have h3 := f.lt _ _ h2
    exact .inr ⟨M r k, h2, G.val hr' hk' h3 e.symm⟩
theorem Generic.keep (G : Generic L B M) (nc : L.clash = false) (f : L.Fine B) (nx : L.next ts = none) (ht : ∀ t ∈ ts, okRu L.cols.length t ∧ RuLt B t) : ∀ t ∈ ts, Keep L.n M t := by
  intro t hm
  obtain ⟨h1, h2⟩ := zou ts 0 nx t hm
  obtain ⟨ok, lt⟩ := ht t hm
  unfold Keep
  cases e : t.2.2 with
  | some w =>
    intro r hr hg
    have hs := h1 r hr
    unfold Cas.stepOk Cas.canStep at hs
    rw [e] at hs
    have hall : t.1.all (L.entS r) = true := by
      rw [List.all_eq_true]
      intro p hp
      unfold Cas.entS
      have q := hg p hp
      rw [q]
      have := lt.1 p hp _ q
      simpa using G.val hr (ok.g p hp) this rfl
    rw [hall] at hs
    simp only [Option.isSome_some, Bool.true_and, Bool.not_eq_false', decide_eq_true_eq] at hs
    exact G.one nc hr ok.c w hs
  | none =>
    intro n2 hg
    unfold Cas.joinOk Cas.canJoin at h2
    rw [e] at h2
    have r0 : 0 < L.n := by omega
    have r1 : 1 < L.n := by omega
    have hall : t.1.all L.entJ = true := by
      rw [List.all_eq_true]
      intro p hp
      unfold Cas.entJ
      have q := hg p hp
      cases e2 : p.2 with
      | none =>
        rw [e2] at q
        exact G.alike f r0 (ok.g p hp) r1 (ok.g p hp) q
      | some v =>
        rw [e2] at q
        have lv := lt.1 p hp v e2
        simp only [Bool.and_eq_true, decide_eq_true_eq]
        exact ⟨G.val r0 (ok.g p hp) lv q.1, G.val r1 (ok.g p hp) lv q.2⟩
    rw [hall] at h2
    simp only [n2, Option.isNone_none, decide_true, Bool.true_and, Bool.not_eq_false'] at h2
    exact (G.sat nc).alike r0 ok.c r1 ok.c h2
theorem Generic.goal (G : Generic L B M) (nc : L.clash = false) (f : L.Fine B) (hg : okGoal L.n L.cols.length g) (hb : ∀ r k v, g = .val r k v → v < B) (ng : L.goal g = false) : ¬ GoalH M g := by
  intro h
  cases g with
  | no => exact h
  | val r k v =>
    have := G.val hg.1 hg.2 (hb r k v rfl) h
    simp [Cas.goal, this] at ng
  | eq r k r' k' =>
    have := G.alike f hg.1.1 hg.1.2 hg.2.1 hg.2.2 h
    simp [Cas.goal, this] at ng
theorem Generic.cols (G : Generic L B M) (nc : L.clash = false) {cells : List (Nat × Nat)} (un : L.unknown cells = none) (all : ∀ r k ns, r < L.n → k < L.cols.length → L.cols.getD k none = some ns → (r, k) ∈ cells) : InCols L.n L.cols M := by
  intro r k ns hr hk e
  have ne := unknown_none un (r, k) (all r k ns hr hk e)
  exact (zn3 nc hr hk).2 ns e _ (G.kn r k hr hk ne)
end
end DL
set_option maxHeartbeats 400000
namespace DL
open PySem PySem.Spec PyProof.Rows L2
/-! ## how many leaves -/
end DL
set_option maxHeartbeats 400000
namespace DL
open PySem PySem.Spec PyProof.Rows L2
/-! ## the case of a rule -/
def Cas.Sz (c : Cas) (K : Nat) : Prop := ∀ l, (c.facts.getD l []).length ≤ K
structure LearnR (c d : Cas) (k : Nat) (v : Int) (rows : List Nat) (B : Int) (K : Nat) : Prop where
  ok : d.Ok
  fine : d.Fine B
  sz : d.Sz (K + rows.length)
  cols : d.cols = c.cols
  n : d.n = c.n
  sat : ∀ M, d.Sat M ↔ c.Sat M ∧ ∀ r ∈ rows, M r k = v
def EntH (n : Nat) (M : Nat → Nat → Int) (p : Nat × Option Int) : Prop := match p.2 with
  | none => M 0 p.1 = M 1 p.1
  | some v => ∀ r, r < n → M r p.1 = v
structure okEnt (n m : Nat) (B : Int) (p : Nat × Option Int) : Prop where
  c : p.1 < m
  lt : ∀ v, p.2 = some v → v < B
  two : p.2 = none → n = 2
structure Given (c d : Cas) (g : Gv) (B : Int) (K : Nat) : Prop where
  ok : d.Ok
  fine : d.Fine B
  sz : d.Sz K
  cols : d.cols = c.cols
  n : d.n = c.n
  sat : ∀ M, d.Sat M ↔ c.Sat M ∧ ∀ p ∈ g, EntH c.n M p
def bnd (i : Nat) : Nat := 2 ^ (i + 1) - 2
end DL
set_option maxHeartbeats 400000
namespace DL
open PySem PySem.Spec PyProof.Rows L2
/-! ## what follows from rules -/
def closedK (cols : List (Option (List Int))) : List Nat := (List.range cols.length).filter fun k => (cols.getD k none).isSome
structure OkCols (cols : List (Option (List Int))) (B : Int) : Prop where
  m5 : cols.length ≤ 5
  lt : ColsLt B cols
  few : ∀ k ns, cols.getD k none = some ns → ns.length ≤ 3
  two : (closedK cols).length ≤ 2
structure OkRule (m : Nat) (B : Int) (t : Ru) : Prop where
  ok : okRu m t
  lt : RuLt B t
  len : t.1.length ≤ 5
  val : t.2.2.isSome = true → ∀ p ∈ t.1, p.2 ≠ none
def Cas.tab (L : Cas) (B : Int) (r k : Nat) : Int := match L.fact r k with
  | [] => B + ((L.at_ r k : Nat) : Int)
  | v :: _ => v
end DL
set_option maxHeartbeats 400000
namespace DL
open PySem PySem.Spec PyProof.Rows L2
/-! ## the rows of a leaf -/
def Cas.pick (L : Cas) (spare : Int) (m : Map) (p : Nat × Nat) : Map := if (mGet m (.inl ((L.at_ p.1 p.2 : Nat) : Int))).isSome = true then m else m ++ [(.inl ((L.at_ p.1 p.2 : Nat) : Int), match L.fact p.1 p.2 with
  | [] => spare + ((m.length : Nat) : Int)
  | v :: _ => v)]
def Cas.chosen (L : Cas) (spare : Int) : Map := (cellNs L.n L.cols.length).foldl (L.pick spare) []
def Cas.val (L : Cas) (spare : Int) (r k : Nat) : Int := (mGet (L.chosen spare) (.inl ((L.at_ r k : Nat) : Int))).getD 0
theorem mGet_snoc (m : Map) (k : Key) (v : Int) (j : Key) : mGet (m ++ [(k, v)]) j = match mGet m j with
  | some x => some x
  | none => if k = j then some v else none := by
  unfold mGet
  rw [List.find?_append]
  cases q : m.find? fun p => decide (p.1 = j) with
  | some p => simp
  | none =>
    by_cases e : k = j
    · simp [e]
    · simp [e]
structure Picked (L : Cas) (spare : Int) (ps : List (Nat × Nat)) (m : Map) : Prop where
  all : ∀ p ∈ ps, (mGet m (.inl ((L.at_ p.1 p.2 : Nat) : Int))).isSome = true
  kn : ∀ (l : Nat) v, mGet m (.inl ((l : Nat) : Int)) = some v → (∃ u us, L.facts.getD l [] = u :: us ∧ v = u) ∨ (L.facts.getD l [] = [] ∧ spare ≤ v ∧ v < spare + ((m.length : Nat) : Int))
  ne : ∀ (l l' : Nat) v, mGet m (.inl ((l : Nat) : Int)) = some v → mGet m (.inl ((l' : Nat) : Int)) = some v → L.facts.getD l [] = [] → L.facts.getD l' [] = [] → l = l'
  lt : m.length ≤ ps.length
theorem Picked.more {L : Cas} {spare : Int} {ps : List (Nat × Nat)} {m : Map} (h : Picked L spare ps m) (p : Nat × Nat) : Picked L spare (ps ++ [p]) (L.pick spare m p) := by
  unfold Cas.pick
  split
  · rename_i e
    refine ⟨fun q hq => ?_, h.kn, h.ne, by have := h.lt; simp; omega⟩
    rcases List.mem_append.mp hq with hq | hq
    · exact h.all q hq
    · simp at hq; subst hq; exact e
  · rename_i e
    have en : mGet m (.inl ((L.at_ p.1 p.2 : Nat) : Int)) = none := by
      cases q : mGet m (.inl ((L.at_ p.1 p.2 : Nat) : Int)) with
      | none => rfl
      | some v => rw [q] at e; exact absurd rfl e
    have keq : ∀ l : Nat, (Sum.inl ((L.at_ p.1 p.2 : Nat) : Int) : Key) = .inl ((l : Nat) : Int) ↔ L.at_ p.1 p.2 = l := fun l => by
      constructor
      · intro q; injection q with q; omega
      · rintro rfl; rfl
    generalize hv : (match L.fact p.1 p.2 with | [] => spare + ((m.length : Nat) : Int) | v :: _ => v) = w
    have hw : (∃ u us, L.fact p.1 p.2 = u :: us ∧ w = u) ∨ (L.fact p.1 p.2 = [] ∧ w = spare + ((m.length : Nat) : Int)) := by
      cases q : L.fact p.1 p.2 with
      | nil => rw [q] at hv; exact .inr ⟨rfl, hv.symm⟩
      | cons u us => rw [q] at hv; exact .inl ⟨u, us, rfl, hv.symm⟩
    have sp : ∀ (l : Nat) v, mGet (m ++ [(.inl ((L.at_ p.1 p.2 : Nat) : Int), w)]) (.inl ((l : Nat) : Int)) = some v → mGet m (.inl ((l : Nat) : Int)) = some v ∨ (mGet m (.inl ((l : Nat) : Int)) = none ∧ L.at_ p.1 p.2 = l ∧ v = w) := fun l v q => by
      rw [mGet_snoc] at q
      cases q2 : mGet m (.inl ((l : Nat) : Int)) with
      | some x => rw [q2] at q; simp only at q; exact .inl q
      | none =>
        rw [q2] at q
        simp only at q
        split at q
        · rename_i q3; cases q; exact .inr ⟨rfl, (keq l).mp q3, rfl⟩
        · cases q
    refine ⟨fun q hq => ?_, fun l v q => ?_, fun l l' v q q' e1 e2 => ?_, by have := h.lt; simp; omega⟩
    · rw [mGet_snoc]
      rcases List.mem_append.mp hq with hq | hq
      · have := h.all q hq
        cases q2 : mGet m (.inl ((L.at_ q.1 q.2 : Nat) : Int)) with
        | none => rw [q2] at this; cases this
        | some x => rfl
      · simp at hq
        subst hq
        rw [en]
        simp
    · rcases sp l v q with q | ⟨_, rfl, rfl⟩
      · rcases h.kn l v q with a | ⟨a, b, c⟩
        · exact .inl a
        · exact .inr ⟨a, b, by rw [List.length_append]; simp; omega⟩
      · rcases hw with a | ⟨a, b⟩
        · exact .inl a
        · exact .inr ⟨a, by omega, by rw [List.length_append]; simp; omega⟩
    · rcases sp l v q with q1 | ⟨n1, k1, w1⟩
      · rcases sp l' v q' with q2 | ⟨n2, k2, w2⟩
        · exact h.ne l l' v q1 q2 e1 e2
        · exfalso
          rcases h.kn l v q1 with ⟨u, us, a, _⟩ | ⟨_, b, c⟩
          · rw [e1] at a; cases a
          · rcases hw with ⟨u, us, a, _⟩ | ⟨a, d⟩
            · have : L.fact p.1 p.2 = [] := by rw [← k2] at e2; exact e2
              rw [this] at a; cases a
            · omega
      · rcases sp l' v q' with q2 | ⟨n2, k2, w2⟩
        · exfalso
          rcases h.kn l' v q2 with ⟨u, us, a, _⟩ | ⟨_, b, c⟩
          · rw [e2] at a; cases a
          · rcases hw with ⟨u, us, a, _⟩ | ⟨a, d⟩
            · have : L.fact p.1 p.2 = [] := by rw [← k1] at e1; exact e1
              rw [this] at a; cases a
            · omega
        · rw [← k1, ← k2]
/-! ## the cells in their order -/
end DL
set_option maxHeartbeats 4000000
namespace DL
open PySem PySem.Spec PyProof.Rows L2
variable [Mode]
section
variable {X : Cx} {W : WX} {K : PySem.W.Frag} {mg : Str → Option Value} {ι : List Addr} {F H : Hp} {S : zae} {e a b c : Expr} {es : List Expr} {pos p apos : Pos} {k : Nat}
/-! ## x != [], of a list of anything -/
end
end DL
set_option maxHeartbeats 400000
namespace DL
open PySem PySem.Spec PyProof.Rows L2
/-! ## cases made by some learns and joins -/
theorem nodup_sub : ∀ {l V : List Int}, l.Nodup → (∀ v ∈ l, v ∈ V) → l.length ≤ V.length
  | [], V, _, _ => by simp
  | a :: l, V, h, s => by
    obtain ⟨h1, h2⟩ := List.nodup_cons.mp h
    have ha := s a (by simp)
    have := nodup_sub (l := l) (V := V.erase a) h2 fun v hv => by
      have ne : v ≠ a := fun e => h1 (e ▸ hv)
      exact (List.mem_erase_of_ne ne).mpr (s v (by simp [hv]))
    rw [List.length_erase_of_mem ha] at this
    have : 0 < V.length := List.length_pos_of_mem ha
    simp only [List.length_cons]
    omega
def Cas.In (c : Cas) (V : List Int) : Prop := ∀ l, ∀ v ∈ c.facts.getD l [], v ∈ V
theorem Cas.In.len {c : Cas} {V : List Int} {B : Int} (i : c.In V) (f : c.Fine B) (l : Nat) : (c.facts.getD l []).length ≤ V.length := nodup_sub (f.nd l) (i l)
inductive Op where
  | l (r k : Nat) (v : Int)
  | j (r k r' k' : Nat)
def Cas.op (c : Cas) : Op → Cas
  | .l r k v => c.learn r k v
  | .j r k r' k' => c.join r k r' k'
def Op.ok (n m : Nat) (B : Int) : Op → Prop
  | .l r k v => r < n ∧ k < m ∧ v < B
  | .j r k r' k' => r < n ∧ k < m ∧ r' < n ∧ k' < m
def Op.H (M : Nat → Nat → Int) : Op → Prop
  | .l r k v => M r k = v
  | .j r k r' k' => M r k = M r' k'
structure Ops (c d : Cas) (B : Int) (V : List Int) (os : List Op) : Prop where
  ok : d.Ok
  fine : d.Fine B
  vs : d.In V
  cols : d.cols = c.cols
  n : d.n = c.n
  sat : ∀ M, d.Sat M ↔ c.Sat M ∧ ∀ o ∈ os, o.H M
end DL
set_option maxHeartbeats 8000000
namespace PySem
namespace DLSetT
open L2 PyProof.Rows
section
variable {P : Program} {w : World} {A : Around} {E : Value → Shared → Prop} {s : Shared}
end
end DLSetT
end PySem
set_option maxHeartbeats 8000000
namespace DL
open PySem PySem.Spec PyProof.Rows L2
variable [Mode]
section
variable {X : Cx} {W : WX} {e a b c : Expr} {es : List Expr} {pos p : Pos} {K : PySem.W.Frag} {ι : List Addr} {F H : Hp} {S : zae} {mg : Str → Option Value}
/-! ## sets of tuples of ints, from a list or a tuple -/
/-! ## sorted(set(x)) of tuples of ints, x a list or a tuple -/
end
end DL
set_option maxHeartbeats 8000000
namespace PySem.W
open PySem PySem.Calls PyProof.Rows
section
variable {prog : Program} {w : World} {A : Around} {E : Value → Shared → Prop} {s : Shared}
theorem sortsAt_one {v : Value} {d : PyData} {as : List Addr} (r : Reads s.heap v d as) (hal : alike d d = true) (hn : d ≠ .none) (hu : A.units + d.depth < cLine) : SortsAt prog w A s (dataKind s.heap [d]) [v] := by
  have al : AllAlike [d] := fun x hx y hy => by
    simp only [List.mem_singleton] at hx hy
    subst hx
    subst hy
    exact hal
  refine ⟨fun u hu => ?_, general', ?_, fun h2 => absurd h2 (by simp)⟩
  · simp only [List.mem_singleton] at hu
    subst hu
    exact ⟨_, dataKind_some al (List.mem_singleton.mpr rfl) r⟩
  · intro E x y a b Q ha hb hq
    obtain ⟨d1, as1, hd1, ra, rfl⟩ := dataKind_inv ha
    obtain ⟨d2, as2, hd2, rb, rfl⟩ := dataKind_inv hb
    simp only [List.mem_singleton] at hd1 hd2
    subst hd1
    subst hd2
    show wpAny _ _ (oneLt' false x y) _ _ _
    exact oneLt_alike (fun h => nomatch h) ra rb hal hn (by rw [Nat.min_self]; exact hu) hq
theorem zik {β : Type} {R : Value → β → Prop} {enc : β → PyData} {b : β} {v : Value} {l : Addr} {Q : Value → Shared → Prop} (hl : s.heap.IsList l [v].toArray) (e : EachIs R [v] [b]) (er : ∃ as, Reads s.heap v (enc b) as) (hal : alike (enc b) (enc b) = true) (hn : enc b ≠ .none)
    (hu : A.units + 2 + (enc b).depth < cLine) (h : ∀ out, out.length = 1 → EachIs R out ([b].mergeSort (dataLe false enc)) → Q (.ref (s.heap.objs.size + 1)) { s with heap := sortedAll s.heap [v] (List.toArray out) }) :
    wpAny (model prog w) A (call (.builtin "sorted") [.ref l]) Q E s := by
  obtain ⟨as, r⟩ := er
  have r' : Reads (sortingHeap (copyHeap s.heap [v]) (s.heap.objs.size + 1) [v]) v (enc b) as := PyProof.Rows.Reads.keeps (fun _ _ => sorting_copy_old) r
  have al : AllAlike ([b].map enc) := fun x hx y hy => by
    simp only [List.map_cons, List.map_nil, List.mem_singleton] at hx hy
    subst hx
    subst hy
    exact hal
  have er' : EachIs (fun u b => ∃ as, Reads (sortingHeap (copyHeap s.heap [v]) (s.heap.objs.size + 1) [v]) u (enc b) as) [v] [b] := .cons ⟨as, r'⟩ .nil
  exact sorted_vals hl (sortsAt_one (s := { s with heap := sortingHeap (copyHeap s.heap [v]) (s.heap.objs.size + 1) [v] }) r' hal hn (by show A.in1.in1.units + _ < cLine; exact hu)) (by show 1 ≤ sizeLine; unfold sizeLine; omega)
    (h _ (sortVals_length false rfl) (by exact sortVals_data (h' := sortingHeap (copyHeap s.heap [v]) (s.heap.objs.size + 1) [v]) false e er' al))
end
end PySem.W
namespace DL
open PySem PySem.Spec PyProof.Rows L2
variable [Mode]
section
variable {X : Cx} {W : WX} {e a b c : Expr} {es : List Expr} {pos p : Pos} {K : PySem.W.Frag} {ι : List Addr} {F H : Hp} {S : zae} {mg : Str → Option Value}
/-! ## sorted(x) of a list of one item, too -/
end
end DL
namespace DL
end DL
set_option maxHeartbeats 400000
namespace DL
open PySem PySem.Spec PyProof.Rows L2
/-! ## groups of equal cells: a case as the laws keep it -/
abbrev Cel := Nat × Nat
abbrev Grp := List Cel × List Int
abbrev Grps := List Grp
def Grps.has (G : Grps) (p : Cel) : Grp := (G.filter fun g => decide (p ∈ g.1)).headD ([], [])
def Grps.learn (G : Grps) (p : Cel) (v : Int) : Grps := G.map fun g => (g.1, if p ∈ g.1 then sset (g.2 ++ [v]) else g.2)
def Grps.join (G : Grps) (p q : Cel) : Grps := if G.has p = G.has q then G else (G.filter fun g => decide (g ≠ G.has p) && decide (g ≠ G.has q)) ++ [((G.has p).1 ++ (G.has q).1, sset ((G.has p).2 ++ (G.has q).2))]
def Grps.alike (G : Grps) (p q : Cel) : Bool := decide (G.has p = G.has q) || (G.has p).2.any fun v => decide (v ∈ (G.has q).2)
structure Rep (G : Grps) (c : Cas) : Prop where
  one : ∀ r k, r < c.n → k < c.cols.length → ∃ g ∈ G, (r, k) ∈ g.1
  inn : ∀ g ∈ G, ∀ p ∈ g.1, p.1 < c.n ∧ p.2 < c.cols.length
  ne : ∀ g ∈ G, g.1 ≠ []
  same : ∀ g ∈ G, ∀ p ∈ g.1, ∀ g' ∈ G, ∀ q ∈ g'.1, (g = g' ↔ c.at_ p.1 p.2 = c.at_ q.1 q.2)
  val : ∀ g ∈ G, ∀ p ∈ g.1, ∀ v, v ∈ g.2 ↔ v ∈ c.fact p.1 p.2
  srt : ∀ g ∈ G, g.2.Pairwise (· < ·)
section
variable {G : Grps} {c : Cas}
theorem Rep.has (h : Rep G c) {r k : Nat} (hr : r < c.n) (hk : k < c.cols.length) : G.has (r, k) ∈ G ∧ (r, k) ∈ (G.has (r, k)).1 := by
  obtain ⟨g, hg, hp⟩ := h.one r k hr hk
  unfold Grps.has
  cases e : G.filter fun g => decide ((r, k) ∈ g.1) with
  | nil =>
    have : g ∈ G.filter fun g => decide ((r, k) ∈ g.1) := List.mem_filter.mpr ⟨hg, decide_eq_true hp⟩
    rw [e] at this
    cases this
  | cons x xs =>
    have : x ∈ G.filter fun g => decide ((r, k) ∈ g.1) := by rw [e]; simp
    obtain ⟨h1, h2⟩ := List.mem_filter.mp this
    exact ⟨h1, of_decide_eq_true h2⟩
theorem Rep.eq (h : Rep G c) {r k r' k' : Nat} (hr : r < c.n) (hk : k < c.cols.length) (hr' : r' < c.n) (hk' : k' < c.cols.length) : G.has (r, k) = G.has (r', k') ↔ c.at_ r k = c.at_ r' k' := by
  obtain ⟨a, b⟩ := h.has hr hk
  obtain ⟨a', b'⟩ := h.has hr' hk'
  exact h.same _ a _ b _ a' _ b'
theorem Rep.mem (h : Rep G c) {r k : Nat} (hr : r < c.n) (hk : k < c.cols.length) (v : Int) : v ∈ (G.has (r, k)).2 ↔ v ∈ c.fact r k := by
  obtain ⟨a, b⟩ := h.has hr hk
  exact h.val _ a _ b v
theorem Rep.alike (h : Rep G c) {r k r' k' : Nat} (hr : r < c.n) (hk : k < c.cols.length) (hr' : r' < c.n) (hk' : k' < c.cols.length) : G.alike (r, k) (r', k') = c.alike r k r' k' := by
  unfold Grps.alike Cas.alike
  have e1 : decide (G.has (r, k) = G.has (r', k')) = decide (c.at_ r k = c.at_ r' k') := by rw [decide_eq_decide]; exact h.eq hr hk hr' hk'
  have e2 : ((G.has (r, k)).2.any fun v => decide (v ∈ (G.has (r', k')).2)) = (c.fact r k).any fun v => decide (v ∈ c.fact r' k') := by
    rw [Bool.eq_iff_iff]
    simp only [List.any_eq_true, decide_eq_true_eq]
    constructor
    · rintro ⟨v, a, b⟩; exact ⟨v, (h.mem hr hk v).mp a, (h.mem hr' hk' v).mp b⟩
    · rintro ⟨v, a, b⟩; exact ⟨v, (h.mem hr hk v).mpr a, (h.mem hr' hk' v).mpr b⟩
  rw [e1, e2]
theorem Rep.emp (h : Rep G c) {r k : Nat} (hr : r < c.n) (hk : k < c.cols.length) : (G.has (r, k)).2 = [] ↔ c.fact r k = [] := by
  constructor
  · intro e
    apply List.eq_nil_iff_forall_not_mem.mpr
    intro v hv
    have := (h.mem hr hk v).mpr hv
    rw [e] at this
    cases this
  · intro e
    apply List.eq_nil_iff_forall_not_mem.mpr
    intro v hv
    have := (h.mem hr hk v).mp hv
    rw [e] at this
    cases this
theorem Rep.learn (h : Rep G c) (ok : c.Ok) {r k : Nat} {v : Int} (hr : r < c.n) (hk : k < c.cols.length) : Rep (G.learn (r, k) v) (c.learn r k v) := by
  obtain ⟨a0, b0⟩ := h.has hr hk
  have iff_ : ∀ g ∈ G, ∀ p ∈ g.1, ((r, k) ∈ g.1 ↔ c.at_ p.1 p.2 = c.at_ r k) := fun g hg p hp => by
    constructor
    · intro hm
      exact (h.same g hg p hp g hg (r, k) hm).mp rfl
    · intro e
      have := (h.same g hg p hp _ a0 (r, k) b0).mpr e
      rw [this]; exact b0
  constructor
  · intro r' k' hr' hk'
    rw [learn_n] at hr'
    rw [zmg] at hk'
    obtain ⟨g, hg, hp⟩ := h.one r' k' hr' hk'
    exact ⟨_, List.mem_map.mpr ⟨g, hg, rfl⟩, hp⟩
  · intro x hx p hp
    obtain ⟨g, hg, rfl⟩ := List.mem_map.mp hx
    rw [learn_n, zmg]
    exact h.inn g hg p hp
  · intro x hx
    obtain ⟨g, hg, rfl⟩ := List.mem_map.mp hx
    exact h.ne g hg
  · intro x hx p hp x' hx' q hq
    obtain ⟨g, hg, rfl⟩ := List.mem_map.mp hx
    obtain ⟨g', hg', rfl⟩ := List.mem_map.mp hx'
    rw [zi0, zi0, ← h.same g hg p hp g' hg' q hq]
    constructor
    · intro e
      have e1 : g.1 = g'.1 := (Prod.mk.inj e).1
      have hp' : p ∈ g'.1 := by rw [← e1]; exact hp
      exact (h.same g hg p hp g' hg' p hp').mpr rfl
    · intro e; rw [e]
  · intro x hx p hp u
    obtain ⟨g, hg, rfl⟩ := List.mem_map.mp hx
    obtain ⟨i1, i2⟩ := h.inn g hg p hp
    rw [zpk ok hr hk, ← h.val g hg p hp u]
    have q := iff_ g hg p hp
    show u ∈ (if (r, k) ∈ g.1 then sset (g.2 ++ [v]) else g.2) ↔ _
    by_cases hm : (r, k) ∈ g.1
    · rw [if_pos hm, zgz]
      simp only [List.mem_append, List.mem_singleton, q.mp hm, true_and]
    · rw [if_neg hm]
      have : ¬ c.at_ p.1 p.2 = c.at_ r k := fun e => hm (q.mpr e)
      simp only [this, false_and, or_false]
  · intro x hx
    obtain ⟨g, hg, rfl⟩ := List.mem_map.mp hx
    show (if (r, k) ∈ g.1 then sset (g.2 ++ [v]) else g.2).Pairwise (· < ·)
    split
    · exact zf7 _
    · exact h.srt g hg
theorem Rep.join (h : Rep G c) (ok : c.Ok) {r k r' k' : Nat} (hr : r < c.n) (hk : k < c.cols.length) (hr' : r' < c.n) (hk' : k' < c.cols.length) : Rep (G.join (r, k) (r', k')) (c.join r k r' k') := by
  by_cases e : c.at_ r k = c.at_ r' k'
  · have q : c.join r k r' k' = c := by unfold Cas.join; rw [if_pos e]
    unfold Grps.join
    rw [if_pos ((h.eq hr hk hr' hk').mpr e), q]
    exact h
  · have j := join_is ok hr hk hr' hk' e
    have hne : ¬ G.has (r, k) = G.has (r', k') := fun q => e ((h.eq hr hk hr' hk').mp q)
    obtain ⟨a, b⟩ := h.has hr hk
    obtain ⟨a', b'⟩ := h.has hr' hk'
    unfold Grps.join
    rw [if_neg hne]
    -- what a cell's label is now
    have at1 : ∀ g ∈ G, ∀ p ∈ g.1, (c.join r k r' k').at_ p.1 p.2 = if g = G.has (r', k') then c.at_ r k else c.at_ p.1 p.2 := fun g hg p hp => by
      obtain ⟨i1, i2⟩ := h.inn g hg p hp
      rw [j.at_ p.1 p.2 i1 i2]
      have := h.same g hg p hp _ a' _ b'
      by_cases q : g = G.has (r', k')
      · rw [if_pos q, if_pos (this.mp q)]
      · rw [if_neg q, if_neg (fun z => q (this.mpr z))]
    have atA : ∀ p ∈ (G.has (r, k)).1, c.at_ p.1 p.2 = c.at_ r k := fun p hp => (h.same _ a p hp _ a _ b).mp rfl
    have atB : ∀ p ∈ (G.has (r', k')).1, c.at_ p.1 p.2 = c.at_ r' k' := fun p hp => (h.same _ a' p hp _ a' _ b').mp rfl
    have new1 : ∀ p ∈ (G.has (r, k)).1 ++ (G.has (r', k')).1, (c.join r k r' k').at_ p.1 p.2 = c.at_ r k := fun p hp => by
      rcases List.mem_append.mp hp with hp | hp
      · rw [at1 _ a p hp, if_neg hne]; exact atA p hp
      · rw [at1 _ a' p hp, if_pos rfl]
    have old : ∀ g, g ∈ (G.filter fun g => decide (g ≠ G.has (r, k)) && decide (g ≠ G.has (r', k'))) ↔ g ∈ G ∧ g ≠ G.has (r, k) ∧ g ≠ G.has (r', k') := fun g => by
      rw [List.mem_filter, Bool.and_eq_true, decide_eq_true_eq, decide_eq_true_eq]
    have oldat : ∀ g, g ∈ G → g ≠ G.has (r, k) → g ≠ G.has (r', k') → ∀ p ∈ g.1, (c.join r k r' k').at_ p.1 p.2 = c.at_ p.1 p.2 ∧ c.at_ p.1 p.2 ≠ c.at_ r k := fun g hg n1 n2 p hp => by
      refine ⟨by rw [at1 g hg p hp, if_neg n2], fun z => n1 ((h.same g hg p hp _ a _ b).mpr z)⟩
    have fc : ∀ p : Cel, ∀ u, u ∈ (c.join r k r' k').fact p.1 p.2 ↔ u ∈ c.facts.getD ((c.join r k r' k').at_ p.1 p.2) [] ∨ ((c.join r k r' k').at_ p.1 p.2 = c.at_ r k ∧ u ∈ c.facts.getD (c.at_ r' k') []) := fun p u => j.mem _ u
    constructor
    · intro s l hs hl
      rw [j.n] at hs
      rw [j.cols] at hl
      obtain ⟨g, hg, hp⟩ := h.one s l hs hl
      by_cases n1 : g = G.has (r, k)
      · exact ⟨_, List.mem_append_right _ (List.mem_singleton.mpr rfl), List.mem_append_left _ (by rw [← n1]; exact hp)⟩
      · by_cases n2 : g = G.has (r', k')
        · exact ⟨_, List.mem_append_right _ (List.mem_singleton.mpr rfl), List.mem_append_right _ (by rw [← n2]; exact hp)⟩
        · exact ⟨g, List.mem_append_left _ ((old g).mpr ⟨hg, n1, n2⟩), hp⟩
    · intro g hg p hp
      rw [j.n, j.cols]
      rcases List.mem_append.mp hg with hg | hg
      · exact h.inn g ((old g).mp hg).1 p hp
      · rw [List.mem_singleton] at hg
        subst hg
        rcases List.mem_append.mp hp with hp | hp
        · exact h.inn _ a p hp
        · exact h.inn _ a' p hp
    · intro g hg
      rcases List.mem_append.mp hg with hg | hg
      · exact h.ne g ((old g).mp hg).1
      · rw [List.mem_singleton] at hg
        subst hg
        intro z
        have := h.ne _ a
        exact this (List.append_eq_nil_iff.mp z).1
    · intro g hg p hp g' hg' q hq
      rcases List.mem_append.mp hg with hg | hg
      · obtain ⟨g1, g2, g3⟩ := (old g).mp hg
        obtain ⟨o1, o2⟩ := oldat g g1 g2 g3 p hp
        rcases List.mem_append.mp hg' with hg' | hg'
        · obtain ⟨k1, k2, k3⟩ := (old g').mp hg'
          obtain ⟨o3, o4⟩ := oldat g' k1 k2 k3 q hq
          rw [o1, o3]
          exact h.same g g1 p hp g' k1 q hq
        · rw [List.mem_singleton] at hg'
          subst hg'
          rw [new1 q hq, o1]
          refine ⟨fun z => ?_, fun z => absurd z o2⟩
          exfalso
          have b2 : (r, k) ∈ g.1 := by rw [z]; exact List.mem_append_left _ b
          exact g2 ((h.same g g1 _ b2 _ a _ b).mpr rfl)
      · rw [List.mem_singleton] at hg
        subst hg
        rcases List.mem_append.mp hg' with hg' | hg'
        · obtain ⟨k1, k2, k3⟩ := (old g').mp hg'
          obtain ⟨o3, o4⟩ := oldat g' k1 k2 k3 q hq
          rw [new1 p hp, o3]
          refine ⟨fun z => ?_, fun z => absurd z.symm o4⟩
          exfalso
          have b2 : (r, k) ∈ g'.1 := by rw [← z]; exact List.mem_append_left _ b
          exact k2 ((h.same g' k1 _ b2 _ a _ b).mpr rfl)
        · rw [List.mem_singleton] at hg'
          subst hg'
          rw [new1 p hp, new1 q hq]
          exact ⟨fun _ => rfl, fun _ => rfl⟩
    · intro g hg p hp u
      rcases List.mem_append.mp hg with hg | hg
      · obtain ⟨g1, g2, g3⟩ := (old g).mp hg
        obtain ⟨o1, o2⟩ := oldat g g1 g2 g3 p hp
        rw [fc p u, o1, h.val g g1 p hp u]
        constructor
        · intro z; exact .inl z
        · rintro (z | ⟨z, _⟩)
          · exact z
          · exact absurd z o2
      · rw [List.mem_singleton] at hg
        subst hg
        show u ∈ sset ((G.has (r, k)).2 ++ (G.has (r', k')).2) ↔ _
        rw [fc p u, new1 p hp, zgz, List.mem_append, h.mem hr hk u, h.mem hr' hk' u]
        simp only [true_and]
        rfl
    · intro g hg
      rcases List.mem_append.mp hg with hg | hg
      · exact h.srt g ((old g).mp hg).1
      · rw [List.mem_singleton] at hg
        subst hg
        exact zf7 _
def Grps.clash (G : Grps) (cols : List (Option (List Int))) : Bool := G.any fun g => decide (1 < g.2.length) || g.1.any fun p => g.2.any fun v => !decide (v ∈ (cols.getD p.2 none).getD g.2)
theorem Rep.len (h : Rep G c) {B : Int} (f : c.Fine B) {g : Grp} (hg : g ∈ G) {p : Cel} (hp : p ∈ g.1) : g.2.length = (c.fact p.1 p.2).length := by
  have n1 : g.2.Nodup := (h.srt g hg).imp fun x => by omega
  exact ((List.perm_ext_iff_of_nodup n1 (f.nd _)).mpr (h.val g hg p hp)).length_eq
theorem Rep.clash (h : Rep G c) {B : Int} (f : c.Fine B) : G.clash c.cols = c.clash := by
  rw [Bool.eq_iff_iff]
  unfold Grps.clash Cas.clash
  simp only [List.any_eq_true, Bool.or_eq_true, decide_eq_true_eq, Bool.not_eq_true', decide_eq_false_iff_not]
  constructor
  · rintro ⟨g, hg, q⟩
    have two : ∃ p ∈ g.1, c.badAt p.1 p.2 = true := by
      rcases q with q | ⟨p, hp, v, hv, q⟩
      · obtain ⟨p, ps, e⟩ : ∃ p ps, g.1 = p :: ps := by
          cases e : g.1 with
          | nil => exact absurd e (h.ne g hg)
          | cons p ps => exact ⟨p, ps, rfl⟩
        have hp : p ∈ g.1 := by rw [e]; simp
        refine ⟨p, hp, ?_⟩
        unfold Cas.badAt
        have := h.len f hg hp
        have : 1 < (c.fact p.1 p.2).length := by omega
        simp [this]
      · refine ⟨p, hp, ?_⟩
        unfold Cas.badAt
        have hv2 := (h.val g hg p hp v).mp hv
        cases e : c.cols.getD p.2 none with
        | none => rw [e] at q; exact absurd hv q
        | some ns =>
          rw [e] at q
          simp only [Bool.or_eq_true]
          right
          exact List.any_eq_true.mpr ⟨v, hv2, by simpa using q⟩
    obtain ⟨p, hp, q⟩ := two
    obtain ⟨i1, i2⟩ := h.inn g hg p hp
    exact ⟨p, mem_cellNs.mpr ⟨i1, i2⟩, q⟩
  · rintro ⟨⟨r, k⟩, hp, q⟩
    obtain ⟨hr, hk⟩ := mem_cellNs.mp hp
    obtain ⟨a, b⟩ := h.has hr hk
    refine ⟨_, a, ?_⟩
    unfold Cas.badAt at q
    rw [Bool.or_eq_true] at q
    rcases q with q | q
    · left
      have l : (G.has (r, k)).2.length = (c.fact r k).length := h.len f a b
      rw [l]
      simpa using q
    · right
      refine ⟨(r, k), b, ?_⟩
      cases e : c.cols.getD k none with
      | none => rw [e] at q; simp at q
      | some ns =>
        rw [e] at q
        obtain ⟨v, hv, q⟩ := List.any_eq_true.mp q
        exact ⟨v, (h.mem hr hk v).mpr hv, by simpa using q⟩
def Grps.goal (G : Grps) : Goal → Bool
  | .no => false
  | .val r k v => decide (v ∈ (G.has (r, k)).2)
  | .eq r k r' k' => G.alike (r, k) (r', k')
theorem Rep.goal (h : Rep G c) {g : Goal} (hg : okGoal c.n c.cols.length g) : G.goal g = c.goal g := by
  cases g with
  | no => rfl
  | val r k v => show decide _ = decide _; rw [decide_eq_decide]; exact h.mem hg.1 hg.2 v
  | eq r k r' k' => exact h.alike hg.1.1 hg.1.2 hg.2.1 hg.2.2
def Grps.can (G : Grps) (g : Gv) (lines : List Nat) : Bool := g.all fun p => match p.2 with
  | none => G.alike (0, p.1) (1, p.1)
  | some v => lines.all fun r => decide (v ∈ (G.has (r, p.1)).2)
theorem Rep.canStep (h : Rep G c) {t : Ru} (ht : okRu c.cols.length t) {r : Nat} (hr : r < c.n) {w : Int} (hw : t.2.2 = some w) (full : ∀ p ∈ t.1, p.2 ≠ none) : G.can t.1 [r] = c.canStep t r := by
  unfold Grps.can Cas.canStep
  rw [hw]
  simp only [Option.isSome_some, Bool.true_and]
  rw [Bool.eq_iff_iff, List.all_eq_true, List.all_eq_true]
  refine forall_congr' fun p => forall_congr' fun hp => ?_
  unfold Cas.entS
  cases e : p.2 with
  | none => exact absurd e (full p hp)
  | some v =>
    simp only [List.all_cons, List.all_nil, Bool.and_true, decide_eq_true_eq]
    exact h.mem hr (ht.g p hp) v
theorem Rep.canJoin (h : Rep G c) {t : Ru} (ht : okRu c.cols.length t) (n2 : c.n = 2) (hw : t.2.2 = none) : G.can t.1 [0, 1] = c.canJoin t := by
  unfold Grps.can Cas.canJoin
  rw [hw]
  simp only [Option.isNone_none, Bool.true_and, n2, decide_true]
  rw [Bool.eq_iff_iff, List.all_eq_true, List.all_eq_true]
  refine forall_congr' fun p => forall_congr' fun hp => ?_
  unfold Cas.entJ
  have hp1 := ht.g p hp
  cases e : p.2 with
  | none => rw [h.alike (by omega) hp1 (by omega) hp1]
  | some v =>
    simp only [List.all_cons, List.all_nil, Bool.and_true, Bool.and_eq_true, decide_eq_true_eq]
    rw [h.mem (by omega) hp1 v, h.mem (by omega) hp1 v]
end
end DL
set_option maxHeartbeats 400000
namespace DL
open PySem PySem.Spec PyProof.Rows L2
/-! ## what is left when only some cells are split -/
def InColsS (n : Nat) (cols : List (Option (List Int))) (cells : List Cel) (B : Int) (M : Nat → Nat → Int) : Prop := ∀ r k ns, r < n → k < cols.length → cols.getD k none = some ns → M r k ∈ ns ∨ ((r, k) ∉ cells ∧ B ≤ M r k)
def Open (ts : List Ru) (g : Goal) (cells : List Cel) (B : Int) (c : Cas) : Prop := ∃ M, c.Sat M ∧ (∀ t ∈ ts, Keep c.n M t) ∧ InColsS c.n c.cols cells B M ∧ ¬ GoalH M g
end DL
set_option maxHeartbeats 400000
namespace DL
open PySem PySem.Spec PyProof.Rows L2
/-! ## all steps and joins, as the laws make them -/
structure Inv (cols : List (Option (List Int))) (n : Nat) (V : List Int) (B : Int) (c : Cas) : Prop where
  ok : c.Ok
  fine : c.Fine B
  vs : c.In V
  co : c.cols = cols
  nn : c.n = n
section
variable {cols : List (Option (List Int))} {n : Nat} {V : List Int} {B : Int} {c d e : Cas}
theorem Inv.learn (I : Inv cols n V B c) (hV : V.length ≤ 32) {r k : Nat} {v : Int} (hr : r < n) (hk : k < cols.length) (hv : v ∈ V) (hb : v < B) : Inv cols n V B (c.learn r k v) := by
  have hr' : r < c.n := by rw [I.nn]; exact hr
  have hk' : k < c.cols.length := by rw [I.co]; exact hk
  refine ⟨I.ok.learn hr' hk' ?_, I.fine.learn I.ok hr' hk' hb, fun l u hu => ?_, (zmg ..).trans I.co, (learn_n ..).trans I.nn⟩
  · have := I.vs.len I.fine (c.at_ r k)
    unfold Cas.fact
    omega
  · rw [zdw c r k v (I.ok.lt hr' hk')] at hu
    split at hu
    · rcases List.mem_append.mp hu with q | q
      · exact I.vs l u q
      · rw [List.mem_singleton] at q; rw [q]; exact hv
    · exact I.vs l u hu
theorem Inv.join (I : Inv cols n V B c) (hV : V.length ≤ 32) {r k r' k' : Nat} (hr : r < n) (hk : k < cols.length) (hr' : r' < n) (hk' : k' < cols.length) : Inv cols n V B (c.join r k r' k') := by
  have a1 : r < c.n := by rw [I.nn]; exact hr
  have a2 : k < c.cols.length := by rw [I.co]; exact hk
  have a3 : r' < c.n := by rw [I.nn]; exact hr'
  have a4 : k' < c.cols.length := by rw [I.co]; exact hk'
  by_cases e : c.at_ r k = c.at_ r' k'
  · have q : c.join r k r' k' = c := by unfold Cas.join; rw [if_pos e]
    rw [q]; exact I
  · have j := join_is I.ok a1 a2 a3 a4 e
    have s1 := I.vs.len I.fine (c.at_ r k)
    have s2 := I.vs.len I.fine (c.at_ r' k')
    refine ⟨j.ok I.ok (I.ok.lt a1 a2) (by omega), I.fine.join I.ok a1 a2 a3 a4, fun l u hu => ?_, j.cols.trans I.co, j.n.trans I.nn⟩
    rcases (j.mem l u).mp hu with q | ⟨_, q⟩
    · exact I.vs _ _ q
    · exact I.vs _ _ q
structure Mono (n m : Nat) (c d : Cas) : Prop where
  kn : ∀ r k, r < n → k < m → ∀ v ∈ c.fact r k, v ∈ d.fact r k
  eq : ∀ r k r' k', r < n → k < m → r' < n → k' < m → c.at_ r k = c.at_ r' k' → d.at_ r k = d.at_ r' k'
theorem Mono.refl (n m : Nat) (c : Cas) : Mono n m c c := ⟨fun _ _ _ _ _ h => h, fun _ _ _ _ _ _ _ _ h => h⟩
theorem Mono.trans {m : Nat} (a : Mono n m c d) (b : Mono n m d e) : Mono n m c e := ⟨fun r k hr hk v hv => b.kn r k hr hk v (a.kn r k hr hk v hv), fun r k r' k' h1 h2 h3 h4 h => b.eq r k r' k' h1 h2 h3 h4 (a.eq r k r' k' h1 h2 h3 h4 h)⟩
def EqS (ts : List Ru) (n : Nat) (c d : Cas) : Prop := ∀ M, (∀ t ∈ ts, Keep n M t) → (d.Sat M ↔ c.Sat M)
theorem EqS.refl (ts : List Ru) (n : Nat) (c : Cas) : EqS ts n c c := fun _ _ => Iff.rfl
theorem EqS.trans {ts : List Ru} (a : EqS ts n c d) (b : EqS ts n d e) : EqS ts n c e := fun M k => (b M k).trans (a M k)
structure Went (ts : List Ru) (cols : List (Option (List Int))) (n : Nat) (V : List Int) (B : Int) (c : Cas) (G' : Grps) (d : Cas) : Prop where
  rep : Rep G' d
  inv : Inv cols n V B d
  eqs : EqS ts n c d
  mono : Mono n cols.length c d
theorem Went.trans {ts : List Ru} {G1 G2 : Grps} (a : Went ts cols n V B c G1 d) (b : Went ts cols n V B d G2 e) : Went ts cols n V B c G2 e := ⟨b.rep, b.inv, a.eqs.trans b.eqs, a.mono.trans b.mono⟩
def Grps.stepR (t : Ru) (w : Int) (G : Grps) (r : Nat) : Grps := if G.can t.1 [r] = true then G.learn (r, t.2.1) w else G
def Grps.roundR (n : Nat) (G : Grps) (t : Ru) : Grps := match t.2.2 with
  | none => if n = 2 ∧ G.can t.1 [0, 1] = true then G.join (0, t.2.1) (1, t.2.1) else G
  | some w => (List.range n).foldl (Grps.stepR t w) G
def Grps.round (ts : List Ru) (n : Nat) (G : Grps) : Grps := ts.foldl (Grps.roundR n) G
structure RulesV (ts : List Ru) (m : Nat) (V : List Int) (B : Int) : Prop where
  ok : ∀ t ∈ ts, okRu m t
  v : ∀ t ∈ ts, ∀ w, t.2.2 = some w → w ∈ V ∧ w < B
  full : ∀ t ∈ ts, t.2.2.isSome = true → ∀ p ∈ t.1, p.2 ≠ none
def Grps.chase (ts : List Ru) (n : Nat) : Nat → Grps → Grps
  | 0, G => G
  | k + 1, G => if G.round ts n = G then G else Grps.chase ts n k (G.round ts n)
end
end DL
set_option maxHeartbeats 400000
namespace DL
open PySem PySem.Spec PyProof.Rows L2
/-! ## the chase comes to rest -/
def opsOf (n : Nat) (t : Ru) : List (Ru × Nat) := match t.2.2 with
  | some _ => (List.range n).map fun r => (t, r)
  | none => if n = 2 then [(t, 0)] else []
def Grps.op (G : Grps) (o : Ru × Nat) : Grps := match o.1.2.2 with
  | some w => G.stepR o.1 w o.2
  | none => if G.can o.1.1 [0, 1] = true then G.join (0, o.1.2.1) (1, o.1.2.1) else G
def Cas.canO (c : Cas) (o : Ru × Nat) : Bool := match o.1.2.2 with
  | some _ => c.canStep o.1 o.2
  | none => c.canJoin o.1
def Cas.doneO (c : Cas) (o : Ru × Nat) : Bool := match o.1.2.2 with
  | some w => decide (w ∈ c.fact o.2 o.1.2.1)
  | none => decide (c.at_ 0 o.1.2.1 = c.at_ 1 o.1.2.1)
section
variable {cols : List (Option (List Int))} {n : Nat} {V : List Int} {B : Int} {c d e : Cas} {ts : List Ru}
theorem mem_ops {o : Ru × Nat} : o ∈ ts.flatMap (opsOf n) ↔ o.1 ∈ ts ∧ ((∃ w, o.1.2.2 = some w ∧ o.2 < n) ∨ (o.1.2.2 = none ∧ n = 2 ∧ o.2 = 0)) := by
  rw [List.mem_flatMap]
  obtain ⟨t, r⟩ := o
  constructor
  · rintro ⟨u, hu, h⟩
    unfold opsOf at h
    cases e : u.2.2 with
    | some w =>
      rw [e] at h
      simp only [List.mem_map, List.mem_range, Prod.mk.injEq] at h
      obtain ⟨a, ha, rfl, rfl⟩ := h
      exact ⟨hu, .inl ⟨w, e, ha⟩⟩
    | none =>
      rw [e] at h
      simp only at h
      split at h
      · rename_i n2
        simp only [List.mem_singleton, Prod.mk.injEq] at h
        obtain ⟨rfl, rfl⟩ := h
        exact ⟨hu, .inr ⟨e, n2, rfl⟩⟩
      · cases h
  · rintro ⟨hu, h⟩
    refine ⟨t, hu, ?_⟩
    unfold opsOf
    rcases h with ⟨w, e, h⟩ | ⟨e, n2, h⟩
    · simp only at e h
      rw [e]
      simp only [List.mem_map, List.mem_range, Prod.mk.injEq, true_and]
      exact ⟨r, h, rfl⟩
    · simp only at e h
      rw [e]
      subst h
      simp [n2]
theorem Mono.canO (m : Mono n cols.length c d) (Ic : Inv cols n V B c) (Id : Inv cols n V B d) {o : Ru × Nat} (ho : o ∈ ts.flatMap (opsOf n)) (hts : RulesV ts cols.length V B) (h : c.canO o = true) : d.canO o = true := by
  obtain ⟨hm, q⟩ := mem_ops.mp ho
  have ht := hts.ok _ hm
  unfold Cas.canO at h ⊢
  rcases q with ⟨w, e, hr⟩ | ⟨e, n2, _⟩
  · rw [e] at h ⊢
    simp only at h ⊢
    unfold Cas.canStep at h ⊢
    rw [Bool.and_eq_true, List.all_eq_true] at h ⊢
    refine ⟨h.1, fun p hp => ?_⟩
    have := h.2 p hp
    unfold Cas.entS at this ⊢
    cases q : p.2 with
    | none => exact absurd q (hts.full _ hm (by rw [e]; rfl) p hp)
    | some v =>
      rw [q] at this
      simp only [decide_eq_true_eq] at this ⊢
      exact m.kn _ _ hr (ht.g p hp) v this
  · rw [e] at h ⊢
    simp only at h ⊢
    unfold Cas.canJoin at h ⊢
    rw [Bool.and_eq_true, Bool.and_eq_true, List.all_eq_true] at h ⊢
    refine ⟨h.1, by rw [Id.nn]; exact decide_eq_true n2, fun p hp => ?_⟩
    have hp1 := ht.g p hp
    have := h.2.2 p hp
    unfold Cas.entJ at this ⊢
    cases q : p.2 with
    | none =>
      rw [q] at this
      simp only at this ⊢
      unfold Cas.alike at this ⊢
      rw [Bool.or_eq_true, decide_eq_true_eq, List.any_eq_true] at this ⊢
      rcases this with z | ⟨v, hv, z⟩
      · exact .inl (m.eq 0 p.1 1 p.1 (by omega) hp1 (by omega) hp1 z)
      · refine .inr ⟨v, m.kn 0 p.1 (by omega) hp1 v hv, ?_⟩
        rw [decide_eq_true_eq] at z ⊢
        exact m.kn 1 p.1 (by omega) hp1 v z
    | some v =>
      rw [q] at this
      simp only [Bool.and_eq_true, decide_eq_true_eq] at this ⊢
      exact ⟨m.kn 0 p.1 (by omega) hp1 v this.1, m.kn 1 p.1 (by omega) hp1 v this.2⟩
theorem Mono.doneO (m : Mono n cols.length c d) {o : Ru × Nat} (ho : o ∈ ts.flatMap (opsOf n)) (hts : RulesV ts cols.length V B) (h : c.doneO o = true) : d.doneO o = true := by
  obtain ⟨hm, q⟩ := mem_ops.mp ho
  have ht := hts.ok _ hm
  unfold Cas.doneO at h ⊢
  rcases q with ⟨w, e, hr⟩ | ⟨e, n2, _⟩
  · rw [e] at h ⊢
    simp only [decide_eq_true_eq] at h ⊢
    exact m.kn _ _ hr ht.c w h
  · rw [e] at h ⊢
    simp only [decide_eq_true_eq] at h ⊢
    exact m.eq 0 _ 1 _ (by omega) ht.c (by omega) ht.c h
structure OpW (ts : List Ru) (cols : List (Option (List Int))) (n : Nat) (V : List Int) (B : Int) (c : Cas) (G : Grps) (os : List (Ru × Nat)) (G' : Grps) (d : Cas) : Prop where
  went : Went ts cols n V B c G' d
  aft : ∀ o ∈ os, c.canO o = true → d.doneO o = true
  new : G' = G ∨ ∃ o ∈ ts.flatMap (opsOf n), c.doneO o = false ∧ d.doneO o = true
end
end DL
set_option maxHeartbeats 400000
namespace DL
open PySem PySem.Spec PyProof.Rows L2
/-! ## whether a case stays open, as the laws ask it -/
section
variable {cols : List (Option (List Int))} {n : Nat} {V : List Int} {B : Int} {c d e : Cas} {ts : List Ru} {g : Goal} {cells : List Cel}
theorem Open.went {G : Grps} (I : Inv cols n V B c) (a : Went ts cols n V B c G d) : Open ts g cells B d ↔ Open ts g cells B c := by
  have n1 : d.n = c.n := by rw [I.nn, a.inv.nn]
  have c1 : d.cols = c.cols := by rw [I.co, a.inv.co]
  unfold Open
  rw [n1, c1]
  constructor
  · rintro ⟨M, s, k, i, h⟩
    exact ⟨M, (a.eqs M (by rw [← I.nn]; exact k)).mp s, k, i, h⟩
  · rintro ⟨M, s, k, i, h⟩
    exact ⟨M, (a.eqs M (by rw [← I.nn]; exact k)).mpr s, k, i, h⟩
theorem Rep.unknown {G : Grps} (h : Rep G c) (hc : Closed c.n c.cols cells) : (cells.find? fun p => (G.has p).2.isEmpty) = c.unknown cells := by
  unfold Cas.unknown
  have : ∀ p ∈ cells, (G.has p).2.isEmpty = (c.fact p.1 p.2).isEmpty := fun p hp => by
    obtain ⟨h1, h2, _⟩ := hc p hp
    rw [Bool.eq_iff_iff, List.isEmpty_iff, List.isEmpty_iff]
    exact h.emp h1 h2
  clear hc
  induction cells with
  | nil => rfl
  | cons p ps ih =>
    rw [List.find?_cons, List.find?_cons, this p (by simp), ih fun x hx => this x (by simp [hx])]
end
end DL
set_option maxHeartbeats 400000
namespace DL
open PySem PySem.Spec PyProof.Rows L2
/-! ## groups stay small -/
def gW (g : Grp) : Nat := g.1.length + 1
def Tidy (N : Nat) (G : Grps) : Prop := (G.map gW).sum ≤ N
theorem sum_two {α : Type} (f : α → Nat) (q p : α → Bool) : ∀ {l : List α}, (∀ x ∈ l, q x = true → p x = true) → ((l.filter q).map f).sum ≤ ((l.filter p).map f).sum
  | [], _ => by simp
  | y :: l, h => by
    have ih := sum_two f q p (l := l) fun x hx => h x (by simp [hx])
    cases e : p y with
    | true =>
      rw [List.filter_cons_of_pos (p := p) (by rw [e]), List.map_cons, List.sum_cons]
      cases e2 : q y with
      | true => rw [List.filter_cons_of_pos (p := q) (by rw [e2]), List.map_cons, List.sum_cons]; omega
      | false => rw [List.filter_cons_of_neg (p := q) (by rw [e2]; decide)]; omega
    | false =>
      have e2 : q y = false := by
        cases e2 : q y with
        | false => rfl
        | true => rw [h y (by simp) e2] at e; cases e
      rw [List.filter_cons_of_neg (p := p) (by rw [e]; decide), List.filter_cons_of_neg (p := q) (by rw [e2]; decide)]
      exact ih
theorem zqy {α : Type} (f : α → Nat) (q p : α → Bool) (a : α) (hp : p a = true) (hq : q a = false) : ∀ {l : List α}, (∀ x ∈ l, q x = true → p x = true) → a ∈ l → ((l.filter q).map f).sum + f a ≤ ((l.filter p).map f).sum
  | [], _, h => by cases h
  | y :: l, hh, h => by
    have hl : ∀ x ∈ l, q x = true → p x = true := fun x hx => hh x (by simp [hx])
    rcases List.mem_cons.mp h with z | z
    · subst z
      have := sum_two f q p hl
      rw [List.filter_cons_of_pos (p := p) (by rw [hp]), List.map_cons, List.sum_cons, List.filter_cons_of_neg (p := q) (by rw [hq]; decide)]
      omega
    · have ih := zqy f q p a hp hq hl z
      cases e : p y with
      | true =>
        rw [List.filter_cons_of_pos (p := p) (by rw [e]), List.map_cons, List.sum_cons]
        cases e2 : q y with
        | true => rw [List.filter_cons_of_pos (p := q) (by rw [e2]), List.map_cons, List.sum_cons]; omega
        | false => rw [List.filter_cons_of_neg (p := q) (by rw [e2]; decide)]; omega
      | false =>
        have e2 : q y = false := by
          cases e2 : q y with
          | false => rfl
          | true => rw [hh y (by simp) e2] at e; cases e
        rw [List.filter_cons_of_neg (p := p) (by rw [e]; decide), List.filter_cons_of_neg (p := q) (by rw [e2]; decide)]
        exact ih
theorem zli {α : Type} (f : α → Nat) (p : α → Bool) : ∀ l : List α, ((l.filter p).map f).sum ≤ (l.map f).sum
  | [] => by simp
  | y :: l => by
    have := zli f p l
    rw [List.filter_cons, List.map_cons, List.sum_cons]
    split
    · rw [List.map_cons, List.sum_cons]; omega
    · omega
theorem Tidy.learn {N : Nat} {G : Grps} (h : Tidy N G) (p : Cel) (v : Int) : Tidy N (G.learn p v) := by
  unfold Tidy Grps.learn at *
  rw [List.map_map]
  exact h
theorem Tidy.join {N : Nat} {G : Grps} (h : Tidy N G) {p q : Cel} (hp : G.has p ∈ G) (hq : G.has q ∈ G) : Tidy N (G.join p q) := by
  unfold Grps.join
  by_cases e : G.has p = G.has q
  · rw [if_pos e]; exact h
  · rw [if_neg e]
    unfold Tidy at *
    rw [List.map_append, List.sum_append, List.map_singleton, List.sum_singleton]
    have a := zqy gW (fun x => decide (x ≠ G.has p) && decide (x ≠ G.has q)) (fun x => decide (x ≠ G.has q)) (G.has p) (by simpa using e) (by simp) (l := G) (fun x _ z => (Bool.and_eq_true _ _ ▸ z : _ ∧ _).2) hp
    have b := zqy gW (fun x => decide (x ≠ G.has q)) (fun _ => true) (G.has q) rfl (by simp) (l := G) (fun _ _ _ => rfl) hq
    have c := zli gW (fun _ => true) G
    have w1 : gW ((G.has p).1 ++ (G.has q).1, sset ((G.has p).2 ++ (G.has q).2)) = (G.has p).1.length + (G.has q).1.length + 1 := by unfold gW; rw [List.length_append]
    rw [w1]
    unfold gW at a b c h ⊢
    omega
theorem Tidy.len {N : Nat} {G : Grps} (h : Tidy N G) : G.length ≤ N := by
  have : ∀ l : Grps, l.length ≤ (l.map gW).sum := fun l => by
    induction l with
    | nil => simp
    | cons y l ih => rw [List.map_cons, List.sum_cons, List.length_cons]; unfold gW at *; omega
  exact Nat.le_trans (this G) h
end DL
set_option maxHeartbeats 400000
namespace DL
open PySem PySem.Spec PyProof.Rows L2
/-! ## the case of a rule, as groups -/
structure RepI (cols : List (Option (List Int))) (n : Nat) (V : List Int) (B : Int) (N : Nat) (G : Grps) (c : Cas) : Prop where
  rep : Rep G c
  inv : Inv cols n V B c
  tid : Tidy N G
section
variable {cols : List (Option (List Int))} {n N : Nat} {V : List Int} {B : Int}
end
end DL
set_option maxHeartbeats 4000000
namespace DL
open PySem PySem.Spec PyProof.Rows L2
variable [Mode]
section
variable {X : Cx} {W : WX} {e a b c : Expr} {es : List Expr} {pos p pos2 : Pos} {K : PySem.W.Frag} {ι : List Addr} {F H : Hp} {S : zae} {mg : Str → Option Value}
/-! ## tuple(range(n)) -/
end
end DL
set_option maxHeartbeats 4000000
namespace PySem
namespace DLZip
open Sem (wp)
section
variable {prog : Program} {w : World} {A : Around} {E : Value → Shared → Prop} {s : Shared} {z TI TO T i1 i2 : Addr} {fp1 fp2 : List Addr} {n1 n2 i : Nat} {P1 P2 : Nat → Value → Prop} {St1 St2 : Nat → Heap → Prop}
theorem next_held {f : Bool} {oT : Obj} {Q : Value → Shared → Prop} (S : ZipSep2 z TI TO i1 i2 fp1 fp2) (D1 : Draws prog w A i1 fp1 n1 P1 St1) (D2 : Draws prog w A i2 fp2 n2 P2 St2)
    (hz : IsZipHeld s.heap z TI TO T f) (hT : s.heap.get? T = some oT) (hTI : IsTupOf2 s.heap TI (.ref i1) (.ref i2)) (st1 : St1 i s.heap) (st2 : St2 i s.heap) (l1 : i < n1) (l2 : i < n2)
    (hQ : ∀ x1 x2 h' tk, P1 i x1 → P2 i x2 → IsZipHeld h' z TI TO T true → St1 (i + 1) h' → St2 (i + 1) h' → IsTupOf2 h' s.heap.objs.size x1 x2 → h'.objs.size = s.heap.objs.size + 1 →
      (∀ c o, c ≠ z → c ≠ i1 → c ≠ i2 → s.heap.get? c = some o → h'.get? c = some o) → Q (.ref s.heap.objs.size) { s with heap := h', toks := tk }) :
    wpAny (model prog w) A (Builtin.«zip.__next__» ⟨[.ref z], []⟩) (fun fin s' => ∃ v, fin = .done (.ret v) ∧ Q v s') E s := by
  obtain ⟨hp, g, d, tk0, os⟩ := s
  show wpAny _ _ (field (.ref z) 2 >>= _) _ _ _
  refine wpAny_bind (wpAny_field hz rfl (x := .bool false) rfl ?_)
  show wpAny _ _ (field (.ref z) 3 >>= _) _ _ _
  refine wpAny_bind (wpAny_field hz rfl (x := .ref TI) rfl ?_)
  refine wpAny_bind (wpAny_seqItems hTI rfl ?_)
  show wpAny _ _ (Builtin.SmallTypes.ownedTupleIsFree (.ref z) >>= _) _ _ _
  refine wpAny_bind (wpAny_tupleHeld_zip hz hT fun g0 hz0 hs0 => ?_)
  replace hs0 : Heap.SameBut z hp g0 := hs0
  simp only [Bool.false_eq_true, if_false]
  refine wpAny_bind ?_
  rw [← Array.forIn_toList]
  simp only [List.forIn_cons, List.forIn_nil]
  refine wpAny_bind (wpAny_bind (wpAny_holding ?_))
  show wpAny _ _ (Builtin.SmallTypes.nextOf (.ref i1) >>= _) _ _ ⟨g0, g, d, tk0, os⟩
  refine wpAny_bind (D1.item i _ _ _ l1 (D1.over st1 hs0 S.zf1) fun x1 p1 tk1 hx1 sn1 hp1 => wpAny_pure ?_)
  replace hp1 : Heap.SameBut i1 g0 p1 := hp1
  refine wpAny_pure ?_
  refine wpAny_bind (wpAny_bind (wpAny_holding ?_))
  show wpAny _ _ (Builtin.SmallTypes.nextOf (.ref i2) >>= _) _ _ ⟨p1, g, d, tk1, os⟩
  refine wpAny_bind (D2.item i _ _ _ l2 (D2.over (D2.over st2 hs0 S.zf2) hp1 S.sep1_2) fun x2 p2 tk2 hx2 sn2 hp2 => wpAny_pure ?_)
  replace hp2 : Heap.SameBut i2 p1 p2 := hp2
  refine wpAny_pure (wpAny_pure ?_)
  show wpAny _ _ (newTuple [x1, x2] >>= _) _ _ ⟨p2, g, d, tk2, os⟩
  refine wpAny_bind (wpAny_newTuple ?_)
  have hsz : p2.objs.size = hp.objs.size := by rw [hp2.1, hp1.1, hs0.1]
  have hz3 : IsZipHeld p2 z TI TO T true := hp2.extBut _ _ S.zi2 (hp1.extBut _ _ S.zi1 hz0)
  have hk : ∀ c o, c ≠ z → c ≠ i1 → c ≠ i2 → hp.get? c = some o → p2.get? c = some o := fun c o c1 c2 c3 e => hp2.extBut _ _ c3 (hp1.extBut _ _ c2 (hs0.extBut _ _ c1 e))
  have j1 : St1 (i + 1) p2 := D1.over sn1 hp2 S.sep2_1
  have hp' : IsTupOf2 (p2.push { cls := .type "tuple", data := .seq #[x1, x2] }) p2.objs.size x1 x2 := Heap.get?_push_size _ rfl
  have hz4 : (p2.push { cls := .type "tuple", data := .seq #[x1, x2] }).objs.size = p2.objs.size + 1 := Heap.size_push ..
  refine wpAny_pure ⟨_, rfl, ?_⟩
  show Q (.ref p2.objs.size) ⟨p2.push { cls := .type "tuple", data := .seq #[x1, x2] }, g, d, tk2, os⟩
  rw [hsz] at hp' hz4 ⊢
  exact hQ x1 x2 _ tk2 hx1 hx2 (Heap.get?_push_of_some _ hz3) (D1.frame _ _ _ j1 fun b _ o e => Heap.get?_push_of_some _ e) (D2.frame _ _ _ sn2 fun b _ o e => Heap.get?_push_of_some _ e) hp' hz4
    fun c o c1 c2 c3 e => Heap.get?_push_of_some _ (hk c o c1 c2 c3 e)
theorem end_held {f : Bool} {oT : Obj} {Q : Fin → Shared → Prop} (S : ZipSep2 z TI TO i1 i2 fp1 fp2) (D1 : Draws prog w A i1 fp1 n1 P1 St1) (D2 : Draws prog w A i2 fp2 n2 P2 St2)
    (hz : IsZipHeld s.heap z TI TO T f) (hT : s.heap.get? T = some oT) (hTI : IsTupOf2 s.heap TI (.ref i1) (.ref i2)) (st1 : St1 i s.heap) (st2 : St2 i s.heap) (l1 : i ≤ n1) (l2 : i ≤ n2) (hend : i = n1 ∨ i = n2)
    (hE : ∀ h' tk e, (∀ c o, c ≠ z → c ≠ i1 → c ≠ i2 → s.heap.get? c = some o → h'.get? c = some o) → (∃ o, h'.get? e = some o ∧ o.cls = .type "StopIteration") → E (.ref e) { s with heap := h', toks := tk }) :
    wpAny (model prog w) A (Builtin.«zip.__next__» ⟨[.ref z], []⟩) Q E s := by
  obtain ⟨hp, g, d, tk0, os⟩ := s
  show wpAny _ _ (field (.ref z) 2 >>= _) _ _ _
  refine wpAny_bind (wpAny_field hz rfl (x := .bool false) rfl ?_)
  show wpAny _ _ (field (.ref z) 3 >>= _) _ _ _
  refine wpAny_bind (wpAny_field hz rfl (x := .ref TI) rfl ?_)
  refine wpAny_bind (wpAny_seqItems hTI rfl ?_)
  show wpAny _ _ (Builtin.SmallTypes.ownedTupleIsFree (.ref z) >>= _) _ _ _
  refine wpAny_bind (wpAny_tupleHeld_zip hz hT fun g0 hz0 hs0 => ?_)
  replace hs0 : Heap.SameBut z hp g0 := hs0
  simp only [Bool.false_eq_true, if_false]
  refine wpAny_bind ?_
  rw [← Array.forIn_toList]
  simp only [List.forIn_cons, List.forIn_nil]
  refine wpAny_bind (wpAny_bind (wpAny_holding ?_))
  show wpAny _ _ (Builtin.SmallTypes.nextOf (.ref i1) >>= _) _ _ ⟨g0, g, d, tk0, os⟩
  by_cases h1 : i = n1
  · subst h1
    refine wpAny_bind (D1.done _ _ _ (D1.over st1 hs0 S.zf1) fun h' e hq he => ?_)
    replace hq : Heap.ExtBut i1 g0 h' := hq
    exact hE h' tk0 e (fun c o c1 c2 _ x => hq _ _ c2 (hs0.extBut _ _ c1 x)) he
  · have h2 : i = n2 := hend.resolve_left h1
    subst h2
    refine wpAny_bind (D1.item i _ _ _ (by omega) (D1.over st1 hs0 S.zf1) fun x1 p1 tk1 hx1 sn1 hp1 => wpAny_pure ?_)
    replace hp1 : Heap.SameBut i1 g0 p1 := hp1
    refine wpAny_pure ?_
    refine wpAny_bind (wpAny_bind (wpAny_holding ?_))
    show wpAny _ _ (Builtin.SmallTypes.nextOf (.ref i2) >>= _) _ _ ⟨p1, g, d, tk1, os⟩
    refine wpAny_bind (D2.done _ _ _ (D2.over (D2.over st2 hs0 S.zf2) hp1 S.sep1_2) fun h' e hq he => ?_)
    replace hq : Heap.ExtBut i2 p1 h' := hq
    exact hE h' tk1 e (fun c o c1 c2 c3 x => hq _ _ c3 (hp1.extBut _ _ c2 (hs0.extBut _ _ c1 x))) he
theorem pyNext_held {f : Bool} {oT : Obj} {Q : Option Value → Shared → Prop} (S : ZipSep2 z TI TO i1 i2 fp1 fp2) (D1 : Draws prog w A.in1 i1 fp1 n1 P1 St1) (D2 : Draws prog w A.in1 i2 fp2 n2 P2 St2)
    (hz : IsZipHeld s.heap z TI TO T f) (hT : s.heap.get? T = some oT) (hTI : IsTupOf2 s.heap TI (.ref i1) (.ref i2)) (st1 : St1 i s.heap) (st2 : St2 i s.heap) (l1 : i < n1) (l2 : i < n2)
    (hQ : ∀ x1 x2 h' tk, P1 i x1 → P2 i x2 → IsZipHeld h' z TI TO T true → St1 (i + 1) h' → St2 (i + 1) h' → IsTupOf2 h' s.heap.objs.size x1 x2 → h'.objs.size = s.heap.objs.size + 1 →
      (∀ c o, c ≠ z → c ≠ i1 → c ≠ i2 → s.heap.get? c = some o → h'.get? c = some o) → Q (some (.ref s.heap.objs.size)) { s with heap := h', toks := tk }) :
    wpAny (model prog w) A (pyNext (.ref z)) Q E s := by
  have hTy : s.TypeIs (.ref z) "zip" := ⟨_, hz, rfl⟩
  unfold pyNext
  exact wpAny_bind (wpAny_attempt (wpAny_callSpecial?_slot (name := Str.ofString "__next__") hTy F.slot_zip_next
    (wpAny_call_entry F.slot_zip_next hTy F.entry_zip_next
      (next_held S D1 D2 hz hT hTI st1 st2 l1 l2 fun x1 x2 h' tk a1 a2 a3 a4 a5 a6 a7 a8 => wpAny_pure (hQ x1 x2 h' tk a1 a2 a3 a4 a5 a6 a7 a8)) (F.args_zip_next_1 _))))
theorem zoq {f : Bool} {oT : Obj} {Q : Option Value → Shared → Prop} (S : ZipSep2 z TI TO i1 i2 fp1 fp2) (D1 : Draws prog w A.in1 i1 fp1 n1 P1 St1) (D2 : Draws prog w A.in1 i2 fp2 n2 P2 St2)
    (hz : IsZipHeld s.heap z TI TO T f) (hT : s.heap.get? T = some oT) (hTI : IsTupOf2 s.heap TI (.ref i1) (.ref i2)) (st1 : St1 i s.heap) (st2 : St2 i s.heap) (l1 : i ≤ n1) (l2 : i ≤ n2) (hend : i = n1 ∨ i = n2)
    (hQ : ∀ h' tk, (∀ c o, c ≠ z → c ≠ i1 → c ≠ i2 → s.heap.get? c = some o → h'.get? c = some o) → Q none { s with heap := h', toks := tk }) :
    wpAny (model prog w) A (pyNext (.ref z)) Q E s := by
  have hTy : s.TypeIs (.ref z) "zip" := ⟨_, hz, rfl⟩
  unfold pyNext
  refine wpAny_bind (wpAny_attempt (wpAny_callSpecial?_slot (name := Str.ofString "__next__") hTy F.slot_zip_next
    (wpAny_call_entry F.slot_zip_next hTy F.entry_zip_next (end_held S D1 D2 hz hT hTI st1 st2 l1 l2 hend fun h' tk e hk he => ?_) (F.args_zip_next_1 _))))
  obtain ⟨o, ho, hc⟩ := he
  refine wpAny_bind (wpAny_isInstance (T := "StopIteration") (b := true) ⟨o, ho, hc⟩ isSubtype_stop ?_)
  exact wpAny_pure (hQ _ _ hk)
theorem up {a b lim : Nat} (h : a < lim) (k : lim ≤ b) : b ≠ a := by omega
def At (z TI TO i1 i2 : Addr) (St1 St2 : Nat → Heap → Prop) (lim : Nat) (i : Nat) (h : Heap) : Prop :=
  IsTupOf2 h TI (.ref i1) (.ref i2) ∧ St1 i h ∧ St2 i h ∧ ((IsZip h z TI TO .none ∧ ∃ a b, IsTupOf2 h TO a b) ∨ ∃ T f oT, IsZipHeld h z TI TO T f ∧ h.get? T = some oT ∧ lim ≤ T)
def Made (P1 P2 : Nat → Value → Prop) (lim : Nat) (h : Heap) (ps : List (Addr × Value × Value)) (i : Nat) : Prop :=
  ps.length = i ∧ (ps.map (·.1)).Nodup ∧ ∀ j p, ps[j]? = some p → lim ≤ p.1 ∧ IsTupOf2 h p.1 p.2.1 p.2.2 ∧ P1 j p.2.1 ∧ P2 j p.2.2
abbrev listAt (h : Heap) (S : Addr) (ps : List (Addr × Value × Value)) (c : Nat) : Prop := h.get? S = some { cls := .type "list", dict := none, data := .seq (ps.map fun p => Value.ref p.1).toArray c, slots := #[] }
theorem Made.keep {lim : Nat} {h h' : Heap} {ps : List (Addr × Value × Value)} (m : Made P1 P2 lim h ps i) (k : ∀ b o, lim ≤ b → h.get? b = some o → h'.get? b = some o) : Made P1 P2 lim h' ps i :=
  ⟨m.1, m.2.1, fun j p e => let ⟨a, b, c⟩ := m.2.2 j p e; ⟨a, k _ _ a b, c⟩⟩
theorem Made.snoc {lim : Nat} {h : Heap} {ps : List (Addr × Value × Value)} (m : Made P1 P2 lim h ps i) {a : Addr} {x y : Value} (hl : lim ≤ a) (ht : IsTupOf2 h a x y) (p1 : P1 i x) (p2 : P2 i y) (hn : ∀ p ∈ ps, p.1 ≠ a) : Made P1 P2 lim h (ps ++ [(a, x, y)]) (i + 1) := by
  refine ⟨by simp [m.1], ?_, fun j p e => ?_⟩
  · rw [List.map_append, List.nodup_append]
    refine ⟨m.2.1, by simp, fun u hu v hv => ?_⟩
    obtain ⟨p, hp, rfl⟩ := List.mem_map.mp hu
    simp only [List.map_cons, List.map_nil, List.mem_cons, List.not_mem_nil, or_false] at hv
    subst hv
    exact hn p hp
  · rw [List.getElem?_append] at e
    split at e
    · exact m.2.2 j p e
    · rename_i hj
      have hj' : ¬ j < i := by rw [← m.1]; exact hj
      cases hd : j - ps.length with
      | zero =>
        rw [hd] at e
        simp only [List.getElem?_cons_zero, Option.some.injEq] at e
        subst e
        have : j = i := by rw [m.1] at hd; omega
        subst this
        exact ⟨hl, ht, p1, p2⟩
      | succ k => rw [hd] at e; simp at e
end
section
variable {prog : Program} {w : World} {A : Around} {R : Result → Shared → Prop} {z TI TO i1 i2 S : Addr} {fp1 fp2 : List Addr} {n1 n2 : Nat} {P1 P2 : Nat → Value → Prop} {St1 St2 : Nat → Heap → Prop} {lim : Nat}
theorem At.over (D1 : Draws prog w A i1 fp1 n1 P1 St1) (D2 : Draws prog w A i2 fp2 n2 P2 St2) {i : Nat} {h h' : Heap} (st : At z TI TO i1 i2 St1 St2 lim i h) (hS : S < lim) (s1 : S ∉ fp1) (s2 : S ∉ fp2) (s3 : S ≠ z) (s4 : S ≠ TI) (s5 : S ≠ TO)
    (hk : ∀ b o, b ≠ S → h.get? b = some o → h'.get? b = some o) : At z TI TO i1 i2 St1 St2 lim i h' := by
  obtain ⟨hTI, st1, st2, hz⟩ := st
  refine ⟨hk _ _ (Ne.symm s4) hTI, D1.frame _ _ _ st1 fun b hb o e => hk b o (fun q => s1 (q ▸ hb)) e, D2.frame _ _ _ st2 fun b hb o e => hk b o (fun q => s2 (q ▸ hb)) e, ?_⟩
  rcases hz with ⟨hz, a, b, hTO⟩ | ⟨T, f, oT, hz, hT, hl⟩
  · exact .inl ⟨hk _ _ (Ne.symm s3) hz, a, b, hk _ _ (Ne.symm s5) hTO⟩
  · exact .inr ⟨T, f, oT, hk _ _ (Ne.symm s3) hz, hk _ _ (up hS hl) hT, hl⟩
theorem loop (Z : ZipSep2 z TI TO i1 i2 fp1 fp2) (D1 : Draws prog w A.in1.in1 i1 fp1 n1 P1 St1) (D2 : Draws prog w A.in1.in1 i2 fp2 n2 P2 St2) (hn : min n1 n2 ≤ sizeLine) (hS : S < lim) (hz : z < lim) (hTO : TO < lim) (hi1 : i1 < lim) (hi2 : i2 < lim)
    (s1 : S ∉ fp1) (s2 : S ∉ fp2) (s3 : S ≠ z) (s4 : S ≠ TI) (s5 : S ≠ TO) (res : Value) :
    ∀ (k i : Nat) (s : Shared) (ps : List (Addr × Value × Value)) (c : Nat), min n1 n2 - i = k → i ≤ min n1 n2 → lim ≤ s.heap.objs.size → At z TI TO i1 i2 St1 St2 lim i s.heap → listAt s.heap S ps c → Made P1 P2 lim s.heap ps i →
    (∀ h' tk ps' c', (∀ b o, b ∉ [S, z, TO, i1, i2] → s.heap.get? b = some o → h'.get? b = some o) → listAt h' S ps' c' → Made P1 P2 lim h' ps' (min n1 n2) → R (.ok (.ret res)) { s with heap := h', toks := tk }) →
    codeAny (model prog w) A (.builtin "list.extend.loop" ⟨[.ref S, .ref z, res], []⟩) R s := by
  have hSi1 : S ≠ i1 := fun e => s1 (e ▸ Z.mem1)
  have hSi2 : S ≠ i2 := fun e => s2 (e ▸ Z.mem2)
  intro k
  induction k with
  | zero =>
    intro i s ps c hk hi hl st hL m hR
    have hin : i = min n1 n2 := by omega
    refine codeAny_builtin F.entry_extend_loop ?_
    rw [Around.under_plainId F.plain_extend_loop _]
    show wpAny _ A.in1 (pyNext (.ref z) >>= _) _ _ s
    obtain ⟨hTI, st1, st2, zz⟩ := st
    rcases zz with ⟨zz, a, b, tt⟩ | ⟨T, f, oT, zz, hT, hlT⟩
    · refine wpAny_bind (wpAny_pyNext_zipD2_end Z D1 D2 zz hTI tt st1 st2 (by omega) (by omega) (by omega) fun h' tk hq => wpAny_pure ?_)
      refine hR h' tk ps c (fun b o hb e => ?_) (hq _ _ s3 s5 hSi1 hSi2 hL) ((hin ▸ m).keep fun b o hb e => hq _ _ (up hz hb) (up hTO hb) (up hi1 hb) (up hi2 hb) e)
      simp only [List.mem_cons, List.not_mem_nil, or_false, not_or] at hb
      exact hq b o hb.2.1 hb.2.2.1 hb.2.2.2.1 hb.2.2.2.2 e
    · refine wpAny_bind (zoq Z D1 D2 zz hT hTI st1 st2 (by omega) (by omega) (by omega) fun h' tk hq => wpAny_pure ?_)
      refine hR h' tk ps c (fun b o hb e => ?_) (hq _ _ s3 hSi1 hSi2 hL) ((hin ▸ m).keep fun b o hb e => hq _ _ (up hz hb) (up hi1 hb) (up hi2 hb) e)
      simp only [List.mem_cons, List.not_mem_nil, or_false, not_or] at hb
      exact hq b o hb.2.1 hb.2.2.2.1 hb.2.2.2.2 e
  | succ k ih =>
    intro i s ps c hk hi hl st hL m hR
    obtain ⟨hp, g, d, tk0, os⟩ := s
    have hlt : i < min n1 n2 := by omega
    refine codeAny_builtin F.entry_extend_loop ?_
    rw [Around.under_plainId F.plain_extend_loop _]
    show wpAny _ A.in1 (pyNext (.ref z) >>= _) _ _ _
    have key : ∀ x1 x2 h' tk, P1 i x1 → P2 i x2 → IsTupOf2 h' hp.objs.size x1 x2 → h'.objs.size = hp.objs.size + 1 → At z TI TO i1 i2 St1 St2 lim (i + 1) h' → (∀ c o, c ≠ z → c ≠ TO → c ≠ i1 → c ≠ i2 → hp.get? c = some o → h'.get? c = some o) →
        wpAny (model prog w) A.in1 (updateSeq S (·.push (.ref hp.objs.size)) >>= fun _ => again (.builtin "list.extend.loop" ⟨[.ref S, .ref z, res], []⟩))
          (fun fin s' => match fin with | .done f => R (.ok f) s' | .again c' => c'.quiet = true ∧ codeAny (model prog w) A c' R s') (fun e s' => R (.error e) s') ⟨h', g, d, tk, os⟩ := by
      intro x1 x2 h' tk hx1 hx2 ht hsz st' hq
      have hS' : listAt h' S ps c := hq _ _ s3 s5 hSi1 hSi2 hL
      refine wpAny_bind ?_
      refine wpAny_updateSeq (s := ⟨h', g, d, tk, os⟩) hS' rfl (wpAny_pure ⟨plainId_quiet F.plain_extend_loop _, ?_⟩)
        (by rw [List.size_toArray, List.length_map, m.1]; omega) (by show (Array.push _ _).size ≤ sizeLine + 1; rw [Array.size_push, List.size_toArray, List.length_map, m.1]; omega)
      have hup : ∀ b o, b ≠ S → h'.get? b = some o → (h'.update S (Obj.mapSeq fun x => x.push (.ref hp.objs.size))).get? b = some o := fun b o hb e => (Heap.get?_update_other _ _ (Ne.symm hb)).trans e
      have hsz2 : (h'.update S (Obj.mapSeq fun x => x.push (.ref hp.objs.size))).objs.size = h'.objs.size := (Heap.SameBut.update ..).1
      have hS2 := Heap.get?_update_self (Obj.mapSeq fun x => x.push (.ref hp.objs.size)) hS' rfl
      have m1 : Made P1 P2 lim h' ps i := m.keep fun b o hb e => hq b o (up hz hb) (up hTO hb) (up hi1 hb) (up hi2 hb) e
      have m2 : Made P1 P2 lim h' (ps ++ [(hp.objs.size, x1, x2)]) (i + 1) := m1.snoc hl ht hx1 hx2 fun p hp' => by
        obtain ⟨j, hj⟩ := List.mem_iff_getElem?.mp hp'
        exact Nat.ne_of_lt (Heap.lt_size (m.2.2 j p hj).2.1)
      obtain ⟨c2, hc2⟩ : ∃ c2, listAt (h'.update S (Obj.mapSeq fun x => x.push (.ref hp.objs.size))) S (ps ++ [(hp.objs.size, x1, x2)]) c2 := ⟨_, by
        show Heap.get? _ _ = _
        rw [hS2]
        simp only [Obj.mapSeq, List.map_append, List.map_cons, List.map_nil, List.push_toArray]
        rfl⟩
      refine ih (i + 1) ⟨h'.update S (Obj.mapSeq fun x => x.push (.ref hp.objs.size)), g, d, tk, os⟩ (ps ++ [(hp.objs.size, x1, x2)]) c2 (by omega) hlt ?_ ?_ ?_ ?_ ?_
      · show lim ≤ (h'.update S (Obj.mapSeq fun x => x.push (.ref hp.objs.size))).objs.size
        rw [hsz2, hsz]
        have : lim ≤ hp.objs.size := hl
        omega
      · exact st'.over D1 D2 hS s1 s2 s3 s4 s5 hup
      · exact hc2
      · exact m2.keep fun b o hb e => hup b o (up hS hb) e
      · intro h2 tk2 ps' c' hk2 hL2 m3
        refine hR h2 tk2 ps' c' (fun b o hb e => hk2 b o hb (hup b o (fun q => hb (by simp [q])) ?_)) hL2 m3
        simp only [List.mem_cons, List.not_mem_nil, or_false, not_or] at hb
        exact hq b o hb.2.1 hb.2.2.1 hb.2.2.2.1 hb.2.2.2.2 e
    obtain ⟨hTI, st1, st2, zz⟩ := st
    rcases zz with ⟨zz, a, b, tt⟩ | ⟨T, f, oT, zz, hT, hlT⟩
    · refine wpAny_bind (wpAny_pyNext_zipD2_item Z D1 D2 zz hTI tt st1 st2 (by omega) (by omega) fun x1 x2 h' tk a1 a2 a3 a4 a5 a6 a7 a8 hq => ?_)
      exact key x1 x2 h' tk a1 a2 a7 a8 ⟨hq _ _ Z.TIz Z.TITO Z.TIi1 Z.TIi2 hTI, a5, a6, .inr ⟨_, false, _, a3, a7, hl⟩⟩ hq
    · refine wpAny_bind (pyNext_held Z D1 D2 zz hT hTI st1 st2 (by omega) (by omega) fun x1 x2 h' tk a1 a2 a3 a5 a6 a7 a8 hq => ?_)
      exact key x1 x2 h' tk a1 a2 a7 a8 ⟨hq _ _ Z.TIz Z.TIi1 Z.TIi2 hTI, a5, a6, .inr ⟨T, true, oT, a3, hq _ _ (up hz hlT) (up hi1 hlT) (up hi2 hlT) hT, hlT⟩⟩ fun c o c1 _ c3 c4 e => hq c o c1 c3 c4 e
end
end DLZip
end PySem
set_option maxHeartbeats 4000000
namespace PySem
namespace DLZip
open Sem (wp)
/-! ## a list or a tuple that a zip walks -/
def sAt (t : Bool) (a : Addr) (xs : Array Value) (h : Heap) : Prop := match t with | false => h.IsList a xs | true => h.IsTuple a xs
def sSt (t : Bool) (it a : Addr) (xs : Array Value) (i : Nat) (h : Heap) : Prop := match t with
  | false => h.IsListIter it a i ∧ h.IsList a xs
  | true => h.IsTupleIter it a i ∧ h.IsTuple a xs
theorem sAt.keeps {t : Bool} {a : Addr} {xs : Array Value} {h h' : Heap} (x : sAt t a xs h) (k : ∀ b o, h.get? b = some o → h'.get? b = some o) : sAt t a xs h' := by
  cases t
  · exact (begins_list a xs).keeps _ _ x k
  · exact (begins_tuple a xs).keeps _ _ x k
theorem sAt.lt {t : Bool} {a : Addr} {xs : Array Value} {h : Heap} (x : sAt t a xs h) : a < h.objs.size := by
  cases t
  · obtain ⟨o, e, _⟩ := x; exact Heap.lt_size e
  · obtain ⟨o, e, _⟩ := x; exact Heap.lt_size e
section
variable {prog : Program} {w : World} {A : Around} {E : Value → Shared → Prop} {s : Shared}
structure ZipNew (n l1 l2 : Addr) (t1 t2 : Bool) (xs ys : Array Value) (h : Heap) : Prop where
  z : IsZip h (n + 4) (n + 2) (n + 3) .none
  ti : IsTupOf2 h (n + 2) (.ref n) (.ref (n + 1))
  to : IsTupOf2 h (n + 3) .none .none
  a : sSt t1 n l1 xs 0 h
  b : sSt t2 (n + 1) l2 ys 0 h
  size : h.objs.size = n + 5
theorem sSt.keeps {t : Bool} {it a : Addr} {xs : Array Value} {i : Nat} {h h' : Heap} (x : sSt t it a xs i h) (k : ∀ b o, h.get? b = some o → h'.get? b = some o) : sSt t it a xs i h' := by
  cases t
  · exact ⟨x.1.at fun o e => k _ o e, x.2.at fun o e => k _ o e⟩
  · exact ⟨x.1.at fun o e => k _ o e, x.2.at fun o e => k _ o e⟩
theorem ZipNew.push {n l1 l2 : Addr} {t1 t2 : Bool} {xs ys : Array Value} {h h' : Heap} (z : ZipNew n l1 l2 t1 t2 xs ys h) (k : ∀ b o, h.get? b = some o → h'.get? b = some o) (lim : Nat) :
    At (n + 4) (n + 2) (n + 3) n (n + 1) (sSt t1 n l1 xs) (sSt t2 (n + 1) l2 ys) lim 0 h' :=
  ⟨k _ _ z.ti, z.a.keeps k, z.b.keeps k, .inl ⟨k _ _ z.z, _, _, k _ _ z.to⟩⟩
end
end DLZip
end PySem
set_option maxHeartbeats 4000000
namespace DL
open PySem PySem.Spec PyProof.Rows L2
variable [Mode]
/-! ## list(zip(a, b)) -/
section
variable {X : Cx} {pins : List (Addr × Obj)} {σ : L2.St} {H F : Hp} {s : Shared} {K : PySem.W.Frag} {ι : List Addr} {S : zae}
end
section
variable {X : Cx} {W : WX} {e a b c : Expr} {ta tb : TE} {p p2 pos pos2 : Pos}
end
end DL
set_option maxHeartbeats 4000000
namespace DL
open PySem PySem.Spec PyProof.Rows L2
variable [Mode]
/-! ## {"step": 4, "join": 3}[x] -/
section
variable {X : Cx} {W : WX} {b : Expr} {pos dpos : Pos} {f : XFn}
end
end DL
set_option maxHeartbeats 4000000
namespace DL
open PySem PySem.Spec PyProof.Rows L2
variable [Mode]
/-! ## NAME.get(k, x) of a table at the module's top: texts to ints -/
section
variable {X : Cx} {W : WX} {e f : Expr} {np apos cpos : Pos} {ty tx : TE} {n : Str} {D : List (Str × Int)}
end
/-! ## in the head -/
end DL
set_option maxHeartbeats 4000000
namespace DL
open PySem PySem.Spec PyProof.Rows L2
variable [Mode]
/-! ## f(*y): y a tuple of as many items as f has parameters -/
section
variable {X : Cx} {W : WX} {e : Expr} {sp_ p pos : Pos}
end
end DL
set_option maxHeartbeats 8000000
namespace PySem
namespace DLSetW
open L2 PyProof.Rows DLSetT
section
variable {P : Program} {w : World} {A : Around} {E : Value → Shared → Prop} {s : Shared}
structure SetW (P : Program) (w : World) (h : Heap) (a : Addr) (L : List (Addr × List Int)) : Prop where
  ex : ∃ (es : Array (Int × Value)) (ep : Nat) (t : SetTable), SetAt h a es ep t ∧ es.toList = rowsOf P w L ∧ t.fits es.size = true ∧ Ris t.place.toList ∧ (w.params.followText "set-order" = true ∨ t.led = true)
  nd : (L.map (·.2)).Nodup
  few : L.length ≤ 64
theorem SetW.of {a : Addr} {L : List (Addr × List Int)} {es : Array (Int × Value)} {ep : Nat} {t : SetTable} (R : SetTR P w s.heap a L es ep t) : SetW P w s.heap a L := by
  obtain ⟨o, g1, g2, g3⟩ := R.ob
  exact ⟨⟨es, ep, t, ⟨o, g1, g2.1, g3⟩, R.rows, R.fits, R.tab.ris, R.led⟩, R.nd, Nat.le_of_lt R.few⟩
end
end DLSetW
end PySem
set_option maxHeartbeats 8000000
namespace PySem
namespace DLSetW
open L2 PyProof.Rows DLSetT
section
variable {P : Program} {w : World} {A : Around} {E : Value → Shared → Prop} {s : Shared}
theorem SetW.keep {h g : Heap} {a : Addr} {L : List (Addr × List Int)} (R : SetW P w h a L) (k : ∀ o, h.get? a = some o → g.get? a = some o) : SetW P w g a L := by
  obtain ⟨⟨es, ep, t, ⟨o, q, r⟩, z⟩, nd, few⟩ := R
  exact ⟨⟨es, ep, t, ⟨o, k o q, r⟩, z⟩, nd, few⟩
end
end DLSetW
end PySem
set_option maxHeartbeats 8000000
namespace PySem
namespace DLSetW
open L2 PyProof.Rows DLSetT PySem.W
section
variable {P : Program} {w : World} {A : Around} {E : Value → Shared → Prop} {s : Shared}
end
end DLSetW
end PySem
set_option maxHeartbeats 8000000
namespace PySem
namespace DLSetW
open L2 PyProof.Rows DLSetT
section
variable {P : Program} {w : World} {A : Around} {E : Value → Shared → Prop} {s : Shared}
end
end DLSetW
end PySem
namespace DL
open PySem PySem.Spec PyProof.Rows L2 PySem.DLSetW
variable [Mode]
section
variable {X : Cx} {W : WX} {e a b c : Expr} {es : List Expr} {pos p : Pos} {K : PySem.W.Frag} {ι : List Addr} {F H : Hp} {S : zae} {mg : Str → Option Value}
end
end DL
set_option maxHeartbeats 4000000
namespace DL
open PySem PySem.Spec PyProof.Rows L2
variable [Mode]
section
variable {X : Cx} {W : WX} {e a b c : Expr} {es : List Expr} {pos p : Pos} {K : PySem.W.Frag} {ι : List Addr} {F H : Hp} {S : zae} {mg : Str → Option Value}
/-! ## a, b, c = a tuple or a list that is left as it is -/
end
end DL
set_option maxHeartbeats 4000000
namespace DL
open PySem PySem.Spec PyProof.Rows L2
section
variable {X : Cx} {W : WX} {e a b c : Expr} {es : List Expr} {pos p : Pos} {K : PySem.W.Frag} {ι : List Addr} {F H : Hp} {S : zae} {mg : Str → Option Value}
/-! ## bool(x) -/
end
end DL
set_option maxHeartbeats 4000000
namespace DL
open PySem PySem.Spec PyProof.Rows L2
variable [Mode]
section
variable {X : Cx} {W : WX} {e a b c : Expr} {es : List Expr} {pos p : Pos} {K : PySem.W.Frag} {ι : List Addr} {F H : Hp} {S : zae} {mg : Str → Option Value}
/-! ## err.f, of a kept exception -/
/-! ## the __init__ of an error with a thing of its own -/
theorem pe_rinit {x : Str} {R : Addr} {ta : TA} {p1 p2 : Pos} {pl : Sem Bool} (hg : Gl X x) (hm : X.mg x = some (.ref R)) (kg : PySem.W.specialIn X.K (.ref R) "__getattribute__" = some (some (.builtin "type.__getattribute__"))) (tR : PySem.W.typeIn X.K (.ref R) = some (.type "type")) (rR : PySem.W.readsIn X.K R (.type "type") = true)
    (vV : PySem.W.findCls X.K (.ref R) (.type "type") "__init__" = some (.val (.builtin "ValueError.__init__"))) (ha : PA X (e :: es) ta) (hdb : (x == ("__debug__" : Str)) = false := by decide)
    (hc : eval (.Call (.Attribute (.Name x p1) "__init__" p2) (e :: es) [] pos) X.env = (do
      let ov ← eval (.Name x p1) X.env
      standAt p2.atName
      let (f, first) ← holding [ov] (getMethod ov "__init__" pl)
      callWith pos f first (backTo pos (starEach (e :: es) X.env)) (backToKw pos (keywordEach [] X.env))) := by rfl)
    (he : starEach (e :: es) X.env = (false, eval e X.env) :: starEach es X.env := by rfl) (hpl : (backTo pos (starEach es X.env)).any (·.1) = false := by rfl) :
    PE X (.Call (.Attribute (.Name x p1) "__init__" p2) (e :: es) [] pos) (tVeI X.K ta) := by
  refine ⟨fun pins s σ H Q I h => ?_⟩
  refine PySem.W.methodCall_KW (ld_glob I hg hm ?_ hdb) hc
  obtain ⟨m, fr⟩ := I.fr
  refine PySem.W.method_of_cls fr I.ok.mod.kin kg (PySem.W.cls_val fr I.ok.mod.kin tR rR vV (by decide +kernel) ?_)
  show wpAny _ _ (callWith pos (Value.builtin "ValueError.__init__") [] (backTo pos (starEach (e :: es) X.env)) []) _ _ _
  refine PyProof.Rows.callWith_method1 (thn (ha.run pos pins _ σ H _ (I.tok _) h) fun us s1 ⟨vs, H1, I1, r1, a, C, ws, ev, hl, T, ea, q⟩ => ?_) he hpl
  subst ev
  cases r1 with
  | @cons _ u0 _ ur ra rw' =>
    obtain rfl : u0 = Value.ref a := ra
    have hlen : ur.length ≤ sizeLine := by
      rw [← Paired.length rw', sizeLine_eq]
      omega
    exact oinit_ok T I1 ea hlen fun s' J => ⟨.non, H1, J, rfl, q⟩
def spXi (K : PySem.W.Frag) (C : Addr) (f : Str) : Sp := fun vs H Q _ => ∃ (a : Addr) (y : V), vs = [.ref a, y] ∧ OexC K C ∧ PySem.W.findIn K (.ref C) f = some none ∧ H a = some (exo a C none) ∧
  ∀ dx, H dx = none → dx ≠ a → Q .non (upd (upd H dx (exd dx [(f, y)])) a (exo a C (some dx)))
theorem len_xi {C : Addr} {f : Str} : ∀ vs H Q E, spXi K C f vs H Q E → vs.length = 2 := fun vs H Q E ⟨a, y, e, _⟩ => by rw [e]; rfl
theorem xi_sem {C : Addr} {f m : Str} {vs : List V} {H : Hp} {Q : VK} {E : XK} {N : List Str} (hN : N.length = 2) (h : spXi K C f vs H Q E) :
    tSeq (tDrop (tVeI K (tCons (tVar 0) (tCons (tC (.str m)) tNil)))) (tOst K f (tVar 0) (tVar 1)) { nx := fun _ H' => Q .non H', rt := Q } (L2.start N vs) H := by
  obtain ⟨a, y, rfl, T, hno, ha, q⟩ := h
  have s0 : (L2.start N [V.ref a, y])[0]? = some (some (.ref a)) := by simp [L2.start]
  have s1 : (L2.start N [V.ref a, y])[1]? = some (some y) := by simp [L2.start]
  refine ⟨.ref a, s0, a, C, [.str m], rfl, by simp, T, ha, ?_⟩
  exact ⟨y, s1, .ref a, s0, a, C, rfl, T, hno, .inl ⟨ha, fun dx n ne => q dx n ne⟩⟩
structure XcD (K : PySem.W.Frag) (mg : Str → Option Value) (x f : Str) : Prop where
  mg : mg x = some (.ref (He.ga K x))
  T : OexC K (He.ga K x)
  no : PySem.W.findIn K (.ref (He.ga K x)) f = some none
structure XrD (K : PySem.W.Frag) (mg : Str → Option Value) (x : Str) : Prop where
  mg : mg x = some (.ref (He.ga K x))
  kg : PySem.W.specialIn K (.ref (He.ga K x)) "__getattribute__" = some (some (.builtin "type.__getattribute__"))
  tR : PySem.W.typeIn K (.ref (He.ga K x)) = some (.type "type")
  rR : PySem.W.readsIn K (He.ga K x) (.type "type") = true
  vV : PySem.W.findCls K (.ref (He.ga K x)) (.type "type") "__init__" = some (.val (.builtin "ValueError.__init__"))
structure XRaw (P : Program) (w : World) (K : PySem.W.Frag) (mg : Str → Option Value) (base : Heap) (x f : Str) : Prop where
  ex : ∃ fi fd ps, FnOk P w K mg base CX0 1 fi fd ps (spXi K (He.ga K x) f) ∧ PySem.W.findIn K (.ref (He.ga K x)) "__init__" = some (some (.ref fi)) ∧ PySem.W.typeIn K (.ref fi) = some (.type "function") ∧ Binds K fd ps []
  c : XcD K mg x f
theorem xraw {P : Program} {w : World} {base : Heap} {x y qual f : Str} {params : Arguments} {body : List Stmt} {scope : Scope} {N ps : List Str} (h : ∃ fi fd, FunD K y qual params body scope [] [] fi fd ∧ PySem.W.findIn K (.ref (He.ga K x)) "__init__" = some (some (.ref fi)) ∧ PySem.W.typeIn K (.ref fi) = some (.type "function")) (c : XcD K mg x f) (Sc : FnScope N ps scope) (h2 : ps.length = 2)
    (hb : ∀ (kV doc pm : Value) (an : Option Addr) (cdv ct : Value) (us : List Value), us.length = ps.length → bindArgs (PySem.W.fnOf y qual params body scope .none kV doc pm an cdv ct) ⟨us, []⟩ = pure (ps.zip us))
    (hbody : ∀ (fi : Addr) (cdv : Value) (A : Around) (outer : List Env) (s : Shared) (H : Hp) (vs : List V) (Q : VK) (E : XK), spXi K (He.ga K x) f vs H Q E →
      ∃ t, PSs (cxOf CX0 P w K mg base N qual scope fi cdv A outer s H E) body t ∧ t { nx := fun _ H' => Q .non H', rt := Q } (L2.start N vs) H) : XRaw P w K mg base x f := by
  obtain ⟨fi, fd, Fd, h3, h4⟩ := h
  exact ⟨⟨fi, fd, ps, Fd.ok Sc (fun vs H Q E q => by rw [len_xi vs H Q E q, h2]) (fun cdv A outer s H vs Q E _ q => hbody fi cdv A outer s H vs Q E q), h3, h4, Fd.bindsN hb⟩, c⟩
/-! ## raise C(e) -/
def sRaiseP (c f : Str) (g : XFn) : SFn := fun ρ S => match g ρ S with
  | .ok (.dat y) S1 => .ex ⟨c, some (f, y)⟩ ρ S1
  | .ex x S1 => .ex x ρ S1
  | _ => .bad
theorem ds_raiseP {x f : Str} {g : XFn} {p3 : Pos} (hc : X.calm = true) (tk : Takes X W) (M : XRaw X.prog X.w X.K X.mg X.base x f) (hr : RoomH 2 X.A) (h : DE X W e g) (hg : Gl X x := by rfl) (hdb : (x == ("__debug__" : Str)) = false := by decide)
    (he : starEach (e :: []) X.env = (false, eval e X.env) :: starEach [] X.env := by rfl) (hpl : (backTo p3 (starEach [] X.env)).any (·.1) = false := by rfl) :
    DS X W (.Raise (some (.Call (.Name x p) [e] [] p3)) none pos) (sRaiseP x f g) := by
  obtain ⟨fi, fd, ps, F, iC, tI, hb⟩ := M.ex
  refine ⟨_, ps_raise hc tk (fun pins s σ H Q I h2 => pmk_oex M.c.T iC tI F (k := 1) ⟨I.ok.hd hc, hr.dp, hr.un⟩ hb .nil pass0 hg M.c.mg (pa_cons h.pe pa_nil he) hdb he hpl pins s σ H Q I h2), fun D σ H ⟨ι, F, ρ, S, r, h⟩ => ?_⟩
  refine tD.bindS (g := fun ρ dv S1 => match dv with | .dat y => .ex ⟨x, some (f, y)⟩ ρ S1 | _ => .bad) r (D := D) ?_ fun v dv ι1 F1 S1 H1 r1 w1 g1 h1 => ?_
  · unfold sRaiseP at h
    cases q : g ρ S with
    | ok dv S1 =>
      rw [q] at h
      cases dv <;> exact h
    | ex c S1 => rw [q] at h; exact h
    | bad => rw [q] at h; exact h
  · cases dv with
    | dat y =>
      refine ⟨by simp, fun a ha => ⟨a, v, rfl, M.c.T, M.c.no, upd_same, fun dx n ne => ⟨rfl, dx, [(f, v)], upd_same, by rw [upd_ne ne, upd_same], ?_⟩⟩⟩
      have n1 : H1 dx = none := by rw [upd_ne ne] at n; exact n
      refine ⟨n1, ?_⟩
      have eH : upd (del (upd (upd (upd H1 a (exo a (He.ga X.K x) none)) dx (exd dx [(f, v)])) a (exo a (He.ga X.K x) (some dx))) a) dx (.xd [(f, v)]) = upd H1 dx (.xd [(f, v)]) := by
        funext b
        by_cases hb : b = dx
        · rw [hb, upd_same, upd_same]
        · rw [upd_ne hb, upd_ne hb]
          by_cases hba : b = a
          · rw [hba, del_same, ha]
          · rw [del_ne hba, upd_ne hba, upd_ne hb, upd_ne hba]
      rw [eH]
      exact h1 (He.ga X.K x, some dx) σ ι1 (upd F1 dx (.xd [(f, v)])) (upd H1 dx (.xd [(f, v)])) (zhy r1.st.sub n1 _) (r1.push n1 _) ⟨M.c.mg, dx, v, rfl, upd_same, Wd.mono (zhu r1.st.sub n1 _) w1⟩
    | obj k => exact h1.elim
    | scr ns => exact h1.elim
    | exn c p => exact h1.elim
    | fn _ => exact h1.elim
    | spc _ => exact h1.elim
/-! ## what the head must show of it -/
def oexL (K : PySem.W.Frag) (C : Addr) : Bool := match K.lookup C with
  | some ⟨.type "type", _, .cls cd, sl⟩ => (match cd.mro, sl.toList with
    | .ref C' :: bm, [_, _, _, _, some (.builtin n), _] => C' == C && (n == "ValueError.__new__" && (!cd.hasDel && (cd.hasDict && HandSPX.refsVE bm)))
    | _, _ => false)
  | _ => false
def oexB (K : PySem.W.Frag) (C : Addr) : Bool := oexL K C && (He.eqO (PySem.W.findIn K (.ref C) "__setattr__") (some (some (.builtin "object.__setattr__"))) && (decide (PySem.W.subIn K (.ref C) (.type "BaseException") = some true) && (decide (PySem.W.typeIn K (.ref C) = some (.type "type")) && PySem.W.keepIn K (.ref C))))
theorem oexL_ok {C : Addr} (q : oexL K C = true) : ∃ nm q N bs bm sn sub ab col dd k0 k1 k2 k3 k5, K.lookup C = some (excClassObj nm q C N bs bm true sn sub ab col dd k0 k1 k2 k3 k5 "ValueError.__new__") ∧ HandSPX.refsVE bm = true := by
  unfold oexL at q
  split at q
  · rename_i dd cd sl ho
    split at q
    · rename_i C' bm k0 k1 k2 k3 n k5 hm hs
      simp only [Bool.and_eq_true, beq_iff_eq, Bool.not_eq_true'] at q
      obtain ⟨rfl, rfl, hdel, hd, hr⟩ := q
      obtain ⟨nm, bs, mro, ns, qn, hd', sn, sub, ab, col, del⟩ := cd
      dsimp only at hm hdel hd
      subst hm hdel hd
      have hsl : sl = #[k0, k1, k2, k3, some (.builtin "ValueError.__new__"), k5] := by
        obtain ⟨l⟩ := sl
        simp only at hs
        rw [hs]
      subst hsl
      exact ⟨nm, qn, ns, bs, bm, sn, sub, ab, col, dd, k0, k1, k2, k3, k5, ho, hr⟩
    · cases q
  · cases q
theorem oexB_ok {C : Addr} (q : oexB K C = true) : OexC K C := by
  unfold oexB at q
  simp only [Bool.and_eq_true, decide_eq_true_eq] at q
  obtain ⟨h1, h2, h3, h4, h5⟩ := q
  exact ⟨oexL_ok h1, He.eqO_ok h2, h3, h4, h5⟩
theorem xcD_of {h : Heap} (X : K.In h) (G : h.Ns mainGlobals mg) {x f : Str} (c1 : (He.Fa.glo x).ok K = true) (c2 : (He.Fa.noat x f).ok K = true) (b : oexB K (He.ga K x) = true) : XcD K mg x f := ⟨He.glo_ok X G c1, oexB_ok b, He.noat_ok c2⟩
def xrB (K : PySem.W.Frag) (C : Addr) : Bool := He.eqO (PySem.W.specialIn K (.ref C) "__getattribute__") (some (some (.builtin "type.__getattribute__"))) && (decide (PySem.W.typeIn K (.ref C) = some (.type "type")) && (PySem.W.readsIn K C (.type "type") && (match PySem.W.findCls K (.ref C) (.type "type") "__init__" with
  | some (.val (.builtin n)) => n == "ValueError.__init__"
  | _ => false)))
theorem xrD_of {h : Heap} (X : K.In h) (G : h.Ns mainGlobals mg) {x : Str} (c1 : (He.Fa.glo x).ok K = true) (b : xrB K (He.ga K x) = true) : XrD K mg x := by
  unfold xrB at b
  simp only [Bool.and_eq_true, decide_eq_true_eq] at b
  obtain ⟨h1, h2, h3, h4⟩ := b
  refine ⟨He.glo_ok X G c1, He.eqO_ok h1, h2, h3, ?_⟩
  split at h4
  · rename_i n hn
    rw [beq_iff_eq] at h4
    rw [hn, h4]
  · cases h4
theorem xmeth_of {x : Str} {f : Addr} (M : Meth K (He.ga K x) "__init__" f) : PySem.W.findIn K (.ref (He.ga K x)) "__init__" = some (some (.ref f)) ∧ PySem.W.typeIn K (.ref f) = some (.type "function") := ⟨M.at_, beq_iff_eq.mp M.fn⟩
end
end DL
set_option maxHeartbeats 4000000
namespace DL
open PySem PySem.Spec PyProof.Rows L2
/-! ## repr is one-to-one on data without texts -/
def sh (d : PyData) : List Nat := d.shown.cps.toList
def zih : List PyData → List Nat
  | [] => []
  | [x] => sh x
  | x :: r => sh x ++ 44 :: 32 :: zih r
theorem zhs (a b : Str) : (a ++ b).cps.toList = a.cps.toList ++ b.cps.toList := by
  show (a.cps ++ b.cps).toList = _
  simp
theorem join_cps : ∀ xs : List PyData, (Str.join ", " (PyData.shownAll xs)).cps.toList = zih xs
  | [] => rfl
  | [x] => rfl
  | x :: y :: r => by
    have ih := join_cps (y :: r)
    show (x.shown ++ ", " ++ Str.join ", " (PyData.shownAll (y :: r))).cps.toList = sh x ++ 44 :: 32 :: zih (y :: r)
    rw [zhs, zhs, ih]
    have : ((", " : String) : Str).cps.toList = [44, 32] := by decide +kernel
    rw [this]
    simp [sh]
def zka : List PyData → List Nat
  | [] => []
  | x :: r => 44 :: 32 :: (sh x ++ zka r)
theorem zfk (x : PyData) : ∀ r, zih (x :: r) = sh x ++ zka r
  | [] => by simp [zih, zka]
  | y :: r => by
    show sh x ++ 44 :: 32 :: zih (y :: r) = _
    rw [zfk y r, zka]
theorem zl_ : ∀ (xs : List PyData) (k : Nat) (acc : Str), (textFrom (k + 1) acc (PyData.shownAll xs)).cps.toList = acc.cps.toList ++ zka xs
  | [], k, acc => by simp [PyData.shownAll, textFrom, zka]
  | x :: r, k, acc => by
    rw [PyData.shownAll, textFrom, zl_ r (k + 1), if_pos (Nat.succ_pos k), zhs, zhs, zka]
    have : ((", " : String) : Str).cps.toList = [44, 32] := by decide +kernel
    rw [this]
    simp [sh]
theorem sh_list (xs : List PyData) : sh (.list xs) = 91 :: (zih xs ++ [93]) := by
  show (listText (PyData.shownAll xs)).cps.toList = _
  unfold listText
  rw [zhs]
  have e1 : (("]" : String) : Str).cps.toList = [93] := by decide +kernel
  have e2 : (("[" : String) : Str).cps.toList = [91] := by decide +kernel
  have e0 : (("" : String) : Str).cps.toList = [] := by decide +kernel
  rw [e1]
  cases xs with
  | nil => rw [PyData.shownAll, textFrom, e2]; rfl
  | cons x r =>
    rw [PyData.shownAll, textFrom, zl_, if_neg (by decide), zhs, zhs, e2, e0, zfk]
    simp [sh]
theorem zq0 (xs : List PyData) : sh (.tuple xs) = 40 :: (zih xs ++ (if xs.length = 1 then [44, 41] else [41])) := by
  show (tupleText (PyData.shownAll xs)).cps.toList = _
  unfold tupleText
  have e2 : (("(" : String) : Str).cps.toList = [40] := by decide +kernel
  have e3 : ((",)" : String) : Str).cps.toList = [44, 41] := by decide +kernel
  have e4 : ((")" : String) : Str).cps.toList = [41] := by decide +kernel
  have el : ∀ ys : List PyData, (PyData.shownAll ys).length = ys.length := by
    intro ys
    induction ys with
    | nil => rfl
    | cons y ys ih => simp [PyData.shownAll, ih]
  rw [zhs, zhs, join_cps, e2, el]
  by_cases h : xs.length = 1
  · simp [h, e3]
  · simp [h, e4]
def isD1 (c : Nat) : Prop := c = 45 ∨ (48 ≤ c ∧ c ≤ 57)
theorem zme (i : Int) : ∀ c ∈ sh (.int i), isD1 c := by
  intro c hc
  refine Classical.byContradiction fun h => ?_
  refine shown_int_free' (k := c) ?_ i hc
  unfold isD1 at h
  omega
theorem str_cps (s : String) : ((s : String) : Str).cps.toList = s.toList.map Char.toNat := by
  show (Str.ofString s).cps.toList = _
  rw [Str.ofString_eq_toList]
theorem map_inj {f : Char → Nat} (hf : ∀ a b, f a = f b → a = b) : ∀ {l m : List Char}, l.map f = m.map f → l = m
  | [], [], _ => rfl
  | [], _ :: _, h => by simp at h
  | _ :: _, [], h => by simp at h
  | a :: l, b :: m, h => by
    simp only [List.map_cons, List.cons.injEq] at h
    rw [hf a b h.1, map_inj hf h.2]
theorem char_inj (a b : Char) (h : a.toNat = b.toNat) : a = b := by
  apply Char.ext
  exact UInt32.toNat_inj.mp h
theorem sh_int (i : Int) : sh (.int i) = (toString i).toList.map Char.toNat := by
  show (PyData.int i).shown.cps.toList = _
  rw [PyData.shown_int]
  exact str_cps _
theorem int_str_inj {i j : Int} (h : toString i = toString j) : i = j := by
  have := congrArg String.toInt? h
  simpa using this
theorem sh_int_inj {i j : Int} (h : sh (.int i) = sh (.int j)) : i = j := by
  rw [sh_int, sh_int] at h
  exact int_str_inj (String.ext (map_inj char_inj h))
def Stop (s : List Nat) : Prop := ∀ c r, s = c :: r → c = 44 ∨ c = 41 ∨ c = 93
theorem zeg {c : Nat} {r : List Nat} (h : c = 44 ∨ c = 41 ∨ c = 93) : Stop (c :: r) := fun _ _ e => by cases e; exact h
theorem zlx : Stop [] := fun _ _ e => nomatch e
theorem zpz {P : Nat → Prop} (hp : ∀ c, c = 44 ∨ c = 41 ∨ c = 93 → ¬ P c) : ∀ {a b s t : List Nat}, (∀ c ∈ a, P c) → (∀ c ∈ b, P c) → Stop s → Stop t → a ++ s = b ++ t → a = b ∧ s = t
  | [], [], s, t, _, _, _, _, h => ⟨rfl, by simpa using h⟩
  | [], b :: bs, s, t, _, hb, hs, _, h => by
    have h : s = b :: (bs ++ t) := by simpa using h
    exact absurd (hb b (by simp)) (hp b (hs b _ h))
  | a :: as, [], s, t, ha, _, _, ht, h => by
    have h : t = a :: (as ++ s) := by simpa using h.symm
    exact absurd (ha a (by simp)) (hp a (ht a _ h))
  | a :: as, b :: bs, s, t, ha, hb, hs, ht, h => by
    simp only [List.cons_append, List.cons.injEq] at h
    have := zpz (P := P) hp (fun c hc => ha c (by simp [hc])) (fun c hc => hb c (by simp [hc])) hs ht h.2
    exact ⟨by rw [h.1, this.1], this.2⟩
theorem int_ne (i : Int) : sh (.int i) ≠ [] := by
  rw [sh_int]
  intro h
  have h : (toString i).toList = [] := by simpa using h
  have e : toString i = "" := String.ext (by simpa using h)
  cases i with
  | ofNat n => exact Nat.repr_ne_empty (n := n) e
  | negSucc n =>
    have e2 := congrArg String.toList e
    have : toString (Int.negSucc n) = "-" ++ Nat.repr (n + 1) := rfl
    rw [this, String.toList_append] at e2
    simp at e2
def kd : PyData → Nat
  | .none => 78 | .bool true => 84 | .bool false => 70 | .int _ => 0 | .str _ => 1 | .list _ => 91 | .tuple _ => 40 | .dict _ => 123
theorem sh_head (d : PyData) : ∃ c r, sh d = c :: r ∧ (c = kd d ∨ (kd d = 0 ∧ isD1 c) ∨ (kd d = 1 ∧ (c = 34 ∨ c = 39))) := by
  cases d with
  | none => exact ⟨78, _, by show (("None" : String) : Str).cps.toList = 78 :: [111, 110, 101]; decide +kernel, .inl rfl⟩
  | bool b =>
    cases b
    · exact ⟨70, _, by show (("False" : String) : Str).cps.toList = 70 :: [97, 108, 115, 101]; decide +kernel, .inl rfl⟩
    · exact ⟨84, _, by show (("True" : String) : Str).cps.toList = 84 :: [114, 117, 101]; decide +kernel, .inl rfl⟩
  | int i =>
    cases h : sh (.int i) with
    | nil => exact absurd h (int_ne i)
    | cons c r => exact ⟨c, r, rfl, .inr (.inl ⟨rfl, zme i c (by rw [h]; simp)⟩)⟩
  | str x =>
    have e : sh (.str x) = reprQuote x :: (x.cps.toList.flatMap (fun c => Builtin.Str.reprChar (reprQuote x) c) ++ [reprQuote x]) := by
      show (reprText x).cps.toList = _
      unfold reprText
      have : ∀ (l : List Nat) (acc : Array Nat), (l.foldl (fun out c => out ++ (Builtin.Str.reprChar (reprQuote x) c).toArray) acc).toList = acc.toList ++ l.flatMap fun c => Builtin.Str.reprChar (reprQuote x) c := by
        intro l
        induction l with
        | nil => simp
        | cons a l ih => intro acc; simp [List.foldl_cons, ih]
      rw [← Array.foldl_toList]
      simp [this]
      first | done | (rw [List.flatMap_def]; rfl)
    refine ⟨_, _, e, .inr (.inr ⟨rfl, ?_⟩)⟩
    unfold reprQuote
    split <;> simp
  | list xs => exact ⟨91, _, sh_list xs, .inl rfl⟩
  | tuple xs => exact ⟨40, _, zq0 xs, .inl rfl⟩
  | dict kvs =>
    refine ⟨123, ((Str.join ", " (PyData.shownKv kvs)).cps.toList ++ [125]), ?_, .inl rfl⟩
    show (dictText (PyData.shownKv kvs)).cps.toList = _
    unfold dictText
    have e1 : (("{" : String) : Str).cps.toList = [123] := by decide +kernel
    have e2 : (("}" : String) : Str).cps.toList = [125] := by decide +kernel
    rw [zhs, zhs, e1, e2]
    simp
mutual
def noTx : PyData → Bool
  | .none | .bool _ | .int _ => true
  | .str _ | .dict _ => false
  | .list xs | .tuple xs => noTxs xs
def noTxs : List PyData → Bool
  | [] => true
  | x :: r => noTx x && noTxs r
end
theorem kd_eq {x y : PyData} {s t : List Nat} (h : sh x ++ s = sh y ++ t) : kd x = kd y := by
  obtain ⟨c, r, e1, h1⟩ := sh_head x
  obtain ⟨c', r', e2, h2⟩ := sh_head y
  rw [e1, e2] at h
  simp only [List.cons_append, List.cons.injEq] at h
  have hc := h.1
  subst hc
  unfold isD1 at h1 h2
  have k1 : ∀ z : PyData, kd z = 0 ∨ kd z = 1 ∨ kd z = 78 ∨ kd z = 84 ∨ kd z = 70 ∨ kd z = 91 ∨ kd z = 40 ∨ kd z = 123 := by
    intro z
    cases z with
    | bool b => cases b <;> simp [kd]
    | _ => simp [kd]
  have a := k1 x
  have b := k1 y
  omega
theorem zl0 (xs : List PyData) {c : Nat} {s : List Nat} (h : c = 41 ∨ c = 93) : Stop (zka xs ++ c :: s) := by
  cases xs with
  | nil => exact zeg (.inr h)
  | cons x r => exact zeg (.inl rfl)
theorem zl6 (x : PyData) {c : Nat} {r s : List Nat} (h : c = 41 ∨ c = 93) (e : sh x ++ r = c :: s) : False := by
  obtain ⟨c', r', e1, h1⟩ := sh_head x
  rw [e1] at e
  simp only [List.cons_append, List.cons.injEq] at e
  have hc := e.1
  subst hc
  unfold isD1 at h1
  have : kd x = 0 ∨ kd x = 1 ∨ kd x = 78 ∨ kd x = 84 ∨ kd x = 70 ∨ kd x = 91 ∨ kd x = 40 ∨ kd x = 123 := by
    cases x with
    | bool b => cases b <;> simp [kd]
    | _ => simp [kd]
  omega
mutual
theorem zio : ∀ (y x : PyData) {s t : List Nat}, noTx y = true → Stop s → Stop t → sh x ++ s = sh y ++ t → x = y ∧ s = t
  | .none, x, s, t, _, _, _, h => by
    have k := kd_eq h
    have : x = .none := by
      cases x with
      | bool b => cases b <;> simp [kd] at k
      | _ => first | rfl | simp [kd] at k
    subst this
    exact ⟨rfl, List.append_cancel_left h⟩
  | .bool b, x, s, t, _, _, _, h => by
    have k := kd_eq h
    have : x = .bool b := by
      cases x with
      | bool c => cases b <;> cases c <;> first | rfl | simp [kd] at k
      | _ => cases b <;> simp [kd] at k
    subst this
    exact ⟨rfl, List.append_cancel_left h⟩
  | .int j, x, s, t, _, hs, ht, h => by
    have k := kd_eq h
    obtain ⟨i, rfl⟩ : ∃ i, x = .int i := by
      cases x with
      | bool b => cases b <;> simp [kd] at k
      | int i => exact ⟨i, rfl⟩
      | _ => simp [kd] at k
    have := zpz (P := isD1) (by unfold isD1; omega) (zme i) (zme j) hs ht h
    exact ⟨by rw [sh_int_inj this.1], this.2⟩
  | .str _, _, _, _, h, _, _, _ => by simp [noTx] at h
  | .dict _, _, _, _, h, _, _, _ => by simp [noTx] at h
  | .list ys, x, s, t, hy, hs, ht, h => by
    have k := kd_eq h
    obtain ⟨xs, rfl⟩ : ∃ xs, x = .list xs := by
      cases x with
      | bool b => cases b <;> simp [kd] at k
      | list xs => exact ⟨xs, rfl⟩
      | _ => simp [kd] at k
    rw [sh_list, sh_list] at h
    simp only [List.cons_append, List.cons.injEq, true_and, List.append_assoc, List.nil_append] at h
    have := joins_cancel ys xs (by simpa [noTx] using hy) (.inr rfl) h
    exact ⟨by rw [this.1], this.2⟩
  | .tuple ys, x, s, t, hy, hs, ht, h => by
    have k := kd_eq h
    obtain ⟨xs, rfl⟩ : ∃ xs, x = .tuple xs := by
      cases x with
      | bool b => cases b <;> simp [kd] at k
      | tuple xs => exact ⟨xs, rfl⟩
      | _ => simp [kd] at k
    rw [zq0, zq0] at h
    simp only [List.cons_append, List.cons.injEq, true_and, List.append_assoc] at h
    have hy' : noTxs ys = true := by simpa [noTx] using hy
    match xs, ys, hy', h with
    | [], [], _, h => simp [zih] at h; exact ⟨rfl, h⟩
    | [], [y], _, h =>
      simp only [zih, List.length_nil, List.length_cons, Nat.zero_add, if_true, List.nil_append, List.cons_append] at h
      rw [if_neg (by decide)] at h
      exact (zl6 y (.inl rfl) h.symm).elim
    | [], y :: y2 :: r, _, h =>
      rw [zfk] at h
      simp only [zih, List.length_nil, List.nil_append, List.append_assoc] at h
      rw [if_neg (by decide), if_neg (by simp)] at h
      exact (zl6 y (.inl rfl) h.symm).elim
    | [x], [], _, h =>
      simp only [zih, List.length_nil, List.length_cons, Nat.zero_add, if_true, List.nil_append, List.cons_append] at h
      rw [if_neg (by decide)] at h
      exact (zl6 x (.inl rfl) h).elim
    | x :: x2 :: r, [], _, h =>
      rw [zfk] at h
      simp only [zih, List.length_nil, List.nil_append, List.append_assoc] at h
      rw [if_neg (by simp), if_neg (by decide)] at h
      exact (zl6 x (.inl rfl) h).elim
    | [x], [y], hy', h =>
      simp only [zih, List.length_nil, List.length_cons, Nat.zero_add, if_true, List.cons_append, List.nil_append] at h
      have := zio y x (by simpa [noTxs] using hy') (zeg (.inl rfl)) (zeg (.inl rfl)) h
      exact ⟨by rw [this.1], by simpa using this.2⟩
    | [x], y :: y2 :: r, hy', h =>
      rw [zfk y] at h
      simp only [zih, List.length_nil, List.length_cons, Nat.zero_add, if_true, List.cons_append, List.nil_append, List.append_assoc, zka] at h
      rw [if_neg (by omega)] at h
      have := zio y x (by simp [noTxs] at hy'; exact hy'.1) (zeg (.inl rfl)) (zeg (.inl rfl)) h
      simp at this
    | x :: x2 :: r, [y], hy', h =>
      rw [zfk x] at h
      simp only [zih, List.length_nil, List.length_cons, Nat.zero_add, if_true, List.cons_append, List.nil_append, List.append_assoc, zka] at h
      rw [if_neg (by omega)] at h
      have := zio y x (by simpa [noTxs] using hy') (zeg (.inl rfl)) (zeg (.inl rfl)) h
      simp at this
    | x :: x2 :: r, y :: y2 :: r', hy', h =>
      rw [if_neg (by simp), if_neg (by simp)] at h
      have := joins_cancel (y :: y2 :: r') (x :: x2 :: r) hy' (.inl rfl) h
      exact ⟨by rw [this.1], this.2⟩
theorem joins_cancel : ∀ (ys xs : List PyData) {c : Nat} {s t : List Nat}, noTxs ys = true → (c = 41 ∨ c = 93) → zih xs ++ c :: s = zih ys ++ c :: t → xs = ys ∧ s = t
  | [], [], c, s, t, _, _, h => by simp [zih] at h; exact ⟨rfl, h⟩
  | [], x :: r, c, s, t, _, hc, h => by
    rw [zfk] at h
    simp only [zih, List.nil_append, List.append_assoc] at h
    exact (zl6 x hc h).elim
  | y :: r, [], c, s, t, _, hc, h => by
    rw [zfk] at h
    simp only [zih, List.nil_append, List.append_assoc] at h
    exact (zl6 y hc h.symm).elim
  | y :: ys, x :: xs, c, s, t, hy, hc, h => by
    rw [zfk, zfk] at h
    simp only [List.append_assoc] at h
    have hy : noTx y = true ∧ noTxs ys = true := by simpa [noTxs] using hy
    have h1 := zio y x hy.1 (zl0 xs hc) (zl0 ys hc) h
    have h2 := tails_cancel ys xs hy.2 hc h1.2
    exact ⟨by rw [h1.1, h2.1], h2.2⟩
theorem tails_cancel : ∀ (ys xs : List PyData) {c : Nat} {s t : List Nat}, noTxs ys = true → (c = 41 ∨ c = 93) → zka xs ++ c :: s = zka ys ++ c :: t → xs = ys ∧ s = t
  | [], [], c, s, t, _, _, h => by simp [zka] at h; exact ⟨rfl, h⟩
  | [], x :: r, c, s, t, _, hc, h => by simp [zka] at h; omega
  | y :: r, [], c, s, t, _, hc, h => by simp [zka] at h; omega
  | y :: ys, x :: xs, c, s, t, hy, hc, h => by
    simp only [zka, List.cons_append, List.cons.injEq, true_and, List.append_assoc] at h
    have hy : noTx y = true ∧ noTxs ys = true := by simpa [noTxs] using hy
    have h1 := zio y x hy.1 (zl0 xs hc) (zl0 ys hc) h
    have h2 := tails_cancel ys xs hy.2 hc h1.2
    exact ⟨by rw [h1.1, h2.1], h2.2⟩
end
theorem shown_inj {x y : PyData} (hy : noTx y = true) (h : x.shown = y.shown) : x = y := by
  have : sh x ++ [] = sh y ++ [] := by unfold sh; rw [h]
  exact (zio y x hy zlx zlx this).1
end DL
set_option maxHeartbeats 0
namespace T46
open PySem PySem.Spec PyProof.Rows L2 DL
def zm0 : SFn := (sRet (xAnd (xIsi "int" (xVar 0)) (xNot (xIsi "bool" (xVar 0)))))
def zg6 : Fn := zbl 1 zm0
def zmr : SFn := (sRet (xAnd (xN zg6 (zac (xVar 0) aNil)) (zmn (o2 dLe) (o2 dLe) (xVar 1) (xVar 0) (xVar 2))))
def zd3 : Fn := zbl 3 zmr
def zp0 : SFn := (sRet (xAnd (xN zg6 (zac (xVar 0) aNil)) (x2 (o2 dGe) (xVar 0) (xC (.int 0)))))
def zis : Fn := zbl 1 zp0
def zo3 : SFn := (sSeq (sIf (tBl (x2 (o2 dIsN) (xVar 0) (xC .non))) (sRet (xC (.bl true))) sNil)
    (sSeq (sIf (tOr_ (tNo (tTr (xIsi "tuple" (xVar 0)))) (tNo (tBl (zmn (o2 dLe) (o2 dLe) (xC (.int 1)) (xN (o1 dLen) (zac (xVar 0) aNil)) (xC (.int 3)))))) (sRet (xC (.bl false))) sNil)
    (sSeq (sIf (tNo (tTr (xN (o1 dAll) (zac (xN1 (lLc (lIt (xVar 0)) [1] (gNm 1) zgh (xN zis (zac (xVar 1) aNil)))) aNil)))) (sRet (xC (.bl false))) sNil)
    (sRet (x2 (o2 dEq) (xN (o1 dList) (zac (xVar 0) aNil)) (xN1 (zk_ (xVar 0))))))))
def ziz : Fn := zbl 2 zo3
def zln : SFn := (sRet (xAnd (xN zis (zac (xVar 1) aNil)) (xOr (x2 (o2 dIsN) (xVar 0) (xC .non)) (x2 (o2 dIn) (xVar 1) (xVar 0)))))
def zfu : Fn := zbl 2 zln
def zmo : SFn := (sSeq (sIf (tOr_ (tNo (tTr (xIsi "tuple" (xVar 0)))) (tNo (tBl (zmn (o2 dLe) (o2 dLe) (xC (.int 1)) (xN (o1 dLen) (zac (xVar 0) aNil)) (xC (.int 4)))))) (sRet (xC (.bl false))) sNil)
    (sSeq (sIf (tNo (tTr (xN (o1 dAll) (zac (xN1 (lLc (lIt (xVar 0)) [1] (gNm 1) zgh (xN ziz (zac (xVar 1) aNil)))) aNil)))) (sRet (xC (.bl false))) sNil)
    (sRet (x2 (o2 dLe) (xN (o1 dLen) (zac (xN1 (lLc (lIt (xVar 0)) [1] (gNm 1) (tBl (x2 (o2 zkc) (xVar 1) (xC .non))) (xVar 1))) aNil)) (xC (.int 2))))))
def zib : Fn := zbl 2 zmo
def zok : SFn := (sSeq (sIf (tOr_ (tNo (tTr (xIsi "tuple" (xVar 1)))) (tBl (x2 (o2 dNe) (xN (o1 dLen) (zac (xVar 1) aNil)) (xN (o1 dLen) (zac (xVar 0) aNil))))) (sRet (xC (.bl false))) sNil)
    (sRet (xN (o1 dAll) (zac (xN1 (lLc (lZip (xVar 0) (xVar 1)) [2, 3] (gTp (gCo (gNm 2) (gCo (gNm 3) gNo))) zgh (xN zfu (zac (xVar 2) (zac (xVar 3) aNil))))) aNil))))
def zi5 : Fn := zbl 4 zok
def zlw : SFn := (sSeq (sIf (tOr_ (tNo (tTr (xIsi "tuple" (xVar 1)))) (tBl (x2 (o2 dGt) (xN (o1 dLen) (zac (xVar 1) aNil)) (xC (.int 8))))) (sRet (xC (.bl false))) sNil)
    (sRet (xN (o1 dAll) (zac (xN1 (lLc (lIt (xVar 1)) [2] (gNm 2) zgh (xN zi5 (zac (xVar 0) (zac (xVar 2) aNil))))) aNil))))
def zhk : Fn := zbl 3 zlw
def zir : SFn := (sIf (tNo (tTr (xN zib (zac (xVar 0) aNil)))) (zo0 "InvalidColumns") sNil)
def zfs : Fn := zbl 1 zir
def zjs : SFn := (sIf (tNo (tTr (xN zhk (zac (xVar 0) (zac (xVar 1) aNil))))) (zo0 "InvalidTable") sNil)
def zfq : Fn := zbl 2 zjs
def zp4 : SFn := (sSeq (sIf (tOr_ (tNo (tTr (xIsi "tuple" (xVar 1)))) (tOr_ (tBl (x2 (o2 dNe) (xN (o1 dLen) (zac (xVar 1) aNil)) (xC (.int 2)))) (tNo (tTr (xN zd3 (zac (x2 (o2 dIx) (xVar 1) (xC (.int 0))) (zac (xC (.int 0)) (zac (x2 (o2 dSub) (xN (o1 dLen) (zac (xVar 0) aNil)) (xC (.int 1))) aNil)))))))) (sRet (xC (.bl false))) sNil)
    (sRet (xOr (x2 (o2 dIsN) (x2 (o2 dIx) (xVar 1) (xC (.int 1))) (xC .non)) (xN zfu (zac (x2 (o2 dIx) (xVar 0) (x2 (o2 dIx) (xVar 1) (xC (.int 0)))) (zac (x2 (o2 dIx) (xVar 1) (xC (.int 1))) aNil))))))
def zj3 : Fn := zbl 2 zp4
def zp2 : SFn := (sSeq (sIf (tOr_ (tNo (tTr (xIsi "tuple" (xVar 1)))) (tNo (tTr (xN (o1 dAll) (zac (xN1 (lLc (lIt (xVar 1)) [3] (gNm 3) zgh (xN zj3 (zac (xVar 0) (zac (xVar 3) aNil))))) aNil))))) (sRet (xC (.bl false))) sNil)
    (sSeq (sSet 2 (xN1 (lLc (lIt (xVar 1)) [3] (gNm 3) zgh (x2 (o2 dIx) (xVar 3) (xC (.int 0))))))
    (sRet (x2 (o2 dEq) (xVar 2) (xN1 (zk_ (xVar 2)))))))
def zj8 : Fn := zbl 4 zp2
def zmm : SFn := (sSeq (sIf (tOr_ (tNo (tTr (xIsi "tuple" (xVar 1)))) (tOr_ (tBl (x2 (o2 dNe) (xN (o1 dLen) (zac (xVar 1) aNil)) (xC (.int 3)))) (tNo (tTr (xN zj8 (zac (xVar 0) (zac (x2 (o2 dIx) (xVar 1) (xC (.int 0))) aNil))))))) (sRet (xC (.bl false))) sNil)
    (sSeq (sTg (gTp (gCo (gNm 2) (gCo (gNm 3) (gCo (gNm 4) gNo)))) (xVar 1))
    (sSeq (sIf (tOr_ (tNo (tTr (xN zd3 (zac (xVar 3) (zac (xC (.int 0)) (zac (x2 (o2 dSub) (xN (o1 dLen) (zac (xVar 0) aNil)) (xC (.int 1))) aNil)))))) (tBl (x2 (o2 dIn) (xVar 3) (xN1 (lLc (lIt (xVar 2)) [5] (gNm 5) zgh (x2 (o2 dIx) (xVar 5) (xC (.int 0)))))))) (sRet (xC (.bl false))) sNil)
    (sSeq (sIf (tBl (x2 (o2 dIsN) (xVar 4) (xC .non))) (sRet (xC (.bl true))) sNil)
    (sRet (xAnd (xN zfu (zac (x2 (o2 dIx) (xVar 0) (xVar 3)) (zac (xVar 4) aNil))) (xN (o1 dAll) (zac (xN1 (lLc (lIt (xVar 2)) [5] (gNm 5) zgh (x2 (o2 zkc) (x2 (o2 dIx) (xVar 5) (xC (.int 1))) (xC .non)))) aNil))))))))
def zi_ : Fn := zbl 6 zmm
def zod : SFn := (sSeq (sIf (tOr_ (tNo (tTr (xIsi "tuple" (xVar 1)))) (tBl (x2 (o2 dGt) (xN (o1 dLen) (zac (xVar 1) aNil)) (xC (.int 8))))) (sRet (xC (.bl false))) sNil)
    (sRet (xN (o1 dAll) (zac (xN1 (lLc (lIt (xVar 1)) [2] (gNm 2) zgh (xN zi_ (zac (xVar 0) (zac (xVar 2) aNil))))) aNil))))
def zi6 : Fn := zbl 3 zod
def zmt : SFn := (sRet (xN (o1 dAll) (zac (xN1 (lLc (lIt (xVar 0)) [2, 3] (gTp (gCo (gNm 2) (gCo (gNm 3) gNo))) zgh (xOr (x2 (o2 dIsN) (xVar 3) (xC .non)) (x2 (o2 dEq) (x2 (o2 dIx) (xVar 1) (xVar 2)) (xVar 3))))) aNil)))
def zf9 : Fn := zbl 4 zmt
def zoc : SFn := (sRet (xN (o1 dAll) (zac (xN1 (lLc (lIt (xVar 0)) [3] (gNm 3) zgh (x2 (o2 dEq) (x2 (o2 dIx) (xVar 1) (x2 (o2 dIx) (xVar 3) (xC (.int 0)))) (x2 (o2 dIx) (xVar 2) (x2 (o2 dIx) (xVar 3) (xC (.int 0))))))) aNil)))
def zhz : Fn := zbl 4 zoc
def zju : SFn := (sSeq (sExpr (xN zfs (zac (xVar 0) aNil)))
    (sIf (tNo (tTr (xN zi6 (zac (xVar 0) (zac (xVar 1) aNil))))) (zo0 "InvalidRules") sNil))
def zgd : Fn := zbl 2 zju
def zds : SFn := (sIf (tAn (tBl (x2 (o2 dLt) (xVar 4) (xVar 8))) (tAn (tTr (xN zhz (zac (xVar 5) (zac (x2 (o2 dIx) (xVar 1) (xVar 4)) (zac (x2 (o2 dIx) (xVar 1) (xVar 8)) aNil))))) (tBl (x2 (o2 dNe) (x2 (o2 dIx) (x2 (o2 dIx) (xVar 1) (xVar 4)) (xVar 6)) (x2 (o2 dIx) (x2 (o2 dIx) (xVar 1) (xVar 8)) (xVar 6)))))) (sApp (xVar 3) (xTup (zac (xVar 4) (zac (xVar 8) aNil)))) sNil)
def zf0 : SFn := (sFor (lIt (xVar 2)) (gNm 8) zds)
def zh7 : SFn := (sSeq (sTg (gTp (gCo (gNm 5) (gCo (gNm 6) (gCo (gNm 7) gNo)))) (xVar 0))
    (sSeq (sSet 2 (xN1 (lLc (lRg1 (zac (xN (o1 dLen) (zac (xVar 1) aNil)) aNil)) [4] (gNm 4) (tTr (xN zf9 (zac (xVar 5) (zac (x2 (o2 dIx) (xVar 1) (xVar 4)) aNil)))) (xVar 4))))
    (sSeq (sIf (tBl (x2 (o2 zkc) (xVar 7) (xC .non))) (sRet (xN1 (lLc (lIt (xVar 2)) [4] (gNm 4) (tBl (x2 (o2 dNe) (x2 (o2 dIx) (x2 (o2 dIx) (xVar 1) (xVar 4)) (xVar 6)) (xVar 7))) (xTup (zac (xVar 4) aNil))))) sNil)
    (sSeq (sNew 3 (lLst aNil))
    (sSeq (sFor (lIt (xVar 2)) (gNm 4) zf0)
    (sSeq (sFrz 3) (sRet (xVar 3))))))))
def zfm : Fn := zbl 9 zh7
def zjo : SFn := (sExt (xVar 2) (xN1 (lLc (lIt (xN zfm (zac (xVar 4) (zac (xVar 1) aNil)))) [5] (gNm 5) zgh (xTup (zac (xVar 3) (zpd (xVar 5) aNil))))))
def zlj : SFn := (sSeq (sNew 2 (lLst aNil))
    (sSeq (sFor (lEnum (xVar 0)) (gTp (gCo (gNm 3) (gCo (gNm 4) gNo))) zjo)
    (sSeq (sFrz 2) (sRet (xVar 2)))))
def zhn : Fn := zbl 6 zlj
def zm3 : SFn := (sSeq (sIf (tOr_ (tNo (tTr (xIsi "tuple" (xVar 1)))) (tNo (tTr (xN (o1 dAll) (zac (xN1 (lLc (lIt (xVar 1)) [2] (gNm 2) zgh (xN zd3 (zac (xVar 2) (zac (xC (.int 0)) (zac (x2 (o2 dSub) (xN (o1 dLen) (zac (xVar 0) aNil)) (xC (.int 1))) aNil)))))) aNil))))) (sRet (xC (.bl false))) sNil)
    (sRet (x2 (o2 dEq) (xN (o1 dList) (zac (xVar 1) aNil)) (xN1 (zk_ (xVar 1))))))
def zh8 : Fn := zbl 3 zm3
def ziu : SFn := (sIf (tNo (tTr (xN zh8 (zac (xVar 0) (zac (xVar 1) aNil))))) (zo0 "InvalidSettled") sNil)
def zfv : Fn := zbl 2 ziu
def zlb : SFn := (sSeq (sTg (gTp (gCo (gNm 3) (gCo (gNm 4) (gCo (gNm 5) gNo)))) (xVar 0))
    (sSeq (sIf (tBl (x2 (o2 zkc) (xVar 5) (xC .non))) (sRet (xLst (zac (xVar 5) aNil))) sNil)
    (sRet (xN1 (lLc (lIt (xVar 1)) [6] (gNm 6) (tAn (tTr (xN zf9 (zac (xVar 3) (zac (xVar 6) aNil)))) (tTr (xN zhz (zac (xVar 3) (zac (xVar 2) (zac (xVar 6) aNil)))))) (x2 (o2 dIx) (xVar 6) (xVar 4)))))))
def zhr : Fn := zbl 7 zlb
def zf6 : SFn := (sSeq (sTg (gTp (gCo (gNm 7) (gCo (gNm 8) (gCo (gNm 9) gNo)))) (xVar 6))
    (sIf (tAn (tBl (x2 (o2 dNin) (xVar 8) (xVar 3))) (tAn (tTr (xN (o1 dAll) (zac (xN1 (lLc (lIt (xVar 7)) [10] (gNm 10) zgh (x2 (o2 dIn) (x2 (o2 dIx) (xVar 10) (xC (.int 0))) (xVar 3)))) aNil))) (tTr (xN zf9 (zac (xVar 7) (zac (xVar 2) aNil)))))) (sExt (xVar 4) (xN1 (lLc (lIt (xN zhr (zac (xVar 6) (zac (xVar 1) (zac (xVar 2) aNil))))) [11] (gNm 11) zgh (xTup (zac (xVar 5) (zac (xVar 8) (zac (xVar 11) aNil))))))) sNil))
def ziw : SFn := (sSeq (sNew 4 (lLst aNil))
    (sSeq (sFor (lEnum (xVar 0)) (gTp (gCo (gNm 5) (gCo (gNm 6) gNo))) zf6)
    (sRet (xN1 (zk2 (xVar 4))))))
def zdv : Fn := zbl 12 ziw
def s_do_step : SFn := (sSeq (sTg (gTp (gCo (gNm 3) (gCo (gNm 4) (gCo (gNm 5) gNo)))) (xVar 2))
    (sRet (xTup (zac (xTup (zpd (xSl (xVar 0) pNo (pEx (xVar 4))) (zac (xVar 5) (zpd (xSl (xVar 0) (pEx (x2 (o2 dAdd) (xVar 4) (xC (.int 1)))) pNo) aNil)))) (zac (xN (o1 zkh) (zac (xN1 (zn4 (xTup (zpd (xVar 1) (zac (xVar 4) aNil))))) aNil)) aNil)))))
def ziq : Fn := zbl 6 s_do_step
def zbj (rec : Fn) : SFn := (sSeq (sTg (gTp (gCo (gNm 8) (gCo (gNm 9) gNo))) (xN (zpb ziq) (zac (xVar 2) (zac (xVar 3) (zac (xVar 6) aNil)))))
    (sSeq (sSet 7 (xN (rec) (zac (xVar 0) (zac (xVar 1) (zac (xVar 8) (zac (xVar 9) (zac (xVar 4) aNil)))))))
    (sIf (tBl (x2 (oIsNo true) (xVar 7) (xC .non))) (sRetN (lLst (zac (xVar 6) (zpd (xVar 7) aNil)))) sNil)))
def zje (rec : Fn) : SFn := (sSeq (sIf (tBl (x2 oInN (xTup (zac (xVar 2) (zac (xVar 3) aNil))) (xVar 4))) (sRet (xC .non)) sNil)
    (sSeq (sSet 5 (xN (zpb zdv) (zac (xVar 0) (zac (xVar 1) (zac (xVar 2) (zac (xVar 3) aNil))))))
    (sSeq (sIf (tBl (x2 (o2 dEq) (xVar 5) (xLst aNil))) (sRet (xIf (tBl (x2 (o2 dLt) (xN (o1 dLen) (zac (xVar 3) aNil)) (xN (o1 dLen) (zac (xVar 2) aNil)))) (xNew (lLst aNil)) (xC .non))) sNil)
    (sSeq (sFor (lIt (xVar 5)) (gNm 6) (zbj rec))
    (sSeq (sPutN (xVar 4) (xTup (zac (xVar 2) (zac (xVar 3) aNil))) (xC (.bl true)))
    (sRet (xC .non)))))))
def ze1 (rec : Fn) : Fn := zm_ 10 (zje rec)
def zcl : Nat → Fn
  | 0 => fun _ _ => .bad
  | n + 1 => ze1 (zcl n)
def zhb : Fn := zcl 6
def zo2 : SFn := (sRet (xN zhb (zac (xVar 0) (zac (xVar 1) (zac (xVar 2) (zac (xVar 3) (zac xNewN aNil)))))))
def zjm : Fn := zm_ 4 zo2
def zi7 : Fn := sealF zjm
def zjt : SFn := (sSeq (sExpr (xN zgd (zac (xVar 0) (zac (xVar 1) aNil))))
    (sSeq (sExpr (xN zfq (zac (xVar 0) (zac (xVar 2) aNil))))
    (sIf (tNo (tTr (xN zd3 (zac (xVar 3) (zac (xC (.int 0)) (zac (x2 (o2 dSub) (xN (o1 dLen) (zac (xVar 2) aNil)) (xC (.int 1))) aNil)))))) (zo0 "InvalidNumber") sNil)))
def zgl : Fn := zbl 4 zjt
def zko : SFn := (sSeq (sSet 2 (xN zhn (zac (xVar 0) (zac (xVar 1) aNil))))
    (sIf (tBl (x2 (o2 dNe) (xVar 2) (xLst aNil))) (sRaiseP "Broken" "found" (x2 (o2 dIx) (xVar 2) (xC (.int 0)))) sNil))
def zgv : Fn := zbl 3 zko
def s_stop : SFn := (sSeq (sExpr (xN zgl (zac (xVar 0) (zac (xVar 1) (zac (xVar 2) (zac (xVar 3) aNil))))))
    (sSeq (sExpr (xN zfv (zac (xVar 0) (zac (xVar 4) aNil))))
    (sSeq (sExpr (xN zgv (zac (xVar 1) (zac (xVar 2) aNil))))
    (sRet (xN zi7 (zac (xVar 1) (zac (xVar 2) (zac (x2 (o2 dIx) (xVar 2) (xVar 3)) (zac (xVar 4) aNil)))))))))
def zp7 : Fn := zbl 5 s_stop
def zkg : SFn := (sSeq (sIf (tBl (x2 (o2 dGe) (xVar 0) (x2 (o2 dPow) (xC (.int 10)) (xC (.int 18))))) (sRet (xVar 0)) sNil)
    (sSeq (sSet 2 (xLst (zac (xC (.int 2147483629)) (zac (xC (.int 2147483587)) (zac (xC (.int 2147483579)) (zac (xC (.int 2147483563)) (zac (xC (.int 2147483549)) (zac (xC (.int 2147483543)) (zac (xC (.int 2147483497)) aNil)))))))))
    (sSeq (sSet 2 (x2 (o2 dAdd) (xVar 2) (xLst (zac (xC (.int 2147483489)) (zac (xC (.int 2147483477)) (zac (xC (.int 2147483423)) (zac (xC (.int 2147483399)) (zac (xC (.int 2147483353)) (zac (xC (.int 2147483323)) aNil)))))))))
    (sSeq (sSet 3 (x2 (o2 dAdd) (x2 (o2 dAdd) (x2 (o2 zji) (x2 (o2 dMod) (xN (o1 dInt) (zac (xVar 0) aNil)) (xC (.int 1000000007))) (x2 (o2 dAdd) (x2 (o2 zji) (xC (.int 2)) (xVar 1)) (xC (.int 69069)))) (x2 (o2 zji) (xVar 1) (xC (.int 40503)))) (xC (.int 977))))
    (sSeq (sSet 4 (x2 (o2 dMod) (xN (o1 dInt) (zac (x2 (o2 dPow) (xVar 3) (xC (.int 3))) aNil)) (x2 (o2 dIx) (xVar 2) (x2 (o2 dMod) (xN (o1 dInt) (zac (xVar 1) aNil)) (xC (.int 13))))))
    (sSeq (sSet 5 (x2 (o2 dAdd) (x2 (o2 dMod) (xN (o1 dInt) (zac (xVar 0) aNil)) (xC (.int 65537))) (xC (.int 5))))
    (sSeq (sSet 6 (x2 (o2 dMod) (xN (o1 dInt) (zac (x2 (o2 dPow) (x2 (o2 dAdd) (x2 (o2 zji) (xVar 4) (x2 (o2 dAdd) (xVar 1) (xC (.int 3)))) (xVar 5)) (xC (.int 5))) aNil)) (x2 (o2 dIx) (xVar 2) (x2 (o2 dMod) (xN (o1 dInt) (zac (x2 (o2 dAdd) (xVar 1) (xC (.int 5))) aNil)) (xC (.int 13))))))
    (sSeq (sSet 7 (x2 (o2 dMod) (xN (o1 dInt) (zac (x2 (o2 dPow) (x2 (o2 dAdd) (x2 (o2 dAdd) (xVar 6) (x2 (o2 dMod) (xN (o1 dInt) (zac (xVar 4) aNil)) (xC (.int 1009)))) (xVar 1)) (xC (.int 3))) aNil)) (x2 (o2 dIx) (xVar 2) (x2 (o2 dMod) (xN (o1 dInt) (zac (x2 (o2 dAdd) (xVar 1) (xC (.int 7))) aNil)) (xC (.int 13))))))
    (sRet (x2 (o2 dAdd) (x2 (o2 zji) (x2 (o2 dAdd) (x2 (o2 zji) (xVar 4) (xC (.int 2147483647))) (xVar 6)) (xC (.int 2147483647))) (xVar 7)))))))))))
def zg0 : Fn := zbl 8 zkg
def zf3 : SFn := (sPut (xVar 1) (x2 (o2 dMod) (xN (o1 dInt) (zac (xVar 2) aNil)) (xC (.int 12))) (x2 (o2 dAdd) (x2 (o2 dIx) (xVar 1) (x2 (o2 dMod) (xN (o1 dInt) (zac (xVar 2) aNil)) (xC (.int 12)))) (xVar 3)))
def zml : SFn := (sSeq (sNew 1 (lList (xSl (xVar 0) pNo (pEx (xC (.int 12))))))
    (sSeq (sFor (lEnum (xSl (xVar 0) (pEx (xC (.int 12))) (pEx (xC (.int 63))))) (gTp (gCo (gNm 2) (gCo (gNm 3) gNo))) zf3)
    (sSeq (sFrz 1) (sRetN (lLst (zac (xVar 1) (zac (xC (.int 0)) (zac (xC (.int 0)) aNil))))))))
def zh3 : Fn := zbl 4 zml
def zmp : SFn := (sSeq (sIf (tBl (x2 (o2 dLt) (x2 (o2 dIx) (xVar 0) (xC (.int 2))) (xVar 1))) (sSeq (sSet 3 (x2 (o2 dIx) (xVar 0) (xC (.int 1))))
    (sSeq (sSet 4 (xC (.int 0)))
    (sSeq (sIf (tBl (x2 (o2 dLt) (xVar 3) (xN (o1 dLen) (zac (x2 (o2 dIx) (xVar 0) (xC (.int 0))) aNil)))) (sSet 4 (x2 (o2 dIx) (x2 (o2 dIx) (xVar 0) (xC (.int 0))) (xVar 3))) (sIf (tBl (x2 (o2 dGt) (xN (o1 dLen) (zac (x2 (o2 dIx) (xVar 0) (xC (.int 0))) aNil)) (xC (.int 0)))) (sSet 4 (x2 (o2 dMod) (xN (o1 dInt) (zac (x2 (o2 dIx) (x2 (o2 dIx) (xVar 0) (xC (.int 0))) (x2 (o2 dMod) (xN (o1 dInt) (zac (x2 (o2 dAdd) (x2 (o2 zji) (xVar 3) (xC (.int 5))) (xC (.int 3))) aNil)) (xN (o1 dLen) (zac (x2 (o2 dIx) (xVar 0) (xC (.int 0))) aNil)))) aNil)) (x2 (o2 dAdd) (x2 (o2 dPow) (xC (.int 10)) (xC (.int 17))) (xVar 3)))) sNil))
    (sSeq (sPut (xVar 0) (xC (.int 1)) (x2 (o2 dAdd) (xVar 3) (xC (.int 1))))
    (sPut (xVar 0) (xC (.int 2)) (xN zg0 (zac (xVar 4) (zac (xVar 3) aNil)))))))) sNil)
    (sSeq (sSet 2 (x2 (o2 dMod) (xN (o1 dInt) (zac (x2 (o2 dIx) (xVar 0) (xC (.int 2))) aNil)) (xVar 1)))
    (sSeq (sPut (xVar 0) (xC (.int 2)) (x2 (o2 dDiv) (x2 (o2 dIx) (xVar 0) (xC (.int 2))) (xVar 1)))
    (sRet (xVar 2)))))
def zbi : Fn := zbl 5 zmp
def zmx : SFn := (sSeq (sPut (xVar 0) (xC (.int 2)) (xC (.int 0)))
    (sRet (xVar 0)))
def zid : Fn := zbl 1 zmx
def zn2 : SFn := (sRet (x2 (o2 dIx) (xVar 1) (xN zbi (zac (xVar 0) (zac (xN (o1 dLen) (zac (xVar 1) aNil)) aNil)))))
def zdq : Fn := zbl 2 zn2
def zfx : SFn := (sSeq (sSet 5 (xN1 (zk_ (xN1 (lLc (lRg1 (zac (x2 (o2 dAdd) (xC (.int 1)) (xN zbi (zac (xVar 0) (zac (xC (.int 3)) aNil)))) aNil)) [6] (gNm 6) zgh (xN zbi (zac (xVar 0) (zac (xC (.int 4)) aNil))))))))
    (sIf (tAn (tBl (x2 (o2 dLt) (xVar 4) (xC (.int 2)))) (tBl (x2 (o2 dEq) (xN zbi (zac (xVar 0) (zac (xC (.int 3)) aNil))) (xC (.int 0))))) (sSeq (sSet 4 (x2 (o2 dAdd) (xVar 4) (xC (.int 1))))
    (sSet 3 (x2 (o2 dAdd) (xVar 3) (xTup (zac (xN (o1 zkh) (zac (xVar 5) aNil)) aNil))))) (sSet 3 (x2 (o2 dAdd) (xVar 3) (xTup (zac (xC .non) aNil))))))
def zjn : SFn := (sSeq (sTg (gTp (gCo (gNm 3) (gCo (gNm 4) gNo))) (xTup (zac (xTup aNil) (zac (xC (.int 0)) aNil))))
    (sSeq (sFor (lRg1 (zac (x2 (o2 dAdd) (xC (.int 1)) (xN zbi (zac (xVar 0) (zac (xVar 1) aNil)))) aNil)) (gNm 2) zfx)
    (sRet (xVar 3))))
def zga : Fn := zbl 7 zjn
def zlc : SFn := (sSeq (sIf (tBl (x2 (o2 dIsN) (xVar 1) (xC .non))) (sRet (xN zdq (zac (xVar 0) (zac (xLst (zac (xC (.int 0)) (zac (xC (.int 1)) (zac (xC (.int 2)) (zac (xC (.int 0)) (zac (xC (.int 1)) (zac (xC (.int 2)) (zac (xC (.int 3)) (zac (x2 (o2 dPow) (xC (.int 10)) (xC (.int 29))) (zac (x2 (o2 dAdd) (x2 (o2 dPow) (xC (.int 10)) (xC (.int 29))) (xC (.int 1))) aNil)))))))))) aNil)))) sNil)
    (sRet (xN zdq (zac (xVar 0) (zac (xVar 1) aNil)))))
def zd6 : Fn := zbl 2 zlc
def zof : SFn := (sRet (xN (o1 zkh) (zac (xN1 (lLc (lIt (xVar 1)) [2] (gNm 2) zgh (xN zd6 (zac (xVar 0) (zac (xVar 2) aNil))))) aNil)))
def zhw : Fn := zbl 3 zof
def zge : SFn := (sSeq (sSet 5 (xN zhw (zac (xVar 0) (zac (xVar 1) aNil))))
    (sSeq (sIf (tAn (tBl (x2 (o2 dGt) (xVar 4) (xC (.int 0)))) (tBl (x2 (o2 dEq) (xN zbi (zac (xVar 0) (zac (xC (.int 2)) aNil))) (xC (.int 0))))) (sSeq (sSet 6 (xN zbi (zac (xVar 0) (zac (xN (o1 dLen) (zac (xVar 1) aNil)) aNil))))
    (sSeq (sSet 7 (xN zdq (zac (xVar 0) (zac (xVar 3) aNil))))
    (sSet 5 (x2 (o2 dAdd) (x2 (o2 dAdd) (xSl (xVar 7) pNo (pEx (xVar 6))) (xSl (xVar 5) (pEx (xVar 6)) (pEx (x2 (o2 dAdd) (xVar 6) (xC (.int 1)))))) (xSl (xVar 7) (pEx (x2 (o2 dAdd) (xVar 6) (xC (.int 1)))) pNo))))) sNil)
    (sSet 3 (x2 (o2 dAdd) (xVar 3) (xTup (zac (xVar 5) aNil))))))
def zlt : SFn := (sSeq (sSet 3 (xTup aNil))
    (sSeq (sFor (lRg1 (zac (xVar 2) aNil)) (gNm 4) zge)
    (sRet (xVar 3))))
def zhm : Fn := zbl 8 zlt
def zgy : SFn := (sSeq (sSet 6 (xN zbi (zac (xVar 0) (zac (xC (.int 5)) aNil))))
    (sIf (tAn (tBl (x2 (o2 dNe) (xVar 5) (xVar 2))) (tBl (x2 (o2 dLt) (xVar 6) (xC (.int 2))))) (sSet 4 (x2 (o2 dAdd) (xVar 4) (xTup (zac (xTup (zac (xVar 5) (zac (xN zd6 (zac (xVar 0) (zac (x2 (o2 dIx) (xVar 1) (xVar 5)) aNil))) aNil))) aNil)))) (sIf (tAn (tBl (x2 (o2 dNe) (xVar 5) (xVar 2))) (tAn (tBl (x2 (o2 dEq) (xVar 6) (xC (.int 2)))) (tBl (x2 (o2 dIsN) (xVar 3) (xC .non))))) (sSet 4 (x2 (o2 dAdd) (xVar 4) (xTup (zac (xTup (zac (xVar 5) (zac (xC .non) aNil))) aNil)))) sNil)))
def zm5 : SFn := (sSeq (sSet 2 (xN zbi (zac (xVar 0) (zac (xN (o1 dLen) (zac (xVar 1) aNil)) aNil))))
    (sSeq (sSet 3 (xN zdq (zac (xVar 0) (zac (xLst (zac (xC .non) (zac (xC .non) (zac (xN zd6 (zac (xVar 0) (zac (x2 (o2 dIx) (xVar 1) (xVar 2)) aNil))) aNil)))) aNil))))
    (sSeq (sSet 4 (xTup aNil))
    (sSeq (sFor (lRg1 (zac (xN (o1 dLen) (zac (xVar 1) aNil)) aNil)) (gNm 5) zgy)
    (sRet (xTup (zac (xVar 4) (zac (xVar 2) (zac (xVar 3) aNil)))))))))
def zh5 : Fn := zbl 7 zm5
def zg2 : SFn := (sSet 2 (x2 (o2 dAdd) (xVar 2) (xTup (zac (xN zh5 (zac (xVar 0) (zac (xVar 1) aNil))) aNil))))
def zms : SFn := (sSeq (sSet 1 (xN zga (zac (xVar 0) (zac (xC (.int 4)) aNil))))
    (sSeq (sSet 2 (xTup aNil))
    (sSeq (sFor (lRg1 (zac (xN zbi (zac (xVar 0) (zac (xC (.int 9)) aNil))) aNil)) (gNm 3) zg2)
    (sSeq (sSet 4 (xN zhm (zac (xVar 0) (zac (xVar 1) (zac (xN zdq (zac (xVar 0) (zac (xLst (zac (xC (.int 1)) (zac (xC (.int 2)) (zac (xC (.int 2)) (zac (xC (.int 3)) (zac (xC (.int 4)) (zac (xC (.int 8)) aNil))))))) aNil))) aNil)))))
    (sSeq (sSet 5 (xN zdq (zac (xVar 0) (zac (xLst (zac (xN zhw (zac (xVar 0) (zac (xVar 1) aNil))) (zac (xN zdq (zac (xVar 0) (zac (xVar 4) aNil))) aNil))) aNil))))
    (sSeq (sSet 6 (xN (o1 zkh) (zac (xN1 (lLc (lRg1 (zac (xN (o1 dLen) (zac (xVar 1) aNil)) aNil)) [3] (gNm 3) (tBl (x2 (o2 dLt) (xN zbi (zac (xVar 0) (zac (xC (.int 5)) aNil))) (xC (.int 2)))) (xVar 3))) aNil)))
    (sRet (xTup (zac (xVar 1) (zac (xVar 2) (zac (xVar 4) (zac (xVar 5) (zac (xVar 6) aNil)))))))))))))
def zh6 : Fn := zbl 7 zms
def zn6 : SFn := (sRet (xN (o1 dAll) (zac (xN1 (lLc (lIt (xVar 0)) [2, 3] (gTp (gCo (gNm 2) (gCo (gNm 3) gNo))) zgh (xOr (x2 (o2 dIsN) (xVar 3) (xC .non)) (x2 (o2 dEq) (x2 (o2 dIx) (xVar 1) (xVar 2)) (xVar 3))))) aNil)))
def zdu : Fn := zbl 4 zn6
def zdl : SFn := (sSeq (sSet 8 (xN1 (lLc (lIt (xVar 4)) [10] (gNm 10) zgh (x2 (o2 dIx) (xVar 10) (xC (.int 0))))))
    (sSeq (sSet 9 (xN1 (lLc (lIt (xVar 8)) [11] (gNm 11) (tBl (x2 (o2 dNe) (x2 (o2 dIx) (x2 (o2 dIx) (xVar 1) (xVar 3)) (xVar 11)) (x2 (o2 dIx) (x2 (o2 dIx) (xVar 1) (xVar 7)) (xVar 11)))) (xVar 11))))
    (sIf (tAn (tTr (xN zdu (zac (xVar 4) (zac (x2 (o2 dIx) (xVar 1) (xVar 7)) aNil)))) (tBl (x2 (o2 dEq) (xVar 9) (xLst aNil)))) (sIf (tBl (x2 (o2 dNe) (x2 (o2 dIx) (x2 (o2 dIx) (xVar 1) (xVar 3)) (xVar 5)) (x2 (o2 dIx) (x2 (o2 dIx) (xVar 1) (xVar 7)) (xVar 5)))) (sApp (xVar 2) (xTup (zac (xVar 3) (zac (xVar 7) aNil)))) sNil) sNil)))
def zdo : SFn := (sIf (tTr (xN zdu (zac (xVar 4) (zac (x2 (o2 dIx) (xVar 1) (xVar 3)) aNil)))) (sSeq (sIf (tAn (tBl (x2 (o2 zkc) (xVar 6) (xC .non))) (tBl (x2 (o2 dNe) (x2 (o2 dIx) (x2 (o2 dIx) (xVar 1) (xVar 3)) (xVar 5)) (xVar 6)))) (sApp (xVar 2) (xTup (zac (xVar 3) aNil))) sNil)
    (sFor (lRg2 (zac (x2 (o2 dAdd) (xVar 3) (xC (.int 1))) (zac (xIf (tBl (x2 (o2 dIsN) (xVar 6) (xC .non))) (xN (o1 dLen) (zac (xVar 1) aNil)) (xC (.int 0))) aNil))) (gNm 7) zdl)) sNil)
def zhx : SFn := (sSeq (sTg (gTp (gCo (gNm 4) (gCo (gNm 5) (gCo (gNm 6) gNo)))) (xVar 0))
    (sSeq (sNew 2 (lLst aNil))
    (sSeq (sFor (lRg1 (zac (xN (o1 dLen) (zac (xVar 1) aNil)) aNil)) (gNm 3) zdo)
    (sSeq (sFrz 2) (sRet (xVar 2))))))
def zda : Fn := zbl 12 zhx
def zjd : SFn := (sExt (xVar 2) (xN1 (lLc (lIt (xN zda (zac (x2 (o2 dIx) (xVar 0) (xVar 3)) (zac (xVar 1) aNil)))) [4] (gNm 4) zgh (x2 (o2 dAdd) (xTup (zac (xVar 3) aNil)) (xVar 4)))))
def zke : SFn := (sSeq (sNew 2 (lLst aNil))
    (sSeq (sFor (lRg1 (zac (xN (o1 dLen) (zac (xVar 0) aNil)) aNil)) (gNm 3) zjd)
    (sSeq (sFrz 2) (sRet (xVar 2)))))
def zgw : Fn := zbl 5 zke
def zd8 : SFn := (sSeq (sSet 7 (xN zgw (zac (xVar 2) (zac (xVar 4) aNil))))
    (sIf (tBl (x2 (o2 dNe) (xVar 7) (xLst aNil))) (sIf (tAn (tBl (x2 (o2 dEq) (xN zbi (zac (xVar 0) (zac (xC (.int 2)) aNil))) (xC (.int 0)))) (tBl (x2 (o2 dGt) (xN (o1 dLen) (zac (xVar 4) aNil)) (xC (.int 1))))) (sSeq (sSet 8 (x2 (o2 dIx) (x2 (o2 dIx) (xVar 7) (xC (.int 0))) (xC (.int 1))))
    (sSet 4 (x2 (o2 dAdd) (xSl (xVar 4) pNo (pEx (xVar 8))) (xSl (xVar 4) (pEx (x2 (o2 dAdd) (xVar 8) (xC (.int 1)))) pNo)))) (sSeq (sSet 8 (x2 (o2 dIx) (x2 (o2 dIx) (xVar 7) (xC (.int 0))) (xC (.int 0))))
    (sSet 2 (x2 (o2 dAdd) (xSl (xVar 2) pNo (pEx (xVar 8))) (xSl (xVar 2) (pEx (x2 (o2 dAdd) (xVar 8) (xC (.int 1)))) pNo))))) sNil))
def zin : SFn := (sSeq (sTg (gTp (gCo (gNm 3) (gCo (gNm 2) (gCo (gNm 4) (gCo (gNm 5) (gCo (gNm 6) gNo)))))) (xN zh6 (zac (xVar 0) aNil)))
    (sSeq (sFor (lRg1 (zac (xC (.int 4)) aNil)) (gNm 1) zd8)
    (sSeq (sSet 2 (xN (o1 zkh) (zac (xN1 (lLc (lIt (xVar 2)) [9] (gNm 9) (tBl (x2 (o2 dEq) (xN zda (zac (xVar 9) (zac (xVar 4) aNil))) (xLst aNil))) (xVar 9))) aNil)))
    (sRet (xTup (zac (xVar 3) (zac (xVar 2) (zac (xVar 4) (zac (xN zbi (zac (xVar 0) (zac (xN (o1 dLen) (zac (xVar 4) aNil)) aNil))) (zac (xVar 6) aNil))))))))))
def zft : Fn := zbl 10 zin
def zhc : SFn := (sSeq (sSet 8 (xN1 (lLc (lIt (xVar 5)) [9, 10] (gTp (gCo (gNm 9) (gCo (gNm 10) gNo))) (tBl (x2 (o2 dNe) (x2 (o2 dIx) (xVar 2) (xVar 9)) (x2 (o2 dIx) (xVar 4) (xVar 9)))) (xVar 9))))
    (sIf (tAn (tBl (x2 (o2 dEq) (xVar 8) (xLst aNil))) (tTr (xN zdu (zac (xVar 5) (zac (xVar 4) aNil))))) (sApp (xVar 3) (x2 (o2 dIx) (xVar 4) (xVar 6))) sNil))
def zkm : SFn := (sSeq (sTg (gTp (gCo (gNm 5) (gCo (gNm 6) (gCo (gNm 7) gNo)))) (xVar 0))
    (sSeq (sIf (tBl (x2 (o2 zkc) (xVar 7) (xC .non))) (sRet (xLst (zac (xVar 7) aNil))) sNil)
    (sSeq (sNew 3 (lLst aNil))
    (sSeq (sFor (lIt (xVar 1)) (gNm 4) zhc)
    (sSeq (sFrz 3) (sRet (xVar 3)))))))
def zg1 : Fn := zbl 11 zkm
def zhv : SFn := (sSeq (sTg (gTp (gCo (gNm 7) (gCo (gNm 8) (gCo (gNm 9) gNo)))) (x2 (o2 dIx) (xVar 0) (xVar 5)))
    (sSeq (sSet 6 (xN1 (lLc (lIt (xVar 7)) [11] (gNm 11) (tBl (x2 (o2 dNin) (x2 (o2 dIx) (xVar 11) (xC (.int 0))) (xVar 3))) (x2 (o2 dIx) (xVar 11) (xC (.int 0))))))
    (sIf (tAn (tBl (x2 (o2 dNin) (xVar 8) (xVar 3))) (tAn (tBl (x2 (o2 dEq) (xVar 6) (xLst aNil))) (tTr (xN zdu (zac (xVar 7) (zac (xVar 2) aNil)))))) (sSeq (sSet 10 (xN zg1 (zac (x2 (o2 dIx) (xVar 0) (xVar 5)) (zac (xVar 1) (zac (xVar 2) aNil)))))
    (sExt (xVar 4) (xN1 (lLc (lIt (xVar 10)) [12] (gNm 12) zgh (xTup (zac (xVar 5) (zac (xVar 8) (zac (xVar 12) aNil)))))))) sNil)))
def zle : SFn := (sSeq (sNew 4 (lLst aNil))
    (sSeq (sFor (lRg1 (zac (xN (o1 dLen) (zac (xVar 0) aNil)) aNil)) (gNm 5) zhv)
    (sRet (xN1 (zk2 (xVar 4))))))
def zd9 : Fn := zbl 13 zle
def zkk : SFn := (sSeq (sSet 3 (x2 (o2 dIx) (xVar 2) (xC (.int 1))))
    (sRet (xTup (zac (x2 (o2 dAdd) (x2 (o2 dAdd) (xSl (xVar 0) pNo (pEx (xVar 3))) (xTup (zac (x2 (o2 dIx) (xVar 2) (xC (.int 2))) aNil))) (xSl (xVar 0) (pEx (x2 (o2 dAdd) (xVar 3) (xC (.int 1)))) pNo)) (zac (xN (o1 zkh) (zac (xN1 (zn4 (x2 (o2 dAdd) (xVar 1) (xTup (zac (xVar 3) aNil))))) aNil)) aNil)))))
def zf4 : Fn := zbl 4 zkk
def zdg : SFn := (sSeq (sSet 6 (xN zd9 (zac (xVar 0) (zac (xVar 1) (zac (xVar 2) (zac (xVar 3) aNil))))))
    (sSeq (sIf (tBl (x2 (o2 dNinS) (xN (o1 zj1) (zac (xVar 5) aNil)) (xN1 (lLc (lIt (xVar 6)) [7] (gNm 7) zgh (xN (o1 zj1) (zac (xVar 7) aNil)))))) (sRet (xC (.bl false))) sNil)
    (sTg (gTp (gCo (gNm 2) (gCo (gNm 3) gNo))) (xN zf4 (zac (xVar 2) (zac (xVar 3) (zac (xVar 5) aNil)))))))
def zkf : SFn := (sSeq (sIf (tNo (tTr (xIsi "list" (xVar 4)))) (sRet (xC (.bl false))) sNil)
    (sSeq (sForO (xVar 4) (gNm 5) zdg)
    (sRet (x2 (o2 dEq) (xN zd9 (zac (xVar 0) (zac (xVar 1) (zac (xVar 2) (zac (xVar 3) aNil))))) (xLst aNil)))))
def zgu : Fn := zbl 8 zkf
def zdb (rec : Fn) : SFn := (sSeq (sSet 7 (xN zf4 (zac (xVar 2) (zac (xVar 3) (zac (xVar 6) aNil)))))
    (sIf (tTr (xN (rec) (zac (xVar 0) (zac (xVar 1) (zac (x2 (o2 dIx) (xVar 7) (xC (.int 0))) (zac (x2 (o2 dIx) (xVar 7) (xC (.int 1))) (zac (xVar 4) aNil))))))) (sRet (xC (.bl true))) sNil))
def zlp (rec : Fn) : SFn := (sSeq (sIf (tBl (x2 (o2 dInS) (xN (o1 zj1) (zac (xTup (zac (xVar 2) (zac (xVar 3) aNil))) aNil)) (xVar 4))) (sRet (xC (.bl false))) sNil)
    (sSeq (sApp (xVar 4) (xN (o1 zj1) (zac (xTup (zac (xVar 2) (zac (xVar 3) aNil))) aNil)))
    (sSeq (sSet 5 (xN zd9 (zac (xVar 0) (zac (xVar 1) (zac (xVar 2) (zac (xVar 3) aNil))))))
    (sSeq (sIf (tBl (x2 (o2 dEq) (xVar 5) (xLst aNil))) (sRet (x2 (o2 dLt) (xN (o1 dLen) (zac (xVar 3) aNil)) (xN (o1 dLen) (zac (xVar 2) aNil)))) sNil)
    (sSeq (sFor (lIt (xVar 5)) (gNm 6) (zdb rec))
    (sRet (xC (.bl false))))))))
def zho (rec : Fn) : Fn := zbl 8 (zlp rec)
def zfw : Nat → Fn
  | 0 => fun _ _ => .bad
  | n + 1 => zho (zfw n)
def zhp : Fn := zfw 6
def zj0 : SFn := (sSeq (sIf (tNo (tTr (xN zgu (zac (xVar 0) (zac (xVar 1) (zac (xVar 2) (zac (xVar 3) (zac (xVar 4) aNil)))))))) (sRet (xC (.bl false))) sNil)
    (sRet (x2 (o2 dLt) (x2 (o2 dAdd) (xN (o1 dLen) (zac (xVar 3) aNil)) (xN (o1 dLen) (zac (xVar 4) aNil))) (xN (o1 dLen) (zac (xVar 2) aNil)))))
def zgb : Fn := zbl 5 zj0
def zqj : SFn := (sSeq (sSet 9 (xN zp7 (zac (xVar 5) (zac (xVar 6) (zac (xVar 7) (zac (xVar 3) (zac (xVar 8) aNil)))))))
    (sSeq (sSet 10 (xN (o1 zj1) (zac (xVar 9) aNil)))
    (sSeq (sIf (tTr (xN zhp (zac (xVar 6) (zac (xVar 7) (zac (x2 (o2 dIx) (xVar 7) (xVar 3)) (zac (xVar 8) (zac (xNew (lLst aNil)) aNil))))))) (sIf (tNo (tTr (xN zgb (zac (xVar 6) (zac (xVar 7) (zac (x2 (o2 dIx) (xVar 7) (xVar 3)) (zac (xVar 8) (zac (xVar 9) aNil)))))))) (sRet (xC (.bl false))) sNil) (sIf (tBl (x2 (o2 zkc) (xVar 9) (xC .non))) (sRet (xC (.bl false))) sNil))
    (sSeq (sIf (tBl (x2 (o2 zkc) (xVar 9) (xC .non))) (sApp (xVar 9) (xC (.int 7))) sNil)
    (sIf (tBl (x2 (o2 dNeS) (xN (o1 zj1) (zac (xN zp7 (zac (xVar 5) (zac (xVar 6) (zac (xVar 7) (zac (xVar 3) (zac (xVar 8) aNil)))))) aNil)) (xVar 10))) (sRet (xC (.bl false))) sNil)))))
def zrd : SFn := (sSeq (sTg (gTp (gCo (gNm 5) (gCo (gNm 6) (gCo (gNm 7) (gCo (gNm 3) (gCo (gNm 8) gNo)))))) (xN zft (zac (xN zid (zac (xVar 1) aNil)) aNil)))
    (sSeq (sFor (lIt (xSl (xLst (zac (xC (.int 0)) (zac (x2 (o2 dSub) (xN (o1 dLen) (zac (xVar 7) aNil)) (xC (.int 1))) (zac (xVar 3) aNil)))) pNo (pEx (xN (o1 dLen) (zac (xVar 7) aNil))))) (gNm 3) zqj)
    (sSeq (sSet 4 (xN (o1 zkh) (zac (xN1 (lLc (lRg1 (zac (xN (o1 dLen) (zac (xVar 5) aNil)) aNil)) [11] (gNm 11) zgh (xVar 11))) aNil)))
    (sIf (tBl (x2 (o2 zkc) (xN zp7 (zac (xVar 5) (zac (xVar 6) (zac (xVar 7) (zac (xC (.int 0)) (zac (xVar 4) aNil)))))) (xC .non))) (sRet (xC (.bl false))) sNil))))
def s_law : SFn := (sSeq (sSet 1 (xN zh3 (zac (xVar 0) aNil)))
    (sSeq (sFor (lRg1 (zac (xC (.int 8)) aNil)) (gNm 2) zrd)
    (sRet (xC (.bl true)))))
def g_law : Fn := zbl 12 s_law
end T46
namespace DL
open PySem PySem.Spec PyProof.Rows L2
/-! a hook that looks at given addresses alone -/
/-! ## what the head looks at -/
def tabB (K : PySem.W.Frag) (x : Str) : Bool := match K.lookup (He.ga K x) with
  | some ⟨_, _, .func fd, _⟩ => (match (fd.code : Value) with
    | .ref c => (match K.lookup c with
      | some ⟨.type T, _, .fields vs, _⟩ => (match (vs[11]? : Option Value), (vs.getD 11 Value.none : Value), (vs.getD 18 Value.none : Value), (vs.getD 7 Value.none : Value), (vs.getD 9 Value.none : Value), (vs.getD 10 Value.none : Value) with
        | some (.ref P), .ref P', .str _ _, .int _ _, .bool _, .int _ _ => decide (T = "code") && decide (P = P') && decide (c ≠ P) && decide (P ≠ mainGlobals) && (match PySem.W.nsIn K mainGlobals "__builtins__" with
          | some (some (.ref bm)) => decide (bm ≠ builtinsNs) && decide (bm ≠ mainGlobals) && decide (bm ≠ P) && (match K.lookup bm with
            | some ⟨.type M, some d, .plain, _⟩ => decide (M = "module") && decide (d = builtinsNs)
            | _ => false)
          | _ => false)
        | _, _, _, _, _, _ => false)
      | _ => false)
    | _ => false)
  | _ => false
theorem tab_ok {K : PySem.W.Frag} {x : Str} (h : tabB K x = true) : ∃ (c P : Addr) (oc : Value) (od : Option Addr) (fd : FuncData) (osl : Array (Option Value)) (oc2 : Option Addr) (sl2 : Array (Option Value)) (vs : Array Value) (file : Str) (tf : Tok) (flags : Int) (tg : Tok) (inF : Bool) (text : Int) (tt : Tok) (bm : Addr) (sl3 : Array (Option Value)),
    K.lookup (He.ga K x) = some ⟨oc, od, .func fd, osl⟩ ∧ fd.code = .ref c ∧ K.lookup c = some ⟨.type "code", oc2, .fields vs, sl2⟩ ∧ vs[11]? = some (.ref P) ∧ vs.getD 11 .none = .ref P ∧ vs.getD 18 .none = .str file tf ∧ vs.getD 7 .none = .int flags tg ∧ vs.getD 9 .none = .bool inF ∧ vs.getD 10 .none = .int text tt ∧ c ≠ P ∧ P ≠ mainGlobals ∧
    PySem.W.nsIn K mainGlobals "__builtins__" = some (some (.ref bm)) ∧ bm ≠ builtinsNs ∧ bm ≠ mainGlobals ∧ bm ≠ P ∧ K.lookup bm = some ⟨.type "module", some builtinsNs, .plain, sl3⟩ := by
  unfold tabB at h
  split at h
  · rename_i oc od fd osl h1
    split at h
    · rename_i c h2
      split at h
      · rename_i T oc2 vs sl2 h3
        split at h
        · rename_i P P' file tf flags tg inF text tt h4 h5 h6 h7 h8 h9
          simp only [Bool.and_eq_true, decide_eq_true_eq] at h
          obtain ⟨⟨⟨⟨hT, hP⟩, n1⟩, n2⟩, h⟩ := h
          subst hT
          subst hP
          split at h
          · rename_i bm k1
            simp only [Bool.and_eq_true, decide_eq_true_eq] at h
            obtain ⟨⟨⟨m1, m2⟩, m3⟩, h⟩ := h
            split at h
            · rename_i M d sl3 k5
              simp only [Bool.and_eq_true, decide_eq_true_eq] at h
              obtain ⟨e1, e2⟩ := h
              subst e1
              subst e2
              exact ⟨c, P, oc, od, fd, osl, oc2, sl2, vs, file, tf, flags, tg, inF, text, tt, bm, sl3, h1, h2, h3, h4, h5, h6, h7, h8, h9, n1, n2, k1, m1, m2, m3, k5⟩
            · cases h
          · cases h
        · cases h
      · cases h
    · cases h
  · cases h
theorem tabs_of {K : PySem.W.Frag} {x : Str} {c P : Addr} {oc : Value} {od : Option Addr} {fd : FuncData} {osl : Array (Option Value)} {cl : Value} {oc2 : Option Addr} {sl2 : Array (Option Value)} {vs : Array Value} (h1 : K.lookup (He.ga K x) = some ⟨oc, od, .func fd, osl⟩) (h2 : fd.code = .ref c) (h3 : K.lookup c = some ⟨cl, oc2, .fields vs, sl2⟩) (h4 : vs[11]? = some (.ref P)) : tabOf K x = [P] := by
  unfold tabOf
  have h5 : vs.toList[11]? = some (.ref P) := by rw [← h4]; simp
  simp only [h1, h2, h3, h5]
def zjh (K : PySem.W.Frag) : PySem.W.Frag := K.filter fun p => !((zdm K).contains p.1)
theorem zku (l : List Addr) (a : Addr) : ∀ K : PySem.W.Frag, (K.filter fun p => !(l.contains p.1)).lookup a = if l.contains a then none else K.lookup a
  | [] => by simp
  | (b, o) :: K => by
    have ih := zku l a K
    by_cases hb : l.contains b = true
    · rw [List.filter_cons_of_neg (by simp only [hb]; decide), ih]
      by_cases e : a = b
      · subst e
        rw [if_pos hb, if_pos hb]
      · have : (a == b) = false := by simpa using e
        rw [List.lookup_cons, this]
    · have hb' : l.contains b = false := by simpa using hb
      rw [List.filter_cons_of_pos (by simp only [hb']; decide), List.lookup_cons, List.lookup_cons, ih]
      by_cases e : a = b
      · subst e
        simp only [if_neg hb]
      · have : (a == b) = false := by simpa using e
        rw [this]
theorem dropT_in {K : PySem.W.Frag} {h : Heap} (X : K.In h) : (zjh K).In h := fun a o e => by
  unfold zjh at e
  rw [zku] at e
  split at e
  · cases e
  · exact X a o e
def zre : Option Obj → Bool
  | some ⟨.none, none, .fields vs, sl⟩ => decide (vs.size = 0) && decide (sl.size = 0)
  | _ => false
theorem emptyTab_ok {o : Option Obj} (h : zre o = true) : o = some { cls := .none, data := .fields #[] } := by
  unfold zre at h
  split at h
  · rename_i vs sl
    simp only [Bool.and_eq_true, decide_eq_true_eq] at h
    obtain ⟨h1, h2⟩ := h
    have e1 : vs = #[] := Array.eq_empty_of_size_eq_zero h1
    have e2 : sl = #[] := Array.eq_empty_of_size_eq_zero h2
    subst e1
    subst e2
    rfl
  · cases h
def tabLB (K : PySem.W.Frag) : Bool := decide (tabsP (zjh K) = tabsP K) && ((zdm K).all (fun P => zre (K.lookup P)) && lamNs.all fun x => (decide (tabOf (zjh K) x = []) || tabB (zjh K) x))
theorem tabL_ok {K : PySem.W.Frag} {h : Heap} (X : K.In h) (b : tabLB K = true) : TabLook (zjh K) h := by
  unfold tabLB at b
  simp only [Bool.and_eq_true, Bool.or_eq_true, List.all_eq_true, decide_eq_true_eq] at b
  obtain ⟨b1, b2, b3⟩ := b
  have b4 : zdm (zjh K) = zdm K := by unfold zdm; rw [b1]
  intro P hP
  have hP2 := hP
  rw [b4] at hP2
  refine ⟨X _ _ (emptyTab_ok (b2 P hP2)), ?_, ?_⟩
  · obtain ⟨p, hp, e⟩ := List.mem_map.mp hP
    obtain ⟨x, hx, hq⟩ := List.mem_flatMap.mp hp
    obtain ⟨P2, hP3, e2⟩ := List.mem_map.mp hq
    have e3 : P2 = P := by rw [← e, ← e2]
    subst e3
    rcases b3 x hx with z | z
    · rw [z] at hP3; cases hP3
    · obtain ⟨c, P', oc, od, fd, osl, oc2, sl2, vs, file, tf, flags, tg, inF, text, tt, bm, sl3, h1, h2, h3, h4, _⟩ := tab_ok z
      rw [tabs_of h1 h2 h3 h4, List.mem_singleton] at hP3
      subst hP3
      exact ⟨c, _, vs, dropT_in X _ _ h3, rfl, rfl, h4⟩
  · unfold zjh
    rw [zku, if_pos (List.contains_iff_mem.mpr hP2)]
def obsT (fa : List He.Fa) (fn : List He.DefD) (ex : PySem.W.Frag → Bool) (as : List Addr) (g : Addr → Option Obj) : He.AlD × Bool := (He.obsD fa fn (zjh (He.frG g as)), ex (zjh (He.frG g as)) && tabLB (He.frG g as))
def hookT (fa : List He.Fa) (fn : List He.DefD) (ex : PySem.W.Frag → Bool) (as : List Addr) : PySem.W.Hook where
  α := He.AlD × Bool
  obs := fun s => obsT fa fn ex as s.heap.get?
  val := fun _ => (He.valD fn, true)
  says := fun _ h => ∃ K : PySem.W.Frag, K.In h ∧ He.SaysD fa fn K ∧ ex K = true ∧ TabLook K h
  of := fun _ s e => by
    have e1 : He.obsD fa fn (zjh (He.frG s.heap.get? as)) = He.valD fn := congrArg (fun z : He.AlD × Bool => z.1) e
    have e2 : (ex (zjh (He.frG s.heap.get? as)) && tabLB (He.frG s.heap.get? as)) = true := congrArg (fun z : He.AlD × Bool => z.2) e
    rw [Bool.and_eq_true] at e2
    exact ⟨_, dropT_in He.frG_in, e1, e2.1, tabL_ok He.frG_in e2.2⟩
  keeps := fun _ _ _ ⟨K, hK, c, x, t⟩ k => ⟨K, PySem.W.Frag.In.keeps hK k, c, x, fun P hP => by
    obtain ⟨t1, ⟨c0, o, vs, t2, t3, t4, t5⟩, t6⟩ := t P hP
    exact ⟨k _ _ t1, ⟨c0, o, vs, k _ _ t2, t3, t4, t5⟩, t6⟩⟩
theorem obsT_eq {fa : List He.Fa} {fn : List He.DefD} {ex : PySem.W.Frag → Bool} {as : List Addr} {g : Addr → Option Obj} {s : Shared} (h : ∀ a, g a = s.heap.get? a) : obsT fa fn ex as g = (hookT fa fn ex as).obs s := by
  have e : g = s.heap.get? := funext h
  rw [e] <;> rfl
def kit1 (K : PySem.W.Frag) (tv : Value) (t : List (Str × Bool)) : Bool := t.all fun q => decide (PySem.W.kitOne K (.ref (He.ga K q.1)) tv = some q.2)
def kits1 (K : PySem.W.Frag) (ys : List (Str × List (Str × Bool))) : Bool := ys.all fun y => kit1 K (.ref (He.ga K y.1)) y.2
theorem run2 {σ α β γ : Type} {o : Option σ} {f : σ → α} {g : σ → β} {h : σ → γ} {a : α} {b : β} {c : γ} (A : o.map (fun s => (f s, g s)) = some (a, b)) (B : o.map (fun s => h s) = some c) : o.map (fun s => (f s, g s, h s)) = some (a, b, c) := by
  cases o with
  | none => cases A
  | some s =>
    simp only [Option.map_some, Option.some.injEq, Prod.mk.injEq] at A B ⊢
    exact ⟨A.1, A.2, B⟩
end DL
set_option maxHeartbeats 0
namespace T46
open PySem PySem.Spec PyProof.Rows L2 DL
def topR (i : Nat) : Stmt := PySem.Challenge.pw_whererules_k46_stops.main.body.getD i (.Pass ⟨0, 0, 0, 0⟩)
def mkD (x : Str) (i : Nat) : He.DefD := ⟨(x, none), x, x, defArgs (topR i), defBody (topR i), defScope (topR i), [], []⟩
def mkX (x : Str) (i j : Nat) : He.DefD := ⟨(x, some "__init__"), "__init__", x ++ ".__init__", defArgs (mth (topR i) j), defBody (mth (topR i) j), defScope (mth (topR i) j), [], []⟩
def fn : List He.DefD := ([mkD "is_integer" 9, mkD "is_between" 10, mkD "is_value" 14, mkD "is_column" 15, mkD "is_value_of" 16, mkD "is_columns" 17, mkD "is_row_of" 18, mkD "is_table_of" 19, mkD "require_columns" 20, mkD "require_table" 21, mkD "is_entry" 24, mkD "is_given" 25, mkD "is_rule_of" 26, mkD "are_rules" 27, mkD "does_match" 28, mkD "are_equal" 29, mkD "require_rules" 30, mkD "find_rule_breaks" 32, mkD "find_breaks" 33, mkD "is_settled" 35, mkD "require_settled" 36, mkD "find_values" 37, mkD "find_next_steps" 38, mkD "do_step" 39, mkD "find_stop_from" 41, mkD "find_stop" 42, mkD "require_start" 43, mkD "require_kept" 44, mkD "stop" 45, mkD "_law_spread" 47] : List He.DefD) ++ ([mkD "_law_open" 48, mkD "_law_take" 49, mkD "_law_anew" 50, mkD "_law_one" 51, mkD "_law_columns" 52, mkD "_law_value" 53, mkD "_law_row" 54, mkD "_law_table" 55, mkD "_law_rule" 56, mkD "_law_case" 57, mkD "_law_matches" 58, mkD "_law_rule_breaks" 59, mkD "_law_breaks" 60, mkD "_law_kept_case" 61, mkD "_law_values" 62, mkD "_law_steps" 63, mkD "_law_behind" 64, mkD "_law_is_run" 65, mkD "_law_stops" 66, mkD "_law_is_stop" 67, mkD "law" 68, mkX "Broken" 7 0] : List He.DefD)
def fa : List He.Fa := ([.free "all", .free "bool", .free "enumerate", .free "int", .free "isinstance", .free "len", .free "list", .free "range", .free "repr", .free "set", .free "sorted", .free "tuple", .free "zip", .int "MOST_COLUMNS" 4, .int "MOST_ROWS" 8, .int "MOST_RULES" 8, .glo "InvalidColumns", .exc "InvalidColumns", .glo "InvalidNumber", .exc "InvalidNumber", .glo "InvalidRules", .exc "InvalidRules", .glo "InvalidSettled", .exc "InvalidSettled", .glo "InvalidTable", .exc "InvalidTable", .glo "is_integer", .glo "is_between", .glo "is_value", .glo "is_column"] : List He.Fa) ++ ([.glo "is_value_of", .glo "is_columns", .glo "is_row_of", .glo "is_table_of", .glo "require_columns", .glo "require_table", .glo "is_entry", .glo "is_given", .glo "is_rule_of", .glo "are_rules", .glo "does_match", .glo "are_equal", .glo "require_rules", .glo "find_rule_breaks", .glo "find_breaks", .glo "is_settled", .glo "require_settled", .glo "find_values", .glo "find_next_steps", .glo "do_step", .glo "find_stop_from", .glo "find_stop", .glo "require_start", .glo "require_kept", .glo "stop", .glo "_law_spread", .glo "_law_open", .glo "_law_take", .glo "_law_anew", .glo "_law_one"] : List He.Fa) ++ ([.glo "_law_columns", .glo "_law_value", .glo "_law_row", .glo "_law_table", .glo "_law_rule", .glo "_law_case", .glo "_law_matches", .glo "_law_rule_breaks", .glo "_law_breaks", .glo "_law_kept_case", .glo "_law_values", .glo "_law_steps", .glo "_law_behind", .glo "_law_is_run", .glo "_law_stops", .glo "_law_is_stop", .glo "law", .noat "Broken" "found", .meth "Broken" "__init__", .glo "Broken", .glo "RuleError"] : List He.Fa)
def loose : List Str := (["is_integer", "is_between", "is_value", "is_column", "is_value_of", "is_columns", "is_row_of", "is_table_of", "require_columns", "require_table", "is_entry", "is_given", "is_rule_of", "are_rules", "does_match", "are_equal", "require_rules", "find_rule_breaks", "find_breaks", "is_settled", "require_settled", "find_values", "find_next_steps", "do_step", "find_stop_from", "find_stop", "require_start", "require_kept", "stop", "_law_spread"] : List Str) ++ (["_law_open", "_law_take", "_law_anew", "_law_one", "_law_columns", "_law_value", "_law_row", "_law_table", "_law_rule", "_law_case", "_law_matches", "_law_rule_breaks", "_law_breaks", "_law_kept_case", "_law_values", "_law_steps", "_law_behind", "_law_is_run", "_law_stops", "_law_is_stop", "RuleError", "InvalidColumns", "InvalidTable", "InvalidRules", "InvalidSettled", "InvalidNumber", "Broken", "MOST_COLUMNS", "MOST_ROWS", "MOST_RULES"] : List Str)
abbrev R : PySem.W.OpenRow := PySem.W.OpenLaw.row PySem.Challenge.rw_whererules_k46_stops
def payB (K : PySem.W.Frag) : List Bool := [oexB K (He.ga K "Broken"), xrB K (He.ga K "RuleError")]
def ys : List (Str × List (Str × Bool)) := []
def xs_ : List Str := []
def ex0 (K : PySem.W.Frag) : Bool := xs_.all (excB K) && (kits1 K ys && (kit1 K (.type "ValueError") [] && true))
def ex (K : PySem.W.Frag) : Bool := ex0 K && (payB K).all id
theorem exo_p_Broken {K : PySem.W.Frag} (h : ex K = true) : oexB K (He.ga K "Broken") = true := List.all_eq_true.mp (Bool.and_eq_true_iff.mp h).2 _ (List.mem_of_getElem? (show (payB K)[0]? = some _ from rfl))
theorem zoz {K : PySem.W.Frag} (h : ex K = true) : xrB K (He.ga K "RuleError") = true := List.all_eq_true.mp (Bool.and_eq_true_iff.mp h).2 _ (List.mem_of_getElem? (show (payB K)[1]? = some _ from rfl))
def as_ : List Addr := ([3, 6, 4, 24, 37, 49, 61, 73, 85, 104, 113, 120, 127, 132, 139, 144, 149, 154, 161, 168, 175, 180, 185, 190, 195, 200, 207, 212, 217, 222] : List Addr) ++ ([229, 234, 239, 246, 253, 260, 267, 274, 281, 288, 295, 302, 309, 316, 321, 328, 333, 340, 347, 352, 357, 362, 367, 372, 377, 382, 389, 394, 401, 408] : List Addr) ++ ([413, 0, 23, 36, 48, 60, 72, 84, 103, 112, 119, 126, 131, 138, 143, 148, 153, 160, 167, 174, 179, 184, 189, 194, 199, 206, 211, 216, 221, 228] : List Addr) ++ ([233, 238, 245, 252, 259, 266, 273, 280, 287, 294, 301, 308, 315, 320, 327, 332, 339, 346, 351, 356, 361, 366, 371, 376, 381, 388, 393, 400, 407, 412] : List Addr) ++ ([22, 25, 35, 47, 59, 71, 83, 101, 102, 107, 108, 109, 110, 111, 114, 115, 116, 117, 118, 121, 122, 123, 124, 125, 128, 129, 130, 133, 134, 135] : List Addr) ++ ([136, 137, 140, 141, 142, 145, 146, 147, 150, 151, 152, 155, 156, 157, 158, 159, 162, 163, 164, 165, 166, 169, 170, 171, 172, 173, 176, 177, 178, 181] : List Addr) ++ ([182, 183, 186, 187, 188, 191, 192, 193, 196, 197, 198, 201, 202, 203, 204, 205, 208, 209, 210, 213, 214, 215, 218, 219, 220, 223, 224, 225, 226, 227] : List Addr) ++ ([230, 231, 232, 235, 236, 237, 240, 241, 242, 243, 244, 247, 248, 249, 250, 251, 254, 255, 256, 257, 258, 261, 262, 263, 264, 265, 268, 269, 270, 271] : List Addr) ++ ([272, 275, 276, 277, 278, 279, 282, 283, 284, 285, 286, 289, 290, 291, 292, 293, 296, 297, 298, 299, 300, 303, 304, 305, 306, 307, 310, 311, 312, 313] : List Addr) ++ ([314, 317, 318, 319, 322, 323, 324, 325, 326, 329, 330, 331, 334, 335, 336, 337, 338, 341, 342, 343, 344, 345, 348, 349, 350, 353, 354, 355, 358, 359] : List Addr) ++ ([360, 363, 364, 365, 368, 369, 370, 373, 374, 375, 378, 379, 380, 383, 384, 385, 386, 387, 390, 391, 392, 395, 396, 397, 398, 399, 402, 403, 404, 405] : List Addr) ++ ([406, 409, 410, 411, 100, 95, 96, 97, 98, 99] : List Addr) ++ [PySem.cStatics]
abbrev hk : PySem.W.Hook := DL.hookT fa fn ex as_
def ob (s : PySem.W.SharedT) : He.AlD × Bool := DL.obsT fa fn ex as_ (HandSHeadRun.getT s)
theorem ob_eq (s : PySem.W.SharedT) : ob s = hk.obs s.abs := DL.obsT_eq (HandSHeadRun.getT_eq s)
open PySem PySem.W PySem.Calls PyProof.Rows in
theorem runA (w : World) (os : OsState) : (HandSHeadRun.endF (HandSHeadRun.stepQ (HandSHeadRun.denQ HandSHeadRun.tabQ) R.prog w) 20000 R.prog w os).map (fun s => (HandSHeadRun.looksF R.prog (boot_heap w.params) s.abs, HandSHeadRun.seenQ (PySem.W.view R.prog [68]) loose (importedModules R.prog.main.body) (fun s => xlAt (PySem.W.view R.prog [68]) [] s && recOk R.toRowW.records s) s.abs)) = some (true, openGood (PySem.W.view R.prog [68]) loose) := by
  kernel_rfl
open PySem PySem.W PySem.Calls PyProof.Rows in
theorem runC1 (w : World) (os : OsState) : (HandSHeadRun.endF (HandSHeadRun.stepQ (HandSHeadRun.denQ HandSHeadRun.tabQ) R.prog w) 20000 R.prog w os).map (fun s => (fa.all fun f => f.ok (DL.zjh (He.frG (HandSHeadRun.getT s) as_))) && (fn.take 26).all fun d => d.ok (DL.zjh (He.frG (HandSHeadRun.getT s) as_))) = some true := by
  kernel_rfl
open PySem PySem.W PySem.Calls PyProof.Rows in
theorem runC2 (w : World) (os : OsState) : (HandSHeadRun.endF (HandSHeadRun.stepQ (HandSHeadRun.denQ HandSHeadRun.tabQ) R.prog w) 20000 R.prog w os).map (fun s => (fn.drop 26).all fun d => d.ok (DL.zjh (He.frG (HandSHeadRun.getT s) as_))) = some true := by
  kernel_rfl
open PySem PySem.W PySem.Calls PyProof.Rows in
theorem runC3 (w : World) (os : OsState) : (HandSHeadRun.endF (HandSHeadRun.stepQ (HandSHeadRun.denQ HandSHeadRun.tabQ) R.prog w) 20000 R.prog w os).map (fun s => fn.map fun d => He.fnW (DL.zjh (He.frG (HandSHeadRun.getT s) as_)) d.at_) = some (fn.map He.DefD.val) := by
  kernel_rfl
theorem runJ {σ : Type} {o : Option σ} {K : σ → PySem.W.Frag} {fa : List He.Fa} {fn : List He.DefD} (h : Nat) (A : o.map (fun s => (fa.all fun f => f.ok (K s)) && (fn.take h).all fun d => d.ok (K s)) = some true) (B : o.map (fun s => (fn.drop h).all fun d => d.ok (K s)) = some true) (C : o.map (fun s => fn.map fun d => He.fnW (K s) d.at_) = some (fn.map He.DefD.val)) : o.map (fun s => He.obsD fa fn (K s)) = some (He.valD fn) := by
  cases o with
  | none => exact absurd A (by simp)
  | some s =>
    have A : ((fa.all fun f => f.ok (K s)) && (fn.take h).all fun d => d.ok (K s)) = true := Option.some.inj A
    have B : ((fn.drop h).all fun d => d.ok (K s)) = true := Option.some.inj B
    have C : (fn.map fun d => He.fnW (K s) d.at_) = fn.map He.DefD.val := Option.some.inj C
    rw [Bool.and_eq_true] at A
    have e : (fn.all fun d => d.ok (K s)) = true := by
      rw [← List.take_append_drop h fn, List.all_append, A.2, B]
      rfl
    show some ((fa.all fun f => f.ok (K s)) && fn.all fun d => d.ok (K s), fn.map fun d => He.fnW (K s) d.at_) = some (true, fn.map He.DefD.val)
    rw [A.1, e, C]
    rfl
open PySem PySem.W PySem.Calls PyProof.Rows in
theorem runB1 (w : World) (os : OsState) : (HandSHeadRun.endF (HandSHeadRun.stepQ (HandSHeadRun.denQ HandSHeadRun.tabQ) R.prog w) 20000 R.prog w os).map (fun s => He.obsD fa fn (DL.zjh (He.frG (HandSHeadRun.getT s) as_))) = some (He.valD fn) := runJ 26 (runC1 w os) (runC2 w os) (runC3 w os)
open PySem PySem.W PySem.Calls PyProof.Rows in
theorem runB2 (w : World) (os : OsState) : (HandSHeadRun.endF (HandSHeadRun.stepQ (HandSHeadRun.denQ HandSHeadRun.tabQ) R.prog w) 20000 R.prog w os).map (fun s => ex (DL.zjh (He.frG (HandSHeadRun.getT s) as_)) && DL.tabLB (He.frG (HandSHeadRun.getT s) as_)) = some true := by
  kernel_rfl
theorem runP {σ α β : Type} {o : Option σ} {f : σ → α} {g : σ → β} {a : α} {b : β} (A : o.map f = some a) (B : o.map g = some b) : o.map (fun s => (f s, g s)) = some (a, b) := by
  cases o with
  | none => exact absurd A (by simp)
  | some s =>
    have A := Option.some.inj A
    have B := Option.some.inj B
    show some (f s, g s) = _
    rw [A, B]
open PySem PySem.W PySem.Calls PyProof.Rows in
theorem runB (w : World) (os : OsState) : (HandSHeadRun.endF (HandSHeadRun.stepQ (HandSHeadRun.denQ HandSHeadRun.tabQ) R.prog w) 20000 R.prog w os).map (fun s => ob s) = some (hk.val w) := runP (runB1 w os) (runB2 w os)
theorem run (w : World) : HandSHeadRun.RunEq R (PySem.W.view R.prog [68]) hk ob 20000 loose w := fun os => DL.run2 (runA w os) (runB w os)
end T46
set_option maxHeartbeats 0
namespace T46
open PySem PySem.Spec PyProof.Rows L2 DL
def top (i : Nat) : Stmt := PySem.Challenge.pw_whererules_k46_stops.main.body.getD i (.Pass ⟨0, 0, 0, 0⟩)
structure Txt (K : PySem.W.Frag) (mg : Str → Option Value) : Prop where
  b_all : mg "all" = none
  b_bool : mg "bool" = none
  b_enumerate : mg "enumerate" = none
  b_int : mg "int" = none
  b_isinstance : mg "isinstance" = none
  b_len : mg "len" = none
  b_list : mg "list" = none
  b_range : mg "range" = none
  b_repr : mg "repr" = none
  b_set : mg "set" = none
  b_sorted : mg "sorted" = none
  b_tuple : mg "tuple" = none
  b_zip : mg "zip" = none
  i_MOST_COLUMNS : ∃ t, mg "MOST_COLUMNS" = some (.int 4 t)
  i_MOST_ROWS : ∃ t, mg "MOST_ROWS" = some (.int 8 t)
  i_MOST_RULES : ∃ t, mg "MOST_RULES" = some (.int 8 t)
  e_InvalidColumns : ExcD K mg "InvalidColumns"
  e_InvalidNumber : ExcD K mg "InvalidNumber"
  e_InvalidRules : ExcD K mg "InvalidRules"
  e_InvalidSettled : ExcD K mg "InvalidSettled"
  e_InvalidTable : ExcD K mg "InvalidTable"
  xc_Broken : XcD K mg "Broken" "found"
  xm_Broken : ∃ fi fd, FunD K "__init__" "Broken.__init__" (defArgs (mth (top 7) 0)) (defBody (mth (top 7) 0)) (defScope (mth (top 7) 0)) [] [] fi fd ∧ PySem.W.findIn K (.ref (He.ga K "Broken")) "__init__" = some (some (.ref fi)) ∧ PySem.W.typeIn K (.ref fi) = some (.type "function")
  xr_RuleError : XrD K mg "RuleError"
  d_is_integer : ∃ f fd, FunD K "is_integer" "is_integer" (defArgs (top 9)) (defBody (top 9)) (defScope (top 9)) [] [] f fd ∧ mg "is_integer" = some (.ref f)
  d_is_between : ∃ f fd, FunD K "is_between" "is_between" (defArgs (top 10)) (defBody (top 10)) (defScope (top 10)) [] [] f fd ∧ mg "is_between" = some (.ref f)
  d_is_value : ∃ f fd, FunD K "is_value" "is_value" (defArgs (top 14)) (defBody (top 14)) (defScope (top 14)) [] [] f fd ∧ mg "is_value" = some (.ref f)
  d_is_column : ∃ f fd, FunD K "is_column" "is_column" (defArgs (top 15)) (defBody (top 15)) (defScope (top 15)) [] [] f fd ∧ mg "is_column" = some (.ref f)
  d_is_value_of : ∃ f fd, FunD K "is_value_of" "is_value_of" (defArgs (top 16)) (defBody (top 16)) (defScope (top 16)) [] [] f fd ∧ mg "is_value_of" = some (.ref f)
  d_is_columns : ∃ f fd, FunD K "is_columns" "is_columns" (defArgs (top 17)) (defBody (top 17)) (defScope (top 17)) [] [] f fd ∧ mg "is_columns" = some (.ref f)
  d_is_row_of : ∃ f fd, FunD K "is_row_of" "is_row_of" (defArgs (top 18)) (defBody (top 18)) (defScope (top 18)) [] [] f fd ∧ mg "is_row_of" = some (.ref f)
  d_is_table_of : ∃ f fd, FunD K "is_table_of" "is_table_of" (defArgs (top 19)) (defBody (top 19)) (defScope (top 19)) [] [] f fd ∧ mg "is_table_of" = some (.ref f)
  d_require_columns : ∃ f fd, FunD K "require_columns" "require_columns" (defArgs (top 20)) (defBody (top 20)) (defScope (top 20)) [] [] f fd ∧ mg "require_columns" = some (.ref f)
  d_require_table : ∃ f fd, FunD K "require_table" "require_table" (defArgs (top 21)) (defBody (top 21)) (defScope (top 21)) [] [] f fd ∧ mg "require_table" = some (.ref f)
  d_is_entry : ∃ f fd, FunD K "is_entry" "is_entry" (defArgs (top 24)) (defBody (top 24)) (defScope (top 24)) [] [] f fd ∧ mg "is_entry" = some (.ref f)
  d_is_given : ∃ f fd, FunD K "is_given" "is_given" (defArgs (top 25)) (defBody (top 25)) (defScope (top 25)) [] [] f fd ∧ mg "is_given" = some (.ref f)
  d_is_rule_of : ∃ f fd, FunD K "is_rule_of" "is_rule_of" (defArgs (top 26)) (defBody (top 26)) (defScope (top 26)) [] [] f fd ∧ mg "is_rule_of" = some (.ref f)
  d_are_rules : ∃ f fd, FunD K "are_rules" "are_rules" (defArgs (top 27)) (defBody (top 27)) (defScope (top 27)) [] [] f fd ∧ mg "are_rules" = some (.ref f)
  d_does_match : ∃ f fd, FunD K "does_match" "does_match" (defArgs (top 28)) (defBody (top 28)) (defScope (top 28)) [] [] f fd ∧ mg "does_match" = some (.ref f)
  d_are_equal : ∃ f fd, FunD K "are_equal" "are_equal" (defArgs (top 29)) (defBody (top 29)) (defScope (top 29)) [] [] f fd ∧ mg "are_equal" = some (.ref f)
  d_require_rules : ∃ f fd, FunD K "require_rules" "require_rules" (defArgs (top 30)) (defBody (top 30)) (defScope (top 30)) [] [] f fd ∧ mg "require_rules" = some (.ref f)
  d_find_rule_breaks : ∃ f fd, FunD K "find_rule_breaks" "find_rule_breaks" (defArgs (top 32)) (defBody (top 32)) (defScope (top 32)) [] [] f fd ∧ mg "find_rule_breaks" = some (.ref f)
  d_find_breaks : ∃ f fd, FunD K "find_breaks" "find_breaks" (defArgs (top 33)) (defBody (top 33)) (defScope (top 33)) [] [] f fd ∧ mg "find_breaks" = some (.ref f)
  d_is_settled : ∃ f fd, FunD K "is_settled" "is_settled" (defArgs (top 35)) (defBody (top 35)) (defScope (top 35)) [] [] f fd ∧ mg "is_settled" = some (.ref f)
  d_require_settled : ∃ f fd, FunD K "require_settled" "require_settled" (defArgs (top 36)) (defBody (top 36)) (defScope (top 36)) [] [] f fd ∧ mg "require_settled" = some (.ref f)
  d_find_values : ∃ f fd, FunD K "find_values" "find_values" (defArgs (top 37)) (defBody (top 37)) (defScope (top 37)) [] [] f fd ∧ mg "find_values" = some (.ref f)
  d_find_next_steps : ∃ f fd, FunD K "find_next_steps" "find_next_steps" (defArgs (top 38)) (defBody (top 38)) (defScope (top 38)) [] [] f fd ∧ mg "find_next_steps" = some (.ref f)
  d_do_step : ∃ f fd, FunD K "do_step" "do_step" (defArgs (top 39)) (defBody (top 39)) (defScope (top 39)) [] [] f fd ∧ mg "do_step" = some (.ref f)
  d_find_stop_from : ∃ f fd, FunD K "find_stop_from" "find_stop_from" (defArgs (top 41)) (defBody (top 41)) (defScope (top 41)) [] [] f fd ∧ mg "find_stop_from" = some (.ref f)
  d_find_stop : ∃ f fd, FunD K "find_stop" "find_stop" (defArgs (top 42)) (defBody (top 42)) (defScope (top 42)) [] [] f fd ∧ mg "find_stop" = some (.ref f)
  d_require_start : ∃ f fd, FunD K "require_start" "require_start" (defArgs (top 43)) (defBody (top 43)) (defScope (top 43)) [] [] f fd ∧ mg "require_start" = some (.ref f)
  d_require_kept : ∃ f fd, FunD K "require_kept" "require_kept" (defArgs (top 44)) (defBody (top 44)) (defScope (top 44)) [] [] f fd ∧ mg "require_kept" = some (.ref f)
  d_stop : ∃ f fd, FunD K "stop" "stop" (defArgs (top 45)) (defBody (top 45)) (defScope (top 45)) [] [] f fd ∧ mg "stop" = some (.ref f)
  d_l_law_spread : ∃ f fd, FunD K "_law_spread" "_law_spread" (defArgs (top 47)) (defBody (top 47)) (defScope (top 47)) [] [] f fd ∧ mg "_law_spread" = some (.ref f)
  d_l_law_open : ∃ f fd, FunD K "_law_open" "_law_open" (defArgs (top 48)) (defBody (top 48)) (defScope (top 48)) [] [] f fd ∧ mg "_law_open" = some (.ref f)
  d_l_law_take : ∃ f fd, FunD K "_law_take" "_law_take" (defArgs (top 49)) (defBody (top 49)) (defScope (top 49)) [] [] f fd ∧ mg "_law_take" = some (.ref f)
  d_l_law_anew : ∃ f fd, FunD K "_law_anew" "_law_anew" (defArgs (top 50)) (defBody (top 50)) (defScope (top 50)) [] [] f fd ∧ mg "_law_anew" = some (.ref f)
  d_l_law_one : ∃ f fd, FunD K "_law_one" "_law_one" (defArgs (top 51)) (defBody (top 51)) (defScope (top 51)) [] [] f fd ∧ mg "_law_one" = some (.ref f)
  d_l_law_columns : ∃ f fd, FunD K "_law_columns" "_law_columns" (defArgs (top 52)) (defBody (top 52)) (defScope (top 52)) [] [] f fd ∧ mg "_law_columns" = some (.ref f)
  d_l_law_value : ∃ f fd, FunD K "_law_value" "_law_value" (defArgs (top 53)) (defBody (top 53)) (defScope (top 53)) [] [] f fd ∧ mg "_law_value" = some (.ref f)
  d_l_law_row : ∃ f fd, FunD K "_law_row" "_law_row" (defArgs (top 54)) (defBody (top 54)) (defScope (top 54)) [] [] f fd ∧ mg "_law_row" = some (.ref f)
  d_l_law_table : ∃ f fd, FunD K "_law_table" "_law_table" (defArgs (top 55)) (defBody (top 55)) (defScope (top 55)) [] [] f fd ∧ mg "_law_table" = some (.ref f)
  d_l_law_rule : ∃ f fd, FunD K "_law_rule" "_law_rule" (defArgs (top 56)) (defBody (top 56)) (defScope (top 56)) [] [] f fd ∧ mg "_law_rule" = some (.ref f)
  d_l_law_case : ∃ f fd, FunD K "_law_case" "_law_case" (defArgs (top 57)) (defBody (top 57)) (defScope (top 57)) [] [] f fd ∧ mg "_law_case" = some (.ref f)
  d_l_law_matches : ∃ f fd, FunD K "_law_matches" "_law_matches" (defArgs (top 58)) (defBody (top 58)) (defScope (top 58)) [] [] f fd ∧ mg "_law_matches" = some (.ref f)
  d_l_law_rule_breaks : ∃ f fd, FunD K "_law_rule_breaks" "_law_rule_breaks" (defArgs (top 59)) (defBody (top 59)) (defScope (top 59)) [] [] f fd ∧ mg "_law_rule_breaks" = some (.ref f)
  d_l_law_breaks : ∃ f fd, FunD K "_law_breaks" "_law_breaks" (defArgs (top 60)) (defBody (top 60)) (defScope (top 60)) [] [] f fd ∧ mg "_law_breaks" = some (.ref f)
  d_l_law_kept_case : ∃ f fd, FunD K "_law_kept_case" "_law_kept_case" (defArgs (top 61)) (defBody (top 61)) (defScope (top 61)) [] [] f fd ∧ mg "_law_kept_case" = some (.ref f)
  d_l_law_values : ∃ f fd, FunD K "_law_values" "_law_values" (defArgs (top 62)) (defBody (top 62)) (defScope (top 62)) [] [] f fd ∧ mg "_law_values" = some (.ref f)
  d_l_law_steps : ∃ f fd, FunD K "_law_steps" "_law_steps" (defArgs (top 63)) (defBody (top 63)) (defScope (top 63)) [] [] f fd ∧ mg "_law_steps" = some (.ref f)
  d_l_law_behind : ∃ f fd, FunD K "_law_behind" "_law_behind" (defArgs (top 64)) (defBody (top 64)) (defScope (top 64)) [] [] f fd ∧ mg "_law_behind" = some (.ref f)
  d_l_law_is_run : ∃ f fd, FunD K "_law_is_run" "_law_is_run" (defArgs (top 65)) (defBody (top 65)) (defScope (top 65)) [] [] f fd ∧ mg "_law_is_run" = some (.ref f)
  d_l_law_stops : ∃ f fd, FunD K "_law_stops" "_law_stops" (defArgs (top 66)) (defBody (top 66)) (defScope (top 66)) [] [] f fd ∧ mg "_law_stops" = some (.ref f)
  d_l_law_is_stop : ∃ f fd, FunD K "_law_is_stop" "_law_is_stop" (defArgs (top 67)) (defBody (top 67)) (defScope (top 67)) [] [] f fd ∧ mg "_law_is_stop" = some (.ref f)
  d_law : ∃ f fd, FunD K "law" "law" (defArgs (top 68)) (defBody (top 68)) (defScope (top 68)) [] [] f fd ∧ mg "law" = some (.ref f)
variable {P : Program} {w : World} {K : PySem.W.Frag} {mg : Str → Option Value} {base : Heap}
theorem scr_Broken : FnScope (["self", "found"] : List Str) (["self", "found"] : List Str) (defScope (mth (top 7) 0)) := ⟨rfl, rfl, rfl, by decide +kernel, rfl, by decide +kernel, by decide +kernel⟩
theorem rk_Broken (T : Txt K mg) : XRaw P w K mg base "Broken" "found" := xraw T.xm_Broken T.xc_Broken scr_Broken rfl (fun _ _ _ _ _ _ us hl => match us, hl with | [_, _], _ => rfl) (fun f cdv A outer s H vs Q E h =>
  ⟨_, pss_cons (ps_expr (pe_rinit rfl T.xr_RuleError.mg T.xr_RuleError.kg T.xr_RuleError.tR T.xr_RuleError.rR T.xr_RuleError.vV (pa_cons (pe_var rfl (.inl rfl)) (pa_cons pe_str pa_nil)))) (pss_one (ps_ost (pe_var rfl (.inl rfl)) (pe_var rfl (.inl rfl)))), xi_sem rfl h⟩)
theorem zq2 : FnScope (["value"] : List Str) (["value"] : List Str) (defScope (top 9)) := ⟨rfl, rfl, rfl, by decide +kernel, rfl, by decide +kernel, by decide +kernel⟩
theorem zlr (T : Txt K mg) : Def P w K mg base 1 "is_integer" 1 zg6 := zdj T.d_is_integer zq2 (fun _ _ _ _ _ _ us hl => match us, hl with | [_], _ => rfl) (fun f cdv A outer s H E hr hG =>
    (zag (za1 (de_and (zjf (za_ (i := 0)) T.b_isinstance T.b_int (by decide +kernel)) (zk5 (de_not (zjf (za_ (i := 0)) T.b_isinstance T.b_bool (by decide +kernel))))))))
theorem zqw : FnScope (["value", "least", "most"] : List Str) (["value", "least", "most"] : List Str) (defScope (top 10)) := ⟨rfl, rfl, rfl, by decide +kernel, rfl, by decide +kernel, by decide +kernel⟩
theorem zhi (T : Txt K mg) : Def P w K mg base 2 "is_between" 3 zd3 := zdj T.d_is_between zqw (fun _ _ _ _ _ _ us hl => match us, hl with | [_, _, _], _ => rfl) (fun f cdv A outer s H E hr hG =>
    (zag (za1 (de_and (zaj (zlr T) (hr.mono (by decide)) hG (takes_of rfl rfl rfl rfl) (zaa (za_ (i := 0)) zad) (hlen := (zab zao))) (zk5 (de_chain op_le op_le zn8 zn8 (za_ (i := 1)) (za_ (i := 0)) (za_ (i := 2))))))))
theorem sc_is_value : FnScope (["value"] : List Str) (["value"] : List Str) (defScope (top 14)) := ⟨rfl, rfl, rfl, by decide +kernel, rfl, by decide +kernel, by decide +kernel⟩
theorem zn5 (T : Txt K mg) : Def P w K mg base 2 "is_value" 1 zis := zdj T.d_is_value sc_is_value (fun _ _ _ _ _ _ us hl => match us, hl with | [_], _ => rfl) (fun f cdv A outer s H E hr hG =>
    (zag (za1 (de_and (zaj (zlr T) (hr.mono (by decide)) hG (takes_of rfl rfl rfl rfl) (zaa (za_ (i := 0)) zad) (hlen := (zab zao))) (zk5 (zgp op_ge dGe_ok (za_ (i := 0)) zah))))))
theorem sc_is_column : FnScope (["value", "one"] : List Str) (["value"] : List Str) (defScope (top 15)) := ⟨rfl, rfl, rfl, by decide +kernel, rfl, by decide +kernel, by decide +kernel⟩
theorem ok_is_column (T : Txt K mg) : Def P w K mg base 3 "is_column" 1 ziz := zdj T.d_is_column sc_is_column (fun _ _ _ _ _ _ us hl => match us, hl with | [_], _ => rfl) (fun f cdv A outer s H E hr hG =>
    (zaf (zd_ (zbe op_isN zi4 (za_ (i := 0)) zd1) (zag (za1 zha)) za3)
    (zaf (zd_ (zm8 (zd2 (zfn (zjf (za_ (i := 0)) T.b_isinstance T.b_tuple (by decide +kernel)))) (zkq (zd2 (dt_chain op_le op_le zn8 zn8 zah (zam call_len zbz T.b_len (by decide +kernel) (zaa (za_ (i := 0)) zad)) zah)))).dt (zag (za1 zha)) za3)
    (zaf (zd_ (zd2 (zfn (zam (cr_all rfl) zhd T.b_all (by decide +kernel) (zaa (zg7 (own := [("one", 1)]) rfl sc_is_column.nd (zdh (za_ (i := 0))) (blkOk_by (N := ["value", "one"]) (sc := defScope (top 15)) (by decide +kernel)) (fun _ _ _ _ _ => (zai (i := 1) sc_is_column.nd)) (fun _ _ _ _ _ => zdk) (fun _ _ _ _ _ => (zaj (zn5 T) (hr.mono (by decide)) hG takes0 (zaa (za_ (i := 1)) zad) (hlen := (zab zao))))).de zad)))) (zag (za1 zha)) za3)
    (zag (za1 (zgp (zfp (ru64 hr)) zg4 (zc_ call_list_of dList_ok T.b_list (by decide +kernel) (zaa (za_ (i := 0)) zad)) (zj7 rfl (za_ (i := 0)) T.b_sorted T.b_set).de)))))))
theorem zpu : FnScope (["column", "value"] : List Str) (["column", "value"] : List Str) (defScope (top 16)) := ⟨rfl, rfl, rfl, by decide +kernel, rfl, by decide +kernel, by decide +kernel⟩
theorem zie (T : Txt K mg) : Def P w K mg base 3 "is_value_of" 2 zfu := zdj T.d_is_value_of zpu (fun _ _ _ _ _ _ us hl => match us, hl with | [_, _], _ => rfl) (fun f cdv A outer s H E hr hG =>
    (zag (za1 (de_and (zaj (zn5 T) (hr.mono (by decide)) hG (takes_of rfl rfl rfl rfl) (zaa (za_ (i := 1)) zad) (hlen := (zab zao))) (zk5 (de_or (zgp op_isN zi4 (za_ (i := 0)) zd1) (zk5 (zgp (zqc (ru65 hr)) dIn_ok (za_ (i := 1)) (za_ (i := 0))))))))))
theorem sc_is_columns : FnScope (["value", "column"] : List Str) (["value"] : List Str) (defScope (top 17)) := ⟨rfl, rfl, rfl, by decide +kernel, rfl, by decide +kernel, by decide +kernel⟩
theorem zqq (T : Txt K mg) : Def P w K mg base 4 "is_columns" 1 zib := zdj T.d_is_columns sc_is_columns (fun _ _ _ _ _ _ us hl => match us, hl with | [_], _ => rfl) (fun f cdv A outer s H E hr hG =>
    (zaf (zd_ (zm8 (zd2 (zfn (zjf (za_ (i := 0)) T.b_isinstance T.b_tuple (by decide +kernel)))) (zkq (zd2 (dt_chain op_le op_le zn8 zn8 zah (zam call_len zbz T.b_len (by decide +kernel) (zaa (za_ (i := 0)) zad)) (DL.zl3 (by rfl) T.i_MOST_COLUMNS))))).dt (zag (za1 zha)) za3)
    (zaf (zd_ (zd2 (zfn (zam (cr_all rfl) zhd T.b_all (by decide +kernel) (zaa (zg7 (own := [("column", 1)]) rfl sc_is_columns.nd (zdh (za_ (i := 0))) (blkOk_by (N := ["value", "column"]) (sc := defScope (top 17)) (by decide +kernel)) (fun _ _ _ _ _ => (zai (i := 1) sc_is_columns.nd)) (fun _ _ _ _ _ => zdk) (fun _ _ _ _ _ => (zaj (ok_is_column T) (hr.mono (by decide)) hG takes0 (zaa (za_ (i := 1)) zad) (hlen := (zab zao))))).de zad)))) (zag (za1 zha)) za3)
    (zag (za1 (zgp op_le zn8 (zam call_len zbz T.b_len (by decide +kernel) (zaa (zg7 (own := [("column", 1)]) rfl sc_is_columns.nd (zdh (za_ (i := 0))) (blkOk_by (N := ["value", "column"]) (sc := defScope (top 17)) (by decide +kernel)) (fun _ _ _ _ _ => (zai (i := 1) sc_is_columns.nd)) (fun _ _ _ _ _ => (ziy (zbe op_notN zhj (za_ (i := 1)) zd1))) (fun _ _ _ _ _ => (za_ (i := 1)))).de zad)) zah))))))
theorem sc_is_row_of : FnScope (["columns", "value", "column", "one"] : List Str) (["columns", "value"] : List Str) (defScope (top 18)) := ⟨rfl, rfl, rfl, by decide +kernel, rfl, by decide +kernel, by decide +kernel⟩
theorem ok_is_row_of (T : Txt K mg) : Def P w K mg base 4 "is_row_of" 2 zi5 := zdj T.d_is_row_of sc_is_row_of (fun _ _ _ _ _ _ us hl => match us, hl with | [_, _], _ => rfl) (fun f cdv A outer s H E hr hG =>
    (zaf (zd_ (zm8 (zd2 (zfn (zjf (za_ (i := 1)) T.b_isinstance T.b_tuple (by decide +kernel)))) (zkq (zbe (zgc (ru64 hr)) zil (zam call_len zbz T.b_len (by decide +kernel) (zaa (za_ (i := 1)) zad)) (zam call_len zbz T.b_len (by decide +kernel) (zaa (za_ (i := 0)) zad))))).dt (zag (za1 zha)) za3)
    (zag (za1 (zam (cr_all rfl) zhd T.b_all (by decide +kernel) (zaa (zg7 (own := [("column", 2), ("one", 3)]) rfl sc_is_row_of.nd (di_zip (za_ (i := 0)) (za_ (i := 1)) T.b_zip) (blkOk_by (N := ["columns", "value", "column", "one"]) (sc := defScope (top 18)) (by decide +kernel)) (fun _ _ _ _ _ => (zf8 rfl (zap (zai (i := 2) sc_is_row_of.nd) (zap (zai (i := 3) sc_is_row_of.nd) zdt)) (zak (zak zdd)))) (fun _ _ _ _ _ => zdk) (fun _ _ _ _ _ => (zaj (zie T) (hr.mono (by decide)) hG takes0 (zaa (za_ (i := 2)) (zaa (za_ (i := 3)) zad)) (hlen := (zab (zab zao)))))).de zad))))))
theorem sc_is_table_of : FnScope (["columns", "value", "row"] : List Str) (["columns", "value"] : List Str) (defScope (top 19)) := ⟨rfl, rfl, rfl, by decide +kernel, rfl, by decide +kernel, by decide +kernel⟩
theorem zpg (T : Txt K mg) : Def P w K mg base 5 "is_table_of" 2 zhk := zdj T.d_is_table_of sc_is_table_of (fun _ _ _ _ _ _ us hl => match us, hl with | [_, _], _ => rfl) (fun f cdv A outer s H E hr hG =>
    (zaf (zd_ (zm8 (zd2 (zfn (zjf (za_ (i := 1)) T.b_isinstance T.b_tuple (by decide +kernel)))) (zkq (zbe op_gt dGt_ok (zam call_len zbz T.b_len (by decide +kernel) (zaa (za_ (i := 1)) zad)) (DL.zl3 (by rfl) T.i_MOST_ROWS)))).dt (zag (za1 zha)) za3)
    (zag (za1 (zam (cr_all rfl) zhd T.b_all (by decide +kernel) (zaa (zg7 (own := [("row", 2)]) rfl sc_is_table_of.nd (zdh (za_ (i := 1))) (blkOk_by (N := ["columns", "value", "row"]) (sc := defScope (top 19)) (by decide +kernel)) (fun _ _ _ _ _ => (zai (i := 2) sc_is_table_of.nd)) (fun _ _ _ _ _ => zdk) (fun _ _ _ _ _ => (zaj (ok_is_row_of T) (hr.mono (by decide)) hG takes0 (zaa (za_ (i := 0)) (zaa (za_ (i := 2)) zad)) (hlen := (zab (zab zao)))))).de zad))))))
theorem zl1 : FnScope (["value"] : List Str) (["value"] : List Str) (defScope (top 20)) := ⟨rfl, rfl, rfl, by decide +kernel, rfl, by decide +kernel, by decide +kernel⟩
theorem zlu (T : Txt K mg) : Def P w K mg base 5 "require_columns" 1 zfs := zdj T.d_require_columns zl1 (fun _ _ _ _ _ _ us hl => match us, hl with | [_], _ => rfl) (fun f cdv A outer s H E hr hG =>
    (zag (zd_ (zd2 (zfn (zaj (zqq T) (hr.mono (by decide)) hG (takes_of rfl rfl rfl rfl) (zaa (za_ (i := 0)) zad) (hlen := (zab zao))))) (zag (zk3 rfl (takes_of rfl rfl rfl rfl) T.e_InvalidColumns)) za3)))
theorem znk : FnScope (["columns", "value"] : List Str) (["columns", "value"] : List Str) (defScope (top 21)) := ⟨rfl, rfl, rfl, by decide +kernel, rfl, by decide +kernel, by decide +kernel⟩
theorem znc (T : Txt K mg) : Def P w K mg base 6 "require_table" 2 zfq := zdj T.d_require_table znk (fun _ _ _ _ _ _ us hl => match us, hl with | [_, _], _ => rfl) (fun f cdv A outer s H E hr hG =>
    (zag (zd_ (zd2 (zfn (zaj (zpg T) (hr.mono (by decide)) hG (takes_of rfl rfl rfl rfl) (zaa (za_ (i := 0)) (zaa (za_ (i := 1)) zad)) (hlen := (zab (zab zao)))))) (zag (zk3 rfl (takes_of rfl rfl rfl rfl) T.e_InvalidTable)) za3)))
theorem sc_is_entry : FnScope (["columns", "value"] : List Str) (["columns", "value"] : List Str) (defScope (top 24)) := ⟨rfl, rfl, rfl, by decide +kernel, rfl, by decide +kernel, by decide +kernel⟩
theorem ok_is_entry (T : Txt K mg) : Def P w K mg base 4 "is_entry" 2 zj3 := zdj T.d_is_entry sc_is_entry (fun _ _ _ _ _ _ us hl => match us, hl with | [_, _], _ => rfl) (fun f cdv A outer s H E hr hG =>
    (zaf (zd_ (zm8 (zd2 (zfn (zjf (za_ (i := 1)) T.b_isinstance T.b_tuple (by decide +kernel)))) (zm8 (zbe (zgc (ru64 hr)) zil (zam call_len zbz T.b_len (by decide +kernel) (zaa (za_ (i := 1)) zad)) zah) (zkq (zd2 (zfn (zaj (zhi T) (hr.mono (by decide)) hG (takes_of rfl rfl rfl rfl) (zaa (zbo (za_ (i := 1)) zah) (zaa zah (zaa (zb8 op_sub zn0 (zam call_len zbz T.b_len (by decide +kernel) (zaa (za_ (i := 0)) zad)) zah) zad))) (hlen := (zab (zab (zab zao)))))))))).dt (zag (za1 zha)) za3)
    (zag (za1 (de_or (zgp op_isN zi4 (zbo (za_ (i := 1)) zah) zd1) (zk5 (zaj (zie T) (hr.mono (by decide)) hG (takes_of rfl rfl rfl rfl) (zaa (zbo (za_ (i := 0)) (zbo (za_ (i := 1)) zah)) (zaa (zbo (za_ (i := 1)) zah) zad)) (hlen := (zab (zab zao))))))))))
theorem sc_is_given : FnScope (["columns", "value", "numbers", "entry"] : List Str) (["columns", "value"] : List Str) (defScope (top 25)) := ⟨rfl, rfl, rfl, by decide +kernel, rfl, by decide +kernel, by decide +kernel⟩
theorem ok_is_given (T : Txt K mg) : Def P w K mg base 5 "is_given" 2 zj8 := zdj T.d_is_given sc_is_given (fun _ _ _ _ _ _ us hl => match us, hl with | [_, _], _ => rfl) (fun f cdv A outer s H E hr hG =>
    (zaf (zd_ (zm8 (zd2 (zfn (zjf (za_ (i := 1)) T.b_isinstance T.b_tuple (by decide +kernel)))) (zkq (zd2 (zfn (zam (cr_all rfl) zhd T.b_all (by decide +kernel) (zaa (zg7 (own := [("entry", 3)]) rfl sc_is_given.nd (zdh (za_ (i := 1))) (blkOk_by (N := ["columns", "value", "numbers", "entry"]) (sc := defScope (top 25)) (by decide +kernel)) (fun _ _ _ _ _ => (zai (i := 3) sc_is_given.nd)) (fun _ _ _ _ _ => zdk) (fun _ _ _ _ _ => (zaj (ok_is_entry T) (hr.mono (by decide)) hG takes0 (zaa (za_ (i := 0)) (zaa (za_ (i := 3)) zad)) (hlen := (zab (zab zao)))))).de zad)))))).dt (zag (za1 zha)) za3)
    (zaf (zj5 (i := 2) (own := [("entry", 3)]) rfl sc_is_given.nd (zdh (za_ (i := 1))) (blkOk_by (N := ["columns", "value", "numbers", "entry"]) (sc := defScope (top 25)) (by decide +kernel)) (fun _ _ _ _ _ => (zai (i := 3) sc_is_given.nd)) (fun _ _ _ _ _ => zdk) (fun _ _ _ _ _ => (zbo (za_ (i := 3)) zah)))
    (zag (za1 (zgp (zfp (ru64 hr)) zg4 (za_ (i := 2)) (zj7 rfl (za_ (i := 2)) T.b_sorted T.b_set).de))))))
theorem sc_is_rule_of : FnScope (["columns", "value", "given", "column", "want", "entry"] : List Str) (["columns", "value"] : List Str) (defScope (top 26)) := ⟨rfl, rfl, rfl, by decide +kernel, rfl, by decide +kernel, by decide +kernel⟩
theorem zq4 (T : Txt K mg) : Def P w K mg base 6 "is_rule_of" 2 zi_ := zdj T.d_is_rule_of sc_is_rule_of (fun _ _ _ _ _ _ us hl => match us, hl with | [_, _], _ => rfl) (fun f cdv A outer s H E hr hG =>
    (zaf (zd_ (zm8 (zd2 (zfn (zjf (za_ (i := 1)) T.b_isinstance T.b_tuple (by decide +kernel)))) (zm8 (zbe (zgc (ru64 hr)) zil (zam call_len zbz T.b_len (by decide +kernel) (zaa (za_ (i := 1)) zad)) zah) (zkq (zd2 (zfn (zaj (ok_is_given T) (hr.mono (by decide)) hG (takes_of rfl rfl rfl rfl) (zaa (za_ (i := 0)) (zaa (zbo (za_ (i := 1)) zah) zad)) (hlen := (zab (zab zao))))))))).dt (zag (za1 zha)) za3)
    (zaf (zmh (za_ (i := 1)) (zf8 rfl (zap (zai (i := 2) sc_is_rule_of.nd) (zap (zai (i := 3) sc_is_rule_of.nd) (zap (zai (i := 4) sc_is_rule_of.nd) zdt))) (zak (zak (zak zdd)))))
    (zaf (zd_ (zm8 (zd2 (zfn (zaj (zhi T) (hr.mono (by decide)) hG (takes_of rfl rfl rfl rfl) (zaa (za_ (i := 3)) (zaa zah (zaa (zb8 op_sub zn0 (zam call_len zbz T.b_len (by decide +kernel) (zaa (za_ (i := 0)) zad)) zah) zad))) (hlen := (zab (zab (zab zao))))))) (zkq (zbe (zqc (ru65 hr)) dIn_ok (za_ (i := 3)) (zg7 (own := [("entry", 5)]) rfl sc_is_rule_of.nd (zdh (za_ (i := 2))) (blkOk_by (N := ["columns", "value", "given", "column", "want", "entry"]) (sc := defScope (top 26)) (by decide +kernel)) (fun _ _ _ _ _ => (zai (i := 5) sc_is_rule_of.nd)) (fun _ _ _ _ _ => zdk) (fun _ _ _ _ _ => (zbo (za_ (i := 5)) zah))).de))).dt (zag (za1 zha)) za3)
    (zaf (zd_ (zbe op_isN zi4 (za_ (i := 4)) zd1) (zag (za1 zha)) za3)
    (zag (za1 (de_and (zaj (zie T) (hr.mono (by decide)) hG (takes_of rfl rfl rfl rfl) (zaa (zbo (za_ (i := 0)) (za_ (i := 3))) (zaa (za_ (i := 4)) zad)) (hlen := (zab (zab zao)))) (zk5 (zam (cr_all rfl) zhd T.b_all (by decide +kernel) (zaa (zg7 (own := [("entry", 5)]) rfl sc_is_rule_of.nd (zdh (za_ (i := 2))) (blkOk_by (N := ["columns", "value", "given", "column", "want", "entry"]) (sc := defScope (top 26)) (by decide +kernel)) (fun _ _ _ _ _ => (zai (i := 5) sc_is_rule_of.nd)) (fun _ _ _ _ _ => zdk) (fun _ _ _ _ _ => (zgp op_notN zhj (zbo (za_ (i := 5)) zah) zd1))).de zad)))))))))))
theorem sc_are_rules : FnScope (["columns", "value", "rule"] : List Str) (["columns", "value"] : List Str) (defScope (top 27)) := ⟨rfl, rfl, rfl, by decide +kernel, rfl, by decide +kernel, by decide +kernel⟩
theorem ok_are_rules (T : Txt K mg) : Def P w K mg base 7 "are_rules" 2 zi6 := zdj T.d_are_rules sc_are_rules (fun _ _ _ _ _ _ us hl => match us, hl with | [_, _], _ => rfl) (fun f cdv A outer s H E hr hG =>
    (zaf (zd_ (zm8 (zd2 (zfn (zjf (za_ (i := 1)) T.b_isinstance T.b_tuple (by decide +kernel)))) (zkq (zbe op_gt dGt_ok (zam call_len zbz T.b_len (by decide +kernel) (zaa (za_ (i := 1)) zad)) (DL.zl3 (by rfl) T.i_MOST_RULES)))).dt (zag (za1 zha)) za3)
    (zag (za1 (zam (cr_all rfl) zhd T.b_all (by decide +kernel) (zaa (zg7 (own := [("rule", 2)]) rfl sc_are_rules.nd (zdh (za_ (i := 1))) (blkOk_by (N := ["columns", "value", "rule"]) (sc := defScope (top 27)) (by decide +kernel)) (fun _ _ _ _ _ => (zai (i := 2) sc_are_rules.nd)) (fun _ _ _ _ _ => zdk) (fun _ _ _ _ _ => (zaj (zq4 T) (hr.mono (by decide)) hG takes0 (zaa (za_ (i := 0)) (zaa (za_ (i := 2)) zad)) (hlen := (zab (zab zao)))))).de zad))))))
theorem sc_does_match : FnScope (["given", "row", "column", "value"] : List Str) (["given", "row"] : List Str) (defScope (top 28)) := ⟨rfl, rfl, rfl, by decide +kernel, rfl, by decide +kernel, by decide +kernel⟩
theorem zjb (T : Txt K mg) : Def P w K mg base 1 "does_match" 2 zf9 := zdj T.d_does_match sc_does_match (fun _ _ _ _ _ _ us hl => match us, hl with | [_, _], _ => rfl) (fun f cdv A outer s H E hr hG =>
    (zag (za1 (zam (cr_all rfl) zhd T.b_all (by decide +kernel) (zaa (zg7 (own := [("column", 2), ("value", 3)]) rfl sc_does_match.nd (zdh (za_ (i := 0))) (blkOk_by (N := ["given", "row", "column", "value"]) (sc := defScope (top 28)) (by decide +kernel)) (fun _ _ _ _ _ => (zf8 rfl (zap (zai (i := 2) sc_does_match.nd) (zap (zai (i := 3) sc_does_match.nd) zdt)) (zak (zak zdd)))) (fun _ _ _ _ _ => zdk) (fun _ _ _ _ _ => (de_or (zgp op_isN zi4 (za_ (i := 3)) zd1) (zk5 (zgp (zfp (ru64 hr)) zg4 (zbo (za_ (i := 1)) (za_ (i := 2))) (za_ (i := 3))))))).de zad)))))
theorem sc_are_equal : FnScope (["given", "row", "other", "entry"] : List Str) (["given", "row", "other"] : List Str) (defScope (top 29)) := ⟨rfl, rfl, rfl, by decide +kernel, rfl, by decide +kernel, by decide +kernel⟩
theorem zmv (T : Txt K mg) : Def P w K mg base 1 "are_equal" 3 zhz := zdj T.d_are_equal sc_are_equal (fun _ _ _ _ _ _ us hl => match us, hl with | [_, _, _], _ => rfl) (fun f cdv A outer s H E hr hG =>
    (zag (za1 (zam (cr_all rfl) zhd T.b_all (by decide +kernel) (zaa (zg7 (own := [("entry", 3)]) rfl sc_are_equal.nd (zdh (za_ (i := 0))) (blkOk_by (N := ["given", "row", "other", "entry"]) (sc := defScope (top 29)) (by decide +kernel)) (fun _ _ _ _ _ => (zai (i := 3) sc_are_equal.nd)) (fun _ _ _ _ _ => zdk) (fun _ _ _ _ _ => (zgp (zfp (ru64 hr)) zg4 (zbo (za_ (i := 1)) (zbo (za_ (i := 3)) zah)) (zbo (za_ (i := 2)) (zbo (za_ (i := 3)) zah))))).de zad)))))
theorem znh : FnScope (["columns", "value"] : List Str) (["columns", "value"] : List Str) (defScope (top 30)) := ⟨rfl, rfl, rfl, by decide +kernel, rfl, by decide +kernel, by decide +kernel⟩
theorem zne (T : Txt K mg) : Def P w K mg base 8 "require_rules" 2 zgd := zdj T.d_require_rules znh (fun _ _ _ _ _ _ us hl => match us, hl with | [_, _], _ => rfl) (fun f cdv A outer s H E hr hG =>
    (zaf (zmc (zaj (zlu T) (hr.mono (by decide)) hG (takes_of rfl rfl rfl rfl) (zaa (za_ (i := 0)) zad) (hlen := (zab zao))))
    (zag (zd_ (zd2 (zfn (zaj (ok_are_rules T) (hr.mono (by decide)) hG (takes_of rfl rfl rfl rfl) (zaa (za_ (i := 0)) (zaa (za_ (i := 1)) zad)) (hlen := (zab (zab zao)))))) (zag (zk3 rfl (takes_of rfl rfl rfl rfl) T.e_InvalidRules)) za3))))
theorem sc_find_rule_breaks : FnScope (["rule", "table", "rows", "found", "i", "given", "column", "want", "j"] : List Str) (["rule", "table"] : List Str) (defScope (top 32)) := ⟨rfl, rfl, rfl, by decide +kernel, rfl, by decide +kernel, by decide +kernel⟩
theorem zks (T : Txt K mg) : Def P w K mg base 2 "find_rule_breaks" 2 zfm := zdj T.d_find_rule_breaks sc_find_rule_breaks (fun _ _ _ _ _ _ us hl => match us, hl with | [_, _], _ => rfl) (fun f cdv A outer s H E hr hG =>
    (zaf (zmh (za_ (i := 0)) (zf8 rfl (zap (zai (i := 5) sc_find_rule_breaks.nd) (zap (zai (i := 6) sc_find_rule_breaks.nd) (zap (zai (i := 7) sc_find_rule_breaks.nd) zdt))) (zak (zak (zak zdd)))))
    (zaf (zj5 (i := 2) (own := [("i", 4)]) rfl sc_find_rule_breaks.nd (zdz (zaa (zam call_len zbz T.b_len (by decide +kernel) (zaa (za_ (i := 1)) zad)) zad) T.b_range) (blkOk_by (N := ["rule", "table", "rows", "found", "i", "given", "column", "want", "j"]) (sc := defScope (top 32)) (by decide +kernel)) (fun _ _ _ _ _ => (zai (i := 4) sc_find_rule_breaks.nd)) (fun _ _ _ _ _ => (ziy (zfn (zaj (zjb T) (hr.mono (by decide)) hG takes0 (zaa (za_ (i := 5)) (zaa (zbo (za_ (i := 1)) (za_ (i := 4))) zad)) (hlen := (zab (zab zao))))))) (fun _ _ _ _ _ => (za_ (i := 4))))
    (zaf (zd_ (zbe op_notN zhj (za_ (i := 7)) zd1) (zag (za1 (zg7 (own := [("i", 4)]) rfl sc_find_rule_breaks.nd (zdh (za_ (i := 2))) (blkOk_by (N := ["rule", "table", "rows", "found", "i", "given", "column", "want", "j"]) (sc := defScope (top 32)) (by decide +kernel)) (fun _ _ _ _ _ => (zai (i := 4) sc_find_rule_breaks.nd)) (fun _ _ _ _ _ => (ziy (zbe (zgc (ru64 hr)) zil (zbo (zbo (za_ (i := 1)) (za_ (i := 4))) (za_ (i := 6))) (za_ (i := 7))))) (fun _ _ _ _ _ => (zde (zaa (za_ (i := 4)) zad)))).de)) za3)
    (zaf (zmw (i := 3) (zjx zad) sc_find_rule_breaks.nd (hf := .inr rfl))
    (zaf (zgg (passes_of rfl) rfl (zdh (za_ (i := 2))) (zai (i := 4) sc_find_rule_breaks.nd) (zag (zgg (passes_of rfl) rfl (zdh (za_ (i := 2))) (zai (i := 8) sc_find_rule_breaks.nd) (zag (zd_ (zhh (zbe op_lt zlh (za_ (i := 4)) (za_ (i := 8))) (zhh (zfn (zaj (zmv T) (hr.mono (by decide)) hG (takes_of rfl rfl rfl rfl) (zaa (za_ (i := 5)) (zaa (zbo (za_ (i := 1)) (za_ (i := 4))) (zaa (zbo (za_ (i := 1)) (za_ (i := 8))) zad))) (hlen := (zab (zab (zab zao)))))) (zhe (zbe (zgc (ru64 hr)) zil (zbo (zbo (za_ (i := 1)) (za_ (i := 4))) (za_ (i := 6))) (zbo (zbo (za_ (i := 1)) (za_ (i := 8))) (za_ (i := 6))))))).dt (zag (zit (za_ (i := 3)) (zde (zaa (za_ (i := 4)) (zaa (za_ (i := 8)) zad))))) za3)))))
    (zl5 (i := 3) (zag (za1 (za_ (i := 3)))))))))))
theorem sc_find_breaks : FnScope (["rules", "table", "found", "k", "rule", "rows"] : List Str) (["rules", "table"] : List Str) (defScope (top 33)) := ⟨rfl, rfl, rfl, by decide +kernel, rfl, by decide +kernel, by decide +kernel⟩
theorem zpc (T : Txt K mg) : Def P w K mg base 3 "find_breaks" 2 zhn := zdj T.d_find_breaks sc_find_breaks (fun _ _ _ _ _ _ us hl => match us, hl with | [_, _], _ => rfl) (fun f cdv A outer s H E hr hG =>
    (zaf (zmw (i := 2) (zjx zad) sc_find_breaks.nd (hf := .inr rfl))
    (zaf (zgg (passes_of rfl) rfl (di_enum (za_ (i := 0)) T.b_enumerate) (zf8 rfl (zap (zai (i := 3) sc_find_breaks.nd) (zap (zai (i := 4) sc_find_breaks.nd) zdt)) (zak (zak zdd))) (zag (zk1 (za_ (i := 2)) (zg7 (own := [("rows", 5)]) rfl sc_find_breaks.nd (zdh (zaj (zks T) (hr.mono (by decide)) hG (takes_of rfl rfl rfl rfl) (zaa (za_ (i := 4)) (zaa (za_ (i := 1)) zad)) (hlen := (zab (zab zao))))) (blkOk_by (N := ["rules", "table", "found", "k", "rule", "rows"]) (sc := defScope (top 33)) (by decide +kernel)) (fun _ _ _ _ _ => (zai (i := 5) sc_find_breaks.nd)) (fun _ _ _ _ _ => zdk) (fun _ _ _ _ _ => (zde (zaa (za_ (i := 3)) (zos (za_ (i := 5)) zad))))).de)))
    (zl5 (i := 2) (zag (za1 (za_ (i := 2))))))))
theorem sc_is_settled : FnScope (["columns", "value", "one"] : List Str) (["columns", "value"] : List Str) (defScope (top 35)) := ⟨rfl, rfl, rfl, by decide +kernel, rfl, by decide +kernel, by decide +kernel⟩
theorem zqf (T : Txt K mg) : Def P w K mg base 3 "is_settled" 2 zh8 := zdj T.d_is_settled sc_is_settled (fun _ _ _ _ _ _ us hl => match us, hl with | [_, _], _ => rfl) (fun f cdv A outer s H E hr hG =>
    (zaf (zd_ (zm8 (zd2 (zfn (zjf (za_ (i := 1)) T.b_isinstance T.b_tuple (by decide +kernel)))) (zkq (zd2 (zfn (zam (cr_all rfl) zhd T.b_all (by decide +kernel) (zaa (zg7 (own := [("one", 2)]) rfl sc_is_settled.nd (zdh (za_ (i := 1))) (blkOk_by (N := ["columns", "value", "one"]) (sc := defScope (top 35)) (by decide +kernel)) (fun _ _ _ _ _ => (zai (i := 2) sc_is_settled.nd)) (fun _ _ _ _ _ => zdk) (fun _ _ _ _ _ => (zaj (zhi T) (hr.mono (by decide)) hG takes0 (zaa (za_ (i := 2)) (zaa zah (zaa (zb8 op_sub zn0 (zam call_len zbz T.b_len (by decide +kernel) (zaa (za_ (i := 0)) zad)) zah) zad))) (hlen := (zab (zab (zab zao))))))).de zad)))))).dt (zag (za1 zha)) za3)
    (zag (za1 (zgp (zfp (ru64 hr)) zg4 (zc_ call_list_of dList_ok T.b_list (by decide +kernel) (zaa (za_ (i := 1)) zad)) (zj7 rfl (za_ (i := 1)) T.b_sorted T.b_set).de)))))
theorem zlg : FnScope (["columns", "value"] : List Str) (["columns", "value"] : List Str) (defScope (top 36)) := ⟨rfl, rfl, rfl, by decide +kernel, rfl, by decide +kernel, by decide +kernel⟩
theorem zld (T : Txt K mg) : Def P w K mg base 4 "require_settled" 2 zfv := zdj T.d_require_settled zlg (fun _ _ _ _ _ _ us hl => match us, hl with | [_, _], _ => rfl) (fun f cdv A outer s H E hr hG =>
    (zag (zd_ (zd2 (zfn (zaj (zqf T) (hr.mono (by decide)) hG (takes_of rfl rfl rfl rfl) (zaa (za_ (i := 0)) (zaa (za_ (i := 1)) zad)) (hlen := (zab (zab zao)))))) (zag (zk3 rfl (takes_of rfl rfl rfl rfl) T.e_InvalidSettled)) za3)))
theorem sc_find_values : FnScope (["rule", "master", "row", "given", "column", "want", "other"] : List Str) (["rule", "master", "row"] : List Str) (defScope (top 37)) := ⟨rfl, rfl, rfl, by decide +kernel, rfl, by decide +kernel, by decide +kernel⟩
theorem zph (T : Txt K mg) : Def P w K mg base 2 "find_values" 3 zhr := zdj T.d_find_values sc_find_values (fun _ _ _ _ _ _ us hl => match us, hl with | [_, _, _], _ => rfl) (fun f cdv A outer s H E hr hG =>
    (zaf (zmh (za_ (i := 0)) (zf8 rfl (zap (zai (i := 3) sc_find_values.nd) (zap (zai (i := 4) sc_find_values.nd) (zap (zai (i := 5) sc_find_values.nd) zdt))) (zak (zak (zak zdd)))))
    (zaf (zd_ (zbe op_notN zhj (za_ (i := 5)) zd1) (zag (za1 (zgr (zaa (za_ (i := 5)) zad)))) za3)
    (zag (za1 (zg7 (own := [("other", 6)]) rfl sc_find_values.nd (zdh (za_ (i := 1))) (blkOk_by (N := ["rule", "master", "row", "given", "column", "want", "other"]) (sc := defScope (top 37)) (by decide +kernel)) (fun _ _ _ _ _ => (zai (i := 6) sc_find_values.nd)) (fun _ _ _ _ _ => (ziy (zhh (zfn (zaj (zjb T) (hr.mono (by decide)) hG takes0 (zaa (za_ (i := 3)) (zaa (za_ (i := 6)) zad)) (hlen := (zab (zab zao))))) (zhe (zfn (zaj (zmv T) (hr.mono (by decide)) hG takes0 (zaa (za_ (i := 3)) (zaa (za_ (i := 2)) (zaa (za_ (i := 6)) zad))) (hlen := (zab (zab (zab zao)))))))).dt)) (fun _ _ _ _ _ => (zbo (za_ (i := 6)) (za_ (i := 4))))).de)))))
theorem sc_find_next_steps : FnScope (["rules", "master", "row", "settled", "steps", "k", "rule", "given", "column", "want", "entry", "value"] : List Str) (["rules", "master", "row", "settled"] : List Str) (defScope (top 38)) := ⟨rfl, rfl, rfl, by decide +kernel, rfl, by decide +kernel, by decide +kernel⟩
theorem zlf (T : Txt K mg) : Def P w K mg base 3 "find_next_steps" 4 zdv := zdj T.d_find_next_steps sc_find_next_steps (fun _ _ _ _ _ _ us hl => match us, hl with | [_, _, _, _], _ => rfl) (fun f cdv A outer s H E hr hG =>
    (zaf (zmw (i := 4) (zjx zad) sc_find_next_steps.nd (hf := .inr rfl))
    (zaf (zgg (passes_of rfl) rfl (di_enum (za_ (i := 0)) T.b_enumerate) (zf8 rfl (zap (zai (i := 5) sc_find_next_steps.nd) (zap (zai (i := 6) sc_find_next_steps.nd) zdt)) (zak (zak zdd))) (zaf (zmh (za_ (i := 6)) (zf8 rfl (zap (zai (i := 7) sc_find_next_steps.nd) (zap (zai (i := 8) sc_find_next_steps.nd) (zap (zai (i := 9) sc_find_next_steps.nd) zdt))) (zak (zak (zak zdd)))))
    (zag (zd_ (zhh (zbe (zno (ru65 hr)) dNin_ok (za_ (i := 8)) (za_ (i := 3))) (zhh (zfn (zam (cr_all rfl) zhd T.b_all (by decide +kernel) (zaa (zg7 (own := [("entry", 10)]) rfl sc_find_next_steps.nd (zdh (za_ (i := 7))) (blkOk_by (N := ["rules", "master", "row", "settled", "steps", "k", "rule", "given", "column", "want", "entry", "value"]) (sc := defScope (top 38)) (by decide +kernel)) (fun _ _ _ _ _ => (zai (i := 10) sc_find_next_steps.nd)) (fun _ _ _ _ _ => zdk) (fun _ _ _ _ _ => (zgp (zqc (ru65 hr)) dIn_ok (zbo (za_ (i := 10)) zah) (za_ (i := 3))))).de zad))) (zhe (zfn (zaj (zjb T) (hr.mono (by decide)) hG (takes_of rfl rfl rfl rfl) (zaa (za_ (i := 7)) (zaa (za_ (i := 2)) zad)) (hlen := (zab (zab zao)))))))).dt (zag (zk1 (za_ (i := 4)) (zg7 (own := [("value", 11)]) rfl sc_find_next_steps.nd (zdh (zaj (zph T) (hr.mono (by decide)) hG (takes_of rfl rfl rfl rfl) (zaa (za_ (i := 6)) (zaa (za_ (i := 1)) (zaa (za_ (i := 2)) zad))) (hlen := (zab (zab (zab zao)))))) (blkOk_by (N := ["rules", "master", "row", "settled", "steps", "k", "rule", "given", "column", "want", "entry", "value"]) (sc := defScope (top 38)) (by decide +kernel)) (fun _ _ _ _ _ => (zai (i := 11) sc_find_next_steps.nd)) (fun _ _ _ _ _ => zdk) (fun _ _ _ _ _ => (zde (zaa (za_ (i := 5)) (zaa (za_ (i := 8)) (zaa (za_ (i := 11)) zad)))))).de)) za3))))
    (zag (za1 (zo4 rfl (ru64 hr) (za_ (i := 4)) T.b_sorted T.b_set).de)))))
theorem sc_do_step : FnScope (["row", "settled", "step", "number", "column", "value"] : List Str) (["row", "settled", "step"] : List Str) (defScope (top 39)) := ⟨rfl, rfl, rfl, by decide +kernel, rfl, by decide +kernel, by decide +kernel⟩
theorem ok_do_step (T : Txt K mg) : Def P w K mg base 1 "do_step" 3 ziq := zdj T.d_do_step sc_do_step (fun _ _ _ _ _ _ us hl => match us, hl with | [_, _, _], _ => rfl) (fun f cdv A outer s H E hr hG =>
    (zaf (zmh (za_ (i := 2)) (zf8 rfl (zap (zai (i := 3) sc_do_step.nd) (zap (zai (i := 4) sc_do_step.nd) (zap (zai (i := 5) sc_do_step.nd) zdt))) (zak (zak (zak zdd)))))
    (zag (za1 (zde (zaa (zde (zos (zlv (za_ (i := 0)) zm7 (zkb (za_ (i := 4)))) (zaa (za_ (i := 5)) (zos (zlv (za_ (i := 0)) (zkb (zb8 zbg zbf (za_ (i := 4)) zah)) zm7) zad)))) (zaa (zc_ call_tuple_of zht T.b_tuple (by decide +kernel) (zaa (ne_sorted (zde (zos (za_ (i := 1)) (zaa (za_ (i := 4)) zad))) (ru64 hr) T.b_sorted).de zad)) zad)))))))
section
local instance (priority := 2000) : Mode := SM
theorem sc_find_stop_from : FnScope (["rules", "master", "row", "settled", "known", "possible", "step", "rest", "after", "more"] : List Str) (["rules", "master", "row", "settled", "known"] : List Str) (defScope (top 41)) := ⟨rfl, rfl, rfl, by decide +kernel, rfl, by decide +kernel, by decide +kernel⟩
theorem zlo (T : Txt K mg) (n : Nat) (rec : Fn) (hd : Def P w K mg base (3 + 1 * n) "find_stop_from" 5 rec) : Def P w K mg base (3 + 1 * n + 0 + 1) "find_stop_from" 5 (ze1 rec) := def_S T.d_find_stop_from sc_find_stop_from (fun _ _ _ _ _ _ us hl => match us, hl with | [_, _, _, _, _], _ => rfl) (fun f cdv A outer s H E hr hG =>
    (zaf (zd_ (zbe (op_inN (ru9 hr)) oInN_ok (zde (zaa (za_ (i := 2)) (zaa (za_ (i := 3)) zad))) (za_ (i := 4))) (zag (za1 zd1)) za3)
    (zaf (zbn (i := 5) (zaj (def_lift (zlf T)) (hr.mono (by omega)) hG (takes_of rfl rfl rfl rfl) (zaa (za_ (i := 0)) (zaa (za_ (i := 1)) (zaa (za_ (i := 2)) (zaa (za_ (i := 3)) zad)))) (hlen := (zab (zab (zab (zab zao)))))) sc_find_stop_from.nd)
    (zaf (zd_ (zbe (zfp (ru64 hr)) zg4 (za_ (i := 5)) (zgr zad)) (zag (za1 (de_if (zbe op_lt zlh (zam call_len zbz T.b_len (by decide +kernel) (zaa (za_ (i := 3)) zad)) (zam call_len zbz T.b_len (by decide +kernel) (zaa (za_ (i := 2)) zad))) (zjx zad).deN zd1))) za3)
    (zaf (zgg (passes_of rfl) rfl (zdh (za_ (i := 5))) (zai (i := 6) sc_find_stop_from.nd) (zaf (zmh (zaj (def_lift (ok_do_step T)) (hr.mono (by omega)) hG (takes_of rfl rfl rfl rfl) (zaa (za_ (i := 2)) (zaa (za_ (i := 3)) (zaa (za_ (i := 6)) zad))) (hlen := (zab (zab (zab zao))))) (zf8 rfl (zap (zai (i := 8) sc_find_stop_from.nd) (zap (zai (i := 9) sc_find_stop_from.nd) zdt)) (zak (zak zdd))))
    (zaf (zbn (i := 7) (zaj (hd) (hr.mono (by omega)) hG (takes_of rfl rfl rfl rfl) (zaa (za_ (i := 0)) (zaa (za_ (i := 1)) (zaa (za_ (i := 8)) (zaa (za_ (i := 9)) (zaa (za_ (i := 4)) zad))))) (hlen := (zab (zab (zab (zab (zab zao))))))) sc_find_stop_from.nd)
    (zag (zd_ (zbe op_notN oNot_ok (za_ (i := 7)) zd1) (zag (ds_retN (zjx (zaa (za_ (i := 6)) (zos (za_ (i := 7)) zad))))) za3)))))
    (zaf (ds_putN (ru9 hr) (za_ (i := 4)) (zde (zaa (za_ (i := 2)) (zaa (za_ (i := 3)) zad))) zha)
    (zag (za1 zd1))))))))
theorem zic (T : Txt K mg) : ∀ n : Nat, Def P w K mg base (3 + 1 * n) "find_stop_from" 5 (zcl n)
  | 0 => def_bad T.d_find_stop_from (fun _ _ _ _ _ _ us hl => match us, hl with | [_, _, _, _, _], _ => rfl) (ps := (["rules", "master", "row", "settled", "known"] : List Str)) rfl
  | n + 1 => def_lv (zlo T n _ (zic T n)) (by omega)
theorem zmf (T : Txt K mg) : Def P w K mg base 9 "find_stop_from" 5 zhb := zic T 6
end
section
local instance (priority := 2000) : Mode := SM
theorem sc_find_stop : FnScope (["rules", "master", "row", "settled"] : List Str) (["rules", "master", "row", "settled"] : List Str) (defScope (top 42)) := ⟨rfl, rfl, rfl, by decide +kernel, rfl, by decide +kernel, by decide +kernel⟩
theorem zqs (T : Txt K mg) : Def P w K mg base 10 "find_stop" 4 zjm := def_S T.d_find_stop sc_find_stop (fun _ _ _ _ _ _ us hl => match us, hl with | [_, _, _, _], _ => rfl) (fun f cdv A outer s H E hr hG =>
    (zag (za1 (zaj (zmf T) (hr.mono (by decide)) hG (takes_of rfl rfl rfl rfl) (zaa (za_ (i := 0)) (zaa (za_ (i := 1)) (zaa (za_ (i := 2)) (zaa (za_ (i := 3)) (zaa de_newN zad))))) (hlen := (zab (zab (zab (zab (zab zao))))))))))
end
theorem ok_find_stop (T : Txt K mg) : Def P w K mg base 10 "find_stop" 4 zi7 := def_seal (zqs T)
theorem zni : FnScope (["columns", "rules", "master", "number"] : List Str) (["columns", "rules", "master", "number"] : List Str) (defScope (top 43)) := ⟨rfl, rfl, rfl, by decide +kernel, rfl, by decide +kernel, by decide +kernel⟩
theorem zm9 (T : Txt K mg) : Def P w K mg base 9 "require_start" 4 zgl := zdj T.d_require_start zni (fun _ _ _ _ _ _ us hl => match us, hl with | [_, _, _, _], _ => rfl) (fun f cdv A outer s H E hr hG =>
    (zaf (zmc (zaj (zne T) (hr.mono (by decide)) hG (takes_of rfl rfl rfl rfl) (zaa (za_ (i := 0)) (zaa (za_ (i := 1)) zad)) (hlen := (zab (zab zao)))))
    (zaf (zmc (zaj (znc T) (hr.mono (by decide)) hG (takes_of rfl rfl rfl rfl) (zaa (za_ (i := 0)) (zaa (za_ (i := 2)) zad)) (hlen := (zab (zab zao)))))
    (zag (zd_ (zd2 (zfn (zaj (zhi T) (hr.mono (by decide)) hG (takes_of rfl rfl rfl rfl) (zaa (za_ (i := 3)) (zaa zah (zaa (zb8 op_sub zn0 (zam call_len zbz T.b_len (by decide +kernel) (zaa (za_ (i := 2)) zad)) zah) zad))) (hlen := (zab (zab (zab zao))))))) (zag (zk3 rfl (takes_of rfl rfl rfl rfl) T.e_InvalidNumber)) za3)))))
theorem sc_require_kept : FnScope (["rules", "master", "found"] : List Str) (["rules", "master"] : List Str) (defScope (top 44)) := ⟨rfl, rfl, rfl, by decide +kernel, rfl, by decide +kernel, by decide +kernel⟩
theorem zo8 (T : Txt K mg) : Def P w K mg base 4 "require_kept" 2 zgv := zdj T.d_require_kept sc_require_kept (fun _ _ _ _ _ _ us hl => match us, hl with | [_, _], _ => rfl) (fun f cdv A outer s H E hr hG =>
    (zaf (zbn (i := 2) (zaj (zpc T) (hr.mono (by decide)) hG (takes_of rfl rfl rfl rfl) (zaa (za_ (i := 0)) (zaa (za_ (i := 1)) zad)) (hlen := (zab (zab zao)))) sc_require_kept.nd)
    (zag (zd_ (zbe (zgc (ru64 hr)) zil (za_ (i := 2)) (zgr zad)) (zag (ds_raiseP rfl (takes_of rfl rfl rfl rfl) (rk_Broken T) (hr.mono (by decide)) (zbo (za_ (i := 2)) zah))) za3))))
theorem sc_stop : FnScope (["columns", "rules", "master", "number", "settled"] : List Str) (["columns", "rules", "master", "number", "settled"] : List Str) (defScope (top 45)) := ⟨rfl, rfl, rfl, by decide +kernel, rfl, by decide +kernel, by decide +kernel⟩
theorem ok_stop (T : Txt K mg) : Def P w K mg base 11 "stop" 5 zp7 := zdj T.d_stop sc_stop (fun _ _ _ _ _ _ us hl => match us, hl with | [_, _, _, _, _], _ => rfl) (fun f cdv A outer s H E hr hG =>
    (zaf (zmc (zaj (zm9 T) (hr.mono (by decide)) hG (takes_of rfl rfl rfl rfl) (zaa (za_ (i := 0)) (zaa (za_ (i := 1)) (zaa (za_ (i := 2)) (zaa (za_ (i := 3)) zad)))) (hlen := (zab (zab (zab (zab zao)))))))
    (zaf (zmc (zaj (zld T) (hr.mono (by decide)) hG (takes_of rfl rfl rfl rfl) (zaa (za_ (i := 0)) (zaa (za_ (i := 4)) zad)) (hlen := (zab (zab zao)))))
    (zaf (zmc (zaj (zo8 T) (hr.mono (by decide)) hG (takes_of rfl rfl rfl rfl) (zaa (za_ (i := 1)) (zaa (za_ (i := 2)) zad)) (hlen := (zab (zab zao)))))
    (zag (za1 (zaj (ok_find_stop T) (hr.mono (by decide)) hG (takes_of rfl rfl rfl rfl) (zaa (za_ (i := 1)) (zaa (za_ (i := 2)) (zaa (zbo (za_ (i := 2)) (za_ (i := 3))) (zaa (za_ (i := 4)) zad)))) (hlen := (zab (zab (zab (zab zao))))))))))))
theorem sc_l_law_spread : FnScope (["_law_cell", "_law_at", "_law_primes", "_law_mixed", "_law_one_here", "_law_rest", "_law_two", "_law_three"] : List Str) (["_law_cell", "_law_at"] : List Str) (defScope (top 47)) := ⟨rfl, rfl, rfl, by decide +kernel, rfl, by decide +kernel, by decide +kernel⟩
theorem zor (T : Txt K mg) : Def P w K mg base 1 "_law_spread" 2 zg0 := zdj T.d_l_law_spread sc_l_law_spread (fun _ _ _ _ _ _ us hl => match us, hl with | [_, _], _ => rfl) (fun f cdv A outer s H E hr hG =>
    (zaf (zd_ (zbe op_ge dGe_ok (za_ (i := 0)) (zb8 op_pow zky zah zah)) (zag (za1 (za_ (i := 0)))) za3)
    (zaf (zbn (i := 2) (zgr (zaa zah (zaa zah (zaa zah (zaa zah (zaa zah (zaa zah (zaa zah zad)))))))) sc_l_law_spread.nd)
    (zaf (zbn (i := 2) (zb8 zbg zbf (za_ (i := 2)) (zgr (zaa zah (zaa zah (zaa zah (zaa zah (zaa zah (zaa zah zad)))))))) sc_l_law_spread.nd)
    (zaf (zbn (i := 3) (zb8 zbg zbf (zb8 zbg zbf (zb8 zkw zi8 (zb8 op_mod zgi (zc_ call_int1 zgk T.b_int (by decide +kernel) (zaa (za_ (i := 0)) zad)) zah) (zb8 zbg zbf (zb8 zkw zi8 zah (za_ (i := 1))) zah)) (zb8 zkw zi8 (za_ (i := 1)) zah)) zah) sc_l_law_spread.nd)
    (zaf (zbn (i := 4) (zb8 op_mod zgi (zc_ call_int1 zgk T.b_int (by decide +kernel) (zaa (zb8 op_pow zky (za_ (i := 3)) zah) zad)) (zbo (za_ (i := 2)) (zb8 op_mod zgi (zc_ call_int1 zgk T.b_int (by decide +kernel) (zaa (za_ (i := 1)) zad)) zah))) sc_l_law_spread.nd)
    (zaf (zbn (i := 5) (zb8 zbg zbf (zb8 op_mod zgi (zc_ call_int1 zgk T.b_int (by decide +kernel) (zaa (za_ (i := 0)) zad)) zah) zah) sc_l_law_spread.nd)
    (zaf (zbn (i := 6) (zb8 op_mod zgi (zc_ call_int1 zgk T.b_int (by decide +kernel) (zaa (zb8 op_pow zky (zb8 zbg zbf (zb8 zkw zi8 (za_ (i := 4)) (zb8 zbg zbf (za_ (i := 1)) zah)) (za_ (i := 5))) zah) zad)) (zbo (za_ (i := 2)) (zb8 op_mod zgi (zc_ call_int1 zgk T.b_int (by decide +kernel) (zaa (zb8 zbg zbf (za_ (i := 1)) zah) zad)) zah))) sc_l_law_spread.nd)
    (zaf (zbn (i := 7) (zb8 op_mod zgi (zc_ call_int1 zgk T.b_int (by decide +kernel) (zaa (zb8 op_pow zky (zb8 zbg zbf (zb8 zbg zbf (za_ (i := 6)) (zb8 op_mod zgi (zc_ call_int1 zgk T.b_int (by decide +kernel) (zaa (za_ (i := 4)) zad)) zah)) (za_ (i := 1))) zah) zad)) (zbo (za_ (i := 2)) (zb8 op_mod zgi (zc_ call_int1 zgk T.b_int (by decide +kernel) (zaa (zb8 zbg zbf (za_ (i := 1)) zah) zad)) zah))) sc_l_law_spread.nd)
    (zag (za1 (zb8 zbg zbf (zb8 zkw zi8 (zb8 zbg zbf (zb8 zkw zi8 (za_ (i := 4)) zah) (za_ (i := 6))) zah) (za_ (i := 7))))))))))))))
theorem sc_l_law_open : FnScope (["_law_script", "_law_cells", "_law_k", "_law_cell"] : List Str) (["_law_script"] : List Str) (defScope (top 48)) := ⟨rfl, rfl, rfl, by decide +kernel, rfl, by decide +kernel, by decide +kernel⟩
theorem zqd (T : Txt K mg) : Def P w K mg base 1 "_law_open" 1 zh3 := zdj T.d_l_law_open sc_l_law_open (fun _ _ _ _ _ _ us hl => match us, hl with | [_], _ => rfl) (fun f cdv A outer s H E hr hG =>
    (zaf (zmw (i := 1) (ne_list (p2 := ⟨0, 0, 0, 0⟩) (zlv (za_ (i := 0)) zm7 (zkb zah)) T.b_list) sc_l_law_open.nd (hf := .inr rfl))
    (zaf (zgg (passes_of rfl) rfl (di_enum (zlv (za_ (i := 0)) (zkb zah) (zkb zah)) T.b_enumerate) (zf8 rfl (zap (zai (i := 2) sc_l_law_open.nd) (zap (zai (i := 3) sc_l_law_open.nd) zdt)) (zak (zak zdd))) (zag (ds_put (za_ (i := 1)) (zb8 op_mod zgi (zc_ call_int1 zgk T.b_int (by decide +kernel) (zaa (za_ (i := 2)) zad)) zah) (zb8 zbg zbf (zbo (za_ (i := 1)) (zb8 op_mod zgi (zc_ call_int1 zgk T.b_int (by decide +kernel) (zaa (za_ (i := 2)) zad)) zah)) (za_ (i := 3))))))
    (zl5 (i := 1) (zag (ds_retN (zjx (zaa (za_ (i := 1)) (zaa zah (zaa zah zad))))))))))
theorem sc_l_law_take : FnScope (["_law_pen", "_law_many", "_law_found", "_law_at", "_law_cell"] : List Str) (["_law_pen", "_law_many"] : List Str) (defScope (top 49)) := ⟨rfl, rfl, rfl, by decide +kernel, rfl, by decide +kernel, by decide +kernel⟩
theorem zcb (T : Txt K mg) : Def P w K mg base 2 "_law_take" 2 zbi := zdj T.d_l_law_take sc_l_law_take (fun _ _ _ _ _ _ us hl => match us, hl with | [_, _], _ => rfl) (fun f cdv A outer s H E hr hG =>
    (zaf (zd_ (zbe op_lt zlh (zbo (za_ (i := 0)) zah) (za_ (i := 1))) (zaf (zbn (i := 3) (zbo (za_ (i := 0)) zah) sc_l_law_take.nd)
    (zaf (zbn (i := 4) zah sc_l_law_take.nd)
    (zaf (zd_ (zbe op_lt zlh (za_ (i := 3)) (zam call_len zbz T.b_len (by decide +kernel) (zaa (zbo (za_ (i := 0)) zah) zad))) (zag (zbn (i := 4) (zbo (zbo (za_ (i := 0)) zah) (za_ (i := 3))) sc_l_law_take.nd)) (zag (zd_ (zbe op_gt dGt_ok (zam call_len zbz T.b_len (by decide +kernel) (zaa (zbo (za_ (i := 0)) zah) zad)) zah) (zag (zbn (i := 4) (zb8 op_mod zgi (zc_ call_int1 zgk T.b_int (by decide +kernel) (zaa (zbo (zbo (za_ (i := 0)) zah) (zb8 op_mod zgi (zc_ call_int1 zgk T.b_int (by decide +kernel) (zaa (zb8 zbg zbf (zb8 zkw zi8 (za_ (i := 3)) zah) zah) zad)) (zam call_len zbz T.b_len (by decide +kernel) (zaa (zbo (za_ (i := 0)) zah) zad)))) zad)) (zb8 zbg zbf (zb8 op_pow zky zah zah) (za_ (i := 3)))) sc_l_law_take.nd)) za3)))
    (zaf (ds_put (za_ (i := 0)) zah (zb8 zbg zbf (za_ (i := 3)) zah))
    (zag (ds_put (za_ (i := 0)) zah (zaj (zor T) (hr.mono (by decide)) hG (takes_of rfl rfl rfl rfl) (zaa (za_ (i := 4)) (zaa (za_ (i := 3)) zad)) (hlen := (zab (zab zao)))))))))) za3)
    (zaf (zbn (i := 2) (zb8 op_mod zgi (zc_ call_int1 zgk T.b_int (by decide +kernel) (zaa (zbo (za_ (i := 0)) zah) zad)) (za_ (i := 1))) sc_l_law_take.nd)
    (zaf (ds_put (za_ (i := 0)) zah (zb8 op_fdivW dDiv_ok (zbo (za_ (i := 0)) zah) (za_ (i := 1))))
    (zag (za1 (za_ (i := 2))))))))
theorem zq1 : FnScope (["_law_pen"] : List Str) (["_law_pen"] : List Str) (defScope (top 50)) := ⟨rfl, rfl, rfl, by decide +kernel, rfl, by decide +kernel, by decide +kernel⟩
theorem zql (T : Txt K mg) : Def P w K mg base 1 "_law_anew" 1 zid := zdj T.d_l_law_anew zq1 (fun _ _ _ _ _ _ us hl => match us, hl with | [_], _ => rfl) (fun f cdv A outer s H E hr hG =>
    (zaf (ds_put (za_ (i := 0)) zah zah)
    (zag (za1 (za_ (i := 0))))))
theorem sc_l_law_one : FnScope (["_law_pen", "_law_some"] : List Str) (["_law_pen", "_law_some"] : List Str) (defScope (top 51)) := ⟨rfl, rfl, rfl, by decide +kernel, rfl, by decide +kernel, by decide +kernel⟩
theorem zfr (T : Txt K mg) : Def P w K mg base 3 "_law_one" 2 zdq := zdj T.d_l_law_one sc_l_law_one (fun _ _ _ _ _ _ us hl => match us, hl with | [_, _], _ => rfl) (fun f cdv A outer s H E hr hG =>
    (zag (za1 (zbo (za_ (i := 1)) (zaj (zcb T) (hr.mono (by decide)) hG (takes_of rfl rfl rfl rfl) (zaa (za_ (i := 0)) (zaa (zam call_len zbz T.b_len (by decide +kernel) (zaa (za_ (i := 1)) zad)) zad)) (hlen := (zab (zab zao))))))))
theorem sc_l_law_columns : FnScope (["_law_pen", "_law_most", "_law_k", "_law_found", "_law_closed", "_law_own", "_law_step"] : List Str) (["_law_pen", "_law_most"] : List Str) (defScope (top 52)) := ⟨rfl, rfl, rfl, by decide +kernel, rfl, by decide +kernel, by decide +kernel⟩
theorem znj (T : Txt K mg) : Def P w K mg base 3 "_law_columns" 2 zga := zdj T.d_l_law_columns sc_l_law_columns (fun _ _ _ _ _ _ us hl => match us, hl with | [_, _], _ => rfl) (fun f cdv A outer s H E hr hG =>
    (zaf (zmh (zde (zaa (zde zad) (zaa zah zad))) (zf8 rfl (zap (zai (i := 3) sc_l_law_columns.nd) (zap (zai (i := 4) sc_l_law_columns.nd) zdt)) (zak (zak zdd))))
    (zaf (zgg (passes_of rfl) rfl (zdz (zaa (zb8 zbg zbf zah (zaj (zcb T) (hr.mono (by decide)) hG (takes_of rfl rfl rfl rfl) (zaa (za_ (i := 0)) (zaa (za_ (i := 1)) zad)) (hlen := (zab (zab zao))))) zad) T.b_range) (zai (i := 2) sc_l_law_columns.nd) (zaf (zbn (i := 5) (zj7 rfl (zg7 (own := [("_law_step", 6)]) rfl sc_l_law_columns.nd (zdz (zaa (zb8 zbg zbf zah (zaj (zcb T) (hr.mono (by decide)) hG (takes_of rfl rfl rfl rfl) (zaa (za_ (i := 0)) (zaa zah zad)) (hlen := (zab (zab zao))))) zad) T.b_range) (blkOk_by (N := ["_law_pen", "_law_most", "_law_k", "_law_found", "_law_closed", "_law_own", "_law_step"]) (sc := defScope (top 52)) (by decide +kernel)) (fun _ _ _ _ _ => (zai (i := 6) sc_l_law_columns.nd)) (fun _ _ _ _ _ => zdk) (fun _ _ _ _ _ => (zaj (zcb T) (hr.mono (by decide)) hG takes0 (zaa (za_ (i := 0)) (zaa zah zad)) (hlen := (zab (zab zao)))))).de T.b_sorted T.b_set).de sc_l_law_columns.nd)
    (zag (zd_ (zhh (zbe op_lt zlh (za_ (i := 4)) zah) (zhe (zbe (zfp (ru64 hr)) zg4 (zaj (zcb T) (hr.mono (by decide)) hG (takes_of rfl rfl rfl rfl) (zaa (za_ (i := 0)) (zaa zah zad)) (hlen := (zab (zab zao)))) zah))).dt (zaf (zbn (i := 4) (zb8 zbg zbf (za_ (i := 4)) zah) sc_l_law_columns.nd)
    (zag (zbn (i := 3) (zb8 zbg zbf (za_ (i := 3)) (zde (zaa (zc_ call_tuple_of zht T.b_tuple (by decide +kernel) (zaa (za_ (i := 5)) zad)) zad))) sc_l_law_columns.nd))) (zag (zbn (i := 3) (zb8 zbg zbf (za_ (i := 3)) (zde (zaa zd1 zad))) sc_l_law_columns.nd))))))
    (zag (za1 (za_ (i := 3)))))))
theorem zpl : FnScope (["_law_pen", "_law_column"] : List Str) (["_law_pen", "_law_column"] : List Str) (defScope (top 53)) := ⟨rfl, rfl, rfl, by decide +kernel, rfl, by decide +kernel, by decide +kernel⟩
theorem zij (T : Txt K mg) : Def P w K mg base 4 "_law_value" 2 zd6 := zdj T.d_l_law_value zpl (fun _ _ _ _ _ _ us hl => match us, hl with | [_, _], _ => rfl) (fun f cdv A outer s H E hr hG =>
    (zaf (zd_ (zbe op_isN zi4 (za_ (i := 1)) zd1) (zag (za1 (zaj (zfr T) (hr.mono (by decide)) hG (takes_of rfl rfl rfl rfl) (zaa (za_ (i := 0)) (zaa (zgr (zaa zah (zaa zah (zaa zah (zaa zah (zaa zah (zaa zah (zaa zah (zaa (zb8 op_pow zky zah zah) (zaa (zb8 zbg zbf (zb8 op_pow zky zah zah) zah) zad)))))))))) zad)) (hlen := (zab (zab zao)))))) za3)
    (zag (za1 (zaj (zfr T) (hr.mono (by decide)) hG (takes_of rfl rfl rfl rfl) (zaa (za_ (i := 0)) (zaa (za_ (i := 1)) zad)) (hlen := (zab (zab zao))))))))
theorem sc_l_law_row : FnScope (["_law_pen", "_law_columns_here", "_law_column"] : List Str) (["_law_pen", "_law_columns_here"] : List Str) (defScope (top 54)) := ⟨rfl, rfl, rfl, by decide +kernel, rfl, by decide +kernel, by decide +kernel⟩
theorem zmq (T : Txt K mg) : Def P w K mg base 5 "_law_row" 2 zhw := zdj T.d_l_law_row sc_l_law_row (fun _ _ _ _ _ _ us hl => match us, hl with | [_, _], _ => rfl) (fun f cdv A outer s H E hr hG =>
    (zag (za1 (zc_ call_tuple_of zht T.b_tuple (by decide +kernel) (zaa (zg7 (own := [("_law_column", 2)]) rfl sc_l_law_row.nd (zdh (za_ (i := 1))) (blkOk_by (N := ["_law_pen", "_law_columns_here", "_law_column"]) (sc := defScope (top 54)) (by decide +kernel)) (fun _ _ _ _ _ => (zai (i := 2) sc_l_law_row.nd)) (fun _ _ _ _ _ => zdk) (fun _ _ _ _ _ => (zaj (zij T) (hr.mono (by decide)) hG takes0 (zaa (za_ (i := 0)) (zaa (za_ (i := 2)) zad)) (hlen := (zab (zab zao)))))).de zad)))))
theorem sc_l_law_table : FnScope (["_law_pen", "_law_columns_here", "_law_many", "_law_found", "_law_k", "_law_row_here", "_law_at", "_law_other"] : List Str) (["_law_pen", "_law_columns_here", "_law_many"] : List Str) (defScope (top 55)) := ⟨rfl, rfl, rfl, by decide +kernel, rfl, by decide +kernel, by decide +kernel⟩
theorem zpn (T : Txt K mg) : Def P w K mg base 6 "_law_table" 3 zhm := zdj T.d_l_law_table sc_l_law_table (fun _ _ _ _ _ _ us hl => match us, hl with | [_, _, _], _ => rfl) (fun f cdv A outer s H E hr hG =>
    (zaf (zbn (i := 3) (zde zad) sc_l_law_table.nd)
    (zaf (zgg (passes_of rfl) rfl (zdz (zaa (za_ (i := 2)) zad) T.b_range) (zai (i := 4) sc_l_law_table.nd) (zaf (zbn (i := 5) (zaj (zmq T) (hr.mono (by decide)) hG (takes_of rfl rfl rfl rfl) (zaa (za_ (i := 0)) (zaa (za_ (i := 1)) zad)) (hlen := (zab (zab zao)))) sc_l_law_table.nd)
    (zaf (zd_ (zhh (zbe op_gt dGt_ok (za_ (i := 4)) zah) (zhe (zbe (zfp (ru64 hr)) zg4 (zaj (zcb T) (hr.mono (by decide)) hG (takes_of rfl rfl rfl rfl) (zaa (za_ (i := 0)) (zaa zah zad)) (hlen := (zab (zab zao)))) zah))).dt (zaf (zbn (i := 6) (zaj (zcb T) (hr.mono (by decide)) hG (takes_of rfl rfl rfl rfl) (zaa (za_ (i := 0)) (zaa (zam call_len zbz T.b_len (by decide +kernel) (zaa (za_ (i := 1)) zad)) zad)) (hlen := (zab (zab zao)))) sc_l_law_table.nd)
    (zaf (zbn (i := 7) (zaj (zfr T) (hr.mono (by decide)) hG (takes_of rfl rfl rfl rfl) (zaa (za_ (i := 0)) (zaa (za_ (i := 3)) zad)) (hlen := (zab (zab zao)))) sc_l_law_table.nd)
    (zag (zbn (i := 5) (zb8 zbg zbf (zb8 zbg zbf (zlv (za_ (i := 7)) zm7 (zkb (za_ (i := 6)))) (zlv (za_ (i := 5)) (zkb (za_ (i := 6))) (zkb (zb8 zbg zbf (za_ (i := 6)) zah)))) (zlv (za_ (i := 7)) (zkb (zb8 zbg zbf (za_ (i := 6)) zah)) zm7)) sc_l_law_table.nd)))) za3)
    (zag (zbn (i := 3) (zb8 zbg zbf (za_ (i := 3)) (zde (zaa (za_ (i := 5)) zad))) sc_l_law_table.nd)))))
    (zag (za1 (za_ (i := 3)))))))
theorem sc_l_law_rule : FnScope (["_law_pen", "_law_columns_here", "_law_column", "_law_want", "_law_given", "_law_k", "_law_road"] : List Str) (["_law_pen", "_law_columns_here"] : List Str) (defScope (top 56)) := ⟨rfl, rfl, rfl, by decide +kernel, rfl, by decide +kernel, by decide +kernel⟩
theorem zq9 (T : Txt K mg) : Def P w K mg base 5 "_law_rule" 2 zh5 := zdj T.d_l_law_rule sc_l_law_rule (fun _ _ _ _ _ _ us hl => match us, hl with | [_, _], _ => rfl) (fun f cdv A outer s H E hr hG =>
    (zaf (zbn (i := 2) (zaj (zcb T) (hr.mono (by decide)) hG (takes_of rfl rfl rfl rfl) (zaa (za_ (i := 0)) (zaa (zam call_len zbz T.b_len (by decide +kernel) (zaa (za_ (i := 1)) zad)) zad)) (hlen := (zab (zab zao)))) sc_l_law_rule.nd)
    (zaf (zbn (i := 3) (zaj (zfr T) (hr.mono (by decide)) hG (takes_of rfl rfl rfl rfl) (zaa (za_ (i := 0)) (zaa (zgr (zaa zd1 (zaa zd1 (zaa (zaj (zij T) (hr.mono (by decide)) hG (takes_of rfl rfl rfl rfl) (zaa (za_ (i := 0)) (zaa (zbo (za_ (i := 1)) (za_ (i := 2))) zad)) (hlen := (zab (zab zao)))) zad)))) zad)) (hlen := (zab (zab zao)))) sc_l_law_rule.nd)
    (zaf (zbn (i := 4) (zde zad) sc_l_law_rule.nd)
    (zaf (zgg (passes_of rfl) rfl (zdz (zaa (zam call_len zbz T.b_len (by decide +kernel) (zaa (za_ (i := 1)) zad)) zad) T.b_range) (zai (i := 5) sc_l_law_rule.nd) (zaf (zbn (i := 6) (zaj (zcb T) (hr.mono (by decide)) hG (takes_of rfl rfl rfl rfl) (zaa (za_ (i := 0)) (zaa zah zad)) (hlen := (zab (zab zao)))) sc_l_law_rule.nd)
    (zag (zd_ (zhh (zbe (zgc (ru64 hr)) zil (za_ (i := 5)) (za_ (i := 2))) (zhe (zbe op_lt zlh (za_ (i := 6)) zah))).dt (zag (zbn (i := 4) (zb8 zbg zbf (za_ (i := 4)) (zde (zaa (zde (zaa (za_ (i := 5)) (zaa (zaj (zij T) (hr.mono (by decide)) hG (takes_of rfl rfl rfl rfl) (zaa (za_ (i := 0)) (zaa (zbo (za_ (i := 1)) (za_ (i := 5))) zad)) (hlen := (zab (zab zao)))) zad))) zad))) sc_l_law_rule.nd)) (zag (zd_ (zhh (zbe (zgc (ru64 hr)) zil (za_ (i := 5)) (za_ (i := 2))) (zhh (zbe (zfp (ru64 hr)) zg4 (za_ (i := 6)) zah) (zhe (zbe op_isN zi4 (za_ (i := 3)) zd1)))).dt (zag (zbn (i := 4) (zb8 zbg zbf (za_ (i := 4)) (zde (zaa (zde (zaa (za_ (i := 5)) (zaa zd1 zad))) zad))) sc_l_law_rule.nd)) za3))))))
    (zag (za1 (zde (zaa (za_ (i := 4)) (zaa (za_ (i := 2)) (zaa (za_ (i := 3)) zad)))))))))))
theorem sc_l_law_case : FnScope (["_law_pen", "_law_columns_here", "_law_rules", "_law_k", "_law_master", "_law_row_here", "_law_settled"] : List Str) (["_law_pen"] : List Str) (defScope (top 57)) := ⟨rfl, rfl, rfl, by decide +kernel, rfl, by decide +kernel, by decide +kernel⟩
theorem zqk (T : Txt K mg) : Def P w K mg base 7 "_law_case" 1 zh6 := zdj T.d_l_law_case sc_l_law_case (fun _ _ _ _ _ _ us hl => match us, hl with | [_], _ => rfl) (fun f cdv A outer s H E hr hG =>
    (zaf (zbn (i := 1) (zaj (znj T) (hr.mono (by decide)) hG (takes_of rfl rfl rfl rfl) (zaa (za_ (i := 0)) (zaa zah zad)) (hlen := (zab (zab zao)))) sc_l_law_case.nd)
    (zaf (zbn (i := 2) (zde zad) sc_l_law_case.nd)
    (zaf (zgg (passes_of rfl) rfl (zdz (zaa (zaj (zcb T) (hr.mono (by decide)) hG (takes_of rfl rfl rfl rfl) (zaa (za_ (i := 0)) (zaa zah zad)) (hlen := (zab (zab zao)))) zad) T.b_range) (zai (i := 3) sc_l_law_case.nd) (zag (zbn (i := 2) (zb8 zbg zbf (za_ (i := 2)) (zde (zaa (zaj (zq9 T) (hr.mono (by decide)) hG (takes_of rfl rfl rfl rfl) (zaa (za_ (i := 0)) (zaa (za_ (i := 1)) zad)) (hlen := (zab (zab zao)))) zad))) sc_l_law_case.nd)))
    (zaf (zbn (i := 4) (zaj (zpn T) (hr.mono (by decide)) hG (takes_of rfl rfl rfl rfl) (zaa (za_ (i := 0)) (zaa (za_ (i := 1)) (zaa (zaj (zfr T) (hr.mono (by decide)) hG (takes_of rfl rfl rfl rfl) (zaa (za_ (i := 0)) (zaa (zgr (zaa zah (zaa zah (zaa zah (zaa zah (zaa zah (zaa zah zad))))))) zad)) (hlen := (zab (zab zao)))) zad))) (hlen := (zab (zab (zab zao))))) sc_l_law_case.nd)
    (zaf (zbn (i := 5) (zaj (zfr T) (hr.mono (by decide)) hG (takes_of rfl rfl rfl rfl) (zaa (za_ (i := 0)) (zaa (zgr (zaa (zaj (zmq T) (hr.mono (by decide)) hG (takes_of rfl rfl rfl rfl) (zaa (za_ (i := 0)) (zaa (za_ (i := 1)) zad)) (hlen := (zab (zab zao)))) (zaa (zaj (zfr T) (hr.mono (by decide)) hG (takes_of rfl rfl rfl rfl) (zaa (za_ (i := 0)) (zaa (za_ (i := 4)) zad)) (hlen := (zab (zab zao)))) zad))) zad)) (hlen := (zab (zab zao)))) sc_l_law_case.nd)
    (zaf (zbn (i := 6) (zc_ call_tuple_of zht T.b_tuple (by decide +kernel) (zaa (zg7 (own := [("_law_k", 3)]) rfl sc_l_law_case.nd (zdz (zaa (zam call_len zbz T.b_len (by decide +kernel) (zaa (za_ (i := 1)) zad)) zad) T.b_range) (blkOk_by (N := ["_law_pen", "_law_columns_here", "_law_rules", "_law_k", "_law_master", "_law_row_here", "_law_settled"]) (sc := defScope (top 57)) (by decide +kernel)) (fun _ _ _ _ _ => (zai (i := 3) sc_l_law_case.nd)) (fun _ _ _ _ _ => (ziy (zbe op_lt zlh (zaj (zcb T) (hr.mono (by decide)) hG takes0 (zaa (za_ (i := 0)) (zaa zah zad)) (hlen := (zab (zab zao)))) zah))) (fun _ _ _ _ _ => (za_ (i := 3)))).de zad)) sc_l_law_case.nd)
    (zag (za1 (zde (zaa (za_ (i := 1)) (zaa (za_ (i := 2)) (zaa (za_ (i := 4)) (zaa (za_ (i := 5)) (zaa (za_ (i := 6)) zad)))))))))))))))
theorem sc_l_law_matches : FnScope (["_law_given", "_law_row_here", "_law_column", "_law_value_here"] : List Str) (["_law_given", "_law_row_here"] : List Str) (defScope (top 58)) := ⟨rfl, rfl, rfl, by decide +kernel, rfl, by decide +kernel, by decide +kernel⟩
theorem zf5 (T : Txt K mg) : Def P w K mg base 1 "_law_matches" 2 zdu := zdj T.d_l_law_matches sc_l_law_matches (fun _ _ _ _ _ _ us hl => match us, hl with | [_, _], _ => rfl) (fun f cdv A outer s H E hr hG =>
    (zag (za1 (zam (cr_all rfl) zhd T.b_all (by decide +kernel) (zaa (zg7 (own := [("_law_column", 2), ("_law_value_here", 3)]) rfl sc_l_law_matches.nd (zdh (za_ (i := 0))) (blkOk_by (N := ["_law_given", "_law_row_here", "_law_column", "_law_value_here"]) (sc := defScope (top 58)) (by decide +kernel)) (fun _ _ _ _ _ => (zf8 rfl (zap (zai (i := 2) sc_l_law_matches.nd) (zap (zai (i := 3) sc_l_law_matches.nd) zdt)) (zak (zak zdd)))) (fun _ _ _ _ _ => zdk) (fun _ _ _ _ _ => (de_or (zgp op_isN zi4 (za_ (i := 3)) zd1) (zk5 (zgp (zfp (ru64 hr)) zg4 (zbo (za_ (i := 1)) (za_ (i := 2))) (za_ (i := 3))))))).de zad)))))
theorem sc_l_law_rule_breaks : FnScope (["_law_rule_here", "_law_table_here", "_law_found", "_law_i", "_law_given", "_law_column", "_law_want", "_law_j", "_law_own", "_law_apart", "_law_entry", "_law_k"] : List Str) (["_law_rule_here", "_law_table_here"] : List Str) (defScope (top 59)) := ⟨rfl, rfl, rfl, by decide +kernel, rfl, by decide +kernel, by decide +kernel⟩
theorem zhf (T : Txt K mg) : Def P w K mg base 2 "_law_rule_breaks" 2 zda := zdj T.d_l_law_rule_breaks sc_l_law_rule_breaks (fun _ _ _ _ _ _ us hl => match us, hl with | [_, _], _ => rfl) (fun f cdv A outer s H E hr hG =>
    (zaf (zmh (za_ (i := 0)) (zf8 rfl (zap (zai (i := 4) sc_l_law_rule_breaks.nd) (zap (zai (i := 5) sc_l_law_rule_breaks.nd) (zap (zai (i := 6) sc_l_law_rule_breaks.nd) zdt))) (zak (zak (zak zdd)))))
    (zaf (zmw (i := 2) (zjx zad) sc_l_law_rule_breaks.nd (hf := .inr rfl))
    (zaf (zgg (passes_of rfl) rfl (zdz (zaa (zam call_len zbz T.b_len (by decide +kernel) (zaa (za_ (i := 1)) zad)) zad) T.b_range) (zai (i := 3) sc_l_law_rule_breaks.nd) (zag (zd_ (zfn (zaj (zf5 T) (hr.mono (by decide)) hG (takes_of rfl rfl rfl rfl) (zaa (za_ (i := 4)) (zaa (zbo (za_ (i := 1)) (za_ (i := 3))) zad)) (hlen := (zab (zab zao))))) (zaf (zd_ (zhh (zbe op_notN zhj (za_ (i := 6)) zd1) (zhe (zbe (zgc (ru64 hr)) zil (zbo (zbo (za_ (i := 1)) (za_ (i := 3))) (za_ (i := 5))) (za_ (i := 6))))).dt (zag (zit (za_ (i := 2)) (zde (zaa (za_ (i := 3)) zad)))) za3)
    (zag (zgg (passes_of rfl) rfl (di_range2 (zaa (zb8 zbg zbf (za_ (i := 3)) zah) (zaa (de_if (zbe op_isN zi4 (za_ (i := 6)) zd1) (zam call_len zbz T.b_len (by decide +kernel) (zaa (za_ (i := 1)) zad)) zah) zad)) T.b_range) (zai (i := 7) sc_l_law_rule_breaks.nd) (zaf (zj5 (i := 8) (own := [("_law_entry", 10)]) rfl sc_l_law_rule_breaks.nd (zdh (za_ (i := 4))) (blkOk_by (N := ["_law_rule_here", "_law_table_here", "_law_found", "_law_i", "_law_given", "_law_column", "_law_want", "_law_j", "_law_own", "_law_apart", "_law_entry", "_law_k"]) (sc := defScope (top 59)) (by decide +kernel)) (fun _ _ _ _ _ => (zai (i := 10) sc_l_law_rule_breaks.nd)) (fun _ _ _ _ _ => zdk) (fun _ _ _ _ _ => (zbo (za_ (i := 10)) zah)))
    (zaf (zj5 (i := 9) (own := [("_law_k", 11)]) rfl sc_l_law_rule_breaks.nd (zdh (za_ (i := 8))) (blkOk_by (N := ["_law_rule_here", "_law_table_here", "_law_found", "_law_i", "_law_given", "_law_column", "_law_want", "_law_j", "_law_own", "_law_apart", "_law_entry", "_law_k"]) (sc := defScope (top 59)) (by decide +kernel)) (fun _ _ _ _ _ => (zai (i := 11) sc_l_law_rule_breaks.nd)) (fun _ _ _ _ _ => (ziy (zbe (zgc (ru64 hr)) zil (zbo (zbo (za_ (i := 1)) (za_ (i := 3))) (za_ (i := 11))) (zbo (zbo (za_ (i := 1)) (za_ (i := 7))) (za_ (i := 11)))))) (fun _ _ _ _ _ => (za_ (i := 11))))
    (zag (zd_ (zhh (zfn (zaj (zf5 T) (hr.mono (by decide)) hG (takes_of rfl rfl rfl rfl) (zaa (za_ (i := 4)) (zaa (zbo (za_ (i := 1)) (za_ (i := 7))) zad)) (hlen := (zab (zab zao))))) (zhe (zbe (zfp (ru64 hr)) zg4 (za_ (i := 9)) (zgr zad)))).dt (zag (zd_ (zbe (zgc (ru64 hr)) zil (zbo (zbo (za_ (i := 1)) (za_ (i := 3))) (za_ (i := 5))) (zbo (zbo (za_ (i := 1)) (za_ (i := 7))) (za_ (i := 5)))) (zag (zit (za_ (i := 2)) (zde (zaa (za_ (i := 3)) (zaa (za_ (i := 7)) zad))))) za3)) za3))))))) za3)))
    (zl5 (i := 2) (zag (za1 (za_ (i := 2)))))))))
theorem sc_l_law_breaks : FnScope (["_law_rules", "_law_table_here", "_law_found", "_law_k", "_law_rows"] : List Str) (["_law_rules", "_law_table_here"] : List Str) (defScope (top 60)) := ⟨rfl, rfl, rfl, by decide +kernel, rfl, by decide +kernel, by decide +kernel⟩
theorem zov (T : Txt K mg) : Def P w K mg base 3 "_law_breaks" 2 zgw := zdj T.d_l_law_breaks sc_l_law_breaks (fun _ _ _ _ _ _ us hl => match us, hl with | [_, _], _ => rfl) (fun f cdv A outer s H E hr hG =>
    (zaf (zmw (i := 2) (zjx zad) sc_l_law_breaks.nd (hf := .inr rfl))
    (zaf (zgg (passes_of rfl) rfl (zdz (zaa (zam call_len zbz T.b_len (by decide +kernel) (zaa (za_ (i := 0)) zad)) zad) T.b_range) (zai (i := 3) sc_l_law_breaks.nd) (zag (zk1 (za_ (i := 2)) (zg7 (own := [("_law_rows", 4)]) rfl sc_l_law_breaks.nd (zdh (zaj (zhf T) (hr.mono (by decide)) hG (takes_of rfl rfl rfl rfl) (zaa (zbo (za_ (i := 0)) (za_ (i := 3))) (zaa (za_ (i := 1)) zad)) (hlen := (zab (zab zao))))) (blkOk_by (N := ["_law_rules", "_law_table_here", "_law_found", "_law_k", "_law_rows"]) (sc := defScope (top 60)) (by decide +kernel)) (fun _ _ _ _ _ => (zai (i := 4) sc_l_law_breaks.nd)) (fun _ _ _ _ _ => zdk) (fun _ _ _ _ _ => (zb8 zbg zbf (zde (zaa (za_ (i := 3)) zad)) (za_ (i := 4))))).de)))
    (zl5 (i := 2) (zag (za1 (za_ (i := 2))))))))
theorem sc_l_law_kept_case : FnScope (["_law_pen", "_law_again", "_law_rules", "_law_columns_here", "_law_master", "_law_row_here", "_law_settled", "_law_found", "_law_at", "_law_rule_here"] : List Str) (["_law_pen"] : List Str) (defScope (top 61)) := ⟨rfl, rfl, rfl, by decide +kernel, rfl, by decide +kernel, by decide +kernel⟩
theorem zla (T : Txt K mg) : Def P w K mg base 8 "_law_kept_case" 1 zft := zdj T.d_l_law_kept_case sc_l_law_kept_case (fun _ _ _ _ _ _ us hl => match us, hl with | [_], _ => rfl) (fun f cdv A outer s H E hr hG =>
    (zaf (zmh (zaj (zqk T) (hr.mono (by decide)) hG (takes_of rfl rfl rfl rfl) (zaa (za_ (i := 0)) zad) (hlen := (zab zao))) (zf8 rfl (zap (zai (i := 3) sc_l_law_kept_case.nd) (zap (zai (i := 2) sc_l_law_kept_case.nd) (zap (zai (i := 4) sc_l_law_kept_case.nd) (zap (zai (i := 5) sc_l_law_kept_case.nd) (zap (zai (i := 6) sc_l_law_kept_case.nd) zdt))))) (zak (zak (zak (zak (zak zdd)))))))
    (zaf (zgg (passes_of rfl) rfl (zdz (zaa zah zad) T.b_range) (zai (i := 1) sc_l_law_kept_case.nd) (zaf (zbn (i := 7) (zaj (zov T) (hr.mono (by decide)) hG (takes_of rfl rfl rfl rfl) (zaa (za_ (i := 2)) (zaa (za_ (i := 4)) zad)) (hlen := (zab (zab zao)))) sc_l_law_kept_case.nd)
    (zag (zd_ (zbe (zgc (ru64 hr)) zil (za_ (i := 7)) (zgr zad)) (zag (zd_ (zhh (zbe (zfp (ru64 hr)) zg4 (zaj (zcb T) (hr.mono (by decide)) hG (takes_of rfl rfl rfl rfl) (zaa (za_ (i := 0)) (zaa zah zad)) (hlen := (zab (zab zao)))) zah) (zhe (zbe op_gt dGt_ok (zam call_len zbz T.b_len (by decide +kernel) (zaa (za_ (i := 4)) zad)) zah))).dt (zaf (zbn (i := 8) (zbo (zbo (za_ (i := 7)) zah) zah) sc_l_law_kept_case.nd)
    (zag (zbn (i := 4) (zb8 zbg zbf (zlv (za_ (i := 4)) zm7 (zkb (za_ (i := 8)))) (zlv (za_ (i := 4)) (zkb (zb8 zbg zbf (za_ (i := 8)) zah)) zm7)) sc_l_law_kept_case.nd))) (zaf (zbn (i := 8) (zbo (zbo (za_ (i := 7)) zah) zah) sc_l_law_kept_case.nd)
    (zag (zbn (i := 2) (zb8 zbg zbf (zlv (za_ (i := 2)) zm7 (zkb (za_ (i := 8)))) (zlv (za_ (i := 2)) (zkb (zb8 zbg zbf (za_ (i := 8)) zah)) zm7)) sc_l_law_kept_case.nd))))) za3))))
    (zaf (zbn (i := 2) (zc_ call_tuple_of zht T.b_tuple (by decide +kernel) (zaa (zg7 (own := [("_law_rule_here", 9)]) rfl sc_l_law_kept_case.nd (zdh (za_ (i := 2))) (blkOk_by (N := ["_law_pen", "_law_again", "_law_rules", "_law_columns_here", "_law_master", "_law_row_here", "_law_settled", "_law_found", "_law_at", "_law_rule_here"]) (sc := defScope (top 61)) (by decide +kernel)) (fun _ _ _ _ _ => (zai (i := 9) sc_l_law_kept_case.nd)) (fun _ _ _ _ _ => (ziy (zbe (zfp (ru64 hr)) zg4 (zaj (zhf T) (hr.mono (by decide)) hG takes0 (zaa (za_ (i := 9)) (zaa (za_ (i := 4)) zad)) (hlen := (zab (zab zao)))) (zgr zad)))) (fun _ _ _ _ _ => (za_ (i := 9)))).de zad)) sc_l_law_kept_case.nd)
    (zag (za1 (zde (zaa (za_ (i := 3)) (zaa (za_ (i := 2)) (zaa (za_ (i := 4)) (zaa (zaj (zcb T) (hr.mono (by decide)) hG (takes_of rfl rfl rfl rfl) (zaa (za_ (i := 0)) (zaa (zam call_len zbz T.b_len (by decide +kernel) (zaa (za_ (i := 4)) zad)) zad)) (hlen := (zab (zab zao)))) (zaa (za_ (i := 6)) zad))))))))))))
theorem sc_l_law_values : FnScope (["_law_rule_here", "_law_master", "_law_row_here", "_law_found", "_law_other", "_law_given", "_law_column", "_law_want", "_law_apart", "_law_one_here", "_law_value_here"] : List Str) (["_law_rule_here", "_law_master", "_law_row_here"] : List Str) (defScope (top 62)) := ⟨rfl, rfl, rfl, by decide +kernel, rfl, by decide +kernel, by decide +kernel⟩
theorem zom (T : Txt K mg) : Def P w K mg base 2 "_law_values" 3 zg1 := zdj T.d_l_law_values sc_l_law_values (fun _ _ _ _ _ _ us hl => match us, hl with | [_, _, _], _ => rfl) (fun f cdv A outer s H E hr hG =>
    (zaf (zmh (za_ (i := 0)) (zf8 rfl (zap (zai (i := 5) sc_l_law_values.nd) (zap (zai (i := 6) sc_l_law_values.nd) (zap (zai (i := 7) sc_l_law_values.nd) zdt))) (zak (zak (zak zdd)))))
    (zaf (zd_ (zbe op_notN zhj (za_ (i := 7)) zd1) (zag (za1 (zgr (zaa (za_ (i := 7)) zad)))) za3)
    (zaf (zmw (i := 3) (zjx zad) sc_l_law_values.nd (hf := .inr rfl))
    (zaf (zgg (passes_of rfl) rfl (zdh (za_ (i := 1))) (zai (i := 4) sc_l_law_values.nd) (zaf (zj5 (i := 8) (own := [("_law_one_here", 9), ("_law_value_here", 10)]) rfl sc_l_law_values.nd (zdh (za_ (i := 5))) (blkOk_by (N := ["_law_rule_here", "_law_master", "_law_row_here", "_law_found", "_law_other", "_law_given", "_law_column", "_law_want", "_law_apart", "_law_one_here", "_law_value_here"]) (sc := defScope (top 62)) (by decide +kernel)) (fun _ _ _ _ _ => (zf8 rfl (zap (zai (i := 9) sc_l_law_values.nd) (zap (zai (i := 10) sc_l_law_values.nd) zdt)) (zak (zak zdd)))) (fun _ _ _ _ _ => (ziy (zbe (zgc (ru64 hr)) zil (zbo (za_ (i := 2)) (za_ (i := 9))) (zbo (za_ (i := 4)) (za_ (i := 9)))))) (fun _ _ _ _ _ => (za_ (i := 9))))
    (zag (zd_ (zhh (zbe (zfp (ru64 hr)) zg4 (za_ (i := 8)) (zgr zad)) (zhe (zfn (zaj (zf5 T) (hr.mono (by decide)) hG (takes_of rfl rfl rfl rfl) (zaa (za_ (i := 5)) (zaa (za_ (i := 4)) zad)) (hlen := (zab (zab zao))))))).dt (zag (zit (za_ (i := 3)) (zbo (za_ (i := 4)) (za_ (i := 6))))) za3))))
    (zl5 (i := 3) (zag (za1 (za_ (i := 3))))))))))
theorem sc_l_law_steps : FnScope (["_law_rules", "_law_master", "_law_row_here", "_law_settled", "_law_found", "_law_k", "_law_lacking", "_law_given", "_law_column", "_law_want", "_law_values_here", "_law_one_here", "_law_value_here"] : List Str) (["_law_rules", "_law_master", "_law_row_here", "_law_settled"] : List Str) (defScope (top 63)) := ⟨rfl, rfl, rfl, by decide +kernel, rfl, by decide +kernel, by decide +kernel⟩
theorem zif (T : Txt K mg) : Def P w K mg base 3 "_law_steps" 4 zd9 := zdj T.d_l_law_steps sc_l_law_steps (fun _ _ _ _ _ _ us hl => match us, hl with | [_, _, _, _], _ => rfl) (fun f cdv A outer s H E hr hG =>
    (zaf (zmw (i := 4) (zjx zad) sc_l_law_steps.nd (hf := .inr rfl))
    (zaf (zgg (passes_of rfl) rfl (zdz (zaa (zam call_len zbz T.b_len (by decide +kernel) (zaa (za_ (i := 0)) zad)) zad) T.b_range) (zai (i := 5) sc_l_law_steps.nd) (zaf (zmh (zbo (za_ (i := 0)) (za_ (i := 5))) (zf8 rfl (zap (zai (i := 7) sc_l_law_steps.nd) (zap (zai (i := 8) sc_l_law_steps.nd) (zap (zai (i := 9) sc_l_law_steps.nd) zdt))) (zak (zak (zak zdd)))))
    (zaf (zj5 (i := 6) (own := [("_law_one_here", 11)]) rfl sc_l_law_steps.nd (zdh (za_ (i := 7))) (blkOk_by (N := ["_law_rules", "_law_master", "_law_row_here", "_law_settled", "_law_found", "_law_k", "_law_lacking", "_law_given", "_law_column", "_law_want", "_law_values_here", "_law_one_here", "_law_value_here"]) (sc := defScope (top 63)) (by decide +kernel)) (fun _ _ _ _ _ => (zai (i := 11) sc_l_law_steps.nd)) (fun _ _ _ _ _ => (ziy (zbe (zno (ru65 hr)) dNin_ok (zbo (za_ (i := 11)) zah) (za_ (i := 3))))) (fun _ _ _ _ _ => (zbo (za_ (i := 11)) zah)))
    (zag (zd_ (zhh (zbe (zno (ru65 hr)) dNin_ok (za_ (i := 8)) (za_ (i := 3))) (zhh (zbe (zfp (ru64 hr)) zg4 (za_ (i := 6)) (zgr zad)) (zhe (zfn (zaj (zf5 T) (hr.mono (by decide)) hG (takes_of rfl rfl rfl rfl) (zaa (za_ (i := 7)) (zaa (za_ (i := 2)) zad)) (hlen := (zab (zab zao)))))))).dt (zaf (zbn (i := 10) (zaj (zom T) (hr.mono (by decide)) hG (takes_of rfl rfl rfl rfl) (zaa (zbo (za_ (i := 0)) (za_ (i := 5))) (zaa (za_ (i := 1)) (zaa (za_ (i := 2)) zad))) (hlen := (zab (zab (zab zao))))) sc_l_law_steps.nd)
    (zag (zk1 (za_ (i := 4)) (zg7 (own := [("_law_value_here", 12)]) rfl sc_l_law_steps.nd (zdh (za_ (i := 10))) (blkOk_by (N := ["_law_rules", "_law_master", "_law_row_here", "_law_settled", "_law_found", "_law_k", "_law_lacking", "_law_given", "_law_column", "_law_want", "_law_values_here", "_law_one_here", "_law_value_here"]) (sc := defScope (top 63)) (by decide +kernel)) (fun _ _ _ _ _ => (zai (i := 12) sc_l_law_steps.nd)) (fun _ _ _ _ _ => zdk) (fun _ _ _ _ _ => (zde (zaa (za_ (i := 5)) (zaa (za_ (i := 8)) (zaa (za_ (i := 12)) zad)))))).de))) za3)))))
    (zag (za1 (zo4 rfl (ru64 hr) (za_ (i := 4)) T.b_sorted T.b_set).de)))))
theorem sc_l_law_behind : FnScope (["_law_row_here", "_law_settled", "_law_step", "_law_at"] : List Str) (["_law_row_here", "_law_settled", "_law_step"] : List Str) (defScope (top 64)) := ⟨rfl, rfl, rfl, by decide +kernel, rfl, by decide +kernel, by decide +kernel⟩
theorem zjy (T : Txt K mg) : Def P w K mg base 1 "_law_behind" 3 zf4 := zdj T.d_l_law_behind sc_l_law_behind (fun _ _ _ _ _ _ us hl => match us, hl with | [_, _, _], _ => rfl) (fun f cdv A outer s H E hr hG =>
    (zaf (zbn (i := 3) (zbo (za_ (i := 2)) zah) sc_l_law_behind.nd)
    (zag (za1 (zde (zaa (zb8 zbg zbf (zb8 zbg zbf (zlv (za_ (i := 0)) zm7 (zkb (za_ (i := 3)))) (zde (zaa (zbo (za_ (i := 2)) zah) zad))) (zlv (za_ (i := 0)) (zkb (zb8 zbg zbf (za_ (i := 3)) zah)) zm7)) (zaa (zc_ call_tuple_of zht T.b_tuple (by decide +kernel) (zaa (ne_sorted (zb8 zbg zbf (za_ (i := 1)) (zde (zaa (za_ (i := 3)) zad))) (ru64 hr) T.b_sorted).de zad)) zad)))))))
theorem sc_l_law_is_run : FnScope (["_law_rules", "_law_master", "_law_row_here", "_law_settled", "_law_value_here", "_law_step", "_law_some", "_law_one_here"] : List Str) (["_law_rules", "_law_master", "_law_row_here", "_law_settled", "_law_value_here"] : List Str) (defScope (top 65)) := ⟨rfl, rfl, rfl, by decide +kernel, rfl, by decide +kernel, by decide +kernel⟩
theorem znx (T : Txt K mg) : Def P w K mg base 4 "_law_is_run" 5 zgu := zdj T.d_l_law_is_run sc_l_law_is_run (fun _ _ _ _ _ _ us hl => match us, hl with | [_, _, _, _, _], _ => rfl) (fun f cdv A outer s H E hr hG =>
    (zaf (zd_ (zd2 (zfn (zjf (za_ (i := 4)) T.b_isinstance T.b_list (by decide +kernel)))) (zag (za1 zha)) za3)
    (zaf (ds_forO (passes_of rfl) rfl (za_ (i := 4)) (zai (i := 5) sc_l_law_is_run.nd) (zaf (zbn (i := 6) (zaj (zif T) (hr.mono (by decide)) hG (takes_of rfl rfl rfl rfl) (zaa (za_ (i := 0)) (zaa (za_ (i := 1)) (zaa (za_ (i := 2)) (zaa (za_ (i := 3)) zad)))) (hlen := (zab (zab (zab (zab zao)))))) sc_l_law_is_run.nd)
    (zaf (zd_ (zbe (op_ninS (ru65 hr)) dNinS_ok (zam (zl9 hG (ru64 hr)) zj4 T.b_repr (by decide +kernel) (zaa (za_ (i := 5)) zad)) (zg7 (own := [("_law_one_here", 7)]) rfl sc_l_law_is_run.nd (zdh (za_ (i := 6))) (blkOk_by (N := ["_law_rules", "_law_master", "_law_row_here", "_law_settled", "_law_value_here", "_law_step", "_law_some", "_law_one_here"]) (sc := defScope (top 65)) (by decide +kernel)) (fun _ _ _ _ _ => (zai (i := 7) sc_l_law_is_run.nd)) (fun _ _ _ _ _ => zdk) (fun _ _ _ _ _ => (zam (zl9 hG (ru64 hr)) zj4 T.b_repr (by decide +kernel) (zaa (za_ (i := 7)) zad)))).de) (zag (za1 zha)) za3)
    (zag (zmh (zaj (zjy T) (hr.mono (by decide)) hG (takes_of rfl rfl rfl rfl) (zaa (za_ (i := 2)) (zaa (za_ (i := 3)) (zaa (za_ (i := 5)) zad))) (hlen := (zab (zab (zab zao))))) (zf8 rfl (zap (zai (i := 2) sc_l_law_is_run.nd) (zap (zai (i := 3) sc_l_law_is_run.nd) zdt)) (zak (zak zdd))))))))
    (zag (za1 (zgp (zfp (ru64 hr)) zg4 (zaj (zif T) (hr.mono (by decide)) hG (takes_of rfl rfl rfl rfl) (zaa (za_ (i := 0)) (zaa (za_ (i := 1)) (zaa (za_ (i := 2)) (zaa (za_ (i := 3)) zad)))) (hlen := (zab (zab (zab (zab zao)))))) (zgr zad)))))))
theorem sc_l_law_stops : FnScope (["_law_rules", "_law_master", "_law_row_here", "_law_settled", "_law_known", "_law_some", "_law_step", "_law_here"] : List Str) (["_law_rules", "_law_master", "_law_row_here", "_law_settled", "_law_known"] : List Str) (defScope (top 66)) := ⟨rfl, rfl, rfl, by decide +kernel, rfl, by decide +kernel, by decide +kernel⟩
theorem zox (T : Txt K mg) (n : Nat) (rec : Fn) (hd : Def P w K mg base (3 + 1 * n) "_law_stops" 5 rec) : Def P w K mg base (3 + 1 * n + 0 + 1) "_law_stops" 5 (zho rec) := zdj T.d_l_law_stops sc_l_law_stops (fun _ _ _ _ _ _ us hl => match us, hl with | [_, _, _, _, _], _ => rfl) (fun f cdv A outer s H E hr hG =>
    (zaf (zd_ (zbe (op_inS (ru65 hr)) dInS_ok (zam (zl9 hG (ru64 hr)) zj4 T.b_repr (by decide +kernel) (zaa (zde (zaa (za_ (i := 2)) (zaa (za_ (i := 3)) zad))) zad)) (za_ (i := 4))) (zag (za1 zha)) za3)
    (zaf (zit (za_ (i := 4)) (zam (zl9 hG (ru64 hr)) zj4 T.b_repr (by decide +kernel) (zaa (zde (zaa (za_ (i := 2)) (zaa (za_ (i := 3)) zad))) zad)))
    (zaf (zbn (i := 5) (zaj (zif T) (hr.mono (by omega)) hG (takes_of rfl rfl rfl rfl) (zaa (za_ (i := 0)) (zaa (za_ (i := 1)) (zaa (za_ (i := 2)) (zaa (za_ (i := 3)) zad)))) (hlen := (zab (zab (zab (zab zao)))))) sc_l_law_stops.nd)
    (zaf (zd_ (zbe (zfp (ru64 hr)) zg4 (za_ (i := 5)) (zgr zad)) (zag (za1 (zgp op_lt zlh (zam call_len zbz T.b_len (by decide +kernel) (zaa (za_ (i := 3)) zad)) (zam call_len zbz T.b_len (by decide +kernel) (zaa (za_ (i := 2)) zad))))) za3)
    (zaf (zgg (passes_of rfl) rfl (zdh (za_ (i := 5))) (zai (i := 6) sc_l_law_stops.nd) (zaf (zbn (i := 7) (zaj (zjy T) (hr.mono (by omega)) hG (takes_of rfl rfl rfl rfl) (zaa (za_ (i := 2)) (zaa (za_ (i := 3)) (zaa (za_ (i := 6)) zad))) (hlen := (zab (zab (zab zao))))) sc_l_law_stops.nd)
    (zag (zd_ (zfn (zaj (hd) (hr.mono (by omega)) hG (takes_of rfl rfl rfl rfl) (zaa (za_ (i := 0)) (zaa (za_ (i := 1)) (zaa (zbo (za_ (i := 7)) zah) (zaa (zbo (za_ (i := 7)) zah) (zaa (za_ (i := 4)) zad))))) (hlen := (zab (zab (zab (zab (zab zao)))))))) (zag (za1 zha)) za3))))
    (zag (za1 zha))))))))
theorem zjl (T : Txt K mg) : ∀ n : Nat, Def P w K mg base (3 + 1 * n) "_law_stops" 5 (zfw n)
  | 0 => def_bad T.d_l_law_stops (fun _ _ _ _ _ _ us hl => match us, hl with | [_, _, _, _, _], _ => rfl) (ps := (["_law_rules", "_law_master", "_law_row_here", "_law_settled", "_law_known"] : List Str)) rfl
  | n + 1 => def_lv (zox T n _ (zjl T n)) (by omega)
theorem zpa (T : Txt K mg) : Def P w K mg base 9 "_law_stops" 5 zhp := zjl T 6
theorem znd : FnScope (["_law_rules", "_law_master", "_law_row_here", "_law_settled", "_law_value_here"] : List Str) (["_law_rules", "_law_master", "_law_row_here", "_law_settled", "_law_value_here"] : List Str) (defScope (top 67)) := ⟨rfl, rfl, rfl, by decide +kernel, rfl, by decide +kernel, by decide +kernel⟩
theorem zna (T : Txt K mg) : Def P w K mg base 5 "_law_is_stop" 5 zgb := zdj T.d_l_law_is_stop znd (fun _ _ _ _ _ _ us hl => match us, hl with | [_, _, _, _, _], _ => rfl) (fun f cdv A outer s H E hr hG =>
    (zaf (zd_ (zd2 (zfn (zaj (znx T) (hr.mono (by decide)) hG (takes_of rfl rfl rfl rfl) (zaa (za_ (i := 0)) (zaa (za_ (i := 1)) (zaa (za_ (i := 2)) (zaa (za_ (i := 3)) (zaa (za_ (i := 4)) zad))))) (hlen := (zab (zab (zab (zab (zab zao))))))))) (zag (za1 zha)) za3)
    (zag (za1 (zgp op_lt zlh (zb8 zbg zbf (zam call_len zbz T.b_len (by decide +kernel) (zaa (za_ (i := 3)) zad)) (zam call_len zbz T.b_len (by decide +kernel) (zaa (za_ (i := 4)) zad))) (zam call_len zbz T.b_len (by decide +kernel) (zaa (za_ (i := 2)) zad)))))))
theorem sc_law : FnScope (["_law_script", "_law_pen", "_law_turn", "_law_number", "_law_whole", "_law_columns_here", "_law_rules", "_law_master", "_law_settled", "_law_told", "_law_kept", "_law_k"] : List Str) (["_law_script"] : List Str) (defScope (top 68)) := ⟨rfl, rfl, rfl, by decide +kernel, rfl, by decide +kernel, by decide +kernel⟩
theorem bd_law (T : Txt K mg) (f : Addr) (cdv : Value) (A : Around) (outer : List Env) (s : Shared) (H : Hp) (E : XK) (hr : RoomH 11 (A.deeper (envOfC "law" (defScope (top 68)) s.heap.objs.size f cdv))) (hG : A.guards = some []) :
    DSs (cxOf (L2.CX P w) P w K mg base (["_law_script", "_law_pen", "_law_turn", "_law_number", "_law_whole", "_law_columns_here", "_law_rules", "_law_master", "_law_settled", "_law_told", "_law_kept", "_law_k"] : List Str) "law" (defScope (top 68)) f cdv A outer s H E) (fun cls d _ H => E cls d H) (defBody (top 68)) s_law :=
    (zaf (zbn (i := 1) (zaj (zqd T) (hr.mono (by decide)) hG (takes_of rfl rfl rfl rfl) (zaa (za_ (i := 0)) zad) (hlen := (zab zao))) sc_law.nd)
    (zaf (zgg (passes_of rfl) rfl (zdz (zaa zah zad) T.b_range) (zai (i := 2) sc_law.nd) (zaf (zmh (zaj (zla T) (hr.mono (by decide)) hG (takes_of rfl rfl rfl rfl) (zaa (zaj (zql T) (hr.mono (by decide)) hG (takes_of rfl rfl rfl rfl) (zaa (za_ (i := 1)) zad) (hlen := (zab zao))) zad) (hlen := (zab zao))) (zf8 rfl (zap (zai (i := 5) sc_law.nd) (zap (zai (i := 6) sc_law.nd) (zap (zai (i := 7) sc_law.nd) (zap (zai (i := 3) sc_law.nd) (zap (zai (i := 8) sc_law.nd) zdt))))) (zak (zak (zak (zak (zak zdd)))))))
    (zaf (zgg (passes_of rfl) rfl (zdh (zlv (zgr (zaa zah (zaa (zb8 op_sub zn0 (zam call_len zbz T.b_len (by decide +kernel) (zaa (za_ (i := 7)) zad)) zah) (zaa (za_ (i := 3)) zad)))) zm7 (zkb (zam call_len zbz T.b_len (by decide +kernel) (zaa (za_ (i := 7)) zad))))) (zai (i := 3) sc_law.nd) (zaf (zbn (i := 9) (zaj (ok_stop T) (hr.mono (by decide)) hG (takes_of rfl rfl rfl rfl) (zaa (za_ (i := 5)) (zaa (za_ (i := 6)) (zaa (za_ (i := 7)) (zaa (za_ (i := 3)) (zaa (za_ (i := 8)) zad))))) (hlen := (zab (zab (zab (zab (zab zao))))))) sc_law.nd)
    (zaf (zbn (i := 10) (zam (zl9 hG (ru64 hr)) zj4 T.b_repr (by decide +kernel) (zaa (za_ (i := 9)) zad)) sc_law.nd)
    (zaf (zd_ (zfn (zaj (zpa T) (hr.mono (by decide)) hG (takes_of rfl rfl rfl rfl) (zaa (za_ (i := 6)) (zaa (za_ (i := 7)) (zaa (zbo (za_ (i := 7)) (za_ (i := 3))) (zaa (za_ (i := 8)) (zaa (zjx zad).deN zad))))) (hlen := (zab (zab (zab (zab (zab zao)))))))) (zag (zd_ (zd2 (zfn (zaj (zna T) (hr.mono (by decide)) hG (takes_of rfl rfl rfl rfl) (zaa (za_ (i := 6)) (zaa (za_ (i := 7)) (zaa (zbo (za_ (i := 7)) (za_ (i := 3))) (zaa (za_ (i := 8)) (zaa (za_ (i := 9)) zad))))) (hlen := (zab (zab (zab (zab (zab zao))))))))) (zag (za1 zha)) za3)) (zag (zd_ (zbe op_notN zhj (za_ (i := 9)) zd1) (zag (za1 zha)) za3)))
    (zaf (zd_ (zbe op_notN zhj (za_ (i := 9)) zd1) (zag (zit (za_ (i := 9)) zah)) za3)
    (zag (zd_ (zbe (op_neS (ru64 hr)) dNeS_ok (zam (zl9 hG (ru64 hr)) zj4 T.b_repr (by decide +kernel) (zaa (zaj (ok_stop T) (hr.mono (by decide)) hG (takes_of rfl rfl rfl rfl) (zaa (za_ (i := 5)) (zaa (za_ (i := 6)) (zaa (za_ (i := 7)) (zaa (za_ (i := 3)) (zaa (za_ (i := 8)) zad))))) (hlen := (zab (zab (zab (zab (zab zao))))))) zad)) (za_ (i := 10))) (zag (za1 zha)) za3)))))))
    (zaf (zbn (i := 4) (zc_ call_tuple_of zht T.b_tuple (by decide +kernel) (zaa (zg7 (own := [("_law_k", 11)]) rfl sc_law.nd (zdz (zaa (zam call_len zbz T.b_len (by decide +kernel) (zaa (za_ (i := 5)) zad)) zad) T.b_range) (blkOk_by (N := ["_law_script", "_law_pen", "_law_turn", "_law_number", "_law_whole", "_law_columns_here", "_law_rules", "_law_master", "_law_settled", "_law_told", "_law_kept", "_law_k"]) (sc := defScope (top 68)) (by decide +kernel)) (fun _ _ _ _ _ => (zai (i := 11) sc_law.nd)) (fun _ _ _ _ _ => zdk) (fun _ _ _ _ _ => (za_ (i := 11)))).de zad)) sc_law.nd)
    (zag (zd_ (zbe op_notN zhj (zaj (ok_stop T) (hr.mono (by decide)) hG (takes_of rfl rfl rfl rfl) (zaa (za_ (i := 5)) (zaa (za_ (i := 6)) (zaa (za_ (i := 7)) (zaa zah (zaa (za_ (i := 4)) zad))))) (hlen := (zab (zab (zab (zab (zab zao))))))) zd1) (zag (za1 zha)) za3))))))
    (zag (za1 zha))))
end T46
set_option maxHeartbeats 0
namespace T46
open PySem PySem.Spec PyProof.Rows L2 DL
theorem txt_of {K : PySem.W.Frag} {h : Heap} {mg : Str → Option Value} (X : K.In h) (G : h.Ns mainGlobals mg) (c : He.SaysD fa fn K) (xo : ex K = true) : Txt K mg where
  b_all := He.free_ok X G (c.fact 0 (f := .free "all") rfl)
  b_bool := He.free_ok X G (c.fact 1 (f := .free "bool") rfl)
  b_enumerate := He.free_ok X G (c.fact 2 (f := .free "enumerate") rfl)
  b_int := He.free_ok X G (c.fact 3 (f := .free "int") rfl)
  b_isinstance := He.free_ok X G (c.fact 4 (f := .free "isinstance") rfl)
  b_len := He.free_ok X G (c.fact 5 (f := .free "len") rfl)
  b_list := He.free_ok X G (c.fact 6 (f := .free "list") rfl)
  b_range := He.free_ok X G (c.fact 7 (f := .free "range") rfl)
  b_repr := He.free_ok X G (c.fact 8 (f := .free "repr") rfl)
  b_set := He.free_ok X G (c.fact 9 (f := .free "set") rfl)
  b_sorted := He.free_ok X G (c.fact 10 (f := .free "sorted") rfl)
  b_tuple := He.free_ok X G (c.fact 11 (f := .free "tuple") rfl)
  b_zip := He.free_ok X G (c.fact 12 (f := .free "zip") rfl)
  i_MOST_COLUMNS := He.int_ok X G (c.fact 13 (f := .int "MOST_COLUMNS" 4) rfl)
  i_MOST_ROWS := He.int_ok X G (c.fact 14 (f := .int "MOST_ROWS" 8) rfl)
  i_MOST_RULES := He.int_ok X G (c.fact 15 (f := .int "MOST_RULES" 8) rfl)
  e_InvalidColumns := zo1 X G (c.fact 16 (f := .glo "InvalidColumns") rfl) (c.fact 17 (f := .exc "InvalidColumns") rfl)
  e_InvalidNumber := zo1 X G (c.fact 18 (f := .glo "InvalidNumber") rfl) (c.fact 19 (f := .exc "InvalidNumber") rfl)
  e_InvalidRules := zo1 X G (c.fact 20 (f := .glo "InvalidRules") rfl) (c.fact 21 (f := .exc "InvalidRules") rfl)
  e_InvalidSettled := zo1 X G (c.fact 22 (f := .glo "InvalidSettled") rfl) (c.fact 23 (f := .exc "InvalidSettled") rfl)
  e_InvalidTable := zo1 X G (c.fact 24 (f := .glo "InvalidTable") rfl) (c.fact 25 (f := .exc "InvalidTable") rfl)
  d_is_integer := let ⟨fd, F⟩ := c.def_ 0 (d := mkD "is_integer" 9) rfl; ⟨_, fd, F, He.glo_ok X G (c.fact 26 (f := .glo "is_integer") rfl)⟩
  d_is_between := let ⟨fd, F⟩ := c.def_ 1 (d := mkD "is_between" 10) rfl; ⟨_, fd, F, He.glo_ok X G (c.fact 27 (f := .glo "is_between") rfl)⟩
  d_is_value := let ⟨fd, F⟩ := c.def_ 2 (d := mkD "is_value" 14) rfl; ⟨_, fd, F, He.glo_ok X G (c.fact 28 (f := .glo "is_value") rfl)⟩
  d_is_column := let ⟨fd, F⟩ := c.def_ 3 (d := mkD "is_column" 15) rfl; ⟨_, fd, F, He.glo_ok X G (c.fact 29 (f := .glo "is_column") rfl)⟩
  d_is_value_of := let ⟨fd, F⟩ := c.def_ 4 (d := mkD "is_value_of" 16) rfl; ⟨_, fd, F, He.glo_ok X G (c.fact 30 (f := .glo "is_value_of") rfl)⟩
  d_is_columns := let ⟨fd, F⟩ := c.def_ 5 (d := mkD "is_columns" 17) rfl; ⟨_, fd, F, He.glo_ok X G (c.fact 31 (f := .glo "is_columns") rfl)⟩
  d_is_row_of := let ⟨fd, F⟩ := c.def_ 6 (d := mkD "is_row_of" 18) rfl; ⟨_, fd, F, He.glo_ok X G (c.fact 32 (f := .glo "is_row_of") rfl)⟩
  d_is_table_of := let ⟨fd, F⟩ := c.def_ 7 (d := mkD "is_table_of" 19) rfl; ⟨_, fd, F, He.glo_ok X G (c.fact 33 (f := .glo "is_table_of") rfl)⟩
  d_require_columns := let ⟨fd, F⟩ := c.def_ 8 (d := mkD "require_columns" 20) rfl; ⟨_, fd, F, He.glo_ok X G (c.fact 34 (f := .glo "require_columns") rfl)⟩
  d_require_table := let ⟨fd, F⟩ := c.def_ 9 (d := mkD "require_table" 21) rfl; ⟨_, fd, F, He.glo_ok X G (c.fact 35 (f := .glo "require_table") rfl)⟩
  d_is_entry := let ⟨fd, F⟩ := c.def_ 10 (d := mkD "is_entry" 24) rfl; ⟨_, fd, F, He.glo_ok X G (c.fact 36 (f := .glo "is_entry") rfl)⟩
  d_is_given := let ⟨fd, F⟩ := c.def_ 11 (d := mkD "is_given" 25) rfl; ⟨_, fd, F, He.glo_ok X G (c.fact 37 (f := .glo "is_given") rfl)⟩
  d_is_rule_of := let ⟨fd, F⟩ := c.def_ 12 (d := mkD "is_rule_of" 26) rfl; ⟨_, fd, F, He.glo_ok X G (c.fact 38 (f := .glo "is_rule_of") rfl)⟩
  d_are_rules := let ⟨fd, F⟩ := c.def_ 13 (d := mkD "are_rules" 27) rfl; ⟨_, fd, F, He.glo_ok X G (c.fact 39 (f := .glo "are_rules") rfl)⟩
  d_does_match := let ⟨fd, F⟩ := c.def_ 14 (d := mkD "does_match" 28) rfl; ⟨_, fd, F, He.glo_ok X G (c.fact 40 (f := .glo "does_match") rfl)⟩
  d_are_equal := let ⟨fd, F⟩ := c.def_ 15 (d := mkD "are_equal" 29) rfl; ⟨_, fd, F, He.glo_ok X G (c.fact 41 (f := .glo "are_equal") rfl)⟩
  d_require_rules := let ⟨fd, F⟩ := c.def_ 16 (d := mkD "require_rules" 30) rfl; ⟨_, fd, F, He.glo_ok X G (c.fact 42 (f := .glo "require_rules") rfl)⟩
  d_find_rule_breaks := let ⟨fd, F⟩ := c.def_ 17 (d := mkD "find_rule_breaks" 32) rfl; ⟨_, fd, F, He.glo_ok X G (c.fact 43 (f := .glo "find_rule_breaks") rfl)⟩
  d_find_breaks := let ⟨fd, F⟩ := c.def_ 18 (d := mkD "find_breaks" 33) rfl; ⟨_, fd, F, He.glo_ok X G (c.fact 44 (f := .glo "find_breaks") rfl)⟩
  d_is_settled := let ⟨fd, F⟩ := c.def_ 19 (d := mkD "is_settled" 35) rfl; ⟨_, fd, F, He.glo_ok X G (c.fact 45 (f := .glo "is_settled") rfl)⟩
  d_require_settled := let ⟨fd, F⟩ := c.def_ 20 (d := mkD "require_settled" 36) rfl; ⟨_, fd, F, He.glo_ok X G (c.fact 46 (f := .glo "require_settled") rfl)⟩
  d_find_values := let ⟨fd, F⟩ := c.def_ 21 (d := mkD "find_values" 37) rfl; ⟨_, fd, F, He.glo_ok X G (c.fact 47 (f := .glo "find_values") rfl)⟩
  d_find_next_steps := let ⟨fd, F⟩ := c.def_ 22 (d := mkD "find_next_steps" 38) rfl; ⟨_, fd, F, He.glo_ok X G (c.fact 48 (f := .glo "find_next_steps") rfl)⟩
  d_do_step := let ⟨fd, F⟩ := c.def_ 23 (d := mkD "do_step" 39) rfl; ⟨_, fd, F, He.glo_ok X G (c.fact 49 (f := .glo "do_step") rfl)⟩
  d_find_stop_from := let ⟨fd, F⟩ := c.def_ 24 (d := mkD "find_stop_from" 41) rfl; ⟨_, fd, F, He.glo_ok X G (c.fact 50 (f := .glo "find_stop_from") rfl)⟩
  d_find_stop := let ⟨fd, F⟩ := c.def_ 25 (d := mkD "find_stop" 42) rfl; ⟨_, fd, F, He.glo_ok X G (c.fact 51 (f := .glo "find_stop") rfl)⟩
  d_require_start := let ⟨fd, F⟩ := c.def_ 26 (d := mkD "require_start" 43) rfl; ⟨_, fd, F, He.glo_ok X G (c.fact 52 (f := .glo "require_start") rfl)⟩
  d_require_kept := let ⟨fd, F⟩ := c.def_ 27 (d := mkD "require_kept" 44) rfl; ⟨_, fd, F, He.glo_ok X G (c.fact 53 (f := .glo "require_kept") rfl)⟩
  d_stop := let ⟨fd, F⟩ := c.def_ 28 (d := mkD "stop" 45) rfl; ⟨_, fd, F, He.glo_ok X G (c.fact 54 (f := .glo "stop") rfl)⟩
  d_l_law_spread := let ⟨fd, F⟩ := c.def_ 29 (d := mkD "_law_spread" 47) rfl; ⟨_, fd, F, He.glo_ok X G (c.fact 55 (f := .glo "_law_spread") rfl)⟩
  d_l_law_open := let ⟨fd, F⟩ := c.def_ 30 (d := mkD "_law_open" 48) rfl; ⟨_, fd, F, He.glo_ok X G (c.fact 56 (f := .glo "_law_open") rfl)⟩
  d_l_law_take := let ⟨fd, F⟩ := c.def_ 31 (d := mkD "_law_take" 49) rfl; ⟨_, fd, F, He.glo_ok X G (c.fact 57 (f := .glo "_law_take") rfl)⟩
  d_l_law_anew := let ⟨fd, F⟩ := c.def_ 32 (d := mkD "_law_anew" 50) rfl; ⟨_, fd, F, He.glo_ok X G (c.fact 58 (f := .glo "_law_anew") rfl)⟩
  d_l_law_one := let ⟨fd, F⟩ := c.def_ 33 (d := mkD "_law_one" 51) rfl; ⟨_, fd, F, He.glo_ok X G (c.fact 59 (f := .glo "_law_one") rfl)⟩
  d_l_law_columns := let ⟨fd, F⟩ := c.def_ 34 (d := mkD "_law_columns" 52) rfl; ⟨_, fd, F, He.glo_ok X G (c.fact 60 (f := .glo "_law_columns") rfl)⟩
  d_l_law_value := let ⟨fd, F⟩ := c.def_ 35 (d := mkD "_law_value" 53) rfl; ⟨_, fd, F, He.glo_ok X G (c.fact 61 (f := .glo "_law_value") rfl)⟩
  d_l_law_row := let ⟨fd, F⟩ := c.def_ 36 (d := mkD "_law_row" 54) rfl; ⟨_, fd, F, He.glo_ok X G (c.fact 62 (f := .glo "_law_row") rfl)⟩
  d_l_law_table := let ⟨fd, F⟩ := c.def_ 37 (d := mkD "_law_table" 55) rfl; ⟨_, fd, F, He.glo_ok X G (c.fact 63 (f := .glo "_law_table") rfl)⟩
  d_l_law_rule := let ⟨fd, F⟩ := c.def_ 38 (d := mkD "_law_rule" 56) rfl; ⟨_, fd, F, He.glo_ok X G (c.fact 64 (f := .glo "_law_rule") rfl)⟩
  d_l_law_case := let ⟨fd, F⟩ := c.def_ 39 (d := mkD "_law_case" 57) rfl; ⟨_, fd, F, He.glo_ok X G (c.fact 65 (f := .glo "_law_case") rfl)⟩
  d_l_law_matches := let ⟨fd, F⟩ := c.def_ 40 (d := mkD "_law_matches" 58) rfl; ⟨_, fd, F, He.glo_ok X G (c.fact 66 (f := .glo "_law_matches") rfl)⟩
  d_l_law_rule_breaks := let ⟨fd, F⟩ := c.def_ 41 (d := mkD "_law_rule_breaks" 59) rfl; ⟨_, fd, F, He.glo_ok X G (c.fact 67 (f := .glo "_law_rule_breaks") rfl)⟩
  d_l_law_breaks := let ⟨fd, F⟩ := c.def_ 42 (d := mkD "_law_breaks" 60) rfl; ⟨_, fd, F, He.glo_ok X G (c.fact 68 (f := .glo "_law_breaks") rfl)⟩
  d_l_law_kept_case := let ⟨fd, F⟩ := c.def_ 43 (d := mkD "_law_kept_case" 61) rfl; ⟨_, fd, F, He.glo_ok X G (c.fact 69 (f := .glo "_law_kept_case") rfl)⟩
  d_l_law_values := let ⟨fd, F⟩ := c.def_ 44 (d := mkD "_law_values" 62) rfl; ⟨_, fd, F, He.glo_ok X G (c.fact 70 (f := .glo "_law_values") rfl)⟩
  d_l_law_steps := let ⟨fd, F⟩ := c.def_ 45 (d := mkD "_law_steps" 63) rfl; ⟨_, fd, F, He.glo_ok X G (c.fact 71 (f := .glo "_law_steps") rfl)⟩
  d_l_law_behind := let ⟨fd, F⟩ := c.def_ 46 (d := mkD "_law_behind" 64) rfl; ⟨_, fd, F, He.glo_ok X G (c.fact 72 (f := .glo "_law_behind") rfl)⟩
  d_l_law_is_run := let ⟨fd, F⟩ := c.def_ 47 (d := mkD "_law_is_run" 65) rfl; ⟨_, fd, F, He.glo_ok X G (c.fact 73 (f := .glo "_law_is_run") rfl)⟩
  d_l_law_stops := let ⟨fd, F⟩ := c.def_ 48 (d := mkD "_law_stops" 66) rfl; ⟨_, fd, F, He.glo_ok X G (c.fact 74 (f := .glo "_law_stops") rfl)⟩
  d_l_law_is_stop := let ⟨fd, F⟩ := c.def_ 49 (d := mkD "_law_is_stop" 67) rfl; ⟨_, fd, F, He.glo_ok X G (c.fact 75 (f := .glo "_law_is_stop") rfl)⟩
  d_law := let ⟨fd, F⟩ := c.def_ 50 (d := mkD "law" 68) rfl; ⟨_, fd, F, He.glo_ok X G (c.fact 76 (f := .glo "law") rfl)⟩
  xc_Broken := xcD_of X G (c.fact 79 (f := .glo "Broken") rfl) (c.fact 77 (f := .noat "Broken" "found") rfl) (exo_p_Broken xo)
  xm_Broken := let ⟨fd, F⟩ := c.def_ 51 (d := mkX "Broken" 7 0) rfl; ⟨_, fd, F, xmeth_of (He.meth_ok (c.fact 78 (f := .meth "Broken" "__init__") rfl))⟩
  xr_RuleError := xrD_of X G (c.fact 80 (f := .glo "RuleError") rfl) (zoz xo)
end T46
set_option maxHeartbeats 4000000
namespace DL
open PySem PySem.Spec PyProof.Rows L2
/-! # plain laws of the functions -/
def zpm {α : Type} (x : DV) (t e : Res α) : Res α := match x with
  | .dat (.bl b) => bif b then t else e
  | _ => .bad
theorem xAnd_eq (f g : XFn) : xAnd f g = fun ρ S => (f ρ S).bind fun x S1 => zpm x (g ρ S1) (.ok (.dat (.bl false)) S1) := by
  funext ρ S
  unfold xAnd zpm
  congr 1
  funext x S1
  cases x with
  | dat d => cases d with
    | bl b => cases b <;> rfl
    | non => rfl
    | int i => rfl
    | str i => rfl
    | lst i => rfl
    | tup i => rfl
    | cas i => rfl
    | dct i => rfl
    | ptr i => rfl
  | obj k => rfl
  | scr ns => rfl
  | exn c p => rfl
  | fn _ => rfl
  | spc _ => rfl
theorem xOr_eq (f g : XFn) : xOr f g = fun ρ S => (f ρ S).bind fun x S1 => zpm x (.ok (.dat (.bl true)) S1) (g ρ S1) := by
  funext ρ S
  unfold xOr zpm
  congr 1
  funext x S1
  cases x with
  | dat d => cases d with
    | bl b => cases b <;> rfl
    | non => rfl
    | int i => rfl
    | str i => rfl
    | lst i => rfl
    | tup i => rfl
    | cas i => rfl
    | dct i => rfl
    | ptr i => rfl
  | obj k => rfl
  | scr ns => rfl
  | exn c p => rfl
  | fn _ => rfl
  | spc _ => rfl
theorem xChain_eq (o o' : Op2) (f g k : XFn) : zmn o o' f g k = fun ρ S => (f ρ S).bind fun x S1 => (g ρ S1).bind fun y S2 => (o x y S2).bind fun z S3 => zpm z ((k ρ S3).bind fun w S4 => o' y w S4) (.ok (.dat (.bl false)) S3) := by
  funext ρ S
  unfold zmn zpm
  congr 1
  funext x S1
  congr 1
  funext x S1
  congr 1
  funext x S1
  cases x with
  | dat d => cases d with
    | bl b => cases b <;> rfl
    | non => rfl
    | int i => rfl
    | str i => rfl
    | lst i => rfl
    | tup i => rfl
    | cas i => rfl
    | dct i => rfl
    | ptr i => rfl
  | obj k => rfl
  | scr ns => rfl
  | exn c p => rfl
  | fn _ => rfl
  | spc _ => rfl
theorem za6 (b : Bool) (S : zae) : zpt (.dat (.bl b)) S = .ok b S := rfl
theorem zax (S : zae) : zpt (.dat .non) S = .ok false S := rfl
theorem zav (i : Int) (S : zae) : zpt (.dat (.int i)) S = .ok (i != 0) S := rfl
theorem zar (xs : List D) (S : zae) : zpt (.dat (.lst xs)) S = .ok (!xs.isEmpty) S := rfl
theorem zaz (xs : List D) (S : zae) : zpt (.dat (.tup xs)) S = .ok (!xs.isEmpty) S := rfl
theorem zbu (n : Nat) (ρ : za2) (S : zae) : ends n (.nx ρ S) = .ok (.dat .non) (S.take n) := rfl
theorem zbr (n : Nat) (v : DV) (S : zae) : ends n (.rt v S) = zn_ n v S := rfl
theorem zbv (n : Nat) (c : XC) (ρ : za2) (S : zae) : ends n (.ex c ρ S) = .ex c (S.take n) := rfl
theorem zas (n : Nat) (d : D) (S : zae) : zn_ n (.dat d) S = .ok (.dat d) (S.take n) := rfl
def szB (n : Nat) : Bool := n.ble 16777216
theorem szB_iff {n : Nat} : n ≤ sizeLine ↔ szB n = true := by simp [szB, sizeLine]
theorem zb_ (ds : List DV) (S : zae) : mkTup ds S = match dats ds with
  | some xs => bif szB xs.length then .ok (.dat (.tup xs)) S else .bad
  | none => .bad := by
  unfold mkTup
  cases dats ds with
  | none => rfl
  | some xs =>
    simp only [szB_iff]
    cases szB xs.length <;> rfl
theorem za9 (ds : List DV) (S : zae) : mkLst ds S = match dats ds with
  | some xs => bif szB xs.length then .ok (.dat (.lst xs)) S else .bad
  | none => .bad := by
  unfold mkLst
  cases dats ds with
  | none => rfl
  | some xs =>
    simp only [szB_iff]
    cases szB xs.length <;> rfl
theorem ze2 : szB 0 = true ∧ szB 1 = true ∧ szB 2 = true ∧ szB 3 = true ∧ szB 4 = true ∧ szB 5 = true ∧ szB 6 = true ∧ szB 7 = true ∧ szB 8 = true ∧ szB 9 = true ∧ szB 10 = true ∧ szB 11 = true ∧ szB 12 = true ∧ szB 13 = true := by decide
/-! ## applied -/
def RS.seq (r : RS) (g : SFn) : RS := match r with
  | .nx ρ' S' => g ρ' S'
  | r => r
theorem zcf (ρ : za2) (S : zae) (g : SFn) : (RS.nx ρ S).seq g = g ρ S := rfl
theorem zc9 (v : DV) (S : zae) (g : SFn) : (RS.rt v S).seq g = .rt v S := rfl
theorem zcy (c : XC) (ρ : za2) (S : zae) (g : SFn) : (RS.ex c ρ S).seq g = .ex c ρ S := rfl
theorem zc0 (ρ : za2) (S : zae) (g : SFn) : (RS.bk ρ S).seq g = .bk ρ S := rfl
theorem zc8 (ρ : za2) (S : zae) (g : SFn) : (RS.ct ρ S).seq g = .ct ρ S := rfl
theorem zba (b : Bool) (x y : RS) (g : SFn) : (bif b then x else y).seq g = bif b then x.seq g else y.seq g := by cases b <;> rfl
theorem za0 (n : Nat) (b : Bool) (x y : RS) : ends n (bif b then x else y) = bif b then ends n x else ends n y := by cases b <;> rfl
theorem c_ok {α : Type} (b : Bool) (x y : α) (S : zae) : (bif b then Res.ok x S else Res.ok y S) = Res.ok (bif b then x else y) S := by cases b <;> rfl
theorem zer (b : Bool) (x y : D) : (bif b then DV.dat x else DV.dat y) = DV.dat (bif b then x else y) := by cases b <;> rfl
theorem c_bl (b : Bool) (x y : Bool) : (bif b then D.bl x else D.bl y) = D.bl (bif b then x else y) := by cases b <;> rfl
theorem zez (b : Bool) (x y : Int) : (bif b then D.int x else D.int y) = D.int (bif b then x else y) := by cases b <;> rfl
theorem ze8 (b x : Bool) : (bif b then x else false) = (b && x) := by cases b <;> rfl
theorem c_or (b x : Bool) : (bif b then true else x) = (b || x) := by cases b <;> rfl
theorem zcj (b x : Bool) : (bif b then false else x) = (!b && x) := by cases b <;> rfl
section
variable (ρ : za2) (S : zae) (f g k : XFn) (fa ga : AFn) (fs gs hs : SFn) (t u : TFn) (l : LFn) (G : GFn)
theorem zcz (i : Nat) : xVar i ρ S = match ρ[i]? with
  | some (some dv) => .ok dv S
  | _ => .bad := rfl
theorem a_c (d : D) : xC d ρ S = .ok (.dat d) S := rfl
theorem a_x2 (o : Op2) : x2 o f g ρ S = (f ρ S).bind fun x S1 => (g ρ S1).bind fun y S2 => o x y S2 := rfl
theorem a_o2 (o : D → D → Option D) (x y : D) : o2 o (.dat x) (.dat y) S = res1 (o x y) S := rfl
theorem zcq (d : D) : res1 (some d) S = .ok (.dat d) S := rfl
theorem a_xN (o : OpN) : xN o fa ρ S = (fa ρ S).bind o := rfl
theorem ze9 : aNil ρ S = .ok [] S := rfl
theorem zc3 : zac f fa ρ S = (f ρ S).bind fun d S1 => (fa ρ S1).bind fun ds S2 => .ok (d :: ds) S2 := rfl
theorem a_o1 (o : D → Option D) (d : D) : o1 o [.dat d] S = res1 (o d) S := rfl
theorem zee : xN1 l ρ S = (l ρ S).bind fun ds S1 => .ok (.dat (.lst ds)) S1 := rfl
theorem zek : xTup fa ρ S = (fa ρ S).bind mkTup := rfl
theorem ze0 : xLst fa ρ S = (fa ρ S).bind mkLst := rfl
theorem zew : tBl f ρ S = (f ρ S).bind bool1 := rfl
theorem zfa : tTr f ρ S = (f ρ S).bind zpt := rfl
theorem ze3 : tNo t ρ S = (t ρ S).bind fun b S1 => .ok (!b) S1 := rfl
theorem ze5 : tAn t u ρ S = (t ρ S).bind fun b S1 => bif b then u ρ S1 else .ok false S1 := by
  show (t ρ S).bind _ = _
  congr 1
  funext b S1
  cases b <;> rfl
theorem zet : tOr_ t u ρ S = (t ρ S).bind fun b S1 => bif b then .ok true S1 else u ρ S1 := by
  show (t ρ S).bind _ = _
  congr 1
  funext b S1
  cases b <;> rfl
theorem zbx (b : Bool) : bool1 (.dat (.bl b)) S = .ok b S := rfl
theorem zb5 {α : Type} (b : Bool) (x y : Res α) : zpm (.dat (.bl b)) x y = bif b then x else y := rfl
theorem zey : xAnd f g ρ S = (f ρ S).bind fun x S1 => zpm x (g ρ S1) (.ok (.dat (.bl false)) S1) := by rw [xAnd_eq]
theorem a_or : xOr f g ρ S = (f ρ S).bind fun x S1 => zpm x (.ok (.dat (.bl true)) S1) (g ρ S1) := by rw [xOr_eq]
theorem zbq (o o' : Op2) : zmn o o' f g k ρ S = (f ρ S).bind fun x S1 => (g ρ S1).bind fun y S2 => (o x y S2).bind fun z S3 => zpm z ((k ρ S3).bind fun w S4 => o' y w S4) (.ok (.dat (.bl false)) S3) := by rw [xChain_eq]
theorem zeu : xNot f ρ S = (f ρ S).bind nDV := rfl
theorem zfj (b : Bool) : nDV (.dat (.bl b)) S = .ok (.dat (.bl (!b))) S := rfl
theorem zeq : xNeg f ρ S = (f ρ S).bind neg1 := rfl
theorem zcn (i : Int) : neg1 (.dat (.int i)) S = .ok (.dat (.int (-i))) S := rfl
theorem a_if : xIf t f g ρ S = (t ρ S).bind fun b S1 => bif b then f ρ S1 else g ρ S1 := by
  show (t ρ S).bind _ = _
  congr 1
  funext b S1
  cases b <;> rfl
theorem zeb (T : String) : xIsi T f ρ S = (f ρ S).bind (oIsi T) := rfl
theorem zcp (T : String) (d : D) : oIsi T (.dat d) S = .ok (.dat (.bl (isiB T d))) S := rfl
theorem a_it : lIt f ρ S = (f ρ S).bind zkj := rfl
theorem zau (xs : List D) : zkj (.dat (.lst xs)) S = .ok xs S := rfl
theorem zay (xs : List D) : zkj (.dat (.tup xs)) S = .ok xs S := rfl
theorem zel : zgh ρ S = .ok true S := rfl
theorem zd0 : sSeq fs gs ρ S = (fs ρ S).seq gs := rfl
theorem zcm : sNil ρ S = .nx ρ S := rfl
theorem zef : sRet f ρ S = (f ρ S).bindS ρ fun v S1 => .rt v S1 := rfl
theorem zfg (i : Nat) : sSet i f ρ S = (f ρ S).bindS ρ fun v S1 => .nx (ρ.set i (some v)) S1 := rfl
theorem zc2 : sExpr f ρ S = (f ρ S).bindS ρ fun _ S1 => .nx ρ S1 := rfl
theorem zfb : sIf t fs gs ρ S = (t ρ S).bindS ρ fun b S1 => bif b then fs ρ S1 else gs ρ S1 := by
  show (t ρ S).bindS ρ _ = _
  congr 1
  funext b S1
  cases b <;> rfl
theorem zb1 (c : Str) : zo0 c ρ S = .ex c ρ S := rfl
theorem zfi (i j : Nat) : sPar i j f g ρ S = (f ρ S).bindS ρ fun x S1 => (g ρ S1).bindS ρ fun y S2 => .nx ((ρ.set i (some x)).set j (some y)) S2 := rfl
theorem a_tg : sTg G f ρ S = (f ρ S).bindS ρ fun v S1 => match v with
  | .dat d => (match G d ρ with
    | some ρ' => .nx ρ' S1
    | none => .bad)
  | _ => .bad := rfl
theorem a_fn (N : Nat) (ds : List DV) : zbl N fs ds S = ends S.length (fs (ds.map some ++ List.replicate (N - ds.length) none) S) := rfl
theorem zfe (i : Nat) (d : D) : gNm i d ρ = some (ρ.set i (some (.dat d))) := rfl
theorem ze6 (q : GsFn) (ds : List D) : gTp q (.tup ds) ρ = q ds ρ := rfl
theorem zeh : gNo [] ρ = some ρ := rfl
theorem zf_ (q : GsFn) (d : D) (ds : List D) : gCo G q (d :: ds) ρ = (G d ρ).bind (q ds) := rfl
theorem zfh : sFor l G fs ρ S = (l ρ S).bindS ρ fun ds S1 => zfl G fs ds ρ S1 := rfl
theorem a_lc (own : List Nat) : lLc l own G t f ρ S = (l ρ S).bind fun ds S1 => bif szB ds.length then lcGo G t f (zpf ρ own) ds S1 else .bad := by
  show (l ρ S).bind _ = _
  congr 1
  funext ds S1
  simp only [szB_iff]
  cases szB ds.length <;> rfl
theorem zem : lRg1 fa ρ S = (fa ρ S).bind rng1 := rfl
theorem zes : lRg2 fa ρ S = (fa ρ S).bind rng2 := rfl
theorem zen (i : Nat) : sNew i l ρ S = (l ρ S).bindS ρ fun ds S1 => .nx (ρ.set i (some (.obj S1.length))) (S1 ++ [some ds]) := rfl
theorem zck : lLst fa ρ S = (fa ρ S).bind fun ds S1 => match dats ds with
  | some xs => bif szB xs.length then .ok xs S1 else .bad
  | none => .bad := by
  show (fa ρ S).bind _ = _
  congr 1
  funext ds S1
  cases dats ds with
  | none => rfl
  | some xs =>
    simp only [szB_iff]
    cases szB xs.length <;> rfl
theorem zb2 : dats [] = some [] := rfl
theorem zbp (d : D) (r : List DV) : dats (.dat d :: r) = (dats r).map (d :: ·) := rfl
theorem zcu (r : List D) (d : D) : (some r).map (d :: ·) = some (d :: r) := rfl
theorem zb7 : zpf ρ [] = ρ := rfl
theorem zb4 (i : Nat) (r : List Nat) : zpf ρ (i :: r) = (zpf ρ r).set i none := rfl
theorem a_sl (l h : PFn) : xSl f l h ρ S = (f ρ S).bind fun x S1 => (l ρ S1).bind fun lo S2 => (h ρ S2).bind fun hi S3 => oSl x lo hi S3 := rfl
theorem zex : pNo ρ S = .ok none S := rfl
theorem zed : pEx f ρ S = (f ρ S).bind asInt := rfl
theorem zb6 (i : Int) : asInt (.dat (.int i)) S = .ok (some i) S := rfl
theorem zcv (i : Nat) : sFrz i ρ S = match ρ[i]? with
  | some (some x) => (match zdx S x with
    | some (k, ds) => .nx (ρ.set i (some (.dat (.lst ds)))) (S.set k none)
    | none => .bad)
  | _ => .bad := rfl
theorem zec : lZip f g ρ S = (f ρ S).bind fun x S1 => (g ρ S1).bind fun y S2 => zip2 x y S2 := rfl
theorem zc6 (xs ys : List D) : zip2 (.dat (.tup xs)) (.dat (.tup ys)) S = .ok (zipD xs ys) S := rfl
theorem zc4 (xs ys : List D) : zip2 (.dat (.lst xs)) (.dat (.lst ys)) S = .ok (zipD xs ys) S := rfl
theorem zco : lEnum f ρ S = (f ρ S).bind enum1 := rfl
theorem zbw (xs : List D) : enum1 (.dat (.lst xs)) S = .ok (zng xs) S := rfl
theorem zbm (xs : List D) : enum1 (.dat (.tup xs)) S = .ok (zng xs) S := rfl
theorem zcc : zk_ f ρ S = (f ρ S).bind zq8 := rfl
theorem a_rd (d : D) : rd S (.dat d) = some d := rfl
end
theorem zgm {G : GFn} {t : TFn} {f : XFn} {ρ : za2} {S : zae} {q : D → D} : ∀ (xs : List D), (∀ a ∈ xs, ∃ ρ1, G a ρ = some ρ1 ∧ t ρ1 S = .ok true S ∧ f ρ1 S = .ok (.dat (q a)) S) → lcGo G t f ρ xs S = .ok (xs.map q) S
  | [], _ => rfl
  | a :: r, h => by
    obtain ⟨ρ1, h1, h2, h3⟩ := h a (List.mem_cons_self ..)
    have ih := zgm (G := G) (t := t) (f := f) (ρ := ρ) (S := S) (q := q) r fun b hb => h b (List.mem_cons_of_mem _ hb)
    simp only [List.map_cons, lcGo, h1, h2, h3, Res.bindN_ok, if_true, ih]
theorem zmu {G : GFn} {t : TFn} {f : XFn} {ρ : za2} {S : zae} {q : D → D} {p : D → Bool} : ∀ (xs : List D), (∀ a ∈ xs, ∃ ρ1, G a ρ = some ρ1 ∧ t ρ1 S = .ok (p a) S ∧ (p a = true → f ρ1 S = .ok (.dat (q a)) S)) → lcGo G t f ρ xs S = .ok ((xs.filter p).map q) S
  | [], _ => rfl
  | a :: r, h => by
    obtain ⟨ρ1, h1, h2, h3⟩ := h a (List.mem_cons_self ..)
    have ih := zmu (G := G) (t := t) (f := f) (ρ := ρ) (S := S) (q := q) (p := p) r fun b hb => h b (List.mem_cons_of_mem _ hb)
    cases hp : p a with
    | false => simp only [lcGo, h1, h2, hp, Res.bindN_ok, ih, List.filter_cons, Bool.false_eq_true, if_false]
    | true => simp only [List.map_cons, lcGo, h1, h2, h3 hp, hp, Res.bindN_ok, if_true, ih, List.filter_cons]
theorem zfy {G : GFn} {t : TFn} {f : XFn} {ρ : za2} {S : zae} {α : Type} {enc : α → D} {q : α → D} : ∀ (xs : List α), (∀ a ∈ xs, ∃ ρ1, G (enc a) ρ = some ρ1 ∧ t ρ1 S = .ok true S ∧ f ρ1 S = .ok (.dat (q a)) S) → lcGo G t f ρ (xs.map enc) S = .ok (xs.map q) S
  | [], _ => rfl
  | a :: r, h => by
    obtain ⟨ρ1, h1, h2, h3⟩ := h a (List.mem_cons_self ..)
    have ih := zfy (G := G) (t := t) (f := f) (ρ := ρ) (S := S) (enc := enc) (q := q) r fun b hb => h b (List.mem_cons_of_mem _ hb)
    simp only [List.map_cons, lcGo, h1, h2, h3, Res.bindN_ok, if_true, ih]
theorem zfo {G : GFn} {t : TFn} {f : XFn} {ρ : za2} {S : zae} {α : Type} {enc : α → D} {q : α → D} {p : α → Bool} : ∀ (xs : List α), (∀ a ∈ xs, ∃ ρ1, G (enc a) ρ = some ρ1 ∧ t ρ1 S = .ok (p a) S ∧ (p a = true → f ρ1 S = .ok (.dat (q a)) S)) → lcGo G t f ρ (xs.map enc) S = .ok ((xs.filter p).map q) S
  | [], _ => rfl
  | a :: r, h => by
    obtain ⟨ρ1, h1, h2, h3⟩ := h a (List.mem_cons_self ..)
    have ih := zfo (G := G) (t := t) (f := f) (ρ := ρ) (S := S) (enc := enc) (q := q) (p := p) r fun b hb => h b (List.mem_cons_of_mem _ hb)
    cases hp : p a with
    | false => simp only [List.map_cons, lcGo, h1, h2, hp, Res.bindN_ok, ih, List.filter_cons, Bool.false_eq_true, if_false]
    | true => simp only [List.map_cons, lcGo, h1, h2, h3 hp, hp, Res.bindN_ok, if_true, ih, List.filter_cons]
theorem zoo {α : Type} (p : α → Bool) : ∀ xs : List α, zjj (xs.map fun a => .bl (p a)) = some (xs.map p)
  | [] => rfl
  | a :: r => by simp [zjj, zoo p r]
theorem zgj {α : Type} (p : α → Bool) (xs : List α) : dAll (.lst (xs.map fun a => .bl (p a))) = some (.bl (xs.all p)) := by
  simp [dAll, zoo, List.all_map, Function.comp_def]
/-! ## isinstance -/
def D.isI : D → Bool | .int _ => true | .bl _ => true | _ => false
def D.isB : D → Bool | .bl _ => true | _ => false
def D.isT : D → Bool | .tup _ => true | _ => false
def D.isL : D → Bool | .lst _ => true | _ => false
def D.isS : D → Bool | .str _ => true | _ => false
theorem zby (d : D) : isiB "int" d = d.isI := by cases d <;> rfl
theorem zbc (d : D) : isiB "bool" d = d.isB := by cases d <;> rfl
theorem zaw (d : D) : isiB "tuple" d = d.isT := by cases d <;> rfl
theorem za7 (d : D) : isiB "list" d = d.isL := by cases d <;> rfl
theorem zbt (d : D) : isiB "str" d = d.isS := by cases d <;> rfl
/-! ## operators -/
theorem zd7 (i j : Int) : dLt (.int i) (.int j) = some (.bl (decide (i < j))) := rfl
theorem zej (i j : Int) : dLe (.int i) (.int j) = some (.bl (decide (i ≤ j))) := rfl
theorem zev (i j : Int) : dGt (.int i) (.int j) = some (.bl (decide (i > j))) := rfl
theorem zei (i j : Int) : dGe (.int i) (.int j) = some (.bl (decide (i ≥ j))) := rfl
theorem zc5 (i j : Int) : dAdd (.int i) (.int j) = some (.int (i + j)) := rfl
theorem zc1 (i j : Int) : dSub (.int i) (.int j) = some (.int (i - j)) := rfl
def D.isN : D → Bool | .non => true | _ => false
theorem zb0 (d : D) : dIsN d .non = some (.bl d.isN) := by cases d <;> rfl
theorem zbd (d : D) : zkc d .non = some (.bl (!d.isN)) := by cases d <;> rfl
theorem zct (xs : List D) : dLen (.lst xs) = some (.int xs.length) := rfl
theorem zcx (xs : List D) : dLen (.tup xs) = some (.int xs.length) := rfl
theorem zeo (xs : List D) (i : Int) : dIx (.lst xs) (.int i) = atI xs i := rfl
theorem zea (xs : List D) (i : Int) : dIx (.tup xs) (.int i) = atI xs i := rfl
theorem zbs (xs : List D) : dList (.lst xs) = some (.lst xs) := rfl
theorem zb3 (xs : List D) : dList (.tup xs) = some (.lst xs) := rfl
theorem za8 (xs : List D) : zkh (.lst xs) = some (.tup xs) := rfl
theorem zbb (xs : List D) : zkh (.tup xs) = some (.tup xs) := rfl
/-! ## == of data without zpt values -/
mutual
def D.noB : D → Bool
  | .bl _ => false
  | .cas _ => false
  | .dct _ => false
  | .ptr _ => false
  | .lst xs => D.noBs xs
  | .tup xs => D.noBs xs
  | _ => true
def D.noBs : List D → Bool
  | [] => true
  | x :: xs => D.noB x && D.noBs xs
end
mutual
theorem eqv_iff : ∀ a b : D, a.noB = true → b.noB = true → (PyData.eqv a.py b.py = true ↔ a = b)
  | .non, b, _, h2 => by cases b <;> simp_all [D.py, PyData.eqv, D.noB]
  | .bl _, _, h1, _ => by simp [D.noB] at h1
  | .cas _, _, h1, _ => by simp [D.noB] at h1
  | .dct _, _, h1, _ => by simp [D.noB] at h1
  | .ptr _, _, h1, _ => by simp [D.noB] at h1
  | .int i, b, _, h2 => by cases b <;> simp_all [D.py, PyData.eqv, D.noB]
  | .str i, b, _, h2 => by cases b <;> simp_all [D.py, PyData.eqv, D.noB]
  | .lst xs, b, h1, h2 => by
    cases b with
    | lst ys => simp only [D.py, PyData.eqv, D.lst.injEq]; exact eqvs_iff xs ys (by simpa [D.noB] using h1) (by simpa [D.noB] using h2)
    | _ => simp_all [D.py, PyData.eqv, D.noB]
  | .tup xs, b, h1, h2 => by
    cases b with
    | tup ys => simp only [D.py, PyData.eqv, D.tup.injEq]; exact eqvs_iff xs ys (by simpa [D.noB] using h1) (by simpa [D.noB] using h2)
    | _ => simp_all [D.py, PyData.eqv, D.noB]
theorem eqvs_iff : ∀ a b : List D, D.noBs a = true → D.noBs b = true → (PyData.eqvAll (D.pys a) (D.pys b) = true ↔ a = b)
  | [], [], _, _ => by simp [D.pys, PyData.eqvAll]
  | [], _ :: _, _, _ => by simp [D.pys, PyData.eqvAll]
  | _ :: _, [], _, _ => by simp [D.pys, PyData.eqvAll]
  | x :: xs, y :: ys, h1, h2 => by
    have q1 : x.noB = true ∧ D.noBs xs = true := by simpa [D.noBs] using h1
    have q2 : y.noB = true ∧ D.noBs ys = true := by simpa [D.noBs] using h2
    simp only [D.pys, PyData.eqvAll, Bool.and_eq_true, eqv_iff x y q1.1 q2.1, eqvs_iff xs ys q1.2 q2.2, List.cons.injEq]
end
theorem dEqB_iff {a b : D} (h1 : a.noB = true) (h2 : b.noB = true) : dEqB a b = true ↔ a = b := eqv_iff a b h1 h2
theorem noBs_iff : ∀ {xs : List D}, D.noBs xs = true ↔ ∀ x ∈ xs, x.noB = true
  | [] => by simp [D.noBs]
  | x :: xs => by simp [D.noBs, noBs_iff (xs := xs)]
/-! ## where == is served -/
mutual
def D.fit : Nat → D → Bool
  | _, .non => true
  | _, .bl _ => true
  | _, .int _ => true
  | _, .str x => PyData.strOk x
  | _, .cas _ => false
  | _, .dct _ => false
  | _, .ptr _ => false
  | 0, .lst _ => false
  | 0, .tup _ => false
  | n + 1, .lst xs => D.fits n xs
  | n + 1, .tup xs => D.fits n xs
def D.fits : Nat → List D → Bool
  | _, [] => true
  | n, x :: xs => D.fit n x && D.fits n xs
end
theorem fits_iff {n : Nat} : ∀ {xs : List D}, D.fits n xs = true ↔ ∀ x ∈ xs, x.fit n = true
  | [] => by simp [D.fits]
  | x :: xs => by simp [D.fits, fits_iff (xs := xs)]
mutual
theorem znz : ∀ (n : Nat) (d : D), d.fit n = true → d.py.canLay0 = true ∧ d.py.depth ≤ n
  | _, .non, _ => by simp [D.py, PyData.canLay0, PyData.depth]
  | _, .bl _, _ => by simp [D.py, PyData.canLay0, PyData.depth]
  | _, .int _, _ => by simp [D.py, PyData.canLay0, PyData.depth]
  | n, .str x, h => by cases n <;> (simp only [D.fit] at h; simp [D.py, PyData.canLay0, PyData.depth, h])
  | 0, .lst _, h => by simp [D.fit] at h
  | 0, .tup _, h => by simp [D.fit] at h
  | n, .cas _, h => by cases n <;> simp [D.fit] at h
  | n, .dct _, h => by cases n <;> simp [D.fit] at h
  | n, .ptr _, h => by cases n <;> simp [D.fit] at h
  | n + 1, .lst xs, h => by
    have := fits_py n xs (by simpa [D.fit] using h)
    simp only [D.py, PyData.canLay0, PyData.depth]
    exact ⟨this.1, by omega⟩
  | n + 1, .tup xs, h => by
    have := fits_py n xs (by simpa [D.fit] using h)
    simp only [D.py, PyData.canLay0, PyData.depth]
    exact ⟨this.1, by omega⟩
theorem fits_py : ∀ (n : Nat) (ds : List D), D.fits n ds = true → PyData.canLayAll0 (D.pys ds) = true ∧ PyData.depthAll (D.pys ds) ≤ n
  | _, [], _ => by simp [D.pys, PyData.canLayAll0, PyData.depthAll]
  | n, x :: xs, h => by
    have h' : x.fit n = true ∧ D.fits n xs = true := by simpa [D.fits] using h
    have a := znz n x h'.1
    have b := fits_py n xs h'.2
    simp only [D.pys, PyData.canLayAll0, PyData.depthAll, a.1, b.1, Bool.and_self, true_and]
    omega
end
theorem zqv {n m : Nat} {a b : D} (ha : a.fit n = true) (hb : b.fit m = true) (h : n ≤ 64 := by decide) : dEq a b = some (.bl (dEqB a b)) := by
  have p := znz n a ha
  have q := znz m b hb
  have : zpo a b = true := by
    simp only [zpo, p.1, q.1, Bool.true_and, decide_eq_true_eq]
    omega
  simp only [dEq, this, if_true]
theorem dNe_fit {n m : Nat} {a b : D} (ha : a.fit n = true) (hb : b.fit m = true) (h : n ≤ 64 := by decide) : dNe a b = some (.bl (!dEqB a b)) := by
  have p := znz n a ha
  have q := znz m b hb
  have : zpo a b = true := by
    simp only [zpo, p.1, q.1, Bool.true_and, decide_eq_true_eq]
    omega
  simp only [dNe, this, if_true]
theorem zo7 {n m : Nat} {a : D} {xs : List D} (ha : a.fit n = true) (hb : D.fits m xs = true) (h : n ≤ 64) : canIn a xs = true := by
  have p := znz n a ha
  have q := fits_py m xs hb
  simp only [canIn, p.1, q.1, Bool.true_and, decide_eq_true_eq]
  omega
theorem dIn_l {n m : Nat} {a : D} {xs : List D} (ha : a.fit n = true) (hb : D.fits m xs = true) (h : n ≤ 64 := by decide) : dIn a (.lst xs) = some (.bl (dInB a xs)) := by simp only [dIn, zo7 ha hb h, if_true]
theorem dIn_t {n m : Nat} {a : D} {xs : List D} (ha : a.fit n = true) (hb : D.fits m xs = true) (h : n ≤ 64 := by decide) : dIn a (.tup xs) = some (.bl (dInB a xs)) := by simp only [dIn, zo7 ha hb h, if_true]
theorem dNin_t {n m : Nat} {a : D} {xs : List D} (ha : a.fit n = true) (hb : D.fits m xs = true) (h : n ≤ 64 := by decide) : dNin a (.tup xs) = some (.bl (!dInB a xs)) := by simp only [dNin, zo7 ha hb h, if_true]
theorem zp8 (i j : Int) : dEq (.int i) (.int j) = some (.bl (i == j)) := zqv (n := 0) (m := 0) rfl rfl
theorem zk4 (i j : Int) : dNe (.int i) (.int j) = some (.bl (!(i == j))) := dNe_fit (n := 0) (m := 0) rfl rfl
theorem eqs_ints : ∀ a b : List Int, PyData.eqvAll (D.pys (a.map .int)) (D.pys (b.map .int)) = decide (a = b)
  | [], [] => by simp [D.pys, PyData.eqvAll]
  | [], _ :: _ => by simp [D.pys, PyData.eqvAll]
  | _ :: _, [] => by simp [D.pys, PyData.eqvAll]
  | x :: xs, y :: ys => by
    simp only [List.map_cons, D.pys, D.py, PyData.eqvAll, PyData.eqv, eqs_ints xs ys, List.cons.injEq, Bool.decide_and]
    congr 1
theorem zgn (n : Nat) : ∀ a : List Int, D.fits n (a.map .int) = true
  | [] => rfl
  | x :: xs => by simp only [List.map_cons, D.fits, D.fit, zgn n xs, Bool.and_self]
theorem zqm (a b : List Int) : dEq (.lst (a.map .int)) (.lst (b.map .int)) = some (.bl (decide (a = b))) := by
  rw [zqv (n := 1) (m := 1) (by simp only [D.fit, zgn]) (by simp only [D.fit, zgn])]
  simp only [dEqB, D.py, PyData.eqv, eqs_ints]
theorem ze_ : ∀ a : List Int, zh_ (a.map .int) = some a
  | [] => rfl
  | x :: xs => by simp only [List.map_cons, zh_, ze_ xs, Option.map_some]
theorem sort_ints (a : List Int) (h : a.length < 64) (S : zae) : zq8 (.dat (.lst (a.map .int))) S = .ok ((sset a).map .int) S := by simp only [zq8, rd, ze_, if_pos h]
theorem zp5 (a : List Int) (h : a.length < 64) (S : zae) : zq8 (.dat (.tup (a.map .int))) S = .ok ((sset a).map .int) S := by simp only [zq8, rd, ze_, if_pos h]
theorem zp_ (i : Int) (a : List Int) : dInB (.int i) (a.map .int) = decide (i ∈ a) := by
  induction a with
  | nil => rfl
  | cons x xs ih =>
    simp only [dInB, List.map_cons, List.any_cons] at ih ⊢
    rw [ih]
    simp only [dEqB, D.py, PyData.eqv, List.mem_cons, Bool.decide_or]
    congr 1
    by_cases h : x = i
    · subst h; simp
    · have h2 : ¬ i = x := fun e => h e.symm
      simp [h, h2]
theorem lit2 : (((0 : Nat) : Int) == 2) = false ∧ (((1 : Nat) : Int) == 2) = false ∧ (((2 : Nat) : Int) == 2) = true ∧ (((3 : Nat) : Int) == 2) = false := ⟨rfl, rfl, rfl, rfl⟩
theorem lit3 : (((0 : Nat) : Int) == 3) = false ∧ (((1 : Nat) : Int) == 3) = false ∧ (((2 : Nat) : Int) == 3) = false ∧ (((3 : Nat) : Int) == 3) = true := ⟨rfl, rfl, rfl, rfl⟩
/-! ## loops -/
theorem zk7 {α : Type} {enc : α → D} {G : GFn} {f : SFn} (I : List α → za2 → zae → Prop) : ∀ (post pre : List α) (ρ : za2) (S : zae), I pre ρ S →
    (∀ pre1 a post1 ρ S, pre ++ post = pre1 ++ a :: post1 → I pre1 ρ S → ∃ ρ1 ρ2 S2, G (enc a) ρ = some ρ1 ∧ (f ρ1 S = .nx ρ2 S2 ∨ f ρ1 S = .ct ρ2 S2) ∧ I (pre1 ++ [a]) ρ2 S2) →
    ∃ ρ' S', zfl G f (post.map enc) ρ S = .nx ρ' S' ∧ I (pre ++ post) ρ' S'
  | [], pre, ρ, S, h0, _ => ⟨ρ, S, rfl, by simpa using h0⟩
  | a :: post, pre, ρ, S, h0, hs => by
    obtain ⟨ρ1, ρ2, S2, e1, e2, h1⟩ := hs pre a post ρ S rfl h0
    obtain ⟨ρ', S', e3, h3⟩ := zk7 (enc := enc) (G := G) (f := f) I post (pre ++ [a]) ρ2 S2 h1 (fun pre1 b post1 ρ S e h => hs pre1 b post1 ρ S (by simpa using e) h)
    refine ⟨ρ', S', ?_, by simpa using h3⟩
    simp only [List.map_cons, zfl, e1]
    rcases e2 with e2 | e2 <;> simp only [e2, e3]
theorem zii {α β : Type} {enc : α → D} {eb : β → D} {q : α → List β} {G : GFn} {f : SFn} {S0 : zae} {P : za2 → Prop} : ∀ (xs : List α) (ρ : za2) (ds0 : List D), ds0.length + (xs.flatMap q).length ≤ sizeLine → P ρ →
    (∀ a ∈ xs, ∀ ρ ds, P ρ → ds.length + (q a).length ≤ sizeLine → ∃ ρ1 ρ2, G (enc a) ρ = some ρ1 ∧ f ρ1 (S0 ++ [some ds]) = .nx ρ2 (S0 ++ [some (ds ++ (q a).map eb)]) ∧ P ρ2) →
    ∃ ρ', zfl G f (xs.map enc) ρ (S0 ++ [some ds0]) = .nx ρ' (S0 ++ [some (ds0 ++ (xs.flatMap q).map eb)]) ∧ P ρ'
  | [], ρ, ds0, _, h0, _ => ⟨ρ, by simp [zfl], h0⟩
  | a :: r, ρ, ds0, hb, h0, hs => by
    simp only [List.flatMap_cons, List.length_append] at hb
    obtain ⟨ρ1, ρ2, e1, e2, h1⟩ := hs a (List.mem_cons_self ..) ρ ds0 h0 (by omega)
    obtain ⟨ρ', e3, h3⟩ := zii (q := q) (eb := eb) (enc := enc) (G := G) (f := f) (S0 := S0) (P := P) r ρ2 (ds0 ++ (q a).map eb) (by simp only [List.length_append, List.length_map]; omega) h1 (fun b hb => hs b (List.mem_cons_of_mem _ hb))
    refine ⟨ρ', ?_, h3⟩
    simp only [List.map_cons, zfl, e1, e2, e3, List.flatMap_cons, List.map_append, List.append_assoc]
theorem zmi (S0 : zae) (x : Option (List D)) : (S0 ++ [x])[S0.length]? = some x := by simp
theorem zbk (S0 : zae) (x y : Option (List D)) : (S0 ++ [x]).set S0.length y = S0 ++ [y] := by simp
theorem za5 (S0 : zae) (x : Option (List D)) : (S0 ++ [x]).take S0.length = S0 := by simp
theorem zq7 {i : Nat} {g : XFn} {ρ : za2} {S0 : zae} {ds : List D} {d : D} (hi : ρ[i]? = some (some (.obj S0.length))) (hg : g ρ (S0 ++ [some ds]) = .ok (.dat d) (S0 ++ [some ds])) (hl : ds.length < sizeLine) :
    sApp (xVar i) g ρ (S0 ++ [some ds]) = .nx ρ (S0 ++ [some (ds ++ [d])]) := by
  have e1 : xVar i ρ (S0 ++ [some ds]) = .ok (.obj S0.length) (S0 ++ [some ds]) := by unfold xVar; rw [hi]
  simp only [sApp, e1, Res.bindS_ok, zdx, zmi, hg, zpv, if_pos hl, zbk]
theorem zqt {i : Nat} {g : XFn} {ρ : za2} {S0 : zae} {ds es : List D} (hi : ρ[i]? = some (some (.obj S0.length))) (hg : g ρ (S0 ++ [some ds]) = .ok (.dat (.lst es)) (S0 ++ [some ds])) (hl : ds.length + es.length ≤ sizeLine) :
    sExt (xVar i) g ρ (S0 ++ [some ds]) = .nx ρ (S0 ++ [some (ds ++ es)]) := by
  have e1 : xVar i ρ (S0 ++ [some ds]) = .ok (.obj S0.length) (S0 ++ [some ds]) := by unfold xVar; rw [hi]
  simp only [sExt, e1, Res.bindS_ok, zdx, zmi, hg, putExt, if_pos hl, zbk]
theorem range_map (n : Nat) : zkn 0 n = (List.range n).map fun i => .int ((i : Nat) : Int) := by simp [zkn]
theorem zjg {n : Nat} (h : n ≤ sizeLine) (S : zae) : rng1 [.dat (.int (n : Nat))] S = .ok ((List.range n).map fun i => .int ((i : Nat) : Int)) S := by
  unfold sizeLine at h
  simp only [rng1, if_pos (show -(2 ^ 62) ≤ (n : Int) ∧ (n : Int) < 2 ^ 62 by omega), Int.toNat_natCast, range_map]
theorem leave_end (S0 : zae) (ds : List D) : zn_ S0.length (.obj S0.length) (S0 ++ [some ds]) = .ok (.obj S0.length) (S0 ++ [some ds]) := by
  simp only [zn_, Nat.lt_irrefl, if_false, zmi, za5]
theorem zqh {α : Type} {xs : List α} {n : Nat} (d : α) (h : n < xs.length) : atI xs (n : Nat) = some (xs.getD n d) := by
  have h1 : (n : Int) < xs.length := by omega
  unfold atI ixN
  rw [if_pos (Int.natCast_nonneg n), if_pos h1, List.getD_eq_getElem?_getD]
  simp only [Option.bind_some, Int.toNat_natCast]
  rw [List.getElem?_eq_getElem h]
  rfl
theorem zb9 {α : Type} {xs : List α} {n : Nat} (e : α → D) (d : α) (h : n < xs.length) : atI (xs.map e) (n : Nat) = some (e (xs.getD n d)) := by
  rw [zqh (e d) (by simpa using h)]
  simp [List.getD_eq_getElem?_getD, List.getElem?_map, List.getElem?_eq_getElem h]
theorem zdp {n : Nat} (h : n ≤ 16000000) : n ≤ sizeLine := by unfold sizeLine; omega
theorem zdi {n : Nat} (h : n ≤ 16777216) : szB n = true := szB_iff.mp (by unfold sizeLine; omega)
theorem zan (S0 : zae) (ds : List D) : zdx (S0 ++ [some ds]) (.obj S0.length) = some (S0.length, ds) := by simp only [zdx, zmi]
theorem zcg (S0 : zae) (ds : List D) : rd (S0 ++ [some ds]) (.obj S0.length) = some (.lst ds) := by simp only [rd, zmi]
theorem zch (f : XFn) (g : AFn) (ρ : za2) (S : zae) : zpd f g ρ S = (f ρ S).bind fun x S1 => match rd S1 x with
  | some (.lst xs) => (g ρ S1).bind fun ds S2 => .ok (xs.map .dat ++ ds) S2
  | some (.tup xs) => (g ρ S1).bind fun ds S2 => .ok (xs.map .dat ++ ds) S2
  | _ => .bad := rfl
theorem za4 : ∀ xs : List D, dats (xs.map .dat) = some xs
  | [] => rfl
  | x :: xs => by simp only [List.map_cons, dats, za4 xs, Option.map_some]
theorem zal (S0 : zae) (ds : List D) : zn_ S0.length (.obj S0.length) (S0 ++ [some ds]) = .ok (.obj S0.length) (S0 ++ [some ds]) := leave_end S0 ds
theorem zmy {α : Type} (d : α) (xs : List α) : (xs.zipIdx.map fun p => (p.2, p.1)) = (List.range xs.length).map fun k => (k, xs.getD k d) := by
  apply List.ext_getElem
  · simp
  · intro i h1 h2
    simp only [List.length_map, List.length_zipIdx] at h1
    simp [List.getD_eq_getElem?_getD, List.getElem?_eq_getElem h1]
theorem rng2_n {i n : Nat} (hi : i < 1000000000) (h : n ≤ sizeLine) (S : zae) : rng2 [.dat (.int ((i : Nat) + 1)), .dat (.int (n : Nat))] S = .ok ((List.range (n - (i + 1))).map fun k => .int ((i + 1 + k : Nat) : Int)) S := by
  unfold sizeLine at h
  have e : ((n : Int) - ((i : Int) + 1)).toNat = n - (i + 1) := by omega
  simp only [rng2, if_pos (show -(2 ^ 62) ≤ (i : Int) + 1 ∧ (i : Int) + 1 < 2 ^ 62 ∧ -(2 ^ 62) ≤ (n : Int) ∧ (n : Int) < 2 ^ 62 by omega), e, zkn]
  congr 1
theorem rng2_0 {i : Nat} (hi : i < 1000000000) (S : zae) : rng2 [.dat (.int ((i : Nat) + 1)), .dat (.int 0)] S = .ok [] S := by
  have e : ((0 : Int) - ((i : Int) + 1)).toNat = 0 := by omega
  simp only [rng2, if_pos (show -(2 ^ 62) ≤ (i : Int) + 1 ∧ (i : Int) + 1 < 2 ^ 62 ∧ -(2 ^ 62) ≤ (0 : Int) ∧ (0 : Int) < 2 ^ 62 by omega), e, zkn, List.range_zero, List.map_nil]
theorem zat (G : GFn) (f : SFn) (ρ : za2) (S : zae) : zfl G f [] ρ S = .nx ρ S := rfl
/-! ## numbers -/
theorem log2_lt {n k : Nat} (h : n < 2 ^ k) (hk : 0 < k) : n.log2 < k := by
  by_cases hn : n = 0
  · subst hn
    simpa using hk
  · exact (Nat.log2_lt hn).mpr h
theorem zn1 {i j : Int} (hi : i.natAbs < 2 ^ 200) (hj : j.natAbs < 2 ^ 200) : zji (.int i) (.int j) = some (.int (i * j)) := by
  have a := log2_lt hi (by decide)
  have b := log2_lt hj (by decide)
  have : i.natAbs.log2 + j.natAbs.log2 < 1000000 := by omega
  simp only [zji, dMul, if_pos this]
theorem zhg {i j : Int} (h : 0 < j) : dMod (.int i) (.int j) = some (.int (i % j)) := by simp only [dMod, if_pos h]
theorem dDiv_i {i j : Int} (h : 0 < j) (h2 : j.natAbs < 2 ^ 200) : dDiv (.int i) (.int j) = some (.int (i / j)) := by
  have := log2_lt h2 (by decide)
  simp only [dDiv, if_pos (show 0 < j ∧ j.natAbs.log2 < 9000 from ⟨h, by omega⟩)]
theorem dPow_i {i : Int} {j : Nat} (h : i.natAbs < 2 ^ 64) (h2 : j ≤ 1000000) : dPow (.int i) (.int (j : Nat)) = some (.int (i ^ j)) := by
  have : (0 : Int) ≤ (j : Nat) ∧ ((j : Nat) : Int) ≤ 1000000 ∧ i.natAbs < 2 ^ 64 := ⟨by omega, by omega, h⟩
  simp only [dPow, if_pos this, Int.toNat_natCast]
theorem zcs (i : Int) : dInt (.int i) = some (.int i) := rfl
theorem zd5 {i : Int} (h0 : -1000000000000000000000000000000 ≤ i) (h1 : i ≤ 1000000000000000000000000000000) : i.natAbs < 2 ^ 200 := by
  have : i.natAbs ≤ 1000000000000000000000000000000 := by omega
  exact Nat.lt_of_le_of_lt this (by decide)
theorem dAdd_l (a b : List D) : dAdd (.lst a) (.lst b) = bif szB (a.length + b.length) then some (.lst (a ++ b)) else none := by
  simp only [dAdd, szB_iff]
  cases szB (a.length + b.length) <;> rfl
theorem zjw (a b : List D) : dAdd (.tup a) (.tup b) = bif szB (a.length + b.length) then some (.tup (a ++ b)) else none := by
  simp only [dAdd, szB_iff]
  cases szB (a.length + b.length) <;> rfl
theorem zep (f i g : XFn) (ρ : za2) (S : zae) : sPut f i g ρ S = (g ρ S).bindS ρ fun y S1 => (f ρ S1).bindS ρ fun x S2 => (i ρ S2).bindS ρ fun n S3 => zrg x n y ρ S3 := rfl
/-! ## the pen: the first list of the store -/
def penL (cells : List Int) (a : Nat) (cur : Int) : List D := [.lst (cells.map .int), .int (a : Nat), .int cur]
theorem zcw (o : D → D → Option D) (ds : List D) (T : zae) (y : D) : o2 o (.obj 0) (.dat y) (some ds :: T) = res1 (o (.lst ds) y) (some ds :: T) := rfl
theorem ze4 (cells : List Int) (a : Nat) (cur : Int) : atI (penL cells a cur) 0 = some (.lst (cells.map .int)) := rfl
theorem zfd (cells : List Int) (a : Nat) (cur : Int) : atI (penL cells a cur) 1 = some (.int (a : Nat)) := rfl
theorem ze7 (cells : List Int) (a : Nat) (cur : Int) : atI (penL cells a cur) 2 = some (.int cur) := rfl
theorem zc7 (cells : List Int) (a : Nat) (cur : Int) (ρ : za2) (T : zae) : zrg (.obj 0) (.dat (.int 1)) (.dat (.int ((a : Nat) + 1))) ρ (some (penL cells a cur) :: T) = .nx ρ (some (penL cells (a + 1) cur) :: T) := rfl
theorem zcr (cells : List Int) (a : Nat) (cur c : Int) (ρ : za2) (T : zae) : zrg (.obj 0) (.dat (.int 2)) (.dat (.int c)) ρ (some (penL cells a cur) :: T) = .nx ρ (some (penL cells a c) :: T) := rfl
theorem zaq {α : Type} (x : α) (T : List α) : (x :: T).take (T.length + 1) = x :: T := by simp
def Pen (n : Nat) (T S : zae) : Prop := ∃ cells a cur, S = some (penL cells a cur) :: T ∧ a ≤ n
theorem Pen.mono {n m : Nat} {T S : zae} (h : Pen n T S) (k : n ≤ m) : Pen m T S := by
  obtain ⟨c, a, u, e, l⟩ := h
  exact ⟨c, a, u, e, Nat.le_trans l k⟩
theorem Pen.len {n : Nat} {T S : zae} (h : Pen n T S) : S.length = T.length + 1 := by
  obtain ⟨c, a, u, e, l⟩ := h
  subst e
  rfl
theorem Pen.take {n k : Nat} {T S : zae} (h : Pen n T S) (hk : k = T.length + 1) : S.take k = S := by
  rw [hk, ← h.len, List.take_length]
abbrev LIM : Nat := 2147483648
theorem lc_pen {G : GFn} {t : TFn} {f : XFn} {ρ : za2} {T : zae} {R : D → D → Prop} {c : Nat} : ∀ (ds : List D) (m : Nat) (S : zae), Pen m T S → m + c * ds.length ≤ LIM →
    (∀ d ∈ ds, ∀ m S, Pen m T S → m + c ≤ LIM → ∃ ρ1 z S1, G d ρ = some ρ1 ∧ t ρ1 S = .ok true S ∧ f ρ1 S = .ok (.dat z) S1 ∧ Pen (m + c) T S1 ∧ R d z) →
    ∃ zs S1, lcGo G t f ρ ds S = .ok zs S1 ∧ Pen (m + c * ds.length) T S1 ∧ zs.length = ds.length ∧ ∀ p ∈ ds.zip zs, R p.1 p.2
  | [], m, S, hp, _, _ => ⟨[], S, rfl, hp, rfl, fun p hp => nomatch hp⟩
  | d :: r, m, S, hp, hb, hs => by
    have hb' : m + c + c * r.length ≤ LIM := by simp only [List.length_cons, Nat.mul_succ] at hb; omega
    obtain ⟨ρ1, z, S1, h1, h2, h3, h4, h5⟩ := hs d (List.mem_cons_self ..) m S hp (by omega)
    obtain ⟨zs, S2, e, p2, l2, q2⟩ := lc_pen (G := G) (t := t) (f := f) (ρ := ρ) (R := R) (c := c) r (m + c) S1 h4 hb' fun b hb => hs b (List.mem_cons_of_mem _ hb)
    refine ⟨z :: zs, S2, ?_, ?_, by simp [l2], ?_⟩
    · simp only [lcGo, h1, h2, Res.bindN_ok, if_true, h3, e]
    · simp only [List.length_cons, Nat.mul_succ]
      exact p2.mono (by omega)
    · intro p hp
      simp only [List.zip_cons_cons, List.mem_cons] at hp
      rcases hp with rfl | hp
      · exact h5
      · exact q2 p hp
theorem zl8 {α : Type} {enc : α → D} {G : GFn} {f : SFn} {T : zae} {c : Nat} (J : List α → za2 → Prop) : ∀ (post pre : List α) (m : Nat) (ρ : za2) (S : zae), J pre ρ → Pen m T S → m + c * post.length ≤ LIM →
    (∀ pre1 a post1 m ρ S, pre ++ post = pre1 ++ a :: post1 → J pre1 ρ → Pen m T S → m + c ≤ LIM → ∃ ρ1 ρ2 S2, G (enc a) ρ = some ρ1 ∧ f ρ1 S = .nx ρ2 S2 ∧ J (pre1 ++ [a]) ρ2 ∧ Pen (m + c) T S2) →
    ∃ ρ' S', zfl G f (post.map enc) ρ S = .nx ρ' S' ∧ J (pre ++ post) ρ' ∧ Pen (m + c * post.length) T S'
  | [], pre, m, ρ, S, h0, hp, _, _ => ⟨ρ, S, rfl, by simpa using h0, hp⟩
  | a :: post, pre, m, ρ, S, h0, hp, hb, hs => by
    have hb' : m + c + c * post.length ≤ LIM := by simp only [List.length_cons, Nat.mul_succ] at hb; omega
    obtain ⟨ρ1, ρ2, S2, e1, e2, h1, p1⟩ := hs pre a post m ρ S rfl h0 hp (by omega)
    obtain ⟨ρ', S', e3, h3, p3⟩ := zl8 (enc := enc) (G := G) (f := f) (c := c) J post (pre ++ [a]) (m + c) ρ2 S2 h1 p1 hb' (fun pre1 b post1 m ρ S e h => hs pre1 b post1 m ρ S (by simpa using e) h)
    refine ⟨ρ', S', ?_, by simpa using h3, ?_⟩
    · simp only [List.map_cons, zfl, e1, e2, e3]
    · simp only [List.length_cons, Nat.mul_succ]
      exact p3.mono (by omega)
theorem sset_len : ∀ l : List Int, (sset l).length ≤ l.length
  | [] => Nat.le_refl _
  | n :: ns => by
    have ins : ∀ l : List Int, (insS n l).length ≤ l.length + 1 := by
      intro l
      induction l with
      | nil => simp [insS]
      | cons m r ih => simp only [insS]; split <;> (try split) <;> simp <;> omega
    have := ins (sset ns)
    have := sset_len ns
    simp only [sset, List.length_cons]
    omega
theorem sset_idem (l : List Int) : sset (sset l) = sset l := zik (zf7 _) (zf7 _) fun k => zgz k _
theorem zkd {l : List Int} (h : l.Pairwise (· < ·)) : sset l = l := zik (zf7 _) h fun k => zgz k _
theorem sset_pos {l : List Int} (h : l ≠ []) : 1 ≤ (sset l).length := by
  cases l with
  | nil => exact absurd rfl h
  | cons n ns =>
    have : n ∈ sset (n :: ns) := (zgz n _).mpr (List.mem_cons_self ..)
    exact List.length_pos_of_mem this
theorem zm4 {α : Type} (xs : List α) (n : Nat) : cutL xs none (some (n : Nat)) = xs.take n := by
  simp only [cutL, HT.sIx_none, HT.sIx_nat, List.drop_zero, Nat.sub_zero]
  rw [List.take_eq_take_iff]
  omega
theorem cut_from {α : Type} (xs : List α) (n : Nat) : cutL xs (some (n : Nat)) none = xs.drop n := by
  simp only [cutL, HT.sIx_none, HT.sIx_nat]
  by_cases h : n ≤ xs.length
  · rw [Nat.min_eq_left h, List.take_of_length_le (by simp)]
  · rw [Nat.min_eq_right (by omega), List.take_of_length_le (by simp), List.drop_eq_nil_of_le (Nat.le_refl _), List.drop_eq_nil_of_le (by omega)]
theorem cut_mid {α : Type} (xs : List α) (n m : Nat) (h : n ≤ m) : cutL xs (some (n : Nat)) (some (m : Nat)) = (xs.drop n).take (m - n) := by
  simp only [cutL, HT.sIx_nat]
  by_cases h1 : n ≤ xs.length
  · rw [Nat.min_eq_left h1, List.take_eq_take_iff]
    simp
    omega
  · have e1 : min n xs.length = xs.length := by omega
    rw [e1, List.drop_eq_nil_of_le (Nat.le_refl _), List.drop_eq_nil_of_le (by omega)]
    simp
theorem rng1_1 {n : Nat} (h : n ≤ 1000000) (S : zae) : rng1 [.dat (.int (1 + (n : Nat)))] S = .ok ((List.range (1 + n)).map fun i => .int ((i : Nat) : Int)) S := by
  have e : (1 + (n : Int)) = ((1 + n : Nat) : Int) := by omega
  rw [e]
  exact zjg (zdp (by omega)) S
theorem cut_mid1 {α : Type} (xs : List α) (n : Nat) : cutL xs (some (n : Nat)) (some ((n : Nat) + 1)) = (xs.drop n).take 1 := by
  have := cut_mid xs n (n + 1) (by omega)
  simpa using this
theorem ziv {α : Type} (xs : List α) (n : Nat) : cutL xs (some ((n : Nat) + 1)) none = xs.drop (n + 1) := cut_from xs (n + 1)
theorem zdy (xs : List D) (lo hi : Option Int) (S : zae) : oSl (.dat (.tup xs)) lo hi S = .ok (.dat (.tup (cutL xs lo hi))) S := rfl
theorem zfc (xs : List D) (lo hi : Option Int) (S : zae) : oSl (.dat (.lst xs)) lo hi S = .ok (.dat (.lst (cutL xs lo hi))) S := rfl
theorem zff (ns : List Int) (lo hi : Option Int) (S : zae) : oSl (.scr ns) lo hi S = .ok (.dat (.lst ((cutL ns lo hi).map .int))) S := rfl
theorem znr {n a : Nat} {pre post : List Nat} (h : List.range n = pre ++ a :: post) : a = pre.length ∧ a < n := by
  have h1 : pre.length < n := by
    have := congrArg List.length h
    simp at this
    omega
  have h2 : (List.range n)[pre.length]? = (pre ++ a :: post)[pre.length]? := by rw [h]
  rw [List.getElem?_range h1] at h2
  simp at h2
  omega
theorem mix_set {α : Type} (xs ys : List α) (a : Nat) (d : α) (h1 : a < xs.length) (h2 : a < ys.length) : xs.take a ++ (ys.drop a).take 1 ++ xs.drop (a + 1) = xs.set a (ys.getD a d) := by
  have e : (ys.drop a).take 1 = [ys[a]] := by rw [List.drop_eq_getElem_cons h2]; rfl
  rw [List.set_eq_take_append_cons_drop, if_pos h1, e]
  simp [List.getD_eq_getElem?_getD, List.getElem?_eq_getElem h2]
/-! ## repr -/
mutual
def D.tiny : D → Bool
  | .cas _ => false
  | .dct _ => false
  | .ptr _ => false
  | .int i => decide (i.natAbs < 10 ^ 40)
  | .lst xs => D.tinys xs
  | .tup xs => D.tinys xs
  | _ => true
def D.tinys : List D → Bool
  | [] => true
  | x :: xs => D.tiny x && D.tinys xs
end
theorem tinys_iff : ∀ {xs : List D}, D.tinys xs = true ↔ ∀ x ∈ xs, x.tiny = true
  | [] => by simp [D.tinys]
  | x :: xs => by simp [D.tinys, tinys_iff (xs := xs)]
mutual
theorem tiny_py : ∀ (d : D), d.tiny = true → d.py.showable = true ∧ d.py.intsShort 41 = true
  | .non, _ => by simp [D.py, PyData.showable, PyData.intsShort]
  | .bl _, _ => by simp [D.py, PyData.showable, PyData.intsShort]
  | .cas _, h => by simp [D.tiny] at h
  | .dct _, h => by simp [D.tiny] at h
  | .ptr _, h => by simp [D.tiny] at h
  | .str x, _ => by simp [D.py, PyData.showable, PyData.intsShort]
  | .int i, h => by
    simp only [D.tiny, decide_eq_true_eq] at h
    simp only [D.py, PyData.showable, PyData.intsShort, decide_eq_true_eq]
    refine ⟨Nat.lt_of_lt_of_le (log2_lt (k := 200) (Nat.lt_trans h (by decide)) (by decide)) (by decide), ?_⟩
    have e := int_text_length_le10 (k := 40) (by decide) h
    show (Str.ofString (toString i)).length ≤ 41
    rw [PySem.ofString_length]
    exact e
  | .lst xs, h => by
    have := tinys_py xs (by simpa [D.tiny] using h)
    simpa only [D.py, PyData.showable, PyData.intsShort] using this
  | .tup xs, h => by
    have := tinys_py xs (by simpa [D.tiny] using h)
    simpa only [D.py, PyData.showable, PyData.intsShort] using this
theorem tinys_py : ∀ (ds : List D), D.tinys ds = true → PyData.showableAll (D.pys ds) = true ∧ PyData.intsShortAll 41 (D.pys ds) = true
  | [], _ => by simp [D.pys, PyData.showableAll, PyData.intsShortAll]
  | x :: xs, h => by
    have h' : x.tiny = true ∧ D.tinys xs = true := by simpa [D.tinys] using h
    have a := tiny_py x h'.1
    have b := tinys_py xs h'.2
    simp only [D.pys, PyData.showableAll, PyData.intsShortAll, a.1, a.2, b.1, b.2, Bool.and_self, and_self]
end
theorem zj9 {n : Nat} {d : D} (h1 : d.fit n = true) (hn : n ≤ 60) (h2 : d.tiny = true) (h3 : d.py.bulk ≤ 300000) : zoi d = true := by
  have a := znz n d h1
  have b := tiny_py d h2
  have c := PyData.shown_le_bulk 41 (by decide) d.py (PyData.leavesShort_of_canLay0 41 d.py a.1 b.2)
  have e : d.py.shown.length ≤ sizeLine := zdp (by omega)
  have f : d.py.depth ≤ 60 := by omega
  simp only [zoi, a.1, b.1, decide_eq_true e, decide_eq_true f, Bool.and_self]
theorem zj2 {c : Nat} : ∀ {xs : List D}, (∀ x ∈ xs, x.py.bulk ≤ c) → PyData.bulkAll (D.pys xs) ≤ xs.length * (c + 1)
  | [], _ => by simp [D.pys, PyData.bulkAll]
  | x :: xs, h => by
    have a := h x (List.mem_cons_self ..)
    have b := zj2 (xs := xs) fun y hy => h y (List.mem_cons_of_mem _ hy)
    simp only [D.pys, PyData.bulkAll, List.length_cons, Nat.succ_mul]
    omega
theorem znq {d : D} (h : zoi d = true) : zj1 d = some (.str d.py.shown) := by simp only [zj1, h, if_true]
theorem dNeS_same (x : Str) : dNeS (.str x) (.str x) = some (.bl false) := by simp [dNeS]
theorem zci (o : D → Option D) (S0 : zae) (ds : List D) : o1 o [.obj S0.length] (S0 ++ [some ds]) = res1 (o (.lst ds)) (S0 ++ [some ds]) := by simp only [o1, zcg]
end DL
local macro_rules | `(tactic| simp! only [$xs,*] $[$l:location]?) => `(tactic| simp -implicitDefEqProofs only [DL.a_fn, DL.zd0, DL.zcf, DL.zc9, DL.zcy, DL.zc0, DL.zc8, DL.zba, DL.za0, DL.c_ok, DL.zer, DL.c_bl, DL.zez, DL.ze8, DL.c_or, DL.zcj, DL.zfb, DL.zef, DL.zfg, DL.zcm, DL.a_tg, DL.zc2, DL.zb1, DL.zfi, DL.Res.bind_ok, DL.Res.bind_ex, DL.Res.bindS_ok, DL.Res.bindS_ex, DL.zcz, DL.a_c, DL.a_x2, DL.a_o2, DL.zcq, DL.a_xN, DL.zc3, DL.ze9, DL.a_o1, DL.zee, DL.zek, DL.ze0, DL.zb_, DL.za9, DL.zb2, DL.zbp, DL.zcu, DL.zew, DL.zfa, DL.ze3, DL.ze5, DL.zet, DL.zbx, DL.za6, DL.zax, DL.zav, DL.zar, DL.zaz, DL.zey, DL.a_or, DL.zbq, DL.zb5, DL.zeu, DL.zfj, DL.zeq, DL.zcn, DL.a_if, DL.zeb, DL.zcp, DL.zby, DL.zbc, DL.zaw, DL.za7, DL.zbt, DL.a_it, DL.zau, DL.zay, DL.a_lc, DL.zb7, DL.zb4, DL.zfe, DL.ze6, DL.zf_, DL.zeh, DL.zel, DL.zfh, DL.zem, DL.zes, DL.zen, DL.zck, DL.a_rd, Option.bind_some, DL.zbu, DL.zbr, DL.zbv, DL.zas, List.map_cons, List.map_nil, List.length_cons, List.length_nil, Nat.reduceSub, Nat.reduceAdd, List.replicate_succ, List.replicate_zero, List.cons_append, List.nil_append, List.append_nil, List.getElem?_cons_zero, List.getElem?_cons_succ, List.set_cons_zero, List.set_cons_succ, List.take_length, cond_true, cond_false, Bool.not_true, Bool.not_false, DL.zd7, DL.zej, DL.zev, DL.zei, DL.zc5, DL.zc1, DL.zb0, DL.zbd, DL.zct, DL.zcx, DL.zeo, DL.zea, DL.zbs, DL.zb3, DL.za8, DL.zbb, DL.ze2, DL.zci, DL.zdy, DL.zfc, DL.zff, DL.zcc, DL.zcs, DL.zep, DL.zcw, DL.ze4, DL.zfd, DL.ze7, DL.zc7, DL.zcr, DL.zaq, DL.zat, DL.zch, DL.za4, DL.zal, Option.map_some, DL.zan, DL.zcg, DL.zbk, DL.za5, DL.lit2, DL.lit3, Bool.true_and, Bool.false_and, Bool.and_true, Bool.and_false, Bool.true_or, Bool.false_or, Bool.or_true, Bool.or_false, Bool.not_not, DL.a_sl, DL.zex, DL.zed, DL.zb6, DL.zcv, DL.zec, DL.zc6, DL.zc4, DL.zco, DL.zbw, DL.zbm, $xs,*] $[$l:location]?)
set_option maxHeartbeats 400000
namespace T46
open PySem PySem.Spec PyProof.Rows L2 DL
theorem atI_in {α : Type} {xs : List α} {i : Int} (h0 : 0 ≤ i) (h1 : i < xs.length) : atI xs i = some (xs[i.toNat]'(by omega)) := by
  unfold atI ixN
  rw [if_pos h0, if_pos h1]
  simp only [Option.bind_some]
  rw [List.getElem?_eq_getElem]
theorem at2_0 {α : Type} (a b : α) : atI [a, b] 0 = some a := rfl
theorem at2_1 {α : Type} (a b : α) : atI [a, b] 1 = some b := rfl
theorem at3_0 {α : Type} (a b c : α) : atI [a, b, c] 0 = some a := rfl
theorem zd4 {α : Type} {xs : List α} {n : Nat} {d : α} (h : n < xs.length) : xs.getD n d ∈ xs := by
  rw [List.getD_eq_getElem?_getD, List.getElem?_eq_getElem h]
  exact List.getElem_mem _
theorem atI_getD {α : Type} {xs : List α} {i : Int} (d : α) (h0 : 0 ≤ i) (h1 : i < xs.length) : atI xs i = some (xs.getD i.toNat d) := by
  rw [atI_in h0 h1, List.getD_eq_getElem?_getD, List.getElem?_eq_getElem (by omega)]
  rfl
theorem zipD_map (xs ys : List D) : zipD xs ys = (xs.zip ys).map fun p => zoe p.1 p.2 := by simp [zipD, List.zip, List.map_zipWith]
theorem zgf {α β : Type} {m : Nat} {f : α → List β} : ∀ {l : List α}, (∀ x ∈ l, (f x).length ≤ m) → (l.flatMap f).length ≤ l.length * m
  | [], _ => by simp
  | x :: r, h => by
    have ih := zgf (l := r) fun y hy => h y (List.mem_cons_of_mem _ hy)
    have := h x (List.mem_cons_self ..)
    simp only [List.flatMap_cons, List.length_append, List.length_cons, Nat.succ_mul]
    omega
theorem zp9 {α : Type} (e : α → D) (xs : List α) : zng (xs.map e) = (xs.zipIdx.map fun p => (p.2, p.1)).map fun p => zoe (.int ((p.1 : Nat) : Int)) (e p.2) := by
  unfold zng
  rw [List.map_map]
  apply List.ext_getElem
  · simp
  · intro i h1 h2
    simp
theorem eqs_nil {xs : List D} {m : Nat} (h : D.fits m xs = true) : dEq (.lst xs) (.lst []) = some (.bl xs.isEmpty) := by
  have p := fits_py m xs h
  have q : zpo (.lst xs) (.lst []) = true := by
    simp [zpo, D.py, D.pys, PyData.canLay0, PyData.canLayAll0, PyData.depth, PyData.depthAll, p.1]
  simp only [dEq, q, if_true]
  cases xs <;> rfl
theorem ints_of {zs : List D} (h : ∀ z ∈ zs, ∃ v : Int, z = .int v) : ∃ r : List Int, zs = r.map .int := by
  induction zs with
  | nil => exact ⟨[], rfl⟩
  | cons z zs ih =>
    obtain ⟨v, rfl⟩ := h z (List.mem_cons_self ..)
    obtain ⟨r, rfl⟩ := ih fun y hy => h y (List.mem_cons_of_mem _ hy)
    exact ⟨v :: r, rfl⟩
theorem a_retN (l : LFn) (ρ : za2) (S : zae) : sRetN l ρ S = (l ρ S).bindS ρ fun ds S1 => .rt (.obj S1.length) (S1 ++ [some ds]) := rfl
theorem a_list (f : XFn) (ρ : za2) (S : zae) : lList f ρ S = (f ρ S).bind fun x S1 => match rd S1 x with
  | some (.lst xs) => .ok xs S1
  | some (.tup xs) => .ok xs S1
  | _ => .bad := rfl
theorem range_split (n i : Nat) (h : i < n) : List.range n = List.range (i + 1) ++ (List.range (n - (i + 1))).map fun k => i + 1 + k := by
  apply List.ext_getElem
  · simp; omega
  · intro k h1 h2
    simp only [List.getElem_range, List.getElem_append, List.length_range, List.getElem_map]
    split <;> omega
theorem zja {α β : Type} (p : α → Bool) (f : α → List β) : ∀ l : List α, (l.filter p).flatMap f = l.flatMap fun x => if p x = true then f x else []
  | [] => rfl
  | x :: r => by
    simp only [List.filter_cons, List.flatMap_cons, ← zja p f r]
    cases p x <;> simp
theorem zj6 {α β : Type} {f g : α → List β} : ∀ {l : List α}, (∀ x ∈ l, f x = g x) → l.flatMap f = l.flatMap g
  | [], _ => rfl
  | x :: r, h => by rw [List.flatMap_cons, List.flatMap_cons, h x (List.mem_cons_self ..), zj6 fun y hy => h y (List.mem_cons_of_mem _ hy)]
theorem flat_nil {α β : Type} {f : α → List β} : ∀ {l : List α}, (∀ x ∈ l, f x = []) → l.flatMap f = []
  | [], _ => rfl
  | x :: r, h => by rw [List.flatMap_cons, h x (List.mem_cons_self ..), flat_nil fun y hy => h y (List.mem_cons_of_mem _ hy)]; rfl
theorem zjr {α β : Type} (p : α → Bool) (f : α → β) : ∀ l : List α, (l.filter p).map f = l.flatMap fun x => if p x = true then [f x] else []
  | [] => rfl
  | x :: r => by
    simp only [List.filter_cons, List.flatMap_cons, ← zjr p f r]
    cases p x <;> simp
/-! ## try, slices, equality, loops that end early -/
theorem dEq_p {n m : Nat} {a b : D} {p : Bool} (ha : a.fit n = true) (hb : b.fit m = true) (na : a.noB = true) (nb : b.noB = true) (h : p = true ↔ a = b) (hn : n ≤ 64 := by decide) : dEq a b = some (.bl p) := by
  rw [zqv ha hb hn]
  have e : dEqB a b = p := by
    have := dEqB_iff na nb
    cases hp : dEqB a b <;> cases q : p <;> simp_all
  rw [e]
theorem dNe_p {n m : Nat} {a b : D} {p : Bool} (ha : a.fit n = true) (hb : b.fit m = true) (na : a.noB = true) (nb : b.noB = true) (h : p = true ↔ a = b) (hn : n ≤ 64 := by decide) : dNe a b = some (.bl (!p)) := by
  rw [dNe_fit ha hb hn]
  have e : dEqB a b = p := by
    have := dEqB_iff na nb
    cases hp : dEqB a b <;> cases q : p <;> simp_all
  rw [e]
theorem pen_snoc {n : Nat} {T S : zae} {ds : Option (List D)} : Pen n (T ++ [ds]) S ↔ ∃ S0, S = S0 ++ [ds] ∧ Pen n T S0 := by
  constructor
  · rintro ⟨c, a, u, rfl, h⟩
    exact ⟨some (penL c a u) :: T, rfl, c, a, u, rfl, h⟩
  · rintro ⟨S0, rfl, c, a, u, rfl, h⟩
    exact ⟨c, a, u, rfl, h⟩
theorem atI_0 (x : D) (l : List D) : atI (x :: l) 0 = some x := by
  rw [atI_in (by decide) (by simp)]
  rfl
theorem zlk (d : D) (S : zae) : zg6 [.dat d] S = .ok (.dat (.bl (d.isI && !d.isB))) S := by
  unfold zg6 zm0
  simp! only []
def zlm (d : D) (a b : Int) : Bool := match d with | .int i => decide (a ≤ i) && decide (i ≤ b) | _ => false
theorem zhl (d : D) (a b : Int) (S : zae) : zd3 [.dat d, .dat (.int a), .dat (.int b)] S = .ok (.dat (.bl (zlm d a b))) S := by
  unfold zd3 zmr
  simp! only [zlk]
  cases d <;> simp -implicitDefEqProofs only [D.isI, D.isB, zlm, a_fn, zd0, zcf, zc9, zcy, zc0, zc8, zba, za0, c_ok, zer, c_bl, zez, ze8, c_or, zcj, zfb, zef, zfg, zcm, a_tg, zc2, zb1, zfi, Res.bind_ok, Res.bind_ex, Res.bindS_ok, Res.bindS_ex, zcz, a_c, a_x2, a_o2, zcq, a_xN, zc3, ze9, a_o1, zee, zek, ze0, zb_, za9, zb2, zbp, zcu, zew, zfa, ze3, ze5, zet, zbx, za6, zax, zav, zar, zaz, zey, a_or, zbq, zb5, zeu, zfj, zeq, zcn, a_if, zeb, zcp, zby, zbc, zaw, za7, zbt, a_it, zau, zay, a_lc, zb7, zb4, zfe, ze6, zf_, zeh, zel, zfh, zem, zes, zen, zck, a_rd, Option.bind_some, zbu, zbr, zbv, zas, List.map_cons, List.map_nil, List.length_cons, List.length_nil, Nat.reduceSub, Nat.reduceAdd, List.replicate_succ, List.replicate_zero, List.cons_append, List.nil_append, List.append_nil, List.getElem?_cons_zero, List.getElem?_cons_succ, List.set_cons_zero, List.set_cons_succ, List.take_length, cond_true, cond_false, Bool.not_true, Bool.not_false, zd7, zej, zev, zei, zc5, zc1, zb0, zbd, zct, zcx, zeo, zea, zbs, zb3, za8, zbb, ze2, zci, zdy, zfc, zff, zcc, zcs, zep, zcw, ze4, zfd, ze7, zc7, zcr, zaq, zat, zch, za4, zal, Option.map_some, zan, zcg, zbk, za5, lit2, lit3, Bool.true_and, Bool.false_and, Bool.and_true, Bool.and_false, Bool.true_or, Bool.false_or, Bool.or_true, Bool.or_false, Bool.not_not, a_sl, zex, zed, zb6, zcv, zec, zc6, zc4, zco, zbw, zbm]
def zl4 : D → Bool | .int i => decide (i ≥ 0) | _ => false
theorem zol (d : D) (S : zae) : zis [.dat d] S = .ok (.dat (.bl (zl4 d))) S := by
  unfold zis zp0
  simp! only [zlk]
  cases d <;> simp -implicitDefEqProofs only [D.isI, D.isB, zl4, a_fn, zd0, zcf, zc9, zcy, zc0, zc8, zba, za0, c_ok, zer, c_bl, zez, ze8, c_or, zcj, zfb, zef, zfg, zcm, a_tg, zc2, zb1, zfi, Res.bind_ok, Res.bind_ex, Res.bindS_ok, Res.bindS_ex, zcz, a_c, a_x2, a_o2, zcq, a_xN, zc3, ze9, a_o1, zee, zek, ze0, zb_, za9, zb2, zbp, zcu, zew, zfa, ze3, ze5, zet, zbx, za6, zax, zav, zar, zaz, zey, a_or, zbq, zb5, zeu, zfj, zeq, zcn, a_if, zeb, zcp, zby, zbc, zaw, za7, zbt, a_it, zau, zay, a_lc, zb7, zb4, zfe, ze6, zf_, zeh, zel, zfh, zem, zes, zen, zck, a_rd, Option.bind_some, zbu, zbr, zbv, zas, List.map_cons, List.map_nil, List.length_cons, List.length_nil, Nat.reduceSub, Nat.reduceAdd, List.replicate_succ, List.replicate_zero, List.cons_append, List.nil_append, List.append_nil, List.getElem?_cons_zero, List.getElem?_cons_succ, List.set_cons_zero, List.set_cons_succ, List.take_length, cond_true, cond_false, Bool.not_true, Bool.not_false, zd7, zej, zev, zei, zc5, zc1, zb0, zbd, zct, zcx, zeo, zea, zbs, zb3, za8, zbb, ze2, zci, zdy, zfc, zff, zcc, zcs, zep, zcw, ze4, zfd, ze7, zc7, zcr, zaq, zat, zch, za4, zal, Option.map_some, zan, zcg, zbk, za5, lit2, lit3, Bool.true_and, Bool.false_and, Bool.and_true, Bool.and_false, Bool.true_or, Bool.false_or, Bool.or_true, Bool.or_false, Bool.not_not, a_sl, zex, zed, zb6, zcv, zec, zc6, zc4, zco, zbw, zbm]
theorem vals_ints : ∀ {xs : List D}, xs.all zl4 = true → ∃ a : List Int, xs = a.map .int ∧ ∀ i ∈ a, 0 ≤ i
  | [], _ => ⟨[], rfl, by simp⟩
  | x :: xs, h => by
    simp only [List.all_cons, Bool.and_eq_true] at h
    obtain ⟨a, e, p⟩ := vals_ints h.2
    have h1 := h.1
    cases x <;> simp only [zl4, decide_eq_true_eq, Bool.false_eq_true] at h1
    rename_i i
    exact ⟨i :: a, by rw [e]; rfl, by simp only [List.mem_cons]; exact fun j q => q.elim (fun e => e ▸ h1) (p j)⟩
def colB (xs : List D) : Bool := match zh_ xs with | some ns => decide (ns = sset ns) | none => false
def zim : D → Bool
  | .non => true
  | .tup xs => (decide (1 ≤ (xs.length : Int)) && decide ((xs.length : Int) ≤ 3)) && (xs.all zl4 && colB xs)
  | _ => false
theorem is_column_ok (d : D) (S : zae) : ziz [.dat d] S = .ok (.dat (.bl (zim d))) S := by
  unfold ziz zo3
  simp! only []
  cases d 
  case tup xs =>
    simp -implicitDefEqProofs only [D.isN, D.isT, zim, a_fn, zd0, zcf, zc9, zcy, zc0, zc8, zba, za0, c_ok, zer, c_bl, zez, ze8, c_or, zcj, zfb, zef, zfg, zcm, a_tg, zc2, zb1, zfi, Res.bind_ok, Res.bind_ex, Res.bindS_ok, Res.bindS_ex, zcz, a_c, a_x2, a_o2, zcq, a_xN, zc3, ze9, a_o1, zee, zek, ze0, zb_, za9, zb2, zbp, zcu, zew, zfa, ze3, ze5, zet, zbx, za6, zax, zav, zar, zaz, zey, a_or, zbq, zb5, zeu, zfj, zeq, zcn, a_if, zeb, zcp, zby, zbc, zaw, za7, zbt, a_it, zau, zay, a_lc, zb7, zb4, zfe, ze6, zf_, zeh, zel, zfh, zem, zes, zen, zck, a_rd, Option.bind_some, zbu, zbr, zbv, zas, List.map_cons, List.map_nil, List.length_cons, List.length_nil, Nat.reduceSub, Nat.reduceAdd, List.replicate_succ, List.replicate_zero, List.cons_append, List.nil_append, List.append_nil, List.getElem?_cons_zero, List.getElem?_cons_succ, List.set_cons_zero, List.set_cons_succ, List.take_length, cond_true, cond_false, Bool.not_true, Bool.not_false, zd7, zej, zev, zei, zc5, zc1, zb0, zbd, zct, zcx, zeo, zea, zbs, zb3, za8, zbb, ze2, zci, zdy, zfc, zff, zcc, zcs, zep, zcw, ze4, zfd, ze7, zc7, zcr, zaq, zat, zch, za4, zal, Option.map_some, zan, zcg, zbk, za5, lit2, lit3, Bool.true_and, Bool.false_and, Bool.and_true, Bool.and_false, Bool.true_or, Bool.false_or, Bool.or_true, Bool.or_false, Bool.not_not, a_sl, zex, zed, zb6, zcv, zec, zc6, zc4, zco, zbw, zbm]
    cases h : (decide (1 ≤ (xs.length : Int)) && decide ((xs.length : Int) ≤ 3))
    · simp! only []
    · have hl : szB xs.length = true := by
        rw [← szB_iff]
        simp only [Bool.and_eq_true, decide_eq_true_eq] at h
        unfold sizeLine
        omega
      rw [hl]
      simp! only []
      rw [zgm (q := fun d => .bl (zl4 d)) xs ?h]
      case h => intro d _; exact ⟨_, rfl, rfl, by simp! only [zol]⟩
      simp! only [zgj]
      cases hv : xs.all zl4
      · simp! only []
      · obtain ⟨a, rfl, ha⟩ := vals_ints hv
        simp! only [zcc]
        rw [zp5 a (by simp only [List.length_map, Bool.and_eq_true, decide_eq_true_eq] at h; omega)]
        simp! only [zqm, colB, ze_]
  all_goals simp -implicitDefEqProofs only [D.isN, D.isT, zim, a_fn, zd0, zcf, zc9, zcy, zc0, zc8, zba, za0, c_ok, zer, c_bl, zez, ze8, c_or, zcj, zfb, zef, zfg, zcm, a_tg, zc2, zb1, zfi, Res.bind_ok, Res.bind_ex, Res.bindS_ok, Res.bindS_ex, zcz, a_c, a_x2, a_o2, zcq, a_xN, zc3, ze9, a_o1, zee, zek, ze0, zb_, za9, zb2, zbp, zcu, zew, zfa, ze3, ze5, zet, zbx, za6, zax, zav, zar, zaz, zey, a_or, zbq, zb5, zeu, zfj, zeq, zcn, a_if, zeb, zcp, zby, zbc, zaw, za7, zbt, a_it, zau, zay, a_lc, zb7, zb4, zfe, ze6, zf_, zeh, zel, zfh, zem, zes, zen, zck, a_rd, Option.bind_some, zbu, zbr, zbv, zas, List.map_cons, List.map_nil, List.length_cons, List.length_nil, Nat.reduceSub, Nat.reduceAdd, List.replicate_succ, List.replicate_zero, List.cons_append, List.nil_append, List.append_nil, List.getElem?_cons_zero, List.getElem?_cons_succ, List.set_cons_zero, List.set_cons_succ, List.take_length, cond_true, cond_false, Bool.not_true, Bool.not_false, zd7, zej, zev, zei, zc5, zc1, zb0, zbd, zct, zcx, zeo, zea, zbs, zb3, za8, zbb, ze2, zci, zdy, zfc, zff, zcc, zcs, zep, zcw, ze4, zfd, ze7, zc7, zcr, zaq, zat, zch, za4, zal, Option.map_some, zan, zcg, zbk, za5, lit2, lit3, Bool.true_and, Bool.false_and, Bool.and_true, Bool.and_false, Bool.true_or, Bool.false_or, Bool.or_true, Bool.or_false, Bool.not_not, a_sl, zex, zed, zb6, zcv, zec, zc6, zc4, zco, zbw, zbm]
theorem zon {c : D} (h : zim c = true) : c = .non ∨ ∃ ns : List Int, c = .tup (ns.map .int) ∧ 1 ≤ ns.length ∧ ns.length ≤ 3 ∧ (∀ i ∈ ns, 0 ≤ i) ∧ ns = sset ns := by
  cases c <;> simp only [zim, Bool.false_eq_true] at h
  · exact .inl rfl
  · simp only [Bool.and_eq_true, decide_eq_true_eq] at h
    obtain ⟨⟨h1, h2⟩, h3, h4⟩ := h
    obtain ⟨a, rfl, ha⟩ := vals_ints h3
    simp only [List.length_map] at h1 h2
    simp only [colB, ze_, decide_eq_true_eq] at h4
    exact .inr ⟨a, rfl, by omega, by omega, ha, h4⟩
def inC (d : D) : D → Bool | .tup xs => dInB d xs | _ => false
def zfz (c d : D) : Bool := zl4 d && (c.isN || inC d c)
theorem zig (c d : D) (hc : zim c = true) (S : zae) : zfu [.dat c, .dat d] S = .ok (.dat (.bl (zfz c d))) S := by
  unfold zfu zln
  simp! only [zol]
  cases hv : zl4 d
  · simp -implicitDefEqProofs only [zfz, hv, a_fn, zd0, zcf, zc9, zcy, zc0, zc8, zba, za0, c_ok, zer, c_bl, zez, ze8, c_or, zcj, zfb, zef, zfg, zcm, a_tg, zc2, zb1, zfi, Res.bind_ok, Res.bind_ex, Res.bindS_ok, Res.bindS_ex, zcz, a_c, a_x2, a_o2, zcq, a_xN, zc3, ze9, a_o1, zee, zek, ze0, zb_, za9, zb2, zbp, zcu, zew, zfa, ze3, ze5, zet, zbx, za6, zax, zav, zar, zaz, zey, a_or, zbq, zb5, zeu, zfj, zeq, zcn, a_if, zeb, zcp, zby, zbc, zaw, za7, zbt, a_it, zau, zay, a_lc, zb7, zb4, zfe, ze6, zf_, zeh, zel, zfh, zem, zes, zen, zck, a_rd, Option.bind_some, zbu, zbr, zbv, zas, List.map_cons, List.map_nil, List.length_cons, List.length_nil, Nat.reduceSub, Nat.reduceAdd, List.replicate_succ, List.replicate_zero, List.cons_append, List.nil_append, List.append_nil, List.getElem?_cons_zero, List.getElem?_cons_succ, List.set_cons_zero, List.set_cons_succ, List.take_length, cond_true, cond_false, Bool.not_true, Bool.not_false, zd7, zej, zev, zei, zc5, zc1, zb0, zbd, zct, zcx, zeo, zea, zbs, zb3, za8, zbb, ze2, zci, zdy, zfc, zff, zcc, zcs, zep, zcw, ze4, zfd, ze7, zc7, zcr, zaq, zat, zch, za4, zal, Option.map_some, zan, zcg, zbk, za5, lit2, lit3, Bool.true_and, Bool.false_and, Bool.and_true, Bool.and_false, Bool.true_or, Bool.false_or, Bool.or_true, Bool.or_false, Bool.not_not, a_sl, zex, zed, zb6, zcv, zec, zc6, zc4, zco, zbw, zbm]
  · rcases zon hc with rfl | ⟨ns, rfl, _⟩
    · simp -implicitDefEqProofs only [zfz, hv, a_fn, zd0, zcf, zc9, zcy, zc0, zc8, zba, za0, c_ok, zer, c_bl, zez, ze8, c_or, zcj, zfb, zef, zfg, zcm, a_tg, zc2, zb1, zfi, Res.bind_ok, Res.bind_ex, Res.bindS_ok, Res.bindS_ex, zcz, a_c, a_x2, a_o2, zcq, a_xN, zc3, ze9, a_o1, zee, zek, ze0, zb_, za9, zb2, zbp, zcu, zew, zfa, ze3, ze5, zet, zbx, za6, zax, zav, zar, zaz, zey, a_or, zbq, zb5, zeu, zfj, zeq, zcn, a_if, zeb, zcp, zby, zbc, zaw, za7, zbt, a_it, zau, zay, a_lc, zb7, zb4, zfe, ze6, zf_, zeh, zel, zfh, zem, zes, zen, zck, a_rd, Option.bind_some, zbu, zbr, zbv, zas, List.map_cons, List.map_nil, List.length_cons, List.length_nil, Nat.reduceSub, Nat.reduceAdd, List.replicate_succ, List.replicate_zero, List.cons_append, List.nil_append, List.append_nil, List.getElem?_cons_zero, List.getElem?_cons_succ, List.set_cons_zero, List.set_cons_succ, List.take_length, cond_true, cond_false, Bool.not_true, Bool.not_false, zd7, zej, zev, zei, zc5, zc1, zb0, zbd, zct, zcx, zeo, zea, zbs, zb3, za8, zbb, ze2, zci, zdy, zfc, zff, zcc, zcs, zep, zcw, ze4, zfd, ze7, zc7, zcr, zaq, zat, zch, za4, zal, Option.map_some, zan, zcg, zbk, za5, lit2, lit3, Bool.true_and, Bool.false_and, Bool.and_true, Bool.and_false, Bool.true_or, Bool.false_or, Bool.or_true, Bool.or_false, Bool.not_not, a_sl, zex, zed, zb6, zcv, zec, zc6, zc4, zco, zbw, zbm, D.isN]
    · have : dIn d (.tup (ns.map .int)) = some (.bl (dInB d (ns.map .int))) := dIn_t (n := 1) (m := 0) (by cases d <;> first | rfl | cases hv) (zgn 0 ns)
      simp -implicitDefEqProofs only [zfz, hv, a_fn, zd0, zcf, zc9, zcy, zc0, zc8, zba, za0, c_ok, zer, c_bl, zez, ze8, c_or, zcj, zfb, zef, zfg, zcm, a_tg, zc2, zb1, zfi, Res.bind_ok, Res.bind_ex, Res.bindS_ok, Res.bindS_ex, zcz, a_c, a_x2, a_o2, zcq, a_xN, zc3, ze9, a_o1, zee, zek, ze0, zb_, za9, zb2, zbp, zcu, zew, zfa, ze3, ze5, zet, zbx, za6, zax, zav, zar, zaz, zey, a_or, zbq, zb5, zeu, zfj, zeq, zcn, a_if, zeb, zcp, zby, zbc, zaw, za7, zbt, a_it, zau, zay, a_lc, zb7, zb4, zfe, ze6, zf_, zeh, zel, zfh, zem, zes, zen, zck, a_rd, Option.bind_some, zbu, zbr, zbv, zas, List.map_cons, List.map_nil, List.length_cons, List.length_nil, Nat.reduceSub, Nat.reduceAdd, List.replicate_succ, List.replicate_zero, List.cons_append, List.nil_append, List.append_nil, List.getElem?_cons_zero, List.getElem?_cons_succ, List.set_cons_zero, List.set_cons_succ, List.take_length, cond_true, cond_false, Bool.not_true, Bool.not_false, zd7, zej, zev, zei, zc5, zc1, zb0, zbd, zct, zcx, zeo, zea, zbs, zb3, za8, zbb, ze2, zci, zdy, zfc, zff, zcc, zcs, zep, zcw, ze4, zfd, ze7, zc7, zcr, zaq, zat, zch, za4, zal, Option.map_some, zan, zcg, zbk, za5, lit2, lit3, Bool.true_and, Bool.false_and, Bool.and_true, Bool.and_false, Bool.true_or, Bool.false_or, Bool.or_true, Bool.or_false, Bool.not_not, a_sl, zex, zed, zb6, zcv, zec, zc6, zc4, zco, zbw, zbm, D.isN, this, inC]
def zjc : D → Bool
  | .tup xs => (decide (1 ≤ (xs.length : Int)) && decide ((xs.length : Int) ≤ 4)) && (xs.all zim && decide (((xs.filter fun c => !c.isN).length : Int) ≤ 2))
  | _ => false
theorem zrb (d : D) (S : zae) : zib [.dat d] S = .ok (.dat (.bl (zjc d))) S := by
  unfold zib zmo
  simp! only []
  cases d
  case tup xs =>
    simp -implicitDefEqProofs only [D.isT, zjc, a_fn, zd0, zcf, zc9, zcy, zc0, zc8, zba, za0, c_ok, zer, c_bl, zez, ze8, c_or, zcj, zfb, zef, zfg, zcm, a_tg, zc2, zb1, zfi, Res.bind_ok, Res.bind_ex, Res.bindS_ok, Res.bindS_ex, zcz, a_c, a_x2, a_o2, zcq, a_xN, zc3, ze9, a_o1, zee, zek, ze0, zb_, za9, zb2, zbp, zcu, zew, zfa, ze3, ze5, zet, zbx, za6, zax, zav, zar, zaz, zey, a_or, zbq, zb5, zeu, zfj, zeq, zcn, a_if, zeb, zcp, zby, zbc, zaw, za7, zbt, a_it, zau, zay, a_lc, zb7, zb4, zfe, ze6, zf_, zeh, zel, zfh, zem, zes, zen, zck, a_rd, Option.bind_some, zbu, zbr, zbv, zas, List.map_cons, List.map_nil, List.length_cons, List.length_nil, Nat.reduceSub, Nat.reduceAdd, List.replicate_succ, List.replicate_zero, List.cons_append, List.nil_append, List.append_nil, List.getElem?_cons_zero, List.getElem?_cons_succ, List.set_cons_zero, List.set_cons_succ, List.take_length, cond_true, cond_false, Bool.not_true, Bool.not_false, zd7, zej, zev, zei, zc5, zc1, zb0, zbd, zct, zcx, zeo, zea, zbs, zb3, za8, zbb, ze2, zci, zdy, zfc, zff, zcc, zcs, zep, zcw, ze4, zfd, ze7, zc7, zcr, zaq, zat, zch, za4, zal, Option.map_some, zan, zcg, zbk, za5, lit2, lit3, Bool.true_and, Bool.false_and, Bool.and_true, Bool.and_false, Bool.true_or, Bool.false_or, Bool.or_true, Bool.or_false, Bool.not_not, a_sl, zex, zed, zb6, zcv, zec, zc6, zc4, zco, zbw, zbm]
    cases h : (decide (1 ≤ (xs.length : Int)) && decide ((xs.length : Int) ≤ 4))
    · simp! only []
    · have hl : szB xs.length = true := by
        rw [← szB_iff]
        simp only [Bool.and_eq_true, decide_eq_true_eq] at h
        unfold sizeLine
        omega
      rw [hl]
      simp! only []
      rw [zgm (q := fun d => .bl (zim d)) xs ?h]
      case h => intro d _; exact ⟨_, rfl, rfl, by simp! only [is_column_ok]⟩
      simp! only [zgj]
      rw [zmu (p := fun c => !c.isN) (q := id) xs ?h]
      case h => intro d _; exact ⟨_, rfl, by simp! only [], fun _ => by simp! only [id]⟩
      simp! only [List.map_id]
      cases hv : xs.all zim <;> simp! only [hl]
  all_goals simp -implicitDefEqProofs only [D.isT, zjc, a_fn, zd0, zcf, zc9, zcy, zc0, zc8, zba, za0, c_ok, zer, c_bl, zez, ze8, c_or, zcj, zfb, zef, zfg, zcm, a_tg, zc2, zb1, zfi, Res.bind_ok, Res.bind_ex, Res.bindS_ok, Res.bindS_ex, zcz, a_c, a_x2, a_o2, zcq, a_xN, zc3, ze9, a_o1, zee, zek, ze0, zb_, za9, zb2, zbp, zcu, zew, zfa, ze3, ze5, zet, zbx, za6, zax, zav, zar, zaz, zey, a_or, zbq, zb5, zeu, zfj, zeq, zcn, a_if, zeb, zcp, zby, zbc, zaw, za7, zbt, a_it, zau, zay, a_lc, zb7, zb4, zfe, ze6, zf_, zeh, zel, zfh, zem, zes, zen, zck, a_rd, Option.bind_some, zbu, zbr, zbv, zas, List.map_cons, List.map_nil, List.length_cons, List.length_nil, Nat.reduceSub, Nat.reduceAdd, List.replicate_succ, List.replicate_zero, List.cons_append, List.nil_append, List.append_nil, List.getElem?_cons_zero, List.getElem?_cons_succ, List.set_cons_zero, List.set_cons_succ, List.take_length, cond_true, cond_false, Bool.not_true, Bool.not_false, zd7, zej, zev, zei, zc5, zc1, zb0, zbd, zct, zcx, zeo, zea, zbs, zb3, za8, zbb, ze2, zci, zdy, zfc, zff, zcc, zcs, zep, zcw, ze4, zfd, ze7, zc7, zcr, zaq, zat, zch, za4, zal, Option.map_some, zan, zcg, zbk, za5, lit2, lit3, Bool.true_and, Bool.false_and, Bool.and_true, Bool.and_false, Bool.true_or, Bool.false_or, Bool.or_true, Bool.or_false, Bool.not_not, a_sl, zex, zed, zb6, zcv, zec, zc6, zc4, zco, zbw, zbm]
theorem zjz {d : D} (h : zjc d = true) : ∃ cs : List D, d = .tup cs ∧ 1 ≤ cs.length ∧ cs.length ≤ 4 ∧ ∀ c ∈ cs, zim c = true := by
  cases d <;> simp only [zjc, Bool.false_eq_true] at h
  rename_i xs
  simp only [Bool.and_eq_true, decide_eq_true_eq, List.all_eq_true] at h
  exact ⟨xs, rfl, by omega, by omega, h.2.1⟩
theorem zll (d : D) (S : zae) : zfs [.dat d] S = bif zjc d then .ok (.dat .non) S else .ex "InvalidColumns" S := by
  unfold zfs zir
  simp! only [zrb]
  cases zjc d <;> simp! only []
theorem zow {d : D} {a b : Int} (h : zlm d a b = true) : ∃ i, d = .int i ∧ a ≤ i ∧ i ≤ b := by
  cases d <;> simp only [zlm, Bool.false_eq_true, Bool.and_eq_true, decide_eq_true_eq] at h
  exact ⟨_, rfl, h.1, h.2⟩
def colAt (cs : List D) : D → D | .int i => cs.getD i.toNat .non | _ => .non
def zlz (cs : List D) : D → Bool
  | .tup xs => ((xs.length : Int) == cs.length) && (cs.zip xs).all fun p => zfz p.1 p.2
  | _ => false
theorem is_row_of_ok (cs : List D) (d : D) (hc : ∀ c ∈ cs, zim c = true) (hl : cs.length ≤ 4) (S : zae) : zi5 [.dat (.tup cs), .dat d] S = .ok (.dat (.bl (zlz cs d))) S := by
  unfold zi5 zok
  simp! only []
  cases d
  case tup xs =>
    simp -implicitDefEqProofs only [D.isT, zlz, a_fn, zd0, zcf, zc9, zcy, zc0, zc8, zba, za0, c_ok, zer, c_bl, zez, ze8, c_or, zcj, zfb, zef, zfg, zcm, a_tg, zc2, zb1, zfi, Res.bind_ok, Res.bind_ex, Res.bindS_ok, Res.bindS_ex, zcz, a_c, a_x2, a_o2, zcq, a_xN, zc3, ze9, a_o1, zee, zek, ze0, zb_, za9, zb2, zbp, zcu, zew, zfa, ze3, ze5, zet, zbx, za6, zax, zav, zar, zaz, zey, a_or, zbq, zb5, zeu, zfj, zeq, zcn, a_if, zeb, zcp, zby, zbc, zaw, za7, zbt, a_it, zau, zay, a_lc, zb7, zb4, zfe, ze6, zf_, zeh, zel, zfh, zem, zes, zen, zck, a_rd, Option.bind_some, zbu, zbr, zbv, zas, List.map_cons, List.map_nil, List.length_cons, List.length_nil, Nat.reduceSub, Nat.reduceAdd, List.replicate_succ, List.replicate_zero, List.cons_append, List.nil_append, List.append_nil, List.getElem?_cons_zero, List.getElem?_cons_succ, List.set_cons_zero, List.set_cons_succ, List.take_length, cond_true, cond_false, Bool.not_true, Bool.not_false, zd7, zej, zev, zei, zc5, zc1, zb0, zbd, zct, zcx, zeo, zea, zbs, zb3, za8, zbb, ze2, zci, zdy, zfc, zff, zcc, zcs, zep, zcw, ze4, zfd, ze7, zc7, zcr, zaq, zat, zch, za4, zal, Option.map_some, zan, zcg, zbk, za5, lit2, lit3, Bool.true_and, Bool.false_and, Bool.and_true, Bool.and_false, Bool.true_or, Bool.false_or, Bool.or_true, Bool.or_false, Bool.not_not, a_sl, zex, zed, zb6, zcv, zec, zc6, zc4, zco, zbw, zbm, zk4]
    have hz : szB (zipD cs xs).length = true := by
      rw [← szB_iff, zipD_map, List.length_map, List.length_zip]
      unfold sizeLine
      omega
    cases h : ((xs.length : Int) == cs.length)
    · simp! only []
    · rw [hz]
      simp! only []
      rw [zipD_map, zfy (q := fun p => .bl (zfz p.1 p.2)) (cs.zip xs) ?h]
      case h => intro p hp; exact ⟨_, rfl, rfl, by simp! only [zig _ _ (hc _ (List.of_mem_zip hp).1)]⟩
      simp! only [zgj]
  all_goals simp -implicitDefEqProofs only [D.isT, zlz, a_fn, zd0, zcf, zc9, zcy, zc0, zc8, zba, za0, c_ok, zer, c_bl, zez, ze8, c_or, zcj, zfb, zef, zfg, zcm, a_tg, zc2, zb1, zfi, Res.bind_ok, Res.bind_ex, Res.bindS_ok, Res.bindS_ex, zcz, a_c, a_x2, a_o2, zcq, a_xN, zc3, ze9, a_o1, zee, zek, ze0, zb_, za9, zb2, zbp, zcu, zew, zfa, ze3, ze5, zet, zbx, za6, zax, zav, zar, zaz, zey, a_or, zbq, zb5, zeu, zfj, zeq, zcn, a_if, zeb, zcp, zby, zbc, zaw, za7, zbt, a_it, zau, zay, a_lc, zb7, zb4, zfe, ze6, zf_, zeh, zel, zfh, zem, zes, zen, zck, a_rd, Option.bind_some, zbu, zbr, zbv, zas, List.map_cons, List.map_nil, List.length_cons, List.length_nil, Nat.reduceSub, Nat.reduceAdd, List.replicate_succ, List.replicate_zero, List.cons_append, List.nil_append, List.append_nil, List.getElem?_cons_zero, List.getElem?_cons_succ, List.set_cons_zero, List.set_cons_succ, List.take_length, cond_true, cond_false, Bool.not_true, Bool.not_false, zd7, zej, zev, zei, zc5, zc1, zb0, zbd, zct, zcx, zeo, zea, zbs, zb3, za8, zbb, ze2, zci, zdy, zfc, zff, zcc, zcs, zep, zcw, ze4, zfd, ze7, zc7, zcr, zaq, zat, zch, za4, zal, Option.map_some, zan, zcg, zbk, za5, lit2, lit3, Bool.true_and, Bool.false_and, Bool.and_true, Bool.and_false, Bool.true_or, Bool.false_or, Bool.or_true, Bool.or_false, Bool.not_not, a_sl, zex, zed, zb6, zcv, zec, zc6, zc4, zco, zbw, zbm]
def isTab (cs : List D) : D → Bool
  | .tup xs => !decide ((xs.length : Int) > 8) && xs.all (zlz cs)
  | _ => false
theorem zpp (cs : List D) (d : D) (hc : ∀ c ∈ cs, zim c = true) (hl : cs.length ≤ 4) (S : zae) : zhk [.dat (.tup cs), .dat d] S = .ok (.dat (.bl (isTab cs d))) S := by
  unfold zhk zlw
  simp! only []
  cases d
  case tup xs =>
    simp -implicitDefEqProofs only [D.isT, isTab, a_fn, zd0, zcf, zc9, zcy, zc0, zc8, zba, za0, c_ok, zer, c_bl, zez, ze8, c_or, zcj, zfb, zef, zfg, zcm, a_tg, zc2, zb1, zfi, Res.bind_ok, Res.bind_ex, Res.bindS_ok, Res.bindS_ex, zcz, a_c, a_x2, a_o2, zcq, a_xN, zc3, ze9, a_o1, zee, zek, ze0, zb_, za9, zb2, zbp, zcu, zew, zfa, ze3, ze5, zet, zbx, za6, zax, zav, zar, zaz, zey, a_or, zbq, zb5, zeu, zfj, zeq, zcn, a_if, zeb, zcp, zby, zbc, zaw, za7, zbt, a_it, zau, zay, a_lc, zb7, zb4, zfe, ze6, zf_, zeh, zel, zfh, zem, zes, zen, zck, a_rd, Option.bind_some, zbu, zbr, zbv, zas, List.map_cons, List.map_nil, List.length_cons, List.length_nil, Nat.reduceSub, Nat.reduceAdd, List.replicate_succ, List.replicate_zero, List.cons_append, List.nil_append, List.append_nil, List.getElem?_cons_zero, List.getElem?_cons_succ, List.set_cons_zero, List.set_cons_succ, List.take_length, cond_true, cond_false, Bool.not_true, Bool.not_false, zd7, zej, zev, zei, zc5, zc1, zb0, zbd, zct, zcx, zeo, zea, zbs, zb3, za8, zbb, ze2, zci, zdy, zfc, zff, zcc, zcs, zep, zcw, ze4, zfd, ze7, zc7, zcr, zaq, zat, zch, za4, zal, Option.map_some, zan, zcg, zbk, za5, lit2, lit3, Bool.true_and, Bool.false_and, Bool.and_true, Bool.and_false, Bool.true_or, Bool.false_or, Bool.or_true, Bool.or_false, Bool.not_not, a_sl, zex, zed, zb6, zcv, zec, zc6, zc4, zco, zbw, zbm]
    cases h : decide ((xs.length : Int) > 8)
    · have hz : szB xs.length = true := by
        rw [← szB_iff]
        simp only [decide_eq_false_iff_not] at h
        unfold sizeLine
        omega
      rw [hz]
      simp! only []
      rw [zgm (q := fun p => .bl (zlz cs p)) xs ?h]
      case h => intro p hp; exact ⟨_, rfl, rfl, by simp! only [is_row_of_ok cs _ hc hl]⟩
      simp! only [zgj]
    · simp! only []
  all_goals simp -implicitDefEqProofs only [D.isT, isTab, a_fn, zd0, zcf, zc9, zcy, zc0, zc8, zba, za0, c_ok, zer, c_bl, zez, ze8, c_or, zcj, zfb, zef, zfg, zcm, a_tg, zc2, zb1, zfi, Res.bind_ok, Res.bind_ex, Res.bindS_ok, Res.bindS_ex, zcz, a_c, a_x2, a_o2, zcq, a_xN, zc3, ze9, a_o1, zee, zek, ze0, zb_, za9, zb2, zbp, zcu, zew, zfa, ze3, ze5, zet, zbx, za6, zax, zav, zar, zaz, zey, a_or, zbq, zb5, zeu, zfj, zeq, zcn, a_if, zeb, zcp, zby, zbc, zaw, za7, zbt, a_it, zau, zay, a_lc, zb7, zb4, zfe, ze6, zf_, zeh, zel, zfh, zem, zes, zen, zck, a_rd, Option.bind_some, zbu, zbr, zbv, zas, List.map_cons, List.map_nil, List.length_cons, List.length_nil, Nat.reduceSub, Nat.reduceAdd, List.replicate_succ, List.replicate_zero, List.cons_append, List.nil_append, List.append_nil, List.getElem?_cons_zero, List.getElem?_cons_succ, List.set_cons_zero, List.set_cons_succ, List.take_length, cond_true, cond_false, Bool.not_true, Bool.not_false, zd7, zej, zev, zei, zc5, zc1, zb0, zbd, zct, zcx, zeo, zea, zbs, zb3, za8, zbb, ze2, zci, zdy, zfc, zff, zcc, zcs, zep, zcw, ze4, zfd, ze7, zc7, zcr, zaq, zat, zch, za4, zal, Option.map_some, zan, zcg, zbk, za5, lit2, lit3, Bool.true_and, Bool.false_and, Bool.and_true, Bool.and_false, Bool.true_or, Bool.false_or, Bool.or_true, Bool.or_false, Bool.not_not, a_sl, zex, zed, zb6, zcv, zec, zc6, zc4, zco, zbw, zbm]
theorem znb (cs : List D) (d : D) (hc : ∀ c ∈ cs, zim c = true) (hl : cs.length ≤ 4) (S : zae) : zfq [.dat (.tup cs), .dat d] S = bif isTab cs d then .ok (.dat .non) S else .ex "InvalidTable" S := by
  unfold zfq zjs
  simp! only [zpp cs d hc hl]
  cases isTab cs d <;> simp! only []
def zmd (cs : List D) : D → Bool
  | .tup [a, b] => zlm a 0 (cs.length - 1) && (b.isN || zfz (colAt cs a) b)
  | _ => false
theorem is_entry_ok (cs : List D) (d : D) (hc : ∀ c ∈ cs, zim c = true) (S : zae) : zj3 [.dat (.tup cs), .dat d] S = .ok (.dat (.bl (zmd cs d))) S := by
  unfold zj3 zp4
  simp! only []
  cases d
  case tup xs =>
    simp -implicitDefEqProofs only [D.isT, a_fn, zd0, zcf, zc9, zcy, zc0, zc8, zba, za0, c_ok, zer, c_bl, zez, ze8, c_or, zcj, zfb, zef, zfg, zcm, a_tg, zc2, zb1, zfi, Res.bind_ok, Res.bind_ex, Res.bindS_ok, Res.bindS_ex, zcz, a_c, a_x2, a_o2, zcq, a_xN, zc3, ze9, a_o1, zee, zek, ze0, zb_, za9, zb2, zbp, zcu, zew, zfa, ze3, ze5, zet, zbx, za6, zax, zav, zar, zaz, zey, a_or, zbq, zb5, zeu, zfj, zeq, zcn, a_if, zeb, zcp, zby, zbc, zaw, za7, zbt, a_it, zau, zay, a_lc, zb7, zb4, zfe, ze6, zf_, zeh, zel, zfh, zem, zes, zen, zck, a_rd, Option.bind_some, zbu, zbr, zbv, zas, List.map_cons, List.map_nil, List.length_cons, List.length_nil, Nat.reduceSub, Nat.reduceAdd, List.replicate_succ, List.replicate_zero, List.cons_append, List.nil_append, List.append_nil, List.getElem?_cons_zero, List.getElem?_cons_succ, List.set_cons_zero, List.set_cons_succ, List.take_length, cond_true, cond_false, Bool.not_true, Bool.not_false, zd7, zej, zev, zei, zc5, zc1, zb0, zbd, zct, zcx, zeo, zea, zbs, zb3, za8, zbb, ze2, zci, zdy, zfc, zff, zcc, zcs, zep, zcw, ze4, zfd, ze7, zc7, zcr, zaq, zat, zch, za4, zal, Option.map_some, zan, zcg, zbk, za5, lit2, lit3, Bool.true_and, Bool.false_and, Bool.and_true, Bool.and_false, Bool.true_or, Bool.false_or, Bool.or_true, Bool.or_false, Bool.not_not, a_sl, zex, zed, zb6, zcv, zec, zc6, zc4, zco, zbw, zbm, zk4]
    match xs with
    | [] => simp! only [zmd]
    | [a] => simp! only [zmd]
    | a :: b :: c :: r =>
      have : (((a :: b :: c :: r).length : Int) == 2) = false := by simp only [List.length_cons, beq_eq_false_iff_ne]; omega
      simp only [List.length_cons] at this
      simp! only [zmd, this]
    | [a, b] =>
      simp! only [at2_0, at2_1, zhl, zmd]
      cases h : zlm a 0 (cs.length - 1)
      · simp! only []
      · obtain ⟨i, rfl, h0, h1⟩ := zow h
        simp! only [at2_0, at2_1]
        cases hb : b.isN
        · simp! only [at2_0, at2_1, atI_getD .non h0 (show i < cs.length by omega), zig _ _ (hc _ (zd4 (n := i.toNat) (d := D.non) (by omega))), colAt]
        · simp! only []
  all_goals simp -implicitDefEqProofs only [D.isT, zmd, a_fn, zd0, zcf, zc9, zcy, zc0, zc8, zba, za0, c_ok, zer, c_bl, zez, ze8, c_or, zcj, zfb, zef, zfg, zcm, a_tg, zc2, zb1, zfi, Res.bind_ok, Res.bind_ex, Res.bindS_ok, Res.bindS_ex, zcz, a_c, a_x2, a_o2, zcq, a_xN, zc3, ze9, a_o1, zee, zek, ze0, zb_, za9, zb2, zbp, zcu, zew, zfa, ze3, ze5, zet, zbx, za6, zax, zav, zar, zaz, zey, a_or, zbq, zb5, zeu, zfj, zeq, zcn, a_if, zeb, zcp, zby, zbc, zaw, za7, zbt, a_it, zau, zay, a_lc, zb7, zb4, zfe, ze6, zf_, zeh, zel, zfh, zem, zes, zen, zck, a_rd, Option.bind_some, zbu, zbr, zbv, zas, List.map_cons, List.map_nil, List.length_cons, List.length_nil, Nat.reduceSub, Nat.reduceAdd, List.replicate_succ, List.replicate_zero, List.cons_append, List.nil_append, List.append_nil, List.getElem?_cons_zero, List.getElem?_cons_succ, List.set_cons_zero, List.set_cons_succ, List.take_length, cond_true, cond_false, Bool.not_true, Bool.not_false, zd7, zej, zev, zei, zc5, zc1, zb0, zbd, zct, zcx, zeo, zea, zbs, zb3, za8, zbb, ze2, zci, zdy, zfc, zff, zcc, zcs, zep, zcw, ze4, zfd, ze7, zc7, zcr, zaq, zat, zch, za4, zal, Option.map_some, zan, zcg, zbk, za5, lit2, lit3, Bool.true_and, Bool.false_and, Bool.and_true, Bool.and_false, Bool.true_or, Bool.false_or, Bool.or_true, Bool.or_false, Bool.not_not, a_sl, zex, zed, zb6, zcv, zec, zc6, zc4, zco, zbw, zbm]
def fstI : D → Int | .tup (.int i :: _) => i | _ => 0
def zgq : D → List D | .tup xs => xs | .lst xs => xs | _ => []
def zqp (cs : List D) : D → Bool
  | .tup xs => xs.all (zmd cs) && decide (xs.map fstI = sset (xs.map fstI))
  | _ => false
theorem zkr {cs : List D} {d : D} (h : zmd cs d = true) : ∃ i b, d = .tup [.int i, b] ∧ 0 ≤ i ∧ i < cs.length ∧ (b = .non ∨ zfz (cs.getD i.toNat .non) b = true) := by
  unfold zmd at h
  split at h
  · simp only [Bool.and_eq_true] at h
    obtain ⟨i, rfl, h0, h1⟩ := zow h.1
    rename_i b
    refine ⟨i, b, rfl, h0, by omega, ?_⟩
    have h2 := h.2
    cases b <;> first | exact .inl rfl | (right; simpa [D.isN, colAt] using h2)
  · cases h
theorem is_given_ok (cs : List D) (d : D) (hc : ∀ c ∈ cs, zim c = true) (hd : (zgq d).length < 64) (S : zae) : zj8 [.dat (.tup cs), .dat d] S = .ok (.dat (.bl (zqp cs d))) S := by
  unfold zj8 zp2
  simp! only []
  cases d
  case tup xs =>
    have hz : szB xs.length = true := by
      rw [← szB_iff]
      simp only [zgq] at hd
      unfold sizeLine
      omega
    simp -implicitDefEqProofs only [D.isT, zqp, a_fn, zd0, zcf, zc9, zcy, zc0, zc8, zba, za0, c_ok, zer, c_bl, zez, ze8, c_or, zcj, zfb, zef, zfg, zcm, a_tg, zc2, zb1, zfi, Res.bind_ok, Res.bind_ex, Res.bindS_ok, Res.bindS_ex, zcz, a_c, a_x2, a_o2, zcq, a_xN, zc3, ze9, a_o1, zee, zek, ze0, zb_, za9, zb2, zbp, zcu, zew, zfa, ze3, ze5, zet, zbx, za6, zax, zav, zar, zaz, zey, a_or, zbq, zb5, zeu, zfj, zeq, zcn, a_if, zeb, zcp, zby, zbc, zaw, za7, zbt, a_it, zau, zay, a_lc, zb7, zb4, zfe, ze6, zf_, zeh, zel, zfh, zem, zes, zen, zck, a_rd, Option.bind_some, zbu, zbr, zbv, zas, List.map_cons, List.map_nil, List.length_cons, List.length_nil, Nat.reduceSub, Nat.reduceAdd, List.replicate_succ, List.replicate_zero, List.cons_append, List.nil_append, List.append_nil, List.getElem?_cons_zero, List.getElem?_cons_succ, List.set_cons_zero, List.set_cons_succ, List.take_length, cond_true, cond_false, Bool.not_true, Bool.not_false, zd7, zej, zev, zei, zc5, zc1, zb0, zbd, zct, zcx, zeo, zea, zbs, zb3, za8, zbb, ze2, zci, zdy, zfc, zff, zcc, zcs, zep, zcw, ze4, zfd, ze7, zc7, zcr, zaq, zat, zch, za4, zal, Option.map_some, zan, zcg, zbk, za5, lit2, lit3, Bool.true_and, Bool.false_and, Bool.and_true, Bool.and_false, Bool.true_or, Bool.false_or, Bool.or_true, Bool.or_false, Bool.not_not, a_sl, zex, zed, zb6, zcv, zec, zc6, zc4, zco, zbw, zbm, hz]
    rw [zgm (q := fun p => .bl (zmd cs p)) xs ?h]
    case h => intro p hp; exact ⟨_, rfl, rfl, by simp! only [is_entry_ok cs _ hc]⟩
    simp! only [zgj]
    cases h : xs.all (zmd cs)
    · simp! only []
    · simp only [List.all_eq_true] at h
      simp! only [hz]
      rw [zgm (q := fun p => .int (fstI p)) xs ?h]
      case h =>
        intro p hp
        obtain ⟨i, b, rfl, _⟩ := zkr (h p hp)
        exact ⟨_, rfl, rfl, by simp! only [at2_0, fstI]⟩
      have e : (xs.map fun p => D.int (fstI p)) = (xs.map fstI).map .int := by simp
      simp! only [zcc, e]
      rw [sort_ints _ (by simpa [zgq] using hd)]
      simp! only [zqm]
  all_goals simp -implicitDefEqProofs only [D.isT, zqp, a_fn, zd0, zcf, zc9, zcy, zc0, zc8, zba, za0, c_ok, zer, c_bl, zez, ze8, c_or, zcj, zfb, zef, zfg, zcm, a_tg, zc2, zb1, zfi, Res.bind_ok, Res.bind_ex, Res.bindS_ok, Res.bindS_ex, zcz, a_c, a_x2, a_o2, zcq, a_xN, zc3, ze9, a_o1, zee, zek, ze0, zb_, za9, zb2, zbp, zcu, zew, zfa, ze3, ze5, zet, zbx, za6, zax, zav, zar, zaz, zey, a_or, zbq, zb5, zeu, zfj, zeq, zcn, a_if, zeb, zcp, zby, zbc, zaw, za7, zbt, a_it, zau, zay, a_lc, zb7, zb4, zfe, ze6, zf_, zeh, zel, zfh, zem, zes, zen, zck, a_rd, Option.bind_some, zbu, zbr, zbv, zas, List.map_cons, List.map_nil, List.length_cons, List.length_nil, Nat.reduceSub, Nat.reduceAdd, List.replicate_succ, List.replicate_zero, List.cons_append, List.nil_append, List.append_nil, List.getElem?_cons_zero, List.getElem?_cons_succ, List.set_cons_zero, List.set_cons_succ, List.take_length, cond_true, cond_false, Bool.not_true, Bool.not_false, zd7, zej, zev, zei, zc5, zc1, zb0, zbd, zct, zcx, zeo, zea, zbs, zb3, za8, zbb, ze2, zci, zdy, zfc, zff, zcc, zcs, zep, zcw, ze4, zfd, ze7, zc7, zcr, zaq, zat, zch, za4, zal, Option.map_some, zan, zcg, zbk, za5, lit2, lit3, Bool.true_and, Bool.false_and, Bool.and_true, Bool.and_false, Bool.true_or, Bool.false_or, Bool.or_true, Bool.or_false, Bool.not_not, a_sl, zex, zed, zb6, zcv, zec, zc6, zc4, zco, zbw, zbm]
def znf (cs : List D) : D → Bool
  | .tup [g, c, w] => zqp cs g && ((zlm c 0 (cs.length - 1) && !(inC c (.tup ((zgq g).map fun e => .int (fstI e))))) && (w.isN || (zfz (colAt cs c) w && (zgq g).all fun e => match e with | .tup [_, b] => !b.isN | _ => false)))
  | _ => false
theorem isGiv_cases {cs : List D} {d : D} (h : zqp cs d = true) : ∃ xs, d = .tup xs ∧ (∀ x ∈ xs, zmd cs x = true) ∧ xs.map fstI = sset (xs.map fstI) := by
  cases d <;> simp only [zqp, Bool.false_eq_true, Bool.and_eq_true, decide_eq_true_eq, List.all_eq_true] at h
  exact ⟨_, rfl, h.1, h.2⟩
def short (d : D) : Prop := match d with | .tup (g :: _) => (zgq g).length < 64 | _ => True
theorem zr_ (cs : List D) (d : D) (hc : ∀ c ∈ cs, zim c = true) (hd : short d) (S : zae) : zi_ [.dat (.tup cs), .dat d] S = .ok (.dat (.bl (znf cs d))) S := by
  unfold zi_ zmm
  simp! only []
  cases d
  case tup xs =>
    simp -implicitDefEqProofs only [D.isT, a_fn, zd0, zcf, zc9, zcy, zc0, zc8, zba, za0, c_ok, zer, c_bl, zez, ze8, c_or, zcj, zfb, zef, zfg, zcm, a_tg, zc2, zb1, zfi, Res.bind_ok, Res.bind_ex, Res.bindS_ok, Res.bindS_ex, zcz, a_c, a_x2, a_o2, zcq, a_xN, zc3, ze9, a_o1, zee, zek, ze0, zb_, za9, zb2, zbp, zcu, zew, zfa, ze3, ze5, zet, zbx, za6, zax, zav, zar, zaz, zey, a_or, zbq, zb5, zeu, zfj, zeq, zcn, a_if, zeb, zcp, zby, zbc, zaw, za7, zbt, a_it, zau, zay, a_lc, zb7, zb4, zfe, ze6, zf_, zeh, zel, zfh, zem, zes, zen, zck, a_rd, Option.bind_some, zbu, zbr, zbv, zas, List.map_cons, List.map_nil, List.length_cons, List.length_nil, Nat.reduceSub, Nat.reduceAdd, List.replicate_succ, List.replicate_zero, List.cons_append, List.nil_append, List.append_nil, List.getElem?_cons_zero, List.getElem?_cons_succ, List.set_cons_zero, List.set_cons_succ, List.take_length, cond_true, cond_false, Bool.not_true, Bool.not_false, zd7, zej, zev, zei, zc5, zc1, zb0, zbd, zct, zcx, zeo, zea, zbs, zb3, za8, zbb, ze2, zci, zdy, zfc, zff, zcc, zcs, zep, zcw, ze4, zfd, ze7, zc7, zcr, zaq, zat, zch, za4, zal, Option.map_some, zan, zcg, zbk, za5, lit2, lit3, Bool.true_and, Bool.false_and, Bool.and_true, Bool.and_false, Bool.true_or, Bool.false_or, Bool.or_true, Bool.or_false, Bool.not_not, a_sl, zex, zed, zb6, zcv, zec, zc6, zc4, zco, zbw, zbm, zk4]
    match xs, hd with
    | [], _ => simp! only [znf]
    | [a], _ => simp! only [znf]
    | [a, b], _ => simp! only [znf]
    | a :: b :: c :: e :: r, _ =>
      have : (((a :: b :: c :: e :: r).length : Int) == 3) = false := by simp only [List.length_cons, beq_eq_false_iff_ne]; omega
      simp only [List.length_cons] at this
      simp! only [znf, this]
    | [g, c, w], hd =>
      simp! only [at3_0, is_given_ok cs g hc hd, znf]
      cases hg : zqp cs g
      · simp! only []
      · obtain ⟨xs, rfl, hx, _⟩ := isGiv_cases hg
        have hz : szB xs.length = true := by
          rw [← szB_iff]
          simp only [short, zgq] at hd
          unfold sizeLine
          omega
        simp! only [zhl, zgq]
        cases hb : zlm c 0 (cs.length - 1)
        · simp! only []
        · obtain ⟨i, rfl, h0, h1⟩ := zow hb
          simp! only [hz]
          rw [zgm (q := fun p => .int (fstI p)) xs ?h]
          case h =>
            intro p hp
            obtain ⟨i, b, rfl, _⟩ := zkr (hx p hp)
            exact ⟨_, rfl, rfl, by simp! only [at2_0, fstI]⟩
          have e : (xs.map fun p => D.int (fstI p)) = (xs.map fstI).map .int := by simp
          have hin : dIn (.int i) (.lst ((xs.map fstI).map .int)) = some (.bl (dInB (.int i) ((xs.map fstI).map .int))) := dIn_l (n := 0) (m := 0) rfl (zgn 0 _)
          simp! only [e, hin, inC]
          cases dInB (.int i) ((xs.map fstI).map .int)
          · simp! only []
            cases hw : w.isN
            · simp! only [atI_getD .non h0 (show i < cs.length by omega), zig _ _ (hc _ (zd4 (n := i.toNat) (d := D.non) (by omega))), colAt, hz]
              cases zfz (cs.getD i.toNat .non) w
              · simp! only []
              · simp! only []
                rw [zgm (q := fun p => .bl (match p with | .tup [_, b] => !b.isN | _ => false)) xs ?h]
                case h =>
                  intro p hp
                  obtain ⟨i, b, rfl, _⟩ := zkr (hx p hp)
                  exact ⟨_, rfl, rfl, by simp! only [at2_1, fstI]⟩
                simp! only [zgj]
            · simp! only []
          · simp! only []
  all_goals simp -implicitDefEqProofs only [D.isT, znf, a_fn, zd0, zcf, zc9, zcy, zc0, zc8, zba, za0, c_ok, zer, c_bl, zez, ze8, c_or, zcj, zfb, zef, zfg, zcm, a_tg, zc2, zb1, zfi, Res.bind_ok, Res.bind_ex, Res.bindS_ok, Res.bindS_ex, zcz, a_c, a_x2, a_o2, zcq, a_xN, zc3, ze9, a_o1, zee, zek, ze0, zb_, za9, zb2, zbp, zcu, zew, zfa, ze3, ze5, zet, zbx, za6, zax, zav, zar, zaz, zey, a_or, zbq, zb5, zeu, zfj, zeq, zcn, a_if, zeb, zcp, zby, zbc, zaw, za7, zbt, a_it, zau, zay, a_lc, zb7, zb4, zfe, ze6, zf_, zeh, zel, zfh, zem, zes, zen, zck, a_rd, Option.bind_some, zbu, zbr, zbv, zas, List.map_cons, List.map_nil, List.length_cons, List.length_nil, Nat.reduceSub, Nat.reduceAdd, List.replicate_succ, List.replicate_zero, List.cons_append, List.nil_append, List.append_nil, List.getElem?_cons_zero, List.getElem?_cons_succ, List.set_cons_zero, List.set_cons_succ, List.take_length, cond_true, cond_false, Bool.not_true, Bool.not_false, zd7, zej, zev, zei, zc5, zc1, zb0, zbd, zct, zcx, zeo, zea, zbs, zb3, za8, zbb, ze2, zci, zdy, zfc, zff, zcc, zcs, zep, zcw, ze4, zfd, ze7, zc7, zcr, zaq, zat, zch, za4, zal, Option.map_some, zan, zcg, zbk, za5, lit2, lit3, Bool.true_and, Bool.false_and, Bool.and_true, Bool.and_false, Bool.true_or, Bool.false_or, Bool.or_true, Bool.or_false, Bool.not_not, a_sl, zex, zed, zb6, zcv, zec, zc6, zc4, zco, zbw, zbm]
def znw (cs : List D) : D → Bool
  | .tup xs => !decide ((xs.length : Int) > 8) && xs.all (znf cs)
  | _ => false
theorem are_rules_ok (cs : List D) (d : D) (hc : ∀ c ∈ cs, zim c = true) (hd : ∀ r ∈ zgq d, short r) (S : zae) : zi6 [.dat (.tup cs), .dat d] S = .ok (.dat (.bl (znw cs d))) S := by
  unfold zi6 zod
  simp! only []
  cases d
  case tup xs =>
    simp -implicitDefEqProofs only [D.isT, znw, a_fn, zd0, zcf, zc9, zcy, zc0, zc8, zba, za0, c_ok, zer, c_bl, zez, ze8, c_or, zcj, zfb, zef, zfg, zcm, a_tg, zc2, zb1, zfi, Res.bind_ok, Res.bind_ex, Res.bindS_ok, Res.bindS_ex, zcz, a_c, a_x2, a_o2, zcq, a_xN, zc3, ze9, a_o1, zee, zek, ze0, zb_, za9, zb2, zbp, zcu, zew, zfa, ze3, ze5, zet, zbx, za6, zax, zav, zar, zaz, zey, a_or, zbq, zb5, zeu, zfj, zeq, zcn, a_if, zeb, zcp, zby, zbc, zaw, za7, zbt, a_it, zau, zay, a_lc, zb7, zb4, zfe, ze6, zf_, zeh, zel, zfh, zem, zes, zen, zck, a_rd, Option.bind_some, zbu, zbr, zbv, zas, List.map_cons, List.map_nil, List.length_cons, List.length_nil, Nat.reduceSub, Nat.reduceAdd, List.replicate_succ, List.replicate_zero, List.cons_append, List.nil_append, List.append_nil, List.getElem?_cons_zero, List.getElem?_cons_succ, List.set_cons_zero, List.set_cons_succ, List.take_length, cond_true, cond_false, Bool.not_true, Bool.not_false, zd7, zej, zev, zei, zc5, zc1, zb0, zbd, zct, zcx, zeo, zea, zbs, zb3, za8, zbb, ze2, zci, zdy, zfc, zff, zcc, zcs, zep, zcw, ze4, zfd, ze7, zc7, zcr, zaq, zat, zch, za4, zal, Option.map_some, zan, zcg, zbk, za5, lit2, lit3, Bool.true_and, Bool.false_and, Bool.and_true, Bool.and_false, Bool.true_or, Bool.false_or, Bool.or_true, Bool.or_false, Bool.not_not, a_sl, zex, zed, zb6, zcv, zec, zc6, zc4, zco, zbw, zbm]
    cases h : decide ((xs.length : Int) > 8)
    · have hz : szB xs.length = true := by
        rw [← szB_iff]
        simp only [decide_eq_false_iff_not] at h
        unfold sizeLine
        omega
      rw [hz]
      simp! only []
      rw [zgm (q := fun p => .bl (znf cs p)) xs ?h]
      case h => intro p hp; exact ⟨_, rfl, rfl, by simp! only [zr_ cs _ hc (hd p hp)]⟩
      simp! only [zgj]
    · simp! only []
  all_goals simp -implicitDefEqProofs only [D.isT, znw, a_fn, zd0, zcf, zc9, zcy, zc0, zc8, zba, za0, c_ok, zer, c_bl, zez, ze8, c_or, zcj, zfb, zef, zfg, zcm, a_tg, zc2, zb1, zfi, Res.bind_ok, Res.bind_ex, Res.bindS_ok, Res.bindS_ex, zcz, a_c, a_x2, a_o2, zcq, a_xN, zc3, ze9, a_o1, zee, zek, ze0, zb_, za9, zb2, zbp, zcu, zew, zfa, ze3, ze5, zet, zbx, za6, zax, zav, zar, zaz, zey, a_or, zbq, zb5, zeu, zfj, zeq, zcn, a_if, zeb, zcp, zby, zbc, zaw, za7, zbt, a_it, zau, zay, a_lc, zb7, zb4, zfe, ze6, zf_, zeh, zel, zfh, zem, zes, zen, zck, a_rd, Option.bind_some, zbu, zbr, zbv, zas, List.map_cons, List.map_nil, List.length_cons, List.length_nil, Nat.reduceSub, Nat.reduceAdd, List.replicate_succ, List.replicate_zero, List.cons_append, List.nil_append, List.append_nil, List.getElem?_cons_zero, List.getElem?_cons_succ, List.set_cons_zero, List.set_cons_succ, List.take_length, cond_true, cond_false, Bool.not_true, Bool.not_false, zd7, zej, zev, zei, zc5, zc1, zb0, zbd, zct, zcx, zeo, zea, zbs, zb3, za8, zbb, ze2, zci, zdy, zfc, zff, zcc, zcs, zep, zcw, ze4, zfd, ze7, zc7, zcr, zaq, zat, zch, za4, zal, Option.map_some, zan, zcg, zbk, za5, lit2, lit3, Bool.true_and, Bool.false_and, Bool.and_true, Bool.and_false, Bool.true_or, Bool.false_or, Bool.or_true, Bool.or_false, Bool.not_not, a_sl, zex, zed, zb6, zcv, zec, zc6, zc4, zco, zbw, zbm]
theorem zm6 (cs d : D) (hd : ∀ r ∈ zgq d, short r) (S : zae) : zgd [.dat cs, .dat d] S = bif zjc cs then (bif znw (zgq cs) d then .ok (.dat .non) S else .ex "InvalidRules" S) else .ex "InvalidColumns" S := by
  unfold zgd zju
  simp! only [zll]
  cases h : zjc cs
  · simp! only []
  · obtain ⟨xs, rfl, _, _, hc⟩ := zjz h
    simp! only [are_rules_ok xs d hc hd, zgq]
    cases znw xs d <;> simp! only []
abbrev Ent := Nat × Option Int
abbrev Giv := List Ent
structure Rul where
  g : Giv
  c : Nat
  w : Option Int
abbrev Row := List Int
abbrev Tab := List Row
def oD : Option Int → D | none => .non | some i => .int i
def eD (p : Ent) : D := .tup [.int (p.1 : Nat), oD p.2]
def gD (g : Giv) : D := .tup (g.map eD)
def rowD (r : Row) : D := .tup (r.map .int)
def tabD (t : Tab) : D := .tup (t.map rowD)
def rulD (r : Rul) : D := .tup [gD r.g, .int (r.c : Nat), oD r.w]
def mEnt (r : Row) (p : Ent) : Bool := match p.2 with | none => true | some v => r.getD p.1 0 == v
def zcd (g : Giv) (r : Row) : Bool := g.all (mEnt r)
def zh1 (g : Giv) (r s : Row) : Bool := g.all fun p => r.getD p.1 0 == s.getD p.1 0
def okG (n : Nat) (g : Giv) : Prop := (∀ p ∈ g, p.1 < n) ∧ g.length ≤ 64
theorem okG_sz {n : Nat} {g : Giv} (h : okG n g) : szB g.length = true := by
  rw [← szB_iff]
  have := h.2
  unfold sizeLine
  omega
theorem zki (o : Option Int) : (oD o).isN = o.isNone := by cases o <;> rfl
theorem dEq_io (i : Int) (o : Option Int) : dEq (.int i) (oD o) = some (.bl (match o with | none => false | some v => i == v)) := by
  cases o with
  | none => exact zqv (n := 0) (m := 0) rfl rfl
  | some v => exact zp8 i v
theorem dNe_io (i : Int) (o : Option Int) : dNe (.int i) (oD o) = some (.bl (match o with | none => true | some v => !(i == v))) := by
  cases o with
  | none => exact dNe_fit (n := 0) (m := 0) rfl rfl
  | some v => exact zk4 i v
structure okR (n : Nat) (r : Rul) : Prop where
  g : okG n r.g
  c : r.c < n
structure okT (n : Nat) (t : Tab) : Prop where
  len : t.length ≤ 8
  row : ∀ r ∈ t, r.length = n
theorem okT.get {n i : Nat} {t : Tab} (h : okT n t) (hi : i < t.length) : (t.getD i []).length = n := h.row _ (zd4 hi)
def lD (l : List Nat) : D := .tup (l.map fun i => .int ((i : Nat) : Int))
def zce (rs : List Rul) : D := .tup (rs.map rulD)
structure okRs (n : Nat) (rs : List Rul) : Prop where
  len : rs.length ≤ 8
  ok : ∀ r ∈ rs, okR n r
theorem fits_lD : ∀ l : List (List Nat), D.fits 1 (l.map lD) = true := fun l => fits_iff.mpr fun x hx => by
  obtain ⟨a, _, rfl⟩ := List.mem_map.mp hx
  show D.fits 0 (a.map fun i => .int ((i : Nat) : Int)) = true
  exact fits_iff.mpr fun y hy => by
    obtain ⟨b, _, rfl⟩ := List.mem_map.mp hy
    rfl
theorem fits_nats (l : List Nat) : D.fits 0 (l.map fun i => .int ((i : Nat) : Int)) = true := fits_iff.mpr fun y hy => by
  obtain ⟨b, _, rfl⟩ := List.mem_map.mp hy
  rfl
/-! ## rules as data: plain, small -/
theorem zhq (g : Giv) (r : Row) (h : okG r.length g) (S : zae) : zf9 [.dat (gD g), .dat (rowD r)] S = .ok (.dat (.bl (zcd g r))) S := by
  unfold zf9 zmt
  simp! only [gD, List.length_map, okG_sz h]
  rw [zfy (q := fun p => .bl (mEnt r p)) g ?h]
  case h =>
    intro p hp
    refine ⟨_, rfl, rfl, ?_⟩
    simp! only [zki]
    cases h2 : p.2 with
    | none => simp! only [Option.isNone_none, mEnt, h2]
    | some v => simp! only [Option.isNone_some, mEnt, h2, rowD, zb9 D.int 0 (h.1 p hp), dEq_io]
  simp! only [zgj, zcd]
theorem zmz (g : Giv) (r s : Row) (h : okG r.length g) (h2 : s.length = r.length) (S : zae) : zhz [.dat (gD g), .dat (rowD r), .dat (rowD s)] S = .ok (.dat (.bl (zh1 g r s))) S := by
  unfold zhz zoc
  simp! only [gD, List.length_map, okG_sz h]
  rw [zfy (q := fun p => .bl (r.getD p.1 0 == s.getD p.1 0)) g ?h]
  case h =>
    intro p hp
    refine ⟨_, rfl, rfl, ?_⟩
    simp! only [eD, at2_0, rowD, zb9 D.int 0 (h.1 p hp), zb9 D.int 0 (show p.1 < s.length by rw [h2]; exact h.1 p hp), zp8]
  simp! only [zgj, zh1]
theorem zgx (g : Giv) (r : Row) (h : okG r.length g) (S : zae) : zdu [.dat (gD g), .dat (rowD r)] S = .ok (.dat (.bl (zcd g r))) S := zhq g r h S
def at_ (t : Tab) (i j : Nat) : Int := (t.getD i []).getD j 0
def hits (r : Rul) (t : Tab) : List Nat := (List.range t.length).filter fun i => zcd r.g (t.getD i [])
def zkz (r : Rul) (t : Tab) (i j : Nat) : List (List Nat) := if (decide (i < j) && (zh1 r.g (t.getD i []) (t.getD j []) && !(at_ t i r.c == at_ t j r.c))) = true then [[i, j]] else []
def pairs (r : Rul) (t : Tab) : List (List Nat) := (hits r t).flatMap fun i => (hits r t).flatMap (zkz r t i)
def zca (r : Rul) (t : Tab) : List (List Nat) := match r.w with
  | some v => ((hits r t).filter fun i => !(at_ t i r.c == v)).map fun i => [i]
  | none => pairs r t
theorem zop {r : Rul} {t : Tab} {i : Nat} (h : i ∈ hits r t) : i < t.length := by simpa using (List.mem_filter.mp h).1
theorem zqe (r : Rul) (t : Tab) : (hits r t).length ≤ t.length := by
  have := List.length_filter_le (fun i => zcd r.g (t.getD i [])) (List.range t.length)
  simpa [hits] using this
theorem stepP_len (r : Rul) (t : Tab) (i j : Nat) : (zkz r t i j).length ≤ 1 := by unfold zkz; split <;> simp
theorem pairs_len {n : Nat} (r : Rul) {t : Tab} (ht : okT n t) : (pairs r t).length ≤ 64 := by
  have a := zqe r t
  have b := ht.len
  have h1 : ∀ i ∈ hits r t, ((hits r t).flatMap (zkz r t i)).length ≤ 8 := by
    intro i _
    have := zgf (l := hits r t) (m := 1) (f := zkz r t i) fun j _ => stepP_len r t i j
    omega
  have := zgf h1
  unfold pairs
  omega
abbrev frP (r : Rul) (t : Tab) (k : Nat) (o4 o8 : Option DV) : za2 := [some (.dat (rulD r)), some (.dat (tabD t)), some (.dat (.lst ((hits r t).map fun i => .int ((i : Nat) : Int)))), some (.obj k), o4, some (.dat (gD r.g)), some (.dat (.int r.c)), some (.dat (oD none)), o8]
theorem frb_in (n : Nat) (r : Rul) (t : Tab) (hr : okR n r) (ht : okT n t) (S0 : zae) (i j : Nat) (hi : i < t.length) (hj : j < t.length) (ds : List D) (hb : ds.length + (zkz r t i j).length ≤ sizeLine) :
    zds (frP r t S0.length (some (.dat (.int i))) (some (.dat (.int j)))) (S0 ++ [some ds]) = .nx (frP r t S0.length (some (.dat (.int i))) (some (.dat (.int j)))) (S0 ++ [some (ds ++ (zkz r t i j).map lD)]) := by
  unfold zds
  have ei := ht.get hi
  have ej := ht.get hj
  have hc1 : r.c < (t.getD i []).length := by rw [ei]; exact hr.c
  have hc2 : r.c < (t.getD j []).length := by rw [ej]; exact hr.c
  have e1 : decide (((i : Nat) : Int) < (j : Nat)) = decide (i < j) := by simp
  simp! only [e1, tabD, zb9 rowD [] hi, zb9 rowD [] hj, zmz r.g (t.getD i []) (t.getD j []) (by rw [ei]; exact hr.g) (by rw [ei, ej])]
  simp -implicitDefEqProofs only [rowD, a_fn, zd0, zcf, zc9, zcy, zc0, zc8, zba, za0, c_ok, zer, c_bl, zez, ze8, c_or, zcj, zfb, zef, zfg, zcm, a_tg, zc2, zb1, zfi, Res.bind_ok, Res.bind_ex, Res.bindS_ok, Res.bindS_ex, zcz, a_c, a_x2, a_o2, zcq, a_xN, zc3, ze9, a_o1, zee, zek, ze0, zb_, za9, zb2, zbp, zcu, zew, zfa, ze3, ze5, zet, zbx, za6, zax, zav, zar, zaz, zey, a_or, zbq, zb5, zeu, zfj, zeq, zcn, a_if, zeb, zcp, zby, zbc, zaw, za7, zbt, a_it, zau, zay, a_lc, zb7, zb4, zfe, ze6, zf_, zeh, zel, zfh, zem, zes, zen, zck, a_rd, Option.bind_some, zbu, zbr, zbv, zas, List.map_cons, List.map_nil, List.length_cons, List.length_nil, Nat.reduceSub, Nat.reduceAdd, List.replicate_succ, List.replicate_zero, List.cons_append, List.nil_append, List.append_nil, List.getElem?_cons_zero, List.getElem?_cons_succ, List.set_cons_zero, List.set_cons_succ, List.take_length, cond_true, cond_false, Bool.not_true, Bool.not_false, zd7, zej, zev, zei, zc5, zc1, zb0, zbd, zct, zcx, zeo, zea, zbs, zb3, za8, zbb, ze2, zci, zdy, zfc, zff, zcc, zcs, zep, zcw, ze4, zfd, ze7, zc7, zcr, zaq, zat, zch, za4, zal, Option.map_some, zan, zcg, zbk, za5, lit2, lit3, Bool.true_and, Bool.false_and, Bool.and_true, Bool.and_false, Bool.true_or, Bool.false_or, Bool.or_true, Bool.or_false, Bool.not_not, a_sl, zex, zed, zb6, zcv, zec, zc6, zc4, zco, zbw, zbm, zb9 D.int 0 hc1, zb9 D.int 0 hc2, zk4]
  have e2 : (decide (i < j) && (zh1 r.g (t.getD i []) (t.getD j []) && !((t.getD i []).getD r.c 0 == (t.getD j []).getD r.c 0))) = (decide (i < j) && (zh1 r.g (t.getD i []) (t.getD j []) && !(at_ t i r.c == at_ t j r.c))) := rfl
  have e3 : (bif decide (i < j) then (bif zh1 r.g (t.getD i []) (t.getD j []) then Res.ok (!((t.getD i []).getD r.c 0 == (t.getD j []).getD r.c 0)) (S0 ++ [some ds]) else Res.ok false (S0 ++ [some ds])) else Res.ok false (S0 ++ [some ds])) = Res.ok (decide (i < j) && (zh1 r.g (t.getD i []) (t.getD j []) && !(at_ t i r.c == at_ t j r.c))) (S0 ++ [some ds]) := by
    cases decide (i < j) <;> cases zh1 r.g (t.getD i []) (t.getD j []) <;> rfl
  unfold zkz at hb ⊢
  cases hq : (decide (i < j) && (zh1 r.g (t.getD i []) (t.getD j []) && !(at_ t i r.c == at_ t j r.c)))
  · simp -implicitDefEqProofs only [hq, e2, a_fn, zd0, zcf, zc9, zcy, zc0, zc8, zba, za0, c_ok, zer, c_bl, zez, ze8, c_or, zcj, zfb, zef, zfg, zcm, a_tg, zc2, zb1, zfi, Res.bind_ok, Res.bind_ex, Res.bindS_ok, Res.bindS_ex, zcz, a_c, a_x2, a_o2, zcq, a_xN, zc3, ze9, a_o1, zee, zek, ze0, zb_, za9, zb2, zbp, zcu, zew, zfa, ze3, ze5, zet, zbx, za6, zax, zav, zar, zaz, zey, a_or, zbq, zb5, zeu, zfj, zeq, zcn, a_if, zeb, zcp, zby, zbc, zaw, za7, zbt, a_it, zau, zay, a_lc, zb7, zb4, zfe, ze6, zf_, zeh, zel, zfh, zem, zes, zen, zck, a_rd, Option.bind_some, zbu, zbr, zbv, zas, List.map_cons, List.map_nil, List.length_cons, List.length_nil, Nat.reduceSub, Nat.reduceAdd, List.replicate_succ, List.replicate_zero, List.cons_append, List.nil_append, List.append_nil, List.getElem?_cons_zero, List.getElem?_cons_succ, List.set_cons_zero, List.set_cons_succ, List.take_length, cond_true, cond_false, Bool.not_true, Bool.not_false, zd7, zej, zev, zei, zc5, zc1, zb0, zbd, zct, zcx, zeo, zea, zbs, zb3, za8, zbb, ze2, zci, zdy, zfc, zff, zcc, zcs, zep, zcw, ze4, zfd, ze7, zc7, zcr, zaq, zat, zch, za4, zal, Option.map_some, zan, zcg, zbk, za5, lit2, lit3, Bool.true_and, Bool.false_and, Bool.and_true, Bool.and_false, Bool.true_or, Bool.false_or, Bool.or_true, Bool.or_false, Bool.not_not, a_sl, zex, zed, zb6, zcv, zec, zc6, zc4, zco, zbw, zbm, Bool.false_eq_true, if_false]
  · rw [hq, if_pos rfl] at hb
    simp -implicitDefEqProofs only [hq, e2, a_fn, zd0, zcf, zc9, zcy, zc0, zc8, zba, za0, c_ok, zer, c_bl, zez, ze8, c_or, zcj, zfb, zef, zfg, zcm, a_tg, zc2, zb1, zfi, Res.bind_ok, Res.bind_ex, Res.bindS_ok, Res.bindS_ex, zcz, a_c, a_x2, a_o2, zcq, a_xN, zc3, ze9, a_o1, zee, zek, ze0, zb_, za9, zb2, zbp, zcu, zew, zfa, ze3, ze5, zet, zbx, za6, zax, zav, zar, zaz, zey, a_or, zbq, zb5, zeu, zfj, zeq, zcn, a_if, zeb, zcp, zby, zbc, zaw, za7, zbt, a_it, zau, zay, a_lc, zb7, zb4, zfe, ze6, zf_, zeh, zel, zfh, zem, zes, zen, zck, a_rd, Option.bind_some, zbu, zbr, zbv, zas, List.map_cons, List.map_nil, List.length_cons, List.length_nil, Nat.reduceSub, Nat.reduceAdd, List.replicate_succ, List.replicate_zero, List.cons_append, List.nil_append, List.append_nil, List.getElem?_cons_zero, List.getElem?_cons_succ, List.set_cons_zero, List.set_cons_succ, List.take_length, cond_true, cond_false, Bool.not_true, Bool.not_false, zd7, zej, zev, zei, zc5, zc1, zb0, zbd, zct, zcx, zeo, zea, zbs, zb3, za8, zbb, ze2, zci, zdy, zfc, zff, zcc, zcs, zep, zcw, ze4, zfd, ze7, zc7, zcr, zaq, zat, zch, za4, zal, Option.map_some, zan, zcg, zbk, za5, lit2, lit3, Bool.true_and, Bool.false_and, Bool.and_true, Bool.and_false, Bool.true_or, Bool.false_or, Bool.or_true, Bool.or_false, Bool.not_not, a_sl, zex, zed, zb6, zcv, zec, zc6, zc4, zco, zbw, zbm, if_true]
    exact zq7 rfl (by simp! only [Option.map_some]; rfl) (by simp only [List.length_cons, List.length_nil] at hb; omega)
theorem zkt (n : Nat) (r : Rul) (t : Tab) (hr : okR n r) (ht : okT n t) (S : zae) : zfm [.dat (rulD r), .dat (tabD t)] S = .ok (.dat (.lst ((zca r t).map lD))) S := by
  unfold zfm zh7
  have hl : szB t.length = true := zdi (by have := ht.len; omega)
  have hs : t.length ≤ sizeLine := szB_iff.mpr hl
  have hz : szB (hits r t).length = true := zdi (by have := zqe r t; have := ht.len; omega)
  simp! only [rulD, tabD, List.length_map, zjg hs, List.length_range, hl]
  rw [zfo (p := fun i => zcd r.g (t.getD i [])) (q := fun i => .int ((i : Nat) : Int)) (List.range t.length) ?h]
  case h =>
    intro i hi
    have hi : i < t.length := by simpa using hi
    refine ⟨_, rfl, ?_, fun _ => by simp! only []⟩
    simp! only [zb9 rowD [] hi, zhq r.g (t.getD i []) (by rw [ht.get hi]; exact hr.g)]
  simp! only [zki]
  cases hw : r.w with
  | some v =>
    simp! only [Option.isNone_some, List.length_map]
    rw [show ((List.range t.length).filter fun i => zcd r.g (t.getD i [])) = hits r t from rfl, hz]
    simp! only []
    rw [zfo (p := fun i => !(at_ t i r.c == v)) (q := fun i => lD [i]) (hits r t) ?h]
    case h =>
      intro i hi
      have hi := zop hi
      refine ⟨_, rfl, ?_, fun _ => by simp! only [lD, Option.map_some]⟩
      simp! only [zb9 rowD [] hi, rowD, zb9 D.int 0 (show r.c < (t.getD i []).length by rw [ht.get hi]; exact hr.c), dNe_io, at_]
    simp! only [zca, hw, List.map_map]
    rfl
  | none =>
    simp! only [Option.isNone_none]
    rw [show ((List.range t.length).filter fun i => zcd r.g (t.getD i [])) = hits r t from rfl]
    have loop : ∃ ρ', zfl (gNm 4) zf0 ((hits r t).map fun i : Nat => .int ((i : Nat) : Int)) (frP r t S.length none none) (S ++ [some []]) = .nx ρ' (S ++ [some ([] ++ (pairs r t).map lD)]) ∧ ∃ o4 o8, ρ' = frP r t S.length o4 o8 := by
      refine zii (P := fun ρ => ∃ o4 o8, ρ = frP r t S.length o4 o8) (q := fun i => (hits r t).flatMap (zkz r t i)) (hits r t) _ [] (zdp (by have := pairs_len r ht; unfold pairs at this; simp only [List.length_nil]; omega)) ⟨_, _, rfl⟩ ?_
      rintro i hi ρ ds ⟨o4, o8, rfl⟩ hb
      have hi := zop hi
      have inner : ∃ ρ', zfl (gNm 8) zds ((hits r t).map fun i : Nat => .int ((i : Nat) : Int)) (frP r t S.length (some (.dat (.int i))) o8) (S ++ [some ds]) = .nx ρ' (S ++ [some (ds ++ ((hits r t).flatMap (zkz r t i)).map lD)]) ∧ ∃ o8, ρ' = frP r t S.length (some (.dat (.int i))) o8 := by
        refine zii (P := fun ρ => ∃ o8, ρ = frP r t S.length (some (.dat (.int i))) o8) (q := fun j => zkz r t i j) (hits r t) _ ds hb ⟨_, rfl⟩ ?_
        rintro j hj ρ ds ⟨o8, rfl⟩ hb
        have hj := zop hj
        exact ⟨_, _, rfl, frb_in n r t hr ht S i j hi hj ds hb, ⟨_, rfl⟩⟩
      obtain ⟨ρ', e, o8, rfl⟩ := inner
      refine ⟨_, frP r t S.length (some (.dat (.int i))) o8, rfl, ?_, ⟨_, _, rfl⟩⟩
      unfold zf0
      simp! only [hz]
      exact e
    obtain ⟨ρ', e, o4, o8, rfl⟩ := loop
    simp only [frP, rulD, tabD, hw] at e
    simp! only [hz, List.length_map, e]
    simp! only [zca, hw]
theorem zix {n : Nat} {r : Rul} {t : Tab} (ht : okT n t) : (zca r t).length ≤ 64 := by
  unfold zca
  split
  · have := List.length_filter_le (fun i => !(at_ t i r.c == ‹Int›)) (hits r t)
    have h2 := zqe r t
    have := ht.len
    simp only [List.length_map]
    omega
  · exact pairs_len r ht
def brs (rs : List Rul) (t : Tab) : List (List Nat) := (List.range rs.length).flatMap fun k => (zca (rs.getD k ⟨[], 0, none⟩) t).map (k :: ·)
theorem zot {r : Rul} {t : Tab} {l : List Nat} (h : l ∈ zca r t) : l.length ≤ 2 := by
  unfold zca at h
  split at h
  · obtain ⟨i, _, rfl⟩ := List.mem_map.mp h
    simp
  · obtain ⟨i, _, h⟩ := List.mem_flatMap.mp h
    obtain ⟨j, _, h⟩ := List.mem_flatMap.mp h
    unfold zkz at h
    split at h <;> simp at h
    subst h
    simp
theorem zpq (n : Nat) (rs : List Rul) (t : Tab) (hr : okRs n rs) (ht : okT n t) (S : zae) : zhn [.dat (zce rs), .dat (tabD t)] S = .ok (.dat (.lst ((brs rs t).map lD))) S := by
  unfold zhn zlj
  simp! only [zce, zp9]
  obtain ⟨ρ', e, o3, o4, o5, rfl⟩ : ∃ ρ', zfl (gTp (gCo (gNm 3) (gCo (gNm 4) gNo))) zjo ((rs.zipIdx.map fun p => (p.2, p.1)).map fun p => zoe (.int ((p.1 : Nat) : Int)) (rulD p.2)) [some (.dat (.tup (rs.map rulD))), some (.dat (tabD t)), some (.obj S.length), none, none, none] (S ++ [some []]) = .nx ρ' (S ++ [some ([] ++ ((rs.zipIdx.map fun p => (p.2, p.1)).flatMap fun p => (zca p.2 t).map (p.1 :: ·)).map lD)]) ∧ ∃ o3 o4 o5, ρ' = [some (.dat (.tup (rs.map rulD))), some (.dat (tabD t)), some (.obj S.length), o3, o4, o5] := by
    refine zii (P := fun ρ => ∃ o3 o4 o5, ρ = [some (.dat (.tup (rs.map rulD))), some (.dat (tabD t)), some (.obj S.length), o3, o4, o5]) _ _ [] ?_ ⟨_, _, _, rfl⟩ ?_
    · have h1 := zgf (l := rs.zipIdx.map fun p => (p.2, p.1)) (m := 64) (f := fun p => (zca p.2 t).map (p.1 :: ·)) (fun p _ => by rw [List.length_map]; exact zix ht)
      have h2 : (rs.zipIdx.map fun p => (p.2, p.1)).length = rs.length := by simp
      have h3 := hr.len
      exact zdp (by simp only [List.length_nil]; omega)
    · rintro p hp ρ ds ⟨o3, o4, o5, rfl⟩ hb
      have hm : p.2 ∈ rs := by
        obtain ⟨q, hq, rfl⟩ := List.mem_map.mp hp
        exact (List.mem_zipIdx' hq).2 ▸ List.getElem_mem _
      refine ⟨_, [some (.dat (.tup (rs.map rulD))), some (.dat (tabD t)), some (.obj S.length), some (.dat (.int ((p.1 : Nat) : Int))), some (.dat (rulD p.2)), o5], rfl, ?_, ⟨_, _, _, rfl⟩⟩
      have hz : szB (zca p.2 t).length = true := zdi (by have := zix (r := p.2) ht; omega)
      rw [List.map_map]
      refine zqt rfl ?_ (by simpa using hb)
      simp! only [zkt n p.2 t (hr.ok _ hm) ht, List.length_map, hz]
      rw [zfy (q := fun l => lD (p.1 :: l)) (zca p.2 t) ?h]
      case h =>
        intro l hl
        refine ⟨_, rfl, rfl, ?_⟩
        have hz : szB (l.length + 1) = true := zdi (by have := zot hl; omega)
        simp! only [lD, List.length_map, hz]
      simp! only []
      rfl
  simp! only [e]
  rw [brs, zmy ⟨[], 0, none⟩, List.flatMap_map]
def apart (g : Giv) (r s : Row) : List Nat := (g.map (·.1)).filter fun k => !(r.getD k 0 == s.getD k 0)
theorem apart_nil (g : Giv) (r s : Row) : (apart g r s).isEmpty = zh1 g r s := by
  unfold apart zh1
  induction g with
  | nil => rfl
  | cons p g ih =>
    simp only [List.map_cons, List.filter_cons, List.all_cons]
    cases h : r.getD p.1 0 == s.getD p.1 0
    · simp
    · simpa using ih
def zpr (r : Rul) (t : Tab) (i j : Nat) : List (List Nat) := if (zcd r.g (t.getD j []) && zh1 r.g (t.getD i []) (t.getD j []) && !(at_ t i r.c == at_ t j r.c)) = true then [[i, j]] else []
def zpj (r : Rul) (t : Tab) (i : Nat) : List (List Nat) := if zcd r.g (t.getD i []) = true then (match r.w with
  | some v => if (!(at_ t i r.c == v)) = true then [[i]] else []
  | none => (List.range (t.length - (i + 1))).flatMap fun k => zpr r t i (i + 1 + k)) else []
def zl7 (r : Rul) (t : Tab) : List (List Nat) := (List.range t.length).flatMap (zpj r t)
theorem lbreaks_eq (r : Rul) (t : Tab) : zl7 r t = zca r t := by
  unfold zl7 zca
  cases hw : r.w with
  | some v =>
    simp only
    rw [zjr]
    unfold hits
    rw [zja]
    refine zj6 fun i hi => ?_
    unfold zpj
    simp only [hw]
  | none =>
    unfold pairs hits
    rw [zja]
    refine zj6 fun i hi => ?_
    have hi : i < t.length := by simpa using hi
    unfold zpj
    cases hm : zcd r.g (t.getD i [])
    · simp
    · simp only [if_true, hw]
      rw [zja, range_split t.length i hi, List.flatMap_append, flat_nil (l := List.range (i + 1)) ?a, List.nil_append, List.flatMap_map]
      · refine zj6 fun k hk => ?_
        unfold zpr zkz
        have : decide (i < i + 1 + k) = true := decide_eq_true (by omega)
        rw [this, Bool.true_and]
        cases zcd r.g (t.getD (i + 1 + k) []) <;> simp
      case a =>
        intro j hj
        have hj : j < i + 1 := by simpa using hj
        unfold zkz
        have : decide (i < j) = false := decide_eq_false (by omega)
        rw [this]
        simp
abbrev lrP (r : Rul) (t : Tab) (k : Nat) (o3 o7 o8 o9 o10 o11 : Option DV) : za2 := [some (.dat (rulD r)), some (.dat (tabD t)), some (.obj k), o3, some (.dat (gD r.g)), some (.dat (.int r.c)), some (.dat (oD r.w)), o7, o8, o9, o10, o11]
theorem lrb_in (n : Nat) (r : Rul) (t : Tab) (hr : okR n r) (ht : okT n t) (S0 : zae) (i j : Nat) (hi : i < t.length) (hj : j < t.length) (o8' o9' o10 o11 : Option DV) (ds : List D) (hb : ds.length + (zpr r t i j).length ≤ sizeLine) :
    ∃ o8 o9, zdl (lrP r t S0.length (some (.dat (.int i))) (some (.dat (.int j))) o8' o9' o10 o11) (S0 ++ [some ds]) = .nx (lrP r t S0.length (some (.dat (.int i))) (some (.dat (.int j))) o8 o9 o10 o11) (S0 ++ [some (ds ++ (zpr r t i j).map lD)]) := by
  unfold zdl
  have ei := ht.get hi
  have ej := ht.get hj
  have hc1 : r.c < (t.getD i []).length := by rw [ei]; exact hr.c
  have hc2 : r.c < (t.getD j []).length := by rw [ej]; exact hr.c
  have hz : szB r.g.length = true := okG_sz hr.g
  simp! only [gD, List.length_map, hz]
  rw [zfy (q := fun p => .int ((p.1 : Nat) : Int)) r.g ?h]
  case h =>
    intro p hp
    exact ⟨_, rfl, rfl, by simp! only [eD, at2_0]⟩
  have e0 : (r.g.map fun p => D.int ((p.1 : Nat) : Int)) = (r.g.map (·.1)).map fun k => .int ((k : Nat) : Int) := by simp
  simp! only [e0, List.length_map, hz]
  rw [zfo (p := fun k => !((t.getD i []).getD k 0 == (t.getD j []).getD k 0)) (q := fun k => .int ((k : Nat) : Int)) (r.g.map (·.1)) ?h]
  case h =>
    intro k hk
    obtain ⟨p, hp, rfl⟩ := List.mem_map.mp hk
    have hp := hr.g.1 p hp
    refine ⟨_, rfl, ?_, fun _ => by simp! only []⟩
    simp! only [tabD, zb9 rowD [] hi, zb9 rowD [] hj]
    simp! only [rowD, zb9 D.int 0 (show p.1 < (t.getD i []).length by omega), zb9 D.int 0 (show p.1 < (t.getD j []).length by omega), zk4]
  have hm := zgx r.g (t.getD j []) (by rw [ej]; exact hr.g)
  simp only [gD] at hm
  simp! only [tabD, zb9 rowD [] hj, hm, eqs_nil (fits_nats _), List.isEmpty_map]
  have ea : ((r.g.map (·.1)).filter fun k => !((t.getD i []).getD k 0 == (t.getD j []).getD k 0)).isEmpty = zh1 r.g (t.getD i []) (t.getD j []) := apart_nil ..
  simp -implicitDefEqProofs only [ea, a_fn, zd0, zcf, zc9, zcy, zc0, zc8, zba, za0, c_ok, zer, c_bl, zez, ze8, c_or, zcj, zfb, zef, zfg, zcm, a_tg, zc2, zb1, zfi, Res.bind_ok, Res.bind_ex, Res.bindS_ok, Res.bindS_ex, zcz, a_c, a_x2, a_o2, zcq, a_xN, zc3, ze9, a_o1, zee, zek, ze0, zb_, za9, zb2, zbp, zcu, zew, zfa, ze3, ze5, zet, zbx, za6, zax, zav, zar, zaz, zey, a_or, zbq, zb5, zeu, zfj, zeq, zcn, a_if, zeb, zcp, zby, zbc, zaw, za7, zbt, a_it, zau, zay, a_lc, zb7, zb4, zfe, ze6, zf_, zeh, zel, zfh, zem, zes, zen, zck, a_rd, Option.bind_some, zbu, zbr, zbv, zas, List.map_cons, List.map_nil, List.length_cons, List.length_nil, Nat.reduceSub, Nat.reduceAdd, List.replicate_succ, List.replicate_zero, List.cons_append, List.nil_append, List.append_nil, List.getElem?_cons_zero, List.getElem?_cons_succ, List.set_cons_zero, List.set_cons_succ, List.take_length, cond_true, cond_false, Bool.not_true, Bool.not_false, zd7, zej, zev, zei, zc5, zc1, zb0, zbd, zct, zcx, zeo, zea, zbs, zb3, za8, zbb, ze2, zci, zdy, zfc, zff, zcc, zcs, zep, zcw, ze4, zfd, ze7, zc7, zcr, zaq, zat, zch, za4, zal, Option.map_some, zan, zcg, zbk, za5, lit2, lit3, Bool.true_and, Bool.false_and, Bool.and_true, Bool.and_false, Bool.true_or, Bool.false_or, Bool.or_true, Bool.or_false, Bool.not_not, a_sl, zex, zed, zb6, zcv, zec, zc6, zc4, zco, zbw, zbm]
  unfold zpr at hb ⊢
  cases h1 : (zcd r.g (t.getD j []) && zh1 r.g (t.getD i []) (t.getD j []))
  · simp! only [Bool.false_eq_true, if_false]
    exact ⟨_, _, rfl⟩
  · simp! only [zb9 rowD [] hi, zb9 rowD [] hj]
    simp! only [rowD, zb9 D.int 0 hc1, zb9 D.int 0 hc2, zk4]
    have e2 : ((t.getD i []).getD r.c 0 == (t.getD j []).getD r.c 0) = (at_ t i r.c == at_ t j r.c) := rfl
    rw [e2]
    cases h2 : (at_ t i r.c == at_ t j r.c)
    · simp -implicitDefEqProofs only [h1, h2, a_fn, zd0, zcf, zc9, zcy, zc0, zc8, zba, za0, c_ok, zer, c_bl, zez, ze8, c_or, zcj, zfb, zef, zfg, zcm, a_tg, zc2, zb1, zfi, Res.bind_ok, Res.bind_ex, Res.bindS_ok, Res.bindS_ex, zcz, a_c, a_x2, a_o2, zcq, a_xN, zc3, ze9, a_o1, zee, zek, ze0, zb_, za9, zb2, zbp, zcu, zew, zfa, ze3, ze5, zet, zbx, za6, zax, zav, zar, zaz, zey, a_or, zbq, zb5, zeu, zfj, zeq, zcn, a_if, zeb, zcp, zby, zbc, zaw, za7, zbt, a_it, zau, zay, a_lc, zb7, zb4, zfe, ze6, zf_, zeh, zel, zfh, zem, zes, zen, zck, a_rd, Option.bind_some, zbu, zbr, zbv, zas, List.map_cons, List.map_nil, List.length_cons, List.length_nil, Nat.reduceSub, Nat.reduceAdd, List.replicate_succ, List.replicate_zero, List.cons_append, List.nil_append, List.append_nil, List.getElem?_cons_zero, List.getElem?_cons_succ, List.set_cons_zero, List.set_cons_succ, List.take_length, cond_true, cond_false, Bool.not_true, Bool.not_false, zd7, zej, zev, zei, zc5, zc1, zb0, zbd, zct, zcx, zeo, zea, zbs, zb3, za8, zbb, ze2, zci, zdy, zfc, zff, zcc, zcs, zep, zcw, ze4, zfd, ze7, zc7, zcr, zaq, zat, zch, za4, zal, Option.map_some, zan, zcg, zbk, za5, lit2, lit3, Bool.true_and, Bool.false_and, Bool.and_true, Bool.and_false, Bool.true_or, Bool.false_or, Bool.or_true, Bool.or_false, Bool.not_not, a_sl, zex, zed, zb6, zcv, zec, zc6, zc4, zco, zbw, zbm, if_true, List.length_cons, List.length_nil] at hb ⊢
      rw [zq7 (d := lD [i, j]) ?a ?b ?c]
      · exact ⟨_, _, rfl⟩
      · rfl
      · simp! only []
        rfl
      · omega
    · simp! only [Bool.false_eq_true, if_false]
      exact ⟨_, _, rfl⟩
theorem stepL_len (r : Rul) (t : Tab) (i j : Nat) : (zpr r t i j).length ≤ 1 := by unfold zpr; split <;> simp
theorem stepO_len {n : Nat} (r : Rul) {t : Tab} (ht : okT n t) (i : Nat) : (zpj r t i).length ≤ 8 := by
  have b := ht.len
  unfold zpj
  split
  · split
    · split <;> simp
    · have := zgf (l := List.range (t.length - (i + 1))) (m := 1) (f := fun k => zpr r t i (i + 1 + k)) fun j _ => stepL_len r t i _
      simp only [List.length_range] at this
      omega
  · simp
theorem lbreaks_len {n : Nat} (r : Rul) {t : Tab} (ht : okT n t) : (zl7 r t).length ≤ 64 := by
  have b := ht.len
  have := zgf (l := List.range t.length) (m := 8) (f := zpj r t) fun i _ => stepO_len r ht i
  simp only [List.length_range] at this
  unfold zl7
  omega
abbrev lrQ (r : Rul) (t : Tab) (k : Nat) (ρ : za2) : Prop := ∃ o3 o7 o8 o9 o10 o11, ρ = lrP r t k o3 o7 o8 o9 o10 o11
theorem lrb_out (n : Nat) (r : Rul) (t : Tab) (hr : okR n r) (ht : okT n t) (S0 : zae) (i : Nat) (hi : i < t.length) (o7 o8 o9 o10 o11 : Option DV) (ds : List D) (hb : ds.length + (zpj r t i).length ≤ sizeLine) :
    ∃ ρ, zdo (lrP r t S0.length (some (.dat (.int i))) o7 o8 o9 o10 o11) (S0 ++ [some ds]) = .nx ρ (S0 ++ [some (ds ++ (zpj r t i).map lD)]) ∧ lrQ r t S0.length ρ := by
  unfold zdo
  have ei := ht.get hi
  have hl := ht.len
  have hc1 : r.c < (t.getD i []).length := by rw [ei]; exact hr.c
  have hs : t.length ≤ sizeLine := zdp (by omega)
  have hm := zgx r.g (t.getD i []) (by rw [ei]; exact hr.g)
  simp! only [tabD, zb9 rowD [] hi, hm]
  unfold zpj at hb ⊢
  cases h1 : zcd r.g (t.getD i [])
  · simp! only [Bool.false_eq_true, if_false]
    exact ⟨_, rfl, _, _, _, _, _, _, rfl⟩
  · simp -implicitDefEqProofs only [h1, if_true, a_fn, zd0, zcf, zc9, zcy, zc0, zc8, zba, za0, c_ok, zer, c_bl, zez, ze8, c_or, zcj, zfb, zef, zfg, zcm, a_tg, zc2, zb1, zfi, Res.bind_ok, Res.bind_ex, Res.bindS_ok, Res.bindS_ex, zcz, a_c, a_x2, a_o2, zcq, a_xN, zc3, ze9, a_o1, zee, zek, ze0, zb_, za9, zb2, zbp, zcu, zew, zfa, ze3, ze5, zet, zbx, za6, zax, zav, zar, zaz, zey, a_or, zbq, zb5, zeu, zfj, zeq, zcn, a_if, zeb, zcp, zby, zbc, zaw, za7, zbt, a_it, zau, zay, a_lc, zb7, zb4, zfe, ze6, zf_, zeh, zel, zfh, zem, zes, zen, zck, a_rd, Option.bind_some, zbu, zbr, zbv, zas, List.map_cons, List.map_nil, List.length_cons, List.length_nil, Nat.reduceSub, Nat.reduceAdd, List.replicate_succ, List.replicate_zero, List.cons_append, List.nil_append, List.append_nil, List.getElem?_cons_zero, List.getElem?_cons_succ, List.set_cons_zero, List.set_cons_succ, List.take_length, cond_true, cond_false, Bool.not_true, Bool.not_false, zd7, zej, zev, zei, zc5, zc1, zb0, zbd, zct, zcx, zeo, zea, zbs, zb3, za8, zbb, ze2, zci, zdy, zfc, zff, zcc, zcs, zep, zcw, ze4, zfd, ze7, zc7, zcr, zaq, zat, zch, za4, zal, Option.map_some, zan, zcg, zbk, za5, lit2, lit3, Bool.true_and, Bool.false_and, Bool.and_true, Bool.and_false, Bool.true_or, Bool.false_or, Bool.or_true, Bool.or_false, Bool.not_not, a_sl, zex, zed, zb6, zcv, zec, zc6, zc4, zco, zbw, zbm, zki] at hb ⊢
    cases hw : r.w with
    | some v =>
      simp -implicitDefEqProofs only [hw, Option.isNone_some, a_fn, zd0, zcf, zc9, zcy, zc0, zc8, zba, za0, c_ok, zer, c_bl, zez, ze8, c_or, zcj, zfb, zef, zfg, zcm, a_tg, zc2, zb1, zfi, Res.bind_ok, Res.bind_ex, Res.bindS_ok, Res.bindS_ex, zcz, a_c, a_x2, a_o2, zcq, a_xN, zc3, ze9, a_o1, zee, zek, ze0, zb_, za9, zb2, zbp, zcu, zew, zfa, ze3, ze5, zet, zbx, za6, zax, zav, zar, zaz, zey, a_or, zbq, zb5, zeu, zfj, zeq, zcn, a_if, zeb, zcp, zby, zbc, zaw, za7, zbt, a_it, zau, zay, a_lc, zb7, zb4, zfe, ze6, zf_, zeh, zel, zfh, zem, zes, zen, zck, a_rd, Option.bind_some, zbu, zbr, zbv, zas, List.map_cons, List.map_nil, List.length_cons, List.length_nil, Nat.reduceSub, Nat.reduceAdd, List.replicate_succ, List.replicate_zero, List.cons_append, List.nil_append, List.append_nil, List.getElem?_cons_zero, List.getElem?_cons_succ, List.set_cons_zero, List.set_cons_succ, List.take_length, cond_true, cond_false, Bool.not_true, Bool.not_false, zd7, zej, zev, zei, zc5, zc1, zb0, zbd, zct, zcx, zeo, zea, zbs, zb3, za8, zbb, ze2, zci, zdy, zfc, zff, zcc, zcs, zep, zcw, ze4, zfd, ze7, zc7, zcr, zaq, zat, zch, za4, zal, Option.map_some, zan, zcg, zbk, za5, lit2, lit3, Bool.true_and, Bool.false_and, Bool.and_true, Bool.and_false, Bool.true_or, Bool.false_or, Bool.or_true, Bool.or_false, Bool.not_not, a_sl, zex, zed, zb6, zcv, zec, zc6, zc4, zco, zbw, zbm, zb9 rowD [] hi] at hb ⊢
      simp! only [rowD, zb9 D.int 0 hc1, dNe_io, rng2_0 (show i < 1000000000 by omega)]
      have e2 : (t.getD i []).getD r.c 0 = at_ t i r.c := rfl
      rw [e2]
      cases h2 : (at_ t i r.c == v)
      · simp -implicitDefEqProofs only [h2, a_fn, zd0, zcf, zc9, zcy, zc0, zc8, zba, za0, c_ok, zer, c_bl, zez, ze8, c_or, zcj, zfb, zef, zfg, zcm, a_tg, zc2, zb1, zfi, Res.bind_ok, Res.bind_ex, Res.bindS_ok, Res.bindS_ex, zcz, a_c, a_x2, a_o2, zcq, a_xN, zc3, ze9, a_o1, zee, zek, ze0, zb_, za9, zb2, zbp, zcu, zew, zfa, ze3, ze5, zet, zbx, za6, zax, zav, zar, zaz, zey, a_or, zbq, zb5, zeu, zfj, zeq, zcn, a_if, zeb, zcp, zby, zbc, zaw, za7, zbt, a_it, zau, zay, a_lc, zb7, zb4, zfe, ze6, zf_, zeh, zel, zfh, zem, zes, zen, zck, a_rd, Option.bind_some, zbu, zbr, zbv, zas, List.map_cons, List.map_nil, List.length_cons, List.length_nil, Nat.reduceSub, Nat.reduceAdd, List.replicate_succ, List.replicate_zero, List.cons_append, List.nil_append, List.append_nil, List.getElem?_cons_zero, List.getElem?_cons_succ, List.set_cons_zero, List.set_cons_succ, List.take_length, cond_true, cond_false, Bool.not_true, Bool.not_false, zd7, zej, zev, zei, zc5, zc1, zb0, zbd, zct, zcx, zeo, zea, zbs, zb3, za8, zbb, ze2, zci, zdy, zfc, zff, zcc, zcs, zep, zcw, ze4, zfd, ze7, zc7, zcr, zaq, zat, zch, za4, zal, Option.map_some, zan, zcg, zbk, za5, lit2, lit3, Bool.true_and, Bool.false_and, Bool.and_true, Bool.and_false, Bool.true_or, Bool.false_or, Bool.or_true, Bool.or_false, Bool.not_not, a_sl, zex, zed, zb6, zcv, zec, zc6, zc4, zco, zbw, zbm, if_true, List.length_cons, List.length_nil] at hb ⊢
        rw [zq7 (d := lD [i]) ?a ?b ?c]
        · simp! only [zki, hw, Option.isNone_some, rng2_0 (show i < 1000000000 by omega)]
          exact ⟨_, rfl, _, _, _, _, _, _, rfl⟩
        · rfl
        · simp! only []
          rfl
        · omega
      · simp! only [zki, hw, Option.isNone_some, rng2_0 (show i < 1000000000 by omega), Bool.false_eq_true, if_false]
        exact ⟨_, rfl, _, _, _, _, _, _, rfl⟩
    | none =>
      simp -implicitDefEqProofs only [hw, Option.isNone_none, a_fn, zd0, zcf, zc9, zcy, zc0, zc8, zba, za0, c_ok, zer, c_bl, zez, ze8, c_or, zcj, zfb, zef, zfg, zcm, a_tg, zc2, zb1, zfi, Res.bind_ok, Res.bind_ex, Res.bindS_ok, Res.bindS_ex, zcz, a_c, a_x2, a_o2, zcq, a_xN, zc3, ze9, a_o1, zee, zek, ze0, zb_, za9, zb2, zbp, zcu, zew, zfa, ze3, ze5, zet, zbx, za6, zax, zav, zar, zaz, zey, a_or, zbq, zb5, zeu, zfj, zeq, zcn, a_if, zeb, zcp, zby, zbc, zaw, za7, zbt, a_it, zau, zay, a_lc, zb7, zb4, zfe, ze6, zf_, zeh, zel, zfh, zem, zes, zen, zck, a_rd, Option.bind_some, zbu, zbr, zbv, zas, List.map_cons, List.map_nil, List.length_cons, List.length_nil, Nat.reduceSub, Nat.reduceAdd, List.replicate_succ, List.replicate_zero, List.cons_append, List.nil_append, List.append_nil, List.getElem?_cons_zero, List.getElem?_cons_succ, List.set_cons_zero, List.set_cons_succ, List.take_length, cond_true, cond_false, Bool.not_true, Bool.not_false, zd7, zej, zev, zei, zc5, zc1, zb0, zbd, zct, zcx, zeo, zea, zbs, zb3, za8, zbb, ze2, zci, zdy, zfc, zff, zcc, zcs, zep, zcw, ze4, zfd, ze7, zc7, zcr, zaq, zat, zch, za4, zal, Option.map_some, zan, zcg, zbk, za5, lit2, lit3, Bool.true_and, Bool.false_and, Bool.and_true, Bool.and_false, Bool.true_or, Bool.false_or, Bool.or_true, Bool.or_false, Bool.not_not, a_sl, zex, zed, zb6, zcv, zec, zc6, zc4, zco, zbw, zbm, List.length_map, rng2_n (show i < 1000000000 by omega) hs] at hb ⊢
      have loop : ∃ ρ', zfl (gNm 7) zdl ((List.range (t.length - (i + 1))).map fun k => .int ((i + 1 + k : Nat) : Int)) (lrP r t S0.length (some (.dat (.int i))) o7 o8 o9 o10 o11) (S0 ++ [some ds]) = .nx ρ' (S0 ++ [some (ds ++ ((List.range (t.length - (i + 1))).flatMap fun k => zpr r t i (i + 1 + k)).map lD)]) ∧ ∃ o7 o8 o9 o10 o11, ρ' = lrP r t S0.length (some (.dat (.int i))) o7 o8 o9 o10 o11 := by
        refine zii (P := fun ρ => ∃ o7 o8 o9 o10 o11, ρ = lrP r t S0.length (some (.dat (.int i))) o7 o8 o9 o10 o11) (q := fun k => zpr r t i (i + 1 + k)) _ _ ds hb ⟨_, _, _, _, _, rfl⟩ ?_
        rintro k hk ρ ds ⟨o7, o8, o9, o10, o11, rfl⟩ hb
        have hk : k < t.length - (i + 1) := by simpa using hk
        obtain ⟨p8, p9, e⟩ := lrb_in n r t hr ht S0 i (i + 1 + k) hi (by omega) o8 o9 o10 o11 ds hb
        exact ⟨_, _, rfl, e, ⟨_, _, _, _, _, rfl⟩⟩
      obtain ⟨ρ', e, p7, p8, p9, p10, p11, rfl⟩ := loop
      simp! only [zki, tabD, List.length_map, hw, Option.isNone_none, rng2_n (show i < 1000000000 by omega) hs, e]
      exact ⟨_, rfl, _, _, _, _, _, _, rfl⟩
theorem zh9 (n : Nat) (r : Rul) (t : Tab) (hr : okR n r) (ht : okT n t) (S : zae) : zda [.dat (rulD r), .dat (tabD t)] S = .ok (.dat (.lst ((zca r t).map lD))) S := by
  rw [← lbreaks_eq]
  unfold zda zhx
  have hl := ht.len
  have hs : t.length ≤ sizeLine := zdp (by omega)
  have loop : ∃ ρ', zfl (gNm 3) zdo ((List.range t.length).map fun i : Nat => .int ((i : Nat) : Int)) (lrP r t S.length none none none none none none) (S ++ [some []]) = .nx ρ' (S ++ [some ([] ++ (zl7 r t).map lD)]) ∧ lrQ r t S.length ρ' := by
    refine zii (P := lrQ r t S.length) (q := zpj r t) (List.range t.length) _ [] (zdp (by have := lbreaks_len r ht; unfold zl7 at this; simp only [List.length_nil]; omega)) ⟨_, _, _, _, _, _, rfl⟩ ?_
    rintro i hi ρ ds ⟨o3, o7, o8, o9, o10, o11, rfl⟩ hb
    have hi : i < t.length := by simpa using hi
    obtain ⟨ρ2, e, h⟩ := lrb_out n r t hr ht S i hi o7 o8 o9 o10 o11 ds hb
    exact ⟨_, ρ2, rfl, e, h⟩
  obtain ⟨ρ', e, o3, o7, o8, o9, o10, o11, rfl⟩ := loop
  simp only [lrP, rulD, tabD] at e
  simp! only [rulD, tabD, List.length_map, zjg hs, e]
theorem zrc (n : Nat) (rs : List Rul) (t : Tab) (hr : okRs n rs) (ht : okT n t) (S : zae) : zgw [.dat (zce rs), .dat (tabD t)] S = .ok (.dat (.lst ((brs rs t).map lD))) S := by
  unfold zgw zke
  have hl := hr.len
  have hs : rs.length ≤ sizeLine := zdp (by omega)
  have loop : ∃ ρ', zfl (gNm 3) zjd ((List.range rs.length).map fun i : Nat => .int ((i : Nat) : Int)) [some (.dat (zce rs)), some (.dat (tabD t)), some (.obj S.length), none, none] (S ++ [some []]) = .nx ρ' (S ++ [some ([] ++ (brs rs t).map lD)]) ∧ ∃ o3 o4, ρ' = [some (.dat (zce rs)), some (.dat (tabD t)), some (.obj S.length), o3, o4] := by
    refine zii (P := fun ρ => ∃ o3 o4, ρ = [some (.dat (zce rs)), some (.dat (tabD t)), some (.obj S.length), o3, o4]) (q := fun k => (zca (rs.getD k ⟨[], 0, none⟩) t).map (k :: ·)) (List.range rs.length) _ [] ?_ ⟨_, _, rfl⟩ ?_
    · have h1 := zgf (l := List.range rs.length) (m := 64) (f := fun k => (zca (rs.getD k ⟨[], 0, none⟩) t).map (k :: ·)) (fun p _ => by rw [List.length_map]; exact zix ht)
      simp only [List.length_range] at h1
      exact zdp (by simp only [List.length_nil]; omega)
    · rintro k hk ρ ds ⟨o3, o4, rfl⟩ hb
      have hk : k < rs.length := by simpa using hk
      refine ⟨_, [some (.dat (zce rs)), some (.dat (tabD t)), some (.obj S.length), some (.dat (.int ((k : Nat) : Int))), o4], rfl, ?_, ⟨_, _, rfl⟩⟩
      have hz : szB (zca (rs.getD k ⟨[], 0, none⟩) t).length = true := zdi (by have := zix (r := rs.getD k ⟨[], 0, none⟩) ht; omega)
      rw [List.map_map]
      refine zqt rfl ?_ (by simpa using hb)
      simp! only [zce, zb9 rulD ⟨[], 0, none⟩ hk, zh9 n (rs.getD k ⟨[], 0, none⟩) t (hr.ok _ (zd4 hk)) ht, List.length_map, hz]
      rw [zfy (q := fun l => lD (k :: l)) (zca (rs.getD k ⟨[], 0, none⟩) t) ?h]
      case h =>
        intro l hl
        refine ⟨_, rfl, rfl, ?_⟩
        have := zot hl
        simp! only [lD]
        have e : dAdd (.tup [.int ((k : Nat) : Int)]) (.tup (l.map fun i => .int ((i : Nat) : Int))) = some (.tup ([.int ((k : Nat) : Int)] ++ l.map fun i => .int ((i : Nat) : Int))) := by
          simp only [dAdd, if_pos (show [D.int ((k : Nat) : Int)].length + (l.map fun i => D.int ((i : Nat) : Int)).length ≤ sizeLine from zdp (by simp; omega))]
        simp -implicitDefEqProofs only [e, a_fn, zd0, zcf, zc9, zcy, zc0, zc8, zba, za0, c_ok, zer, c_bl, zez, ze8, c_or, zcj, zfb, zef, zfg, zcm, a_tg, zc2, zb1, zfi, Res.bind_ok, Res.bind_ex, Res.bindS_ok, Res.bindS_ex, zcz, a_c, a_x2, a_o2, zcq, a_xN, zc3, ze9, a_o1, zee, zek, ze0, zb_, za9, zb2, zbp, zcu, zew, zfa, ze3, ze5, zet, zbx, za6, zax, zav, zar, zaz, zey, a_or, zbq, zb5, zeu, zfj, zeq, zcn, a_if, zeb, zcp, zby, zbc, zaw, za7, zbt, a_it, zau, zay, a_lc, zb7, zb4, zfe, ze6, zf_, zeh, zel, zfh, zem, zes, zen, zck, a_rd, Option.bind_some, zbu, zbr, zbv, zas, List.map_cons, List.map_nil, List.length_cons, List.length_nil, Nat.reduceSub, Nat.reduceAdd, List.replicate_succ, List.replicate_zero, List.cons_append, List.nil_append, List.append_nil, List.getElem?_cons_zero, List.getElem?_cons_succ, List.set_cons_zero, List.set_cons_succ, List.take_length, cond_true, cond_false, Bool.not_true, Bool.not_false, zd7, zej, zev, zei, zc5, zc1, zb0, zbd, zct, zcx, zeo, zea, zbs, zb3, za8, zbb, ze2, zci, zdy, zfc, zff, zcc, zcs, zep, zcw, ze4, zfd, ze7, zc7, zcr, zaq, zat, zch, za4, zal, Option.map_some, zan, zcg, zbk, za5, lit2, lit3, Bool.true_and, Bool.false_and, Bool.and_true, Bool.and_false, Bool.true_or, Bool.false_or, Bool.or_true, Bool.or_false, Bool.not_not, a_sl, zex, zed, zb6, zcv, zec, zc6, zc4, zco, zbw, zbm]
      simp! only []
      rfl
  obtain ⟨ρ', e, o3, o4, rfl⟩ := loop
  simp only [zce] at e
  simp! only [zce, List.length_map, zjg hs, e]
end T46
set_option maxHeartbeats 400000
namespace T46
open PySem PySem.Spec PyProof.Rows L2 DL
/-! ## the values that come -/
abbrev BIG : Int := 10000000000000000000000000000000000000000
def POOL : List Int := [0, 1, 2, 3, 5, 100000000000000000000000000000, 100000000000000000000000000001]
theorem pool_lt {v : Int} (h : v ∈ POOL) : 0 ≤ v ∧ v < BIG := by
  simp only [POOL, List.mem_cons, List.not_mem_nil, or_false] at h
  unfold BIG
  rcases h with rfl | rfl | rfl | rfl | rfl | rfl | rfl <;> decide
theorem pool_small {v : Int} (h0 : 0 ≤ v) (h1 : v < 4) : v ∈ POOL := by
  have : v = 0 ∨ v = 1 ∨ v = 2 ∨ v = 3 := by omega
  rcases this with rfl | rfl | rfl | rfl <;> decide
def okC (c : D) : Prop := zim c = true ∧ c.tiny = true ∧ ∀ ns : List Int, c = .tup (ns.map .int) → ∀ v ∈ ns, v < 4
def okV (c : D) (v : Int) : Prop := zfz c (.int v) = true ∧ v ∈ POOL
theorem isVal_nn {c : D} {v : Int} (h : zfz c (.int v) = true) : 0 ≤ v := by
  simp only [zfz, zl4, Bool.and_eq_true, decide_eq_true_eq] at h
  exact h.1
theorem pool_tiny {v : Int} (h : v ∈ POOL) : (D.int v).tiny = true := by
  have := pool_lt h
  simp only [D.tiny, decide_eq_true_eq]
  have e : (10 : Nat) ^ 40 = 10000000000000000000000000000000000000000 := by decide
  unfold BIG at this
  omega
theorem okV.tiny {c : D} {v : Int} (h : okV c v) : (D.int v).tiny = true := pool_tiny h.2
theorem zra {n : Nat} (h : n ≤ 1000000) : (D.int (n : Nat)).tiny = true := by
  simp only [D.tiny, decide_eq_true_eq]
  have e : (10 : Nat) ^ 40 = 10000000000000000000000000000000000000000 := by decide
  omega
theorem okV.t {c : D} {v : Int} (h : okV c v) : decide (v.natAbs < 10 ^ 40) = true := h.tiny
def primes : List Int := [2147483629, 2147483587, 2147483579, 2147483563, 2147483549, 2147483543, 2147483497, 2147483489, 2147483477, 2147483423, 2147483399, 2147483353, 2147483323]
theorem zq3 (k : Int) : ∃ p : Int, atI [D.int 2147483629, D.int 2147483587, D.int 2147483579, D.int 2147483563, D.int 2147483549, D.int 2147483543, D.int 2147483497, D.int 2147483489, D.int 2147483477, D.int 2147483423, D.int 2147483399, D.int 2147483353, D.int 2147483323] (k % 13) = some (.int p) ∧ 0 < p ∧ p < 2147483648 := by
  have h0 : 0 ≤ k % 13 := Int.emod_nonneg _ (by decide)
  have h1 : k % 13 < 13 := Int.emod_lt_of_pos _ (by decide)
  have e : atI (primes.map D.int) (((k % 13).toNat : Nat) : Int) = some (D.int (primes.getD (k % 13).toNat 0)) := zb9 D.int 0 (by simp [primes]; omega)
  rw [Int.toNat_of_nonneg h0] at e
  have hm : primes.getD (k % 13).toNat 0 ∈ primes := by
    rw [List.getD_eq_getElem?_getD, List.getElem?_eq_getElem (by simp [primes]; omega)]
    exact List.getElem_mem _
  have hb : ∀ p ∈ primes, 0 < p ∧ p < 2147483648 := by decide
  exact ⟨_, e, hb _ hm⟩
theorem p10_18 : dPow (.int 10) (.int 18) = some (.int 1000000000000000000) := dPow_i (i := 10) (j := 18) (by decide) (by decide)
theorem p10_17 : dPow (.int 10) (.int 17) = some (.int 100000000000000000) := dPow_i (i := 10) (j := 17) (by decide) (by decide)
theorem p10_29 : dPow (.int 10) (.int 29) = some (.int 100000000000000000000000000000) := dPow_i (i := 10) (j := 29) (by decide) (by decide)
theorem pow_s {i : Int} (h0 : 0 ≤ i) (h1 : i < 18446744073709551616) : dPow (.int i) (.int 3) = some (.int (i ^ 3)) ∧ dPow (.int i) (.int 5) = some (.int (i ^ 5)) := by
  have : i.natAbs < 2 ^ 64 := by
    have : i.natAbs < 18446744073709551616 := by omega
    exact this
  exact ⟨dPow_i (j := 3) this (by decide), dPow_i (j := 5) this (by decide)⟩
theorem zny (c : Int) (a : Nat) (ha : a ≤ 2147483648) (S : zae) : ∃ r : Int, zg0 [.dat (.int c), .dat (.int (a : Nat))] S = .ok (.dat (.int r)) S := by
  unfold zg0 zkg
  simp! only [p10_18]
  cases decide (c ≥ 1000000000000000000)
  · simp! only [dAdd_l]
    have m0 : dMod (.int c) (.int 1000000007) = some (.int (c % 1000000007)) := zhg (by decide)
    have m1 : zji (.int 2) (.int (a : Nat)) = some (.int (2 * (a : Nat))) := zn1 (zd5 (by decide) (by decide)) (zd5 (by omega) (by omega))
    have b0 : 0 ≤ c % 1000000007 := Int.emod_nonneg _ (by decide)
    have b1 : c % 1000000007 < 1000000007 := Int.emod_lt_of_pos _ (by decide)
    generalize c % 1000000007 = u at *
    have m2 : zji (.int u) (.int (2 * (a : Nat) + 69069)) = some (.int (u * (2 * (a : Nat) + 69069))) := zn1 (zd5 (by omega) (by omega)) (zd5 (by omega) (by omega))
    have m3 : zji (.int (a : Nat)) (.int 40503) = some (.int ((a : Nat) * 40503)) := zn1 (zd5 (by omega) (by omega)) (zd5 (by decide) (by decide))
    have b2 : 0 ≤ u * (2 * (a : Nat) + 69069) := Int.mul_nonneg b0 (by omega)
    have b3 : u * (2 * (a : Nat) + 69069) ≤ 1000000007 * 4295036365 := Int.mul_le_mul (by omega) (by omega) (by omega) (by decide)
    simp! only [m0, m1, m2, m3]
    generalize u * (2 * (a : Nat) + 69069) = x at *
    have q1 := (pow_s (i := x + (a : Nat) * 40503 + 977) (by omega) (by omega)).1
    have r0 : dMod (.int (a : Nat)) (.int 13) = some (.int (((a : Nat) : Int) % 13)) := zhg (by decide)
    obtain ⟨p, ep, p0, p1⟩ := zq3 (a : Nat)
    simp! only [q1, r0, ep, zhg p0]
    generalize (x + (a : Nat) * 40503 + 977) ^ 3 = y
    have c0 : 0 ≤ y % p := Int.emod_nonneg _ (by omega)
    have c1 : y % p < p := Int.emod_lt_of_pos _ p0
    generalize y % p = one at *
    have n0 : dMod (.int c) (.int 65537) = some (.int (c % 65537)) := zhg (by decide)
    have d0 : 0 ≤ c % 65537 := Int.emod_nonneg _ (by decide)
    have d1 : c % 65537 < 65537 := Int.emod_lt_of_pos _ (by decide)
    generalize c % 65537 = v at *
    have m4 : zji (.int one) (.int ((a : Nat) + 3)) = some (.int (one * ((a : Nat) + 3))) := zn1 (zd5 (by omega) (by omega)) (zd5 (by omega) (by omega))
    have b4 : 0 ≤ one * ((a : Nat) + 3) := Int.mul_nonneg c0 (by omega)
    have b5 : one * ((a : Nat) + 3) ≤ 2147483648 * 2147483651 := Int.mul_le_mul (by omega) (by omega) (by omega) (by decide)
    simp! only [n0, m4]
    generalize one * ((a : Nat) + 3) = z at *
    have q2 := (pow_s (i := z + (v + 5)) (by omega) (by omega)).2
    have r1 : dMod (.int ((a : Nat) + 5)) (.int 13) = some (.int ((((a : Nat) : Int) + 5) % 13)) := zhg (by decide)
    obtain ⟨p', ep', p0', p1'⟩ := zq3 ((a : Nat) + 5)
    simp! only [q2, r1, ep', zhg p0']
    generalize (z + (v + 5)) ^ 5 = y
    have c0' : 0 ≤ y % p' := Int.emod_nonneg _ (by omega)
    have c1' : y % p' < p' := Int.emod_lt_of_pos _ p0'
    generalize y % p' = two at *
    have n1 : dMod (.int one) (.int 1009) = some (.int (one % 1009)) := zhg (by decide)
    have e0 : 0 ≤ one % 1009 := Int.emod_nonneg _ (by decide)
    have e1 : one % 1009 < 1009 := Int.emod_lt_of_pos _ (by decide)
    simp! only [n1]
    generalize one % 1009 = w at *
    have q3 := (pow_s (i := two + w + (a : Nat)) (by omega) (by omega)).1
    have r2 : dMod (.int ((a : Nat) + 7)) (.int 13) = some (.int ((((a : Nat) : Int) + 7) % 13)) := zhg (by decide)
    obtain ⟨p2, ep2, p02, p12⟩ := zq3 ((a : Nat) + 7)
    have m5 : zji (.int one) (.int 2147483647) = some (.int (one * 2147483647)) := zn1 (zd5 (by omega) (by omega)) (zd5 (by decide) (by decide))
    have m6 : zji (.int (one * 2147483647 + two)) (.int 2147483647) = some (.int ((one * 2147483647 + two) * 2147483647)) := zn1 (zd5 (by omega) (by omega)) (zd5 (by decide) (by decide))
    simp! only [q3, r2, ep2, zhg p02, m5, m6]
    exact ⟨_, rfl⟩
  · simp! only []
    exact ⟨_, rfl⟩
theorem zgs {n : Nat} {T S : zae} (h : Pen n T S) (hn : n ≤ LIM) (m : Int) (m0 : 0 < m) (m1 : m ≤ 1000000000000) : ∃ (r : Nat) (S1 : zae), zbi [.obj 0, .dat (.int m)] S = .ok (.dat (.int (r : Nat))) S1 ∧ Pen (n + 1) T S1 ∧ (r : Int) < m := by
  have hn : n ≤ 2147483648 := hn
  obtain ⟨cells, a, cur, rfl, ha⟩ := h
  unfold zbi zmp
  simp! only []
  have fin : ∀ (cur : Int), 0 ≤ cur % m ∧ cur % m < m := fun cur => ⟨Int.emod_nonneg _ (by omega), Int.emod_lt_of_pos _ m0⟩
  have dd : ∀ cur : Int, dDiv (.int cur) (.int m) = some (.int (cur / m)) := fun cur => dDiv_i m0 (zd5 (by omega) (by omega))
  cases decide (cur < m)
  · simp! only [zhg m0, dd]
    exact ⟨(cur % m).toNat, _, by rw [Int.toNat_of_nonneg (fin cur).1], ⟨_, _, _, rfl, by omega⟩, by rw [Int.toNat_of_nonneg (fin cur).1]; exact (fin cur).2⟩
  · simp! only [List.length_map]
    cases h1 : decide (((a : Nat) : Int) < (cells.length : Nat))
    · simp! only [List.length_map]
      cases h2 : decide (((cells.length : Nat) : Int) > 0)
      · simp! only []
        obtain ⟨r, e⟩ := zny 0 a (by omega) (some (penL cells (a + 1) cur) :: T)
        simp! only [e, zhg m0, dd]
        exact ⟨(r % m).toNat, _, by rw [Int.toNat_of_nonneg (fin r).1], ⟨_, _, _, rfl, by omega⟩, by rw [Int.toNat_of_nonneg (fin r).1]; exact (fin r).2⟩
      · have h2 : (0 : Int) < cells.length := by simpa using h2
        have m5 : zji (.int (a : Nat)) (.int 5) = some (.int ((a : Nat) * 5)) := zn1 (zd5 (by omega) (by omega)) (zd5 (by decide) (by decide))
        have i0 : 0 ≤ ((a : Nat) * 5 + 3 : Int) % (cells.length : Nat) := Int.emod_nonneg _ (by omega)
        have i1 : ((a : Nat) * 5 + 3 : Int) % (cells.length : Nat) < (cells.length : Nat) := Int.emod_lt_of_pos _ h2
        have e1 : atI (cells.map .int) (((a : Nat) * 5 + 3 : Int) % (cells.length : Nat)) = some (D.int (cells.getD (((a : Nat) * 5 + 3 : Int) % (cells.length : Nat)).toNat 0)) := by
          have := zb9 (xs := cells) (n := (((a : Nat) * 5 + 3 : Int) % (cells.length : Nat)).toNat) D.int 0 (by omega)
          rwa [Int.toNat_of_nonneg i0] at this
        simp! only [m5, List.length_map, zhg h2, e1, p10_17, zhg (show (0 : Int) < 100000000000000000 + (a : Nat) by omega)]
        obtain ⟨r, e⟩ := zny ((cells.getD (((a : Nat) * 5 + 3 : Int) % (cells.length : Nat)).toNat 0) % (100000000000000000 + (a : Nat))) a (by omega) (some (penL cells (a + 1) cur) :: T)
        simp! only [e, zhg m0, dd]
        exact ⟨(r % m).toNat, _, by rw [Int.toNat_of_nonneg (fin r).1], ⟨_, _, _, rfl, by omega⟩, by rw [Int.toNat_of_nonneg (fin r).1]; exact (fin r).2⟩
    · have h1 : a < cells.length := by simpa using h1
      simp! only [zb9 D.int 0 h1]
      obtain ⟨r, e⟩ := zny (cells.getD a 0) a (by omega) (some (penL cells (a + 1) cur) :: T)
      simp! only [e, zhg m0, dd]
      exact ⟨(r % m).toNat, _, by rw [Int.toNat_of_nonneg (fin r).1], ⟨_, _, _, rfl, by omega⟩, by rw [Int.toNat_of_nonneg (fin r).1]; exact (fin r).2⟩
theorem anew_ok {n : Nat} {T S : zae} (h : Pen n T S) : ∃ S1, zid [.obj 0] S = .ok (.obj 0) S1 ∧ Pen n T S1 := by
  obtain ⟨cells, a, cur, rfl, ha⟩ := h
  unfold zid zmx
  simp! only [zn_, Nat.zero_lt_succ, if_true]
  exact ⟨_, rfl, _, _, _, rfl, ha⟩
theorem zn7 {n : Nat} {T S : zae} (h : Pen n T S) (hn : n ≤ LIM) (xs : List D) (h0 : 1 ≤ xs.length) (h1 : xs.length ≤ 1000000) (d : D) (hd : d = .lst xs ∨ d = .tup xs) :
    ∃ x S1, zdq [.obj 0, .dat d] S = .ok (.dat x) S1 ∧ Pen (n + 1) T S1 ∧ x ∈ xs := by
  unfold zdq zn2
  obtain ⟨r, S1, e, p, hr⟩ := zgs h hn (xs.length : Nat) (by omega) (by omega)
  have hr : r < xs.length := by omega
  have hx : atI xs (r : Nat) = some (xs.getD r .non) := zqh .non hr
  refine ⟨xs.getD r .non, S1, ?_, p, zd4 hr⟩
  rcases hd with rfl | rfl <;> simp! only [e, hx, p.take h.len]
theorem zq6 {n : Nat} {T S : zae} (h : Pen n T S) (hn : n ≤ LIM) (c : D) (hc : okC c) : ∃ (v : Int) (S1 : zae), zd6 [.obj 0, .dat c] S = .ok (.dat (.int v)) S1 ∧ Pen (n + 1) T S1 ∧ okV c v := by
  unfold zd6 zlc
  rcases zon hc.1 with rfl | ⟨ns, rfl, l0, l1, hns, _⟩
  · simp! only [D.isN, p10_29]
    obtain ⟨x, S1, e, p, hx⟩ := zn7 h hn [D.int 0, D.int 1, D.int 2, D.int 0, D.int 1, D.int 2, D.int 3, D.int 100000000000000000000000000000, D.int (100000000000000000000000000000 + 1)] (by simp) (by simp) _ (.inl rfl)
    simp! only [e, p.take h.len]
    have : ∃ v : Int, x = .int v ∧ 0 ≤ v ∧ v ∈ POOL := by
      simp only [List.mem_cons, List.not_mem_nil, or_false] at hx
      rcases hx with rfl | rfl | rfl | rfl | rfl | rfl | rfl | rfl | rfl <;> exact ⟨_, rfl, by decide⟩
    obtain ⟨v, rfl, hv⟩ := this
    exact ⟨v, S1, rfl, p, by simp [zfz, zl4, D.isN, hv.1], hv.2⟩
  · simp! only [D.isN]
    obtain ⟨x, S1, e, p, hx⟩ := zn7 h hn (ns.map .int) (by simpa using l0) (by simp; omega) _ (.inr rfl)
    simp! only [e, p.take h.len]
    obtain ⟨v, hv, rfl⟩ := List.mem_map.mp hx
    refine ⟨v, S1, rfl, p, by simp [zfz, zl4, D.isN, inC, zp_, hv, hns v hv], ?_⟩
    exact pool_small (hns v hv) (hc.2.2 ns rfl v hv)
def isC (c : D) : Bool := !c.isN
theorem columns_body {n : Nat} {T S : zae} (h : Pen n T S) (hn : n + 5 ≤ LIM) (cs : List D) (k : Nat) (o1 o2 o5 o6 : Option DV) (hcs : ∀ c ∈ cs, okC c) (hl : cs.length ≤ 8) (hk : (cs.filter isC).length = k) (hk2 : k ≤ 2) :
    ∃ (cs' : List D) (k' : Nat) (p5 p6 : Option DV) (S1 : zae), zfx [some (.obj 0), o1, o2, some (.dat (.tup cs)), some (.dat (.int (k : Nat))), o5, o6] S = .nx [some (.obj 0), o1, o2, some (.dat (.tup cs')), some (.dat (.int (k' : Nat))), p5, p6] S1 ∧
      Pen (n + 5) T S1 ∧ cs'.length = cs.length + 1 ∧ (∀ c ∈ cs', okC c) ∧ (cs'.filter isC).length = k' ∧ k' ≤ 2 := by
  unfold zfx
  obtain ⟨r, S1, e, p, hr⟩ := zgs h (by omega) 3 (by decide) (by decide)
  simp! only [e, rng1_1 (show r ≤ 1000000 by omega), List.length_map, List.length_range, zdi (show 1 + r ≤ 16777216 by omega)]
  obtain ⟨zs, S2, e2, p2, l2, q2⟩ := lc_pen (G := gNm 6) (t := zgh) (f := xN zbi (zac (xVar 0) (zac (xC (.int 4)) aNil))) (ρ := [some (.obj 0), o1, o2, some (.dat (.tup cs)), some (.dat (.int (k : Nat))), o5, none]) (T := T) (R := fun _ z => ∃ v : Int, z = .int v ∧ 0 ≤ v ∧ v < 4) (c := 1) ((List.range (1 + r)).map fun i => .int ((i : Nat) : Int)) (n + 1) S1 p (by simp; omega) (by
    intro c hcs m S hp hm
    obtain ⟨v, S1, e, p, hv⟩ := zgs hp (by omega) 4 (by decide) (by decide)
    exact ⟨_, .int ((v : Nat) : Int), S1, rfl, rfl, by simp! only [e], p, ⟨_, rfl, by omega, by omega⟩⟩)
  simp only [List.length_map, List.length_range] at l2 p2
  have hz : ∀ z ∈ zs, ∃ v : Int, z = .int v ∧ 0 ≤ v ∧ v < 4 := fun z hz => by
    obtain ⟨i, hi, rfl⟩ := List.mem_iff_getElem.mp hz
    exact q2 (((List.range (1 + r)).map fun i => D.int ((i : Nat) : Int))[i]'(by simp; omega), zs[i]) (by rw [List.mem_iff_getElem]; exact ⟨i, by simp; omega, by simp⟩)
  obtain ⟨ns, rfl⟩ := ints_of (zs := zs) fun z h => ⟨_, (hz z h).choose_spec.1⟩
  have hpos : ∀ v ∈ ns, 0 ≤ v ∧ v < 4 := fun v hv => by
    obtain ⟨u, e, h⟩ := hz (.int v) (List.mem_map_of_mem hv)
    cases e
    exact h
  simp only [List.length_map] at l2
  simp! only [e2, zcc, sort_ints ns (by omega)]
  have good : okC (.tup ((sset ns).map .int)) := by
    refine ⟨?_, tinys_iff.mpr fun x hx => by
      obtain ⟨v, hv, rfl⟩ := List.mem_map.mp hx
      have := hpos v ((zgz v ns).mp hv)
      have e := zra (n := v.toNat) (by omega)
      rwa [Int.toNat_of_nonneg this.1] at e, fun ms e v hv => by
      have e2 : (sset ns).map D.int = ms.map D.int := by injection e
      have : D.int v ∈ (sset ns).map D.int := by rw [e2]; exact List.mem_map_of_mem hv
      obtain ⟨u, hu, e3⟩ := List.mem_map.mp this
      cases e3
      exact (hpos v ((zgz v ns).mp hu)).2⟩
    have a1 := sset_len ns
    have a2 := sset_pos (l := ns) (by intro e; subst e; simp at l2; omega)
    simp only [zim, List.length_map, colB, ze_, sset_idem, decide_true, Bool.and_true, Bool.and_eq_true, decide_eq_true_eq, List.all_eq_true]
    refine ⟨by omega, fun z hz => ?_⟩
    obtain ⟨v, hv, rfl⟩ := List.mem_map.mp hz
    simp [zl4, (hpos v ((zgz v ns).mp hv)).1]
  have add1 : ∀ c : D, dAdd (.tup cs) (.tup [c]) = some (.tup (cs ++ [c])) := fun c => by
    rw [zjw]
    simp only [List.length_cons, List.length_nil, zdi (show cs.length + (0 + 1) ≤ 16777216 by omega), cond_true]
  have hnon : okC .non := ⟨rfl, rfl, fun ms e => nomatch e⟩
  have memb : ∀ c, okC c → ∀ d ∈ cs ++ [c], okC d := fun c hc d hd => by
    rcases List.mem_append.mp hd with h | h
    · exact hcs d h
    · simp at h; exact h ▸ hc
  by_cases hk3 : k < 2
  · have e3 : decide (((k : Nat) : Int) < 2) = true := by simp; omega
    obtain ⟨r3, S3, e4, p4, hr3⟩ := zgs p2 (by omega) 3 (by decide) (by decide)
    simp! only [e3, e4, zp8]
    cases h0 : (((r3 : Nat) : Int) == 0)
    · simp! only [add1]
      exact ⟨_, k, _, _, _, rfl, p4.mono (by omega), by simp, memb _ hnon, by simp [isC, D.isN, ← hk], hk2⟩
    · simp! only [add1]
      exact ⟨_, k + 1, _, _, _, rfl, p4.mono (by omega), by simp, memb _ good, by simp [isC, D.isN, ← hk], by omega⟩
  · have e3 : decide (((k : Nat) : Int) < 2) = false := by simp; omega
    simp! only [e3, add1]
    exact ⟨_, k, _, _, _, rfl, p2.mono (by omega), by simp, memb _ hnon, by simp [isC, D.isN, ← hk], hk2⟩
theorem columns_ok {n : Nat} {T S : zae} (h : Pen n T S) (hn : n + 21 ≤ LIM) : ∃ (cs : List D) (S1 : zae), zga [.obj 0, .dat (.int 4)] S = .ok (.dat (.tup cs)) S1 ∧ Pen (n + 21) T S1 ∧ zjc (.tup cs) = true ∧ ∀ c ∈ cs, okC c := by
  unfold zga zjn
  obtain ⟨r, S1, e, p, hr⟩ := zgs h (by omega) 4 (by decide) (by decide)
  simp! only [e, rng1_1 (show r ≤ 1000000 by omega)]
  obtain ⟨ρ', S2, e2, ⟨o2, cs, k, o5, o6, rfl, hl, hcs, hk, hk2⟩, p2⟩ := zl8 (enc := fun i : Nat => D.int ((i : Nat) : Int)) (G := gNm 2) (f := zfx) (T := T) (c := 5)
    (fun pre ρ => ∃ o2 cs k o5 o6, ρ = [some (.obj 0), some (.dat (.int 4)), o2, some (.dat (.tup cs)), some (.dat (.int ((k : Nat) : Int))), o5, o6] ∧ cs.length = pre.length ∧ (∀ c ∈ cs, okC c) ∧ (cs.filter isC).length = k ∧ k ≤ 2)
    (List.range (1 + r)) [] (n + 1) [some (.obj 0), some (.dat (.int 4)), none, some (.dat (.tup [])), some (.dat (.int 0)), none, none] S1 ⟨_, [], 0, _, _, rfl, rfl, by simp, rfl, by decide⟩ p (by simp; omega) (by
    rintro pre a post m ρ S hpp ⟨o2, cs, k, o5, o6, rfl, hl, hcs, hk, hk2⟩ hp hm
    have hlen : pre.length ≤ 8 := by
      have := congrArg List.length hpp
      simp at this
      omega
    obtain ⟨cs', k', p5, p6, S1, e, p, a1, a2, a3, a4⟩ := columns_body hp hm cs k (some (.dat (.int 4))) (some (.dat (.int ((a : Nat) : Int)))) o5 o6 hcs (by omega) hk hk2
    exact ⟨_, _, S1, rfl, e, ⟨_, cs', k', _, _, rfl, by simp; omega, a2, a3, a4⟩, p⟩)
  simp only [List.nil_append, List.length_range] at hl p2
  simp! only [e2, p2.take h.len]
  refine ⟨cs, S2, rfl, p2.mono (by omega), ?_, hcs⟩
  simp only [zjc, Bool.and_eq_true, decide_eq_true_eq, List.all_eq_true]
  refine ⟨by omega, fun c hc => (hcs c hc).1, ?_⟩
  have : (cs.filter fun c => !c.isN).length = k := hk
  omega
theorem zg3 (cs : List D) (r : Row) : zlz cs (rowD r) = true ↔ r.length = cs.length ∧ ∀ i, i < cs.length → zfz (cs.getD i .non) (.int (r.getD i 0)) = true := by
  simp only [zlz, rowD, List.length_map, Bool.and_eq_true, beq_iff_eq, List.all_eq_true]
  constructor
  · rintro ⟨h1, h2⟩
    have h1 : r.length = cs.length := by omega
    refine ⟨h1, fun i hi => ?_⟩
    have := h2 (cs.getD i .non, .int (r.getD i 0)) (by
      rw [List.mem_iff_getElem]
      refine ⟨i, by simp; omega, ?_⟩
      simp [List.getD_eq_getElem?_getD, List.getElem?_eq_getElem hi, List.getElem?_eq_getElem (show i < r.length by omega)])
    exact this
  · rintro ⟨h1, h2⟩
    refine ⟨by omega, fun p hp => ?_⟩
    obtain ⟨i, hi, rfl⟩ := List.mem_iff_getElem.mp hp
    simp only [List.length_zip, List.length_map] at hi
    have := h2 i (by omega)
    simpa [List.getD_eq_getElem?_getD, List.getElem?_eq_getElem (show i < cs.length by omega), List.getElem?_eq_getElem (show i < r.length by omega)] using this
theorem row_ok {n : Nat} {T S : zae} (h : Pen n T S) (hn : n + 4 ≤ LIM) (cs : List D) (hc : ∀ c ∈ cs, okC c) (hl : cs.length ≤ 4) : ∃ (r : Row) (S1 : zae), zhw [.obj 0, .dat (.tup cs)] S = .ok (.dat (rowD r)) S1 ∧ Pen (n + 4) T S1 ∧ zlz cs (rowD r) = true ∧ ∀ v ∈ r, v ∈ POOL := by
  unfold zhw zof
  simp! only [zdi (show cs.length ≤ 16777216 by omega)]
  obtain ⟨zs, S1, e, p, l, q⟩ := lc_pen (G := gNm 2) (t := zgh) (f := xN zd6 (zac (xVar 0) (zac (xVar 2) aNil))) (ρ := [some (.obj 0), some (.dat (.tup cs)), none]) (T := T) (R := fun c z => ∃ v : Int, z = .int v ∧ okV c v) (c := 1) cs n S h (by omega) (by
    intro c hcs m S hp hm
    obtain ⟨v, S1, e, p, hv⟩ := zq6 hp (by omega) c (hc c hcs)
    exact ⟨_, _, S1, rfl, rfl, by simp! only [e], p, ⟨v, rfl, hv⟩⟩)
  obtain ⟨r, rfl⟩ := ints_of (zs := zs) fun z hz => by
    obtain ⟨i, hi, rfl⟩ := List.mem_iff_getElem.mp hz
    have := q (cs[i]'(by omega), zs[i]) (by rw [List.mem_iff_getElem]; exact ⟨i, by simp; omega, by simp⟩)
    exact ⟨_, this.choose_spec.1⟩
  simp! only [e]
  refine ⟨r, S1, ?_, p.mono (by omega), ?_, fun v hv => ?_⟩
  · rw [p.take h.len]
    rfl
  · simp only [zlz, rowD, Bool.and_eq_true, beq_iff_eq, List.all_eq_true]
    refine ⟨by omega, fun p hp => ?_⟩
    obtain ⟨v, e, hv⟩ := q p hp
    rw [e]
    exact hv.1
  · obtain ⟨i, hi, rfl⟩ := List.mem_iff_getElem.mp hv
    have l' : i < cs.length := by simp at l; omega
    obtain ⟨u, e, hu⟩ := q (cs[i], .int r[i]) (by rw [List.mem_iff_getElem]; exact ⟨i, by simp; omega, by simp⟩)
    cases e
    exact hu.2
theorem isRow_set {cs : List D} {r s : Row} (a : Nat) (hr : zlz cs (rowD r) = true) (hs : zlz cs (rowD s) = true) (ha : a < cs.length) : zlz cs (rowD (s.set a (r.getD a 0))) = true := by
  rw [zg3] at *
  refine ⟨by simpa using hs.1, fun i hi => ?_⟩
  by_cases h : a = i
  · subst h
    have : a < s.length := by rw [hs.1]; exact ha
    have e : (s.set a (r.getD a 0)).getD a 0 = r.getD a 0 := by
      rw [List.getD_eq_getElem?_getD, List.getElem?_set_self this]
      rfl
    rw [e]
    exact hr.2 a hi
  · have e : (s.set a (r.getD a 0)).getD i 0 = s.getD i 0 := by
      rw [List.getD_eq_getElem?_getD, List.getElem?_set_ne h, List.getD_eq_getElem?_getD]
    rw [e]
    exact hs.2 i hi
def RowOK (cs : List D) (r : Row) : Prop := zlz cs (rowD r) = true ∧ ∀ v ∈ r, v ∈ POOL
theorem RowOK.set {cs : List D} {r s : Row} (a : Nat) (hr : RowOK cs r) (hs : RowOK cs s) (ha : a < cs.length) : RowOK cs (s.set a (r.getD a 0)) := by
  refine ⟨isRow_set a hr.1 hs.1 ha, fun v hv => ?_⟩
  rcases List.mem_or_eq_of_mem_set hv with h | h
  · exact hs.2 v h
  · rw [h]
    have l := ((zg3 cs r).mp hr.1).1
    exact hr.2 _ (zd4 (by omega))
theorem table_body {n : Nat} {T S : zae} (h : Pen n T S) (hn : n + 7 ≤ LIM) (cs : List D) (hc : ∀ c ∈ cs, okC c) (h0 : 1 ≤ cs.length) (hl : cs.length ≤ 4) (t : Tab) (k : Nat) (hk : t.length = k) (hk8 : k ≤ 8) (ht : ∀ r ∈ t, RowOK cs r) (o2 o5 o6 o7 : Option DV) :
    ∃ (r : Row) (p5 p6 p7 : Option DV) (S1 : zae), zge [some (.obj 0), some (.dat (.tup cs)), o2, some (.dat (tabD t)), some (.dat (.int (k : Nat))), o5, o6, o7] S = .nx [some (.obj 0), some (.dat (.tup cs)), o2, some (.dat (tabD (t ++ [r]))), some (.dat (.int (k : Nat))), p5, p6, p7] S1 ∧
      Pen (n + 7) T S1 ∧ RowOK cs r := by
  unfold zge
  obtain ⟨r, S1, e, p, hr⟩ := row_ok h (by omega) cs hc hl
  have add1 : ∀ r : Row, dAdd (tabD t) (.tup [rowD r]) = some (tabD (t ++ [r])) := fun c => by
    simp only [tabD]
    rw [zjw]
    simp only [List.length_cons, List.length_nil, List.length_map, zdi (show t.length + (0 + 1) ≤ 16777216 by omega), cond_true, List.map_append, List.map_cons, List.map_nil]
  simp! only [e]
  by_cases hk0 : k = 0
  · have e3 : decide (((k : Nat) : Int) > 0) = false := by simp; omega
    simp! only [e3, add1]
    exact ⟨r, _, _, _, _, rfl, p.mono (by omega), hr⟩
  · have e3 : decide (((k : Nat) : Int) > 0) = true := by simp; omega
    obtain ⟨r3, S3, e4, p4, hr3⟩ := zgs p (by omega) 2 (by decide) (by decide)
    simp! only [e3, e4, zp8]
    cases hq : (((r3 : Nat) : Int) == 0)
    · simp! only [add1]
      exact ⟨r, _, _, _, _, rfl, p4.mono (by omega), hr⟩
    · obtain ⟨a, S4, e5, p5, ha⟩ := zgs p4 (by omega) (cs.length : Nat) (by omega) (by omega)
      have ha : a < cs.length := by omega
      obtain ⟨x, S5, e6, p6, hx⟩ := zn7 p5 (by omega) (t.map rowD) (by rw [List.length_map]; omega) (by rw [List.length_map]; omega) (tabD t) (.inr rfl)
      obtain ⟨s, hs, rfl⟩ := List.mem_map.mp hx
      have hs' := ht s hs
      have l1 := ((zg3 cs s).mp hs'.1).1
      have l2 := ((zg3 cs r).mp hr.1).1
      have mix : dAdd (.tup ((s.map D.int).take a)) (.tup (((r.map D.int).drop a).take 1)) = some (.tup ((s.map D.int).take a ++ ((r.map D.int).drop a).take 1)) := by
        rw [zjw]
        simp only [zdi (show ((s.map D.int).take a).length + (((r.map D.int).drop a).take 1).length ≤ 16777216 by simp; omega), cond_true]
      have mix2 : dAdd (.tup ((s.map D.int).take a ++ ((r.map D.int).drop a).take 1)) (.tup ((s.map D.int).drop (a + 1))) = some (rowD (s.set a (r.getD a 0))) := by
        rw [zjw]
        simp only [zdi (show ((s.map D.int).take a ++ ((r.map D.int).drop a).take 1).length + ((s.map D.int).drop (a + 1)).length ≤ 16777216 by simp; omega), cond_true]
        rw [mix_set (s.map D.int) (r.map D.int) a (D.int 0) (by simp; omega) (by simp; omega)]
        simp only [rowD, List.map_set]
        congr 4
        simp [List.getD_eq_getElem?_getD, List.getElem?_eq_getElem (show a < r.length by omega)]
      simp! only [e5, e6]
      simp! only [rowD, zm4, cut_mid1, ziv, mix, mix2]
      have add2 := add1 (s.set a (r.getD a 0))
      simp only [rowD] at add2
      simp! only [add2]
      exact ⟨_, _, _, _, _, rfl, p6.mono (by omega), RowOK.set a hr hs' ha⟩
theorem table_ok {n : Nat} {T S : zae} (h : Pen n T S) (m : Nat) (hm : m ≤ 8) (hn : n + 56 ≤ LIM) (cs : List D) (hc : ∀ c ∈ cs, okC c) (h0 : 1 ≤ cs.length) (hl : cs.length ≤ 4) :
    ∃ (t : Tab) (S1 : zae), zhm [.obj 0, .dat (.tup cs), .dat (.int (m : Nat))] S = .ok (.dat (tabD t)) S1 ∧ Pen (n + 56) T S1 ∧ t.length = m ∧ ∀ r ∈ t, RowOK cs r := by
  unfold zhm zlt
  simp! only [zjg (zdp (show m ≤ 16000000 by omega))]
  obtain ⟨ρ', S2, e2, ⟨t, o4, o5, o6, o7, rfl, hl', ht⟩, p2⟩ := zl8 (enc := fun i : Nat => D.int ((i : Nat) : Int)) (G := gNm 4) (f := zge) (T := T) (c := 7)
    (fun pre ρ => ∃ t o4 o5 o6 o7, ρ = [some (.obj 0), some (.dat (.tup cs)), some (.dat (.int ((m : Nat) : Int))), some (.dat (tabD t)), o4, o5, o6, o7] ∧ t.length = pre.length ∧ ∀ r ∈ t, RowOK cs r)
    (List.range m) [] n [some (.obj 0), some (.dat (.tup cs)), some (.dat (.int ((m : Nat) : Int))), some (.dat (.tup [])), none, none, none, none] S ⟨[], _, _, _, _, rfl, rfl, fun r hr => nomatch hr⟩ h (by simp; omega) (by
    rintro pre a post m' ρ S hpp ⟨t, o4, o5, o6, o7, rfl, hlt, ht⟩ hp hm'
    obtain ⟨ha, ha2⟩ := znr (by simpa using hpp)
    obtain ⟨r, p5, p6, p7, S1, e, p, hr⟩ := table_body hp hm' cs hc h0 hl t a (by omega) (by omega) ht (some (.dat (.int ((m : Nat) : Int)))) o5 o6 o7
    refine ⟨_, _, S1, rfl, e, ⟨t ++ [r], _, _, _, _, rfl, by simp; omega, fun q hq => ?_⟩, p⟩
    rcases List.mem_append.mp hq with hq | hq
    · exact ht q hq
    · simp at hq; exact hq ▸ hr)
  simp only [List.nil_append, List.length_range] at hl' p2
  simp! only [e2, p2.take h.len]
  exact ⟨t, S2, rfl, p2.mono (by omega), hl', ht⟩
theorem tab_of {cs : List D} {t : Tab} (hl : t.length ≤ 8) (ht : ∀ r ∈ t, zlz cs (rowD r) = true) : isTab cs (tabD t) = true ∧ okT cs.length t := by
  refine ⟨?_, hl, fun r hr => ((zg3 cs r).mp (ht r hr)).1⟩
  simp only [isTab, tabD, List.length_map, Bool.and_eq_true, Bool.not_eq_true', decide_eq_false_iff_not, List.all_eq_true]
  refine ⟨by omega, fun x hx => ?_⟩
  obtain ⟨r, hr, rfl⟩ := List.mem_map.mp hx
  exact ht r hr
structure RG (cs : List D) (c : Nat) (w : Option Int) (m : Nat) (g : Giv) : Prop where
  lt : ∀ p ∈ g, p.1 < m ∧ p.1 ≠ c
  val : ∀ p ∈ g, ∀ v, p.2 = some v → okV (cs.getD p.1 .non) v
  want : w ≠ none → ∀ p ∈ g, p.2 ≠ none
  inc : (g.map (·.1)).Pairwise (· < ·)
  len : g.length ≤ m
theorem RG.mono {cs : List D} {c : Nat} {w : Option Int} {m m' : Nat} {g : Giv} (h : RG cs c w m g) (k : m ≤ m') : RG cs c w m' g :=
  ⟨fun p hp => ⟨Nat.lt_of_lt_of_le (h.lt p hp).1 k, (h.lt p hp).2⟩, h.val, h.want, h.inc, Nat.le_trans h.len k⟩
theorem RG.snoc {cs : List D} {c : Nat} {w : Option Int} {m : Nat} {g : Giv} (h : RG cs c w m g) (o : Option Int) (h1 : m ≠ c) (h2 : ∀ v, o = some v → okV (cs.getD m .non) v) (h3 : w ≠ none → o ≠ none) : RG cs c w (m + 1) (g ++ [(m, o)]) := by
  refine ⟨fun p hp => ?_, fun p hp => ?_, fun hw p hp => ?_, ?_, ?_⟩
  · rcases List.mem_append.mp hp with hp | hp
    · exact ⟨Nat.lt_succ_of_lt (h.lt p hp).1, (h.lt p hp).2⟩
    · simp at hp; subst hp; exact ⟨Nat.lt_succ_self _, h1⟩
  · rcases List.mem_append.mp hp with hp | hp
    · exact h.val p hp
    · simp at hp; subst hp; exact h2
  · rcases List.mem_append.mp hp with hp | hp
    · exact h.want hw p hp
    · simp at hp; subst hp; exact h3 hw
  · rw [List.map_append, List.pairwise_append]
    refine ⟨h.inc, by simp, fun x hx y hy => ?_⟩
    obtain ⟨p, hp, rfl⟩ := List.mem_map.mp hx
    simp at hy
    subst hy
    exact (h.lt p hp).1
  · have := h.len
    simp
    omega
theorem rule_body {n : Nat} {T S : zae} (h : Pen n T S) (hn : n + 2 ≤ LIM) (cs : List D) (hc : ∀ c ∈ cs, okC c) (hl : cs.length ≤ 4) (c : Nat) (w : Option Int) (g : Giv) (k : Nat) (hk : k < cs.length) (G : RG cs c w k g) (o6 : Option DV) :
    ∃ (g' : Giv) (p6 : Option DV) (S1 : zae), zgy [some (.obj 0), some (.dat (.tup cs)), some (.dat (.int (c : Nat))), some (.dat (oD w)), some (.dat (gD g)), some (.dat (.int (k : Nat))), o6] S = .nx [some (.obj 0), some (.dat (.tup cs)), some (.dat (.int (c : Nat))), some (.dat (oD w)), some (.dat (gD g')), some (.dat (.int (k : Nat))), p6] S1 ∧
      Pen (n + 2) T S1 ∧ RG cs c w (k + 1) g' := by
  unfold zgy
  obtain ⟨r, S1, e, p, hr⟩ := zgs h (by omega) 5 (by decide) (by decide)
  have add1 : ∀ o : Option Int, dAdd (gD g) (.tup [.tup [.int (k : Nat), oD o]]) = some (gD (g ++ [(k, o)])) := fun o => by
    have := G.len
    simp only [gD]
    rw [zjw]
    simp only [List.length_cons, List.length_nil, List.length_map, zdi (show g.length + (0 + 1) ≤ 16777216 by omega), cond_true, List.map_append, List.map_cons, List.map_nil, eD]
  have addS : ∀ v : Int, dAdd (gD g) (.tup [.tup [.int (k : Nat), .int v]]) = some (gD (g ++ [(k, some v)])) := fun v => add1 (some v)
  have addN : dAdd (gD g) (.tup [.tup [.int (k : Nat), .non]]) = some (gD (g ++ [(k, none)])) := add1 none
  simp! only [e, zk4]
  cases h1 : (((k : Nat) : Int) == ((c : Nat) : Int))
  · have hkc : k ≠ c := by
      have := (beq_eq_false_iff_ne).mp h1
      omega
    simp! only []
    cases h2 : decide (((r : Nat) : Int) < 2)
    · simp! only [zp8, zki]
      cases h3 : (((r : Nat) : Int) == 2)
      · simp! only []
        exact ⟨g, _, _, rfl, p.mono (by omega), G.mono (by omega)⟩
      · simp! only [zki]
        cases w with
        | none =>
          simp -implicitDefEqProofs only [Option.isNone_none, a_fn, zd0, zcf, zc9, zcy, zc0, zc8, zba, za0, c_ok, zer, c_bl, zez, ze8, c_or, zcj, zfb, zef, zfg, zcm, a_tg, zc2, zb1, zfi, Res.bind_ok, Res.bind_ex, Res.bindS_ok, Res.bindS_ex, zcz, a_c, a_x2, a_o2, zcq, a_xN, zc3, ze9, a_o1, zee, zek, ze0, zb_, za9, zb2, zbp, zcu, zew, zfa, ze3, ze5, zet, zbx, za6, zax, zav, zar, zaz, zey, a_or, zbq, zb5, zeu, zfj, zeq, zcn, a_if, zeb, zcp, zby, zbc, zaw, za7, zbt, a_it, zau, zay, a_lc, zb7, zb4, zfe, ze6, zf_, zeh, zel, zfh, zem, zes, zen, zck, a_rd, Option.bind_some, zbu, zbr, zbv, zas, List.map_cons, List.map_nil, List.length_cons, List.length_nil, Nat.reduceSub, Nat.reduceAdd, List.replicate_succ, List.replicate_zero, List.cons_append, List.nil_append, List.append_nil, List.getElem?_cons_zero, List.getElem?_cons_succ, List.set_cons_zero, List.set_cons_succ, List.take_length, cond_true, cond_false, Bool.not_true, Bool.not_false, zd7, zej, zev, zei, zc5, zc1, zb0, zbd, zct, zcx, zeo, zea, zbs, zb3, za8, zbb, ze2, zci, zdy, zfc, zff, zcc, zcs, zep, zcw, ze4, zfd, ze7, zc7, zcr, zaq, zat, zch, za4, zal, Option.map_some, zan, zcg, zbk, za5, lit2, lit3, Bool.true_and, Bool.false_and, Bool.and_true, Bool.and_false, Bool.true_or, Bool.false_or, Bool.or_true, Bool.or_false, Bool.not_not, a_sl, zex, zed, zb6, zcv, zec, zc6, zc4, zco, zbw, zbm, addN]
          exact ⟨_, _, _, rfl, p.mono (by omega), G.snoc none hkc (fun v hv => nomatch hv) (fun hw => absurd rfl hw)⟩
        | some v =>
          simp -implicitDefEqProofs only [Option.isNone_some, a_fn, zd0, zcf, zc9, zcy, zc0, zc8, zba, za0, c_ok, zer, c_bl, zez, ze8, c_or, zcj, zfb, zef, zfg, zcm, a_tg, zc2, zb1, zfi, Res.bind_ok, Res.bind_ex, Res.bindS_ok, Res.bindS_ex, zcz, a_c, a_x2, a_o2, zcq, a_xN, zc3, ze9, a_o1, zee, zek, ze0, zb_, za9, zb2, zbp, zcu, zew, zfa, ze3, ze5, zet, zbx, za6, zax, zav, zar, zaz, zey, a_or, zbq, zb5, zeu, zfj, zeq, zcn, a_if, zeb, zcp, zby, zbc, zaw, za7, zbt, a_it, zau, zay, a_lc, zb7, zb4, zfe, ze6, zf_, zeh, zel, zfh, zem, zes, zen, zck, a_rd, Option.bind_some, zbu, zbr, zbv, zas, List.map_cons, List.map_nil, List.length_cons, List.length_nil, Nat.reduceSub, Nat.reduceAdd, List.replicate_succ, List.replicate_zero, List.cons_append, List.nil_append, List.append_nil, List.getElem?_cons_zero, List.getElem?_cons_succ, List.set_cons_zero, List.set_cons_succ, List.take_length, cond_true, cond_false, Bool.not_true, Bool.not_false, zd7, zej, zev, zei, zc5, zc1, zb0, zbd, zct, zcx, zeo, zea, zbs, zb3, za8, zbb, ze2, zci, zdy, zfc, zff, zcc, zcs, zep, zcw, ze4, zfd, ze7, zc7, zcr, zaq, zat, zch, za4, zal, Option.map_some, zan, zcg, zbk, za5, lit2, lit3, Bool.true_and, Bool.false_and, Bool.and_true, Bool.and_false, Bool.true_or, Bool.false_or, Bool.or_true, Bool.or_false, Bool.not_not, a_sl, zex, zed, zb6, zcv, zec, zc6, zc4, zco, zbw, zbm]
          exact ⟨g, _, _, rfl, p.mono (by omega), G.mono (by omega)⟩
    · obtain ⟨v, S2, e2, p2, hv⟩ := zq6 p (by omega) (cs.getD k .non) (hc _ (zd4 hk))
      simp! only [zqh D.non hk, e2, addS]
      exact ⟨_, _, _, rfl, p2.mono (by omega), G.snoc (some v) hkc (fun u hu => by cases hu; exact hv) (fun _ => by simp)⟩
  · simp! only []
    exact ⟨g, _, _, rfl, p.mono (by omega), G.mono (by omega)⟩
theorem isRul_of {cs : List D} {c : Nat} {w : Option Int} {g : Giv} (hc : c < cs.length) (G : RG cs c w cs.length g) (hw : ∀ v, w = some v → okV (cs.getD c .non) v) : znf cs (rulD ⟨g, c, w⟩) = true := by
  have e1 : (g.map eD).map fstI = (g.map (·.1)).map fun k => ((k : Nat) : Int) := by
    simp [List.map_map, Function.comp_def, eD, fstI]
  have e2 : ((g.map (·.1)).map fun k => ((k : Nat) : Int)).Pairwise (· < ·) := by
    rw [List.pairwise_map]
    exact G.inc.imp fun h => by omega
  have a1 : zqp cs (gD g) = true := by
    simp only [zqp, gD, Bool.and_eq_true, decide_eq_true_eq, List.all_eq_true, e1]
    refine ⟨fun x hx => ?_, (zkd e2).symm⟩
    obtain ⟨p, hp, rfl⟩ := List.mem_map.mp hx
    have l := (G.lt p hp).1
    simp only [eD, zmd, zlm, colAt, Bool.and_eq_true, decide_eq_true_eq, Bool.or_eq_true]
    refine ⟨by omega, ?_⟩
    cases h2 : p.2 with
    | none => exact .inl rfl
    | some v => exact .inr (by simpa [oD] using (G.val p hp v h2).1)
  have a2 : inC (.int (c : Nat)) (.tup ((zgq (gD g)).map fun e => .int (fstI e))) = false := by
    have e3 : ((zgq (gD g)).map fun e => D.int (fstI e)) = ((g.map eD).map fstI).map .int := by simp [zgq, gD]
    rw [e3, e1]
    simp only [inC, zp_, decide_eq_false_iff_not]
    intro hm
    obtain ⟨k, hk, e⟩ := List.mem_map.mp hm
    obtain ⟨p, hp, rfl⟩ := List.mem_map.mp hk
    exact (G.lt p hp).2 (by omega)
  simp only [rulD, znf, a1, a2, Bool.true_and, Bool.not_false, Bool.and_true, zlm, colAt, Bool.and_eq_true, decide_eq_true_eq, Bool.or_eq_true, List.all_eq_true]
  refine ⟨by omega, ?_⟩
  cases w with
  | none => exact .inl rfl
  | some v =>
    refine .inr ⟨by simpa [oD] using (hw v rfl).1, fun x hx => ?_⟩
    obtain ⟨p, hp, rfl⟩ := List.mem_map.mp hx
    have := G.want (by simp) p hp
    cases h2 : p.2 with
    | none => exact absurd h2 this
    | some u => simp [eD, oD, h2, D.isN]
structure GR (cs : List D) (r : Rul) : Prop where
  is : znf cs (rulD r) = true
  G : RG cs r.c r.w cs.length r.g
  hw : ∀ v, r.w = some v → okV (cs.getD r.c .non) v
  ok : okR cs.length r
  sh : r.g.length < 64
theorem rule_ok {n : Nat} {T S : zae} (h : Pen n T S) (hn : n + 11 ≤ LIM) (cs : List D) (hc : ∀ c ∈ cs, okC c) (h0 : 1 ≤ cs.length) (hl : cs.length ≤ 4) :
    ∃ (r : Rul) (S1 : zae), zh5 [.obj 0, .dat (.tup cs)] S = .ok (.dat (rulD r)) S1 ∧ Pen (n + 11) T S1 ∧ GR cs r := by
  unfold zh5 zm5
  obtain ⟨c, S1, e1, p1, hcl⟩ := zgs h (by omega) (cs.length : Nat) (by omega) (by omega)
  have hcl : c < cs.length := by omega
  obtain ⟨v, S2, e2, p2, hv⟩ := zq6 p1 (by omega) (cs.getD c .non) (hc _ (zd4 hcl))
  obtain ⟨x, S3, e3, p3, hx⟩ := zn7 p2 (by omega) [D.non, D.non, D.int v] (by simp) (by simp) _ (.inl rfl)
  have hw : ∃ w : Option Int, x = oD w ∧ ∀ u, w = some u → okV (cs.getD c .non) u := by
    simp only [List.mem_cons, List.not_mem_nil, or_false] at hx
    rcases hx with rfl | rfl | rfl
    · exact ⟨none, rfl, fun u hu => nomatch hu⟩
    · exact ⟨none, rfl, fun u hu => nomatch hu⟩
    · exact ⟨some v, rfl, fun u hu => by cases hu; exact hv⟩
  obtain ⟨w, rfl, hw⟩ := hw
  simp! only [e1, zqh D.non hcl, e2, e3, zjg (zdp (show cs.length ≤ 16000000 by omega))]
  obtain ⟨ρ', S4, e4, ⟨g, o5, o6, rfl, G⟩, p4⟩ := zl8 (enc := fun i : Nat => D.int ((i : Nat) : Int)) (G := gNm 5) (f := zgy) (T := T) (c := 2)
    (fun pre ρ => ∃ g o5 o6, ρ = [some (.obj 0), some (.dat (.tup cs)), some (.dat (.int ((c : Nat) : Int))), some (.dat (oD w)), some (.dat (gD g)), o5, o6] ∧ RG cs c w pre.length g)
    (List.range cs.length) [] (n + 1 + 1 + 1) [some (.obj 0), some (.dat (.tup cs)), some (.dat (.int ((c : Nat) : Int))), some (.dat (oD w)), some (.dat (.tup [])), none, none] S3 ⟨[], _, _, rfl, ⟨(fun p hp => nomatch hp), (fun p hp => nomatch hp), (fun _ p hp => nomatch hp), by simp, by simp⟩⟩ p3 (by simp; omega) (by
    rintro pre a post m' ρ S hpp ⟨g, o5, o6, rfl, G⟩ hp hm'
    obtain ⟨ha, ha2⟩ := znr (by simpa using hpp)
    obtain ⟨g', p6, S1, e, p, G'⟩ := rule_body hp hm' cs hc hl c w g a ha2 (by rw [ha]; exact G) o6
    exact ⟨_, _, S1, rfl, e, ⟨g', _, _, rfl, by rw [List.length_append, ← ha]; exact G'⟩, p⟩)
  simp only [List.nil_append, List.length_range] at G p4
  simp! only [e4, p4.take h.len]
  have gl := G.len
  exact ⟨⟨g, c, w⟩, S4, rfl, p4.mono (by omega), isRul_of hcl G hw, G, hw, ⟨⟨fun p hp => (G.lt p hp).1, by show g.length ≤ 64; omega⟩, hcl⟩, by show g.length < 64; omega⟩
theorem GR.of {cs : List D} {r : Rul} (hcl : r.c < cs.length) (G : RG cs r.c r.w cs.length r.g) (hw : ∀ v, r.w = some v → okV (cs.getD r.c .non) v) (hl : cs.length ≤ 4) : GR cs r :=
  ⟨isRul_of hcl G hw, G, hw, ⟨⟨fun p hp => (G.lt p hp).1, by have := G.len; omega⟩, hcl⟩, by have := G.len; omega⟩
theorem open_body (cells : List Int) (hl : cells.length = 12) (ns : List Int) (k : Nat) (v : Int) : ∃ cells' : List Int, cells'.length = 12 ∧
    zf3 [some (.scr ns), some (.obj 0), some (.dat (.int (k : Nat))), some (.dat (.int v))] [some (cells.map .int)] = .nx [some (.scr ns), some (.obj 0), some (.dat (.int (k : Nat))), some (.dat (.int v))] [some (cells'.map .int)] := by
  unfold zf3
  have m : dMod (.int (k : Nat)) (.int 12) = some (.int (((k % 12 : Nat) : Int))) := by rw [zhg (by decide)]; congr 1
  have hk : k % 12 < cells.length := by omega
  simp! only [m, zb9 D.int 0 hk]
  have e : ixN (cells.map D.int).length ((k % 12 : Nat) : Int) = some (k % 12) := by
    unfold ixN
    rw [if_pos (by omega), if_pos (by simp; omega), Int.toNat_natCast]
  refine ⟨cells.set (k % 12) (cells.getD (k % 12) 0 + v), by simpa using hl, ?_⟩
  simp only [zrg, DL.zdx, List.getElem?_cons_zero, e, List.set_cons_zero, List.map_set]
theorem open_ok (ns : List Int) (hn : ns.length ≤ 63) : ∃ S, zh3 [.scr ns] [] = .ok (.obj 0) S ∧ Pen 0 [] S := by
  unfold zh3 zml
  have c1 : cutL ns none (some 12) = ns.take 12 := zm4 ns 12
  have c2 : cutL ns (some 12) (some 63) = (ns.drop 12).take 51 := cut_mid ns 12 63 (by decide)
  simp! only [a_retN, a_list, c1, c2, zp9]
  have loop : ∃ ρ' S', zfl (gTp (gCo (gNm 2) (gCo (gNm 3) gNo))) zf3 ((((ns.drop 12).take 51).zipIdx.map fun p => (p.2, p.1)).map fun p => zoe (.int ((p.1 : Nat) : Int)) (.int p.2)) [some (.scr ns), some (.obj 0), none, none] [some ((ns.take 12).map .int)] = .nx ρ' S' ∧ ∃ o2 o3, ∃ cells : List Int, ρ' = [some (.scr ns), some (.obj 0), o2, o3] ∧ S' = [some (cells.map .int)] := by
    obtain ⟨ρ', S', e, o2, o3, cells, h1, h2, _⟩ := zk7 (enc := fun p : Nat × Int => zoe (.int ((p.1 : Nat) : Int)) (.int p.2)) (G := gTp (gCo (gNm 2) (gCo (gNm 3) gNo))) (f := zf3) (fun _ ρ S => ∃ o2 o3, ∃ cells : List Int, ρ = [some (.scr ns), some (.obj 0), o2, o3] ∧ S = [some (cells.map .int)] ∧ (ns.length > 12 → cells.length = 12)) (((ns.drop 12).take 51).zipIdx.map fun p => (p.2, p.1)) [] [some (.scr ns), some (.obj 0), none, none] [some ((ns.take 12).map .int)] ⟨_, _, ns.take 12, rfl, rfl, fun h => by simp; omega⟩ (by
      rintro pre a post ρ S hpp ⟨o2, o3, cells, rfl, rfl, hc⟩
      have hlen : ns.length > 12 := by
        have := congrArg List.length hpp
        simp at this
        omega
      obtain ⟨cells', l', e⟩ := open_body cells (hc hlen) ns a.1 a.2
      exact ⟨_, _, _, rfl, .inl e, ⟨_, _, cells', rfl, rfl, fun _ => l'⟩⟩)
    exact ⟨ρ', S', e, o2, o3, cells, h1, h2⟩
  obtain ⟨ρ', S', e, o2, o3, cells, rfl, rfl⟩ := loop
  simp! only [e, DL.zdx, a_retN]
  exact ⟨_, rfl, cells, 0, 0, rfl, Nat.le_refl _⟩
end T46
set_option maxHeartbeats 400000
namespace T46
open PySem PySem.Spec PyProof.Rows L2 DL
/-! ## steps of fixes -/
def sD (st : List Nat) : D := .tup (st.map fun i => .int ((i : Nat) : Int))
def tD (l : List Int) : D := .tup (l.map .int)
theorem dInB_nat (c : Nat) (st : List Nat) : dInB (.int (c : Nat)) (st.map fun i => .int ((i : Nat) : Int)) = decide (c ∈ st) := by
  have : (st.map fun i => D.int ((i : Nat) : Int)) = (st.map fun i => ((i : Nat) : Int)).map .int := by simp
  rw [this, zp_, Bool.eq_iff_iff, decide_eq_true_eq, decide_eq_true_eq, List.mem_map]
  constructor
  · rintro ⟨i, hi, e⟩
    have : i = c := by omega
    exact this ▸ hi
  · intro h; exact ⟨c, h, rfl⟩
theorem fits_nat (n : Nat) (st : List Nat) : D.fits n (st.map fun i => .int ((i : Nat) : Int)) = true := fits_iff.mpr fun x hx => by
  obtain ⟨i, _, rfl⟩ := List.mem_map.mp hx
  cases n <;> rfl
theorem dNin_sD (c : Nat) (st : List Nat) : dNin (.int (c : Nat)) (sD st) = some (.bl (!decide (c ∈ st))) := by
  rw [sD, dNin_t (n := 0) (m := 0) rfl (fits_nat 0 st), dInB_nat]
theorem dIn_sD (c : Nat) (st : List Nat) : dIn (.int (c : Nat)) (sD st) = some (.bl (decide (c ∈ st))) := by
  rw [sD, dIn_t (n := 0) (m := 0) rfl (fits_nat 0 st), dInB_nat]
structure Fix (cs : List D) (rs : List Rul) (t : Tab) (row : Row) (st : List Nat) : Prop where
  hc : zjc (.tup cs) = true
  oc : ∀ c ∈ cs, okC c
  rl : rs.length ≤ 8
  rg : ∀ r ∈ rs, GR cs r
  tl : t.length ≤ 8
  tr : ∀ r ∈ t, RowOK cs r
  rw_ : RowOK cs row
  sb : ∀ i ∈ st, i < cs.length
  inc : st.Pairwise (· < ·)
def zkx (r : Rul) (t : Tab) (row : Row) : List Int := match r.w with
  | some v => [v]
  | none => (t.filter fun o => zcd r.g o && zh1 r.g row o).map fun o => o.getD r.c 0
def canS (r : Rul) (row : Row) (st : List Nat) : Bool := !decide (r.c ∈ st) && ((r.g.all fun p => decide (p.1 ∈ st)) && zcd r.g row)
def zjq (k : Nat) (r : Rul) (t : Tab) (row : Row) (st : List Nat) : List (List Int) := bif canS r row st then (zkx r t row).map fun v => [((k : Nat) : Int), ((r.c : Nat) : Int), v] else []
def zbh (rs : List Rul) (t : Tab) (row : Row) (st : List Nat) : List (List Int) := (List.range rs.length).flatMap fun k => zjq k (rs.getD k ⟨[], 0, none⟩) t row st
theorem Fix.c4 {cs rs t row st} (F : Fix cs rs t row st) : 1 ≤ cs.length ∧ cs.length ≤ 4 ∧ ∀ c ∈ cs, zim c = true := by
  obtain ⟨_, e, a, b, c⟩ := zjz F.hc
  cases e
  exact ⟨a, b, c⟩
theorem RowOK.len {cs : List D} {r : Row} (h : RowOK cs r) : r.length = cs.length := ((zg3 cs r).mp h.1).1
theorem RowOK.val {cs : List D} {r : Row} (h : RowOK cs r) {i : Nat} (hi : i < cs.length) : okV (cs.getD i .non) (r.getD i 0) :=
  ⟨((zg3 cs r).mp h.1).2 i hi, h.2 _ (zd4 (by rw [h.len]; exact hi))⟩
theorem RowOK.of {cs : List D} {r : Row} (hl : r.length = cs.length) (h : ∀ i, i < cs.length → okV (cs.getD i .non) (r.getD i 0)) : RowOK cs r :=
  ⟨(zg3 cs r).mpr ⟨hl, fun i hi => (h i hi).1⟩, fun v hv => by
    obtain ⟨i, hi, rfl⟩ := List.mem_iff_getElem.mp hv
    have := (h i (by omega)).2
    rwa [List.getD_eq_getElem?_getD, List.getElem?_eq_getElem hi] at this⟩
theorem GR.okg {cs : List D} {r : Rul} (h : GR cs r) {row : Row} (hr : row.length = cs.length) : okG row.length r.g := by rw [hr]; exact h.ok.g
theorem valsR_ok {cs : List D} {r : Rul} (hr : GR cs r) {t : Tab} (ht : ∀ o ∈ t, RowOK cs o) (row : Row) : ∀ v ∈ zkx r t row, okV (cs.getD r.c .non) v := by
  intro v hv
  unfold zkx at hv
  split at hv
  · rename_i u hw
    simp only [List.mem_cons, List.not_mem_nil, or_false] at hv
    rw [hv]
    exact hr.hw u hw
  · obtain ⟨o, ho, rfl⟩ := List.mem_map.mp hv
    exact (ht o (List.mem_filter.mp ho).1).val hr.ok.c
theorem zo_ (r : Rul) (t : Tab) (row : Row) (h : t.length ≤ 8) : (zkx r t row).length ≤ 8 := by
  unfold zkx
  split
  · simp
  · have := List.length_filter_le (fun o => zcd r.g o && zh1 r.g row o) t
    rw [List.length_map]; omega
theorem zp1 (k : Nat) (r : Rul) (t : Tab) (row : Row) (st : List Nat) (h : t.length ≤ 8) : (zjq k r t row st).length ≤ 8 := by
  have := zo_ r t row h
  unfold zjq
  cases canS r row st <;> simp <;> omega
theorem zpe {cs : List D} (r : Rul) (hr : GR cs r) (t : Tab) (ht : t.length ≤ 8) (htr : ∀ o ∈ t, RowOK cs o) (row : Row) (hrow : row.length = cs.length) (S : zae) :
    zhr [.dat (rulD r), .dat (tabD t), .dat (rowD row)] S = .ok (.dat (.lst ((zkx r t row).map .int))) S := by
  unfold zhr zlb
  simp! only [rulD, zki]
  unfold zkx
  cases hw : r.w with
  | some v => simp! only [Option.isNone_some, oD]
  | none =>
    simp! only [Option.isNone_none, tabD, List.length_map, zdi (show t.length ≤ 16777216 by omega)]
    rw [zfo (p := fun o => zcd r.g o && zh1 r.g row o) (q := fun o => .int (o.getD r.c 0)) t ?h]
    case h =>
      intro o ho
      have hol := (htr o ho).len
      refine ⟨_, rfl, ?_, fun _ => by simp! only [rowD, zb9 D.int 0 (show r.c < o.length by rw [hol]; exact hr.ok.c)]⟩
      simp! only [zhq r.g o (hr.okg hol), zmz r.g row o (hr.okg hrow) (by rw [hol, hrow])]
    simp! only [List.map_map]
    rfl
theorem zjp {cs rs t row st} (F : Fix cs rs t row st) : (zdc (zbh rs t row st)).length < 63 := by
  have nd : (zdc (zbh rs t row st)).Nodup := by
    refine (zjk _).imp fun {a b} h e => ?_
    rw [e, lx_irr] at h
    cases h
  have := PySem.DLSetT.few_of (zdc (zbh rs t row st)) ((List.range rs.length).flatMap fun k => POOL.map fun v => [((k : Nat) : Int), (((rs.getD k ⟨[], 0, none⟩).c : Nat) : Int), v]) nd fun x hx => by
    have hx := (zg5 _ _).mp hx
    obtain ⟨k, hk, hx⟩ := List.mem_flatMap.mp hx
    have hk' : k < rs.length := by simpa using hk
    refine List.mem_flatMap.mpr ⟨k, hk, ?_⟩
    unfold zjq at hx
    cases hq : canS (rs.getD k ⟨[], 0, none⟩) row st
    · rw [hq] at hx; cases hx
    · rw [hq] at hx
      obtain ⟨v, hv, rfl⟩ := List.mem_map.mp hx
      exact List.mem_map.mpr ⟨v, (valsR_ok (F.rg _ (zd4 hk')) F.tr row v hv).2, rfl⟩
  have h2 := zgf (l := List.range rs.length) (m := 7) (f := fun k => POOL.map fun v => [((k : Nat) : Int), (((rs.getD k ⟨[], 0, none⟩).c : Nat) : Int), v]) (fun k _ => by rw [List.length_map]; decide)
  have := F.rl
  simp only [List.length_range] at h2
  omega
theorem zoy {cs rs t row st} (F : Fix cs rs t row st) {x : List Int} (hx : x ∈ zbh rs t row st) : ∃ k v, k < rs.length ∧ x = [((k : Nat) : Int), (((rs.getD k ⟨[], 0, none⟩).c : Nat) : Int), v] ∧ okV (cs.getD (rs.getD k ⟨[], 0, none⟩).c .non) v ∧ (rs.getD k ⟨[], 0, none⟩).c < cs.length ∧ (rs.getD k ⟨[], 0, none⟩).c ∉ st := by
  obtain ⟨k, hk, hx⟩ := List.mem_flatMap.mp hx
  have hk' : k < rs.length := by simpa using hk
  have hg := F.rg _ (zd4 (d := (⟨[], 0, none⟩ : Rul)) hk')
  unfold zjq at hx
  cases hq : canS (rs.getD k ⟨[], 0, none⟩) row st
  · rw [hq] at hx; cases hx
  · rw [hq] at hx
    obtain ⟨v, hv, rfl⟩ := List.mem_map.mp hx
    unfold canS at hq
    simp only [Bool.and_eq_true, Bool.not_eq_true', decide_eq_false_iff_not] at hq
    exact ⟨k, v, hk', rfl, valsR_ok hg F.tr row v hv, hg.ok.c, hq.1⟩
theorem tupsI_map : ∀ L : List (List Int), tupsI (L.map tD) = some L
  | [] => rfl
  | a :: L => by simp only [List.map_cons, tD, tupsI, ze_, tupsI_map L]
theorem steps_sort {cs rs t row st} (F : Fix cs rs t row st) (S : zae) : sortT (.dat (.lst ((zbh rs t row st).map tD))) S = .ok ((zdc (zbh rs t row st)).map tD) S := by
  have ok : tupsOk (zbh rs t row st) = true := by
    unfold tupsOk
    have l3 : ∀ x ∈ zbh rs t row st, x.length = 3 ∧ ∀ i ∈ x, 0 ≤ i := fun x hx => by
      obtain ⟨k, v, _, rfl, hv, _⟩ := zoy F hx
      refine ⟨rfl, fun i hi => ?_⟩
      simp only [List.mem_cons, List.not_mem_nil, or_false] at hi
      rcases hi with rfl | rfl | rfl
      · omega
      · omega
      · exact isVal_nn hv.1
    simp only [Bool.and_eq_true, decide_eq_true_eq]
    refine ⟨⟨?_, ?_⟩, zjp F⟩
    · cases hs : zbh rs t row st with
      | nil => rfl
      | cons x L =>
        rw [hs] at l3
        have h1 := (l3 x List.mem_cons_self).1
        simp only [Bool.and_eq_true, decide_eq_true_eq, List.all_eq_true]
        exact ⟨by omega, fun b hb => by rw [(l3 b hb).1, h1]⟩
    · rw [List.all_eq_true]
      intro x hx
      rw [List.all_eq_true]
      intro i hi
      exact decide_eq_true ((l3 x hx).2 i hi)
  simp only [sortT, rd, tupsI_map, ok, if_true]
  rfl
theorem zkl {cs rs t row st} (F : Fix cs rs t row st) (S0 : zae) : sortT (.obj S0.length) (S0 ++ [some ((zbh rs t row st).map tD)]) = .ok ((zdc (zbh rs t row st)).map tD) (S0 ++ [some ((zbh rs t row st).map tD)]) := by
  have h := steps_sort F (S0 ++ [some ((zbh rs t row st).map tD)])
  unfold sortT at h ⊢
  rw [zcg]
  exact h
theorem a_sortT (f : XFn) (ρ : za2) (S : zae) : zk2 f ρ S = (f ρ S).bind sortT := rfl
theorem fns_loop {cs rs t row st} (F : Fix cs rs t row st) (S : zae) : ∃ ρ', zfl (gTp (gCo (gNm 5) (gCo (gNm 6) gNo))) zf6 ((rs.zipIdx.map fun p => (p.2, p.1)).map fun p => zoe (.int ((p.1 : Nat) : Int)) (rulD p.2)) [some (.dat (zce rs)), some (.dat (tabD t)), some (.dat (rowD row)), some (.dat (sD st)), some (.obj S.length), none, none, none, none, none, none, none] (S ++ [some []]) = .nx ρ' (S ++ [some ((zbh rs t row st).map tD)]) ∧ ∃ o5 o6 o7 o8 o9, ρ' = [some (.dat (zce rs)), some (.dat (tabD t)), some (.dat (rowD row)), some (.dat (sD st)), some (.obj S.length), o5, o6, o7, o8, o9, none, none] := by
  obtain ⟨c1, c2, c3⟩ := F.c4
  have hrow := F.rw_.len
  have e : zbh rs t row st = (rs.zipIdx.map fun p => (p.2, p.1)).flatMap fun p => zjq p.1 p.2 t row st := by
    rw [zbh, zmy ⟨[], 0, none⟩, List.flatMap_map]
  rw [e]
  have hlen : ((rs.zipIdx.map fun p => (p.2, p.1)).flatMap fun p => zjq p.1 p.2 t row st).length ≤ 64 := by
    have h1 := zgf (l := rs.zipIdx.map fun p => (p.2, p.1)) (m := 8) (f := fun p => zjq p.1 p.2 t row st) (fun p _ => zp1 _ _ _ _ _ F.tl)
    have h2 : (rs.zipIdx.map fun p => (p.2, p.1)).length = rs.length := by simp
    have := F.rl
    omega
  refine zii (P := fun ρ => ∃ o5 o6 o7 o8 o9, ρ = [some (.dat (zce rs)), some (.dat (tabD t)), some (.dat (rowD row)), some (.dat (sD st)), some (.obj S.length), o5, o6, o7, o8, o9, none, none]) _ _ [] ?_ ⟨_, _, _, _, _, rfl⟩ ?_
  · exact zdp (by simp only [List.length_nil]; omega)
  · rintro p hp ρ ds ⟨o5, o6, o7, o8, o9, rfl⟩ hb
    have hm : p.2 ∈ rs := by
      obtain ⟨q, hq, rfl⟩ := List.mem_map.mp hp
      exact (List.mem_zipIdx' hq).2 ▸ List.getElem_mem _
    have hr := F.rg _ hm
    have lg : szB p.2.g.length = true := zdi (by have := hr.sh; omega)
    refine ⟨[some (.dat (zce rs)), some (.dat (tabD t)), some (.dat (rowD row)), some (.dat (sD st)), some (.obj S.length), some (.dat (.int ((p.1 : Nat) : Int))), some (.dat (rulD p.2)), o7, o8, o9, none, none], [some (.dat (zce rs)), some (.dat (tabD t)), some (.dat (rowD row)), some (.dat (sD st)), some (.obj S.length), some (.dat (.int ((p.1 : Nat) : Int))), some (.dat (rulD p.2)), some (.dat (gD p.2.g)), some (.dat (.int (p.2.c : Nat))), some (.dat (oD p.2.w)), none, none], rfl, ?_, ⟨_, _, _, _, _, rfl⟩⟩
    unfold zf6
    have e1 : ∀ ρ, gTp (gCo (gNm 7) (gCo (gNm 8) (gCo (gNm 9) gNo))) (rulD p.2) ρ = some (((ρ.set 7 (some (.dat (gD p.2.g)))).set 8 (some (.dat (.int (p.2.c : Nat))))).set 9 (some (.dat (oD p.2.w)))) := fun _ => rfl
    have itg : ∀ S, zkj (.dat (gD p.2.g)) S = .ok (p.2.g.map eD) S := fun _ => rfl
    simp! only [e1, itg, dNin_sD]
    unfold zjq at hb ⊢
    unfold canS at hb ⊢
    cases h1 : (!decide (p.2.c ∈ st))
    · simp! only []
    · simp! only [itg, List.length_map, lg]
      rw [zfy (q := fun e : Ent => .bl (decide (e.1 ∈ st))) p.2.g ?h]
      case h => intro e he; exact ⟨_, rfl, rfl, by simp! only [eD, atI_0, dIn_sD]⟩
      simp! only [zgj]
      cases h2 : (p.2.g.all fun e => decide (e.1 ∈ st))
      · simp! only []
      · simp! only [zhq p.2.g row (hr.okg hrow)]
        cases h3 : zcd p.2.g row
        · simp! only []
        · have lv := zo_ p.2 t row F.tl
          simp -implicitDefEqProofs only [h1, h2, h3, a_fn, zd0, zcf, zc9, zcy, zc0, zc8, zba, za0, c_ok, zer, c_bl, zez, ze8, c_or, zcj, zfb, zef, zfg, zcm, a_tg, zc2, zb1, zfi, Res.bind_ok, Res.bind_ex, Res.bindS_ok, Res.bindS_ex, zcz, a_c, a_x2, a_o2, zcq, a_xN, zc3, ze9, a_o1, zee, zek, ze0, zb_, za9, zb2, zbp, zcu, zew, zfa, ze3, ze5, zet, zbx, za6, zax, zav, zar, zaz, zey, a_or, zbq, zb5, zeu, zfj, zeq, zcn, a_if, zeb, zcp, zby, zbc, zaw, za7, zbt, a_it, zau, zay, a_lc, zb7, zb4, zfe, ze6, zf_, zeh, zel, zfh, zem, zes, zen, zck, a_rd, Option.bind_some, zbu, zbr, zbv, zas, List.map_cons, List.map_nil, List.length_cons, List.length_nil, Nat.reduceSub, Nat.reduceAdd, List.replicate_succ, List.replicate_zero, List.cons_append, List.nil_append, List.append_nil, List.getElem?_cons_zero, List.getElem?_cons_succ, List.set_cons_zero, List.set_cons_succ, List.take_length, cond_true, cond_false, Bool.not_true, Bool.not_false, zd7, zej, zev, zei, zc5, zc1, zb0, zbd, zct, zcx, zeo, zea, zbs, zb3, za8, zbb, ze2, zci, zdy, zfc, zff, zcc, zcs, zep, zcw, ze4, zfd, ze7, zc7, zcr, zaq, zat, zch, za4, zal, Option.map_some, zan, zcg, zbk, za5, lit2, lit3, Bool.true_and, Bool.false_and, Bool.and_true, Bool.and_false, Bool.true_or, Bool.false_or, Bool.or_true, Bool.or_false, Bool.not_not, a_sl, zex, zed, zb6, zcv, zec, zc6, zc4, zco, zbw, zbm, List.length_map] at hb
          simp! only []
          refine zqt rfl ?_ (by simpa using hb)
          simp! only [zpe p.2 hr t F.tl F.tr row hrow, List.length_map, zdi (show (zkx p.2 t row).length ≤ 16777216 by omega)]
          rw [zfy (q := fun v : Int => tD [((p.1 : Nat) : Int), ((p.2.c : Nat) : Int), v]) (zkx p.2 t row) ?h]
          case h => intro v hv; exact ⟨_, rfl, rfl, by simp! only [tD]⟩
          simp! only [List.map_map]
          rfl
end T46
set_option maxHeartbeats 400000
namespace T46
open PySem PySem.Spec PyProof.Rows L2 DL
theorem zqg {cs : List D} (st : List Nat) (hl : cs.length ≤ 4) (sb : ∀ i ∈ st, i < cs.length) (inc : st.Pairwise (· < ·)) (S : zae) : zh8 [.dat (.tup cs), .dat (sD st)] S = .ok (.dat (.bl true)) S := by
  unfold zh8 zm3
  have ls : st.length ≤ 4 := by
    have nd : st.Nodup := inc.imp fun h => by omega
    have := PySem.DLSetT.few_of st (List.range cs.length) nd fun x hx => List.mem_range.mpr (sb x hx)
    simp only [List.length_range] at this
    omega
  have it : ∀ S, zkj (.dat (sD st)) S = .ok (st.map fun i => .int ((i : Nat) : Int)) S := fun _ => rfl
  simp! only [it, show (sD st).isT = true from rfl, List.length_map, zdi (show st.length ≤ 16777216 by omega)]
  rw [zfy (q := fun i : Nat => .bl true) st ?h]
  case h =>
    intro i hi
    have b : zlm (.int (i : Nat)) 0 (cs.length - 1) = true := by
      have := sb i hi
      simp only [zlm, Bool.and_eq_true, decide_eq_true_eq]
      omega
    exact ⟨_, rfl, rfl, by simp! only [zhl, b]⟩
  have e2 : (st.map fun i => D.int ((i : Nat) : Int)) = (st.map fun i => ((i : Nat) : Int)).map .int := by simp
  have so : sset (st.map fun i => ((i : Nat) : Int)) = st.map fun i => ((i : Nat) : Int) := zkd (by rw [List.pairwise_map]; exact inc.imp fun h => by omega)
  have dl : dList (sD st) = some (.lst ((st.map fun i => ((i : Nat) : Int)).map .int)) := by rw [← e2]; rfl
  have so2 : ∀ S, zq8 (.dat (sD st)) S = .ok ((st.map fun i => ((i : Nat) : Int)).map .int) S := fun S => by
    have : sD st = .tup ((st.map fun i => ((i : Nat) : Int)).map .int) := by rw [← e2]; rfl
    rw [this, zp5 _ (by simp; omega), so]
  simp! only [zgj, dl, so2, zqm, decide_true]
  cases h : st.all fun _ => true
  · simp at h
  · simp! only []
theorem zia {cs : List D} (st : List Nat) (hl : cs.length ≤ 4) (sb : ∀ i ∈ st, i < cs.length) (inc : st.Pairwise (· < ·)) (S : zae) : zfv [.dat (.tup cs), .dat (sD st)] S = .ok (.dat .non) S := by
  unfold zfv ziu
  simp! only [zqg st hl sb inc]
theorem Fix.rules {cs rs t row st} (F : Fix cs rs t row st) : znw cs (zce rs) = true ∧ (∀ r ∈ zgq (zce rs), short r) ∧ isTab cs (tabD t) = true := by
  refine ⟨?_, fun r hr => ?_, (tab_of F.tl fun r hr => (F.tr r hr).1).1⟩
  · simp only [znw, zce, List.length_map, Bool.and_eq_true, Bool.not_eq_true', decide_eq_false_iff_not, List.all_eq_true]
    refine ⟨by have := F.rl; omega, fun x hx => ?_⟩
    obtain ⟨r, hr, rfl⟩ := List.mem_map.mp hx
    exact (F.rg r hr).is
  · obtain ⟨q, hq, rfl⟩ := List.mem_map.mp hr
    have := (F.rg q hq).sh
    simp only [short, rulD, gD, zgq, List.length_map]
    exact this
/-! ## the law's own steps -/
theorem flat_if {α β : Type} (p : α → Bool) (f : α → β) : ∀ l : List α, (l.flatMap fun o => bif p o then [f o] else []) = (l.filter p).map f
  | [] => rfl
  | a :: l => by
    have := flat_if p f l
    cases h : p a
    · simp only [List.flatMap_cons, h, cond_false, List.nil_append, this, List.filter_cons, Bool.false_eq_true, if_false]
    · simp only [List.flatMap_cons, h, cond_true, this, List.filter_cons, if_true, List.map_cons, List.cons_append, List.nil_append]
theorem zqz {cs : List D} (r : Rul) (hr : GR cs r) (t : Tab) (ht : t.length ≤ 8) (htr : ∀ o ∈ t, RowOK cs o) (row : Row) (hrow : row.length = cs.length) (S : zae) :
    zg1 [.dat (rulD r), .dat (tabD t), .dat (rowD row)] S = .ok (.dat (.lst ((zkx r t row).map .int))) S := by
  unfold zg1 zkm
  have e1 : ∀ ρ, gTp (gCo (gNm 5) (gCo (gNm 6) (gCo (gNm 7) gNo))) (rulD r) ρ = some (((ρ.set 5 (some (.dat (gD r.g)))).set 6 (some (.dat (.int (r.c : Nat))))).set 7 (some (.dat (oD r.w)))) := fun _ => rfl
  have itg : ∀ S, zkj (.dat (gD r.g)) S = .ok (r.g.map eD) S := fun _ => rfl
  have lg : szB r.g.length = true := zdi (by have := hr.sh; omega)
  simp! only [e1, zki]
  unfold zkx
  cases hw : r.w with
  | some v => simp! only [Option.isNone_some, oD]
  | none =>
    simp! only [Option.isNone_none, tabD]
    obtain ⟨ρ', e, o4, o8, rfl⟩ : ∃ ρ', zfl (gNm 4) zhc (t.map rowD) [some (.dat (rulD r)), some (.dat (.tup (t.map rowD))), some (.dat (rowD row)), some (.obj S.length), none, some (.dat (gD r.g)), some (.dat (.int (r.c : Nat))), some (.dat (oD none)), none, none, none] (S ++ [some []]) = .nx ρ' (S ++ [some ([] ++ (t.flatMap fun o => bif zcd r.g o && zh1 r.g row o then [o.getD r.c 0] else []).map .int)]) ∧ ∃ o4 o8, ρ' = [some (.dat (rulD r)), some (.dat (.tup (t.map rowD))), some (.dat (rowD row)), some (.obj S.length), o4, some (.dat (gD r.g)), some (.dat (.int (r.c : Nat))), some (.dat (oD none)), o8, none, none] := by
      refine zii (P := fun ρ => ∃ o4 o8, ρ = [some (.dat (rulD r)), some (.dat (.tup (t.map rowD))), some (.dat (rowD row)), some (.obj S.length), o4, some (.dat (gD r.g)), some (.dat (.int (r.c : Nat))), some (.dat (oD none)), o8, none, none]) t _ [] ?_ ⟨_, _, rfl⟩ ?_
      · have := zgf (l := t) (m := 1) (f := fun o => bif zcd r.g o && zh1 r.g row o then [o.getD r.c 0] else []) (fun o _ => by cases zcd r.g o && zh1 r.g row o <;> simp)
        exact zdp (by simp only [List.length_nil]; omega)
      · rintro o ho ρ ds ⟨o4, o8, rfl⟩ hb
        have hol := (htr o ho).len
        refine ⟨[some (.dat (rulD r)), some (.dat (.tup (t.map rowD))), some (.dat (rowD row)), some (.obj S.length), some (.dat (rowD o)), some (.dat (gD r.g)), some (.dat (.int (r.c : Nat))), some (.dat (oD none)), o8, none, none], [some (.dat (rulD r)), some (.dat (.tup (t.map rowD))), some (.dat (rowD row)), some (.obj S.length), some (.dat (rowD o)), some (.dat (gD r.g)), some (.dat (.int (r.c : Nat))), some (.dat (oD none)), some (.dat (.lst ((r.g.filter fun p => !(row.getD p.1 0 == o.getD p.1 0)).map fun p => .int (p.1 : Nat)))), none, none], rfl, ?_, ⟨_, _, rfl⟩⟩
        unfold zhc
        simp! only [itg, List.length_map, lg]
        rw [zfo (p := fun p : Ent => !(row.getD p.1 0 == o.getD p.1 0)) (q := fun p : Ent => .int (p.1 : Nat)) r.g ?h]
        case h =>
          intro p hp
          have h1 : p.1 < row.length := by rw [hrow]; exact hr.ok.g.1 p hp
          have h2 : p.1 < o.length := by rw [hol]; exact hr.ok.g.1 p hp
          exact ⟨_, rfl, by simp! only [rowD, zb9 D.int 0 h1, zb9 D.int 0 h2, zk4], fun _ => by simp! only []⟩
        have i1 : dEq (.lst ((r.g.filter fun p => !(row.getD p.1 0 == o.getD p.1 0)).map fun p => D.int (p.1 : Nat))) (.lst []) = some (.bl (zh1 r.g row o)) := by
          refine dEq_p (n := 1) (m := 1) (by simp only [D.fit]; exact fits_iff.mpr fun x hx => by obtain ⟨p, _, rfl⟩ := List.mem_map.mp hx; rfl) rfl (by simp only [D.noB]; exact noBs_iff.mpr fun x hx => by obtain ⟨p, _, rfl⟩ := List.mem_map.mp hx; rfl) rfl ?_
          simp [zh1, List.filter_eq_nil_iff]
        simp! only [i1, zgx r.g o (hr.okg hol)]
        cases h1 : zh1 r.g row o <;> cases h2 : zcd r.g o
        · simp! only []
        · simp! only []
        · simp! only []
        · have hb2 : ds.length + 1 ≤ sizeLine := by simpa [h1, h2] using hb
          simp! only []
          exact zq7 rfl (by simp! only [rowD, zb9 D.int 0 (show r.c < o.length by rw [hol]; exact hr.ok.c)]) (by omega)
    simp only [List.nil_append] at e
    simp! only [e, zan]
    rw [flat_if]
theorem zjv {cs rs t row st} (F : Fix cs rs t row st) (S : zae) : zd9 [.dat (zce rs), .dat (tabD t), .dat (rowD row), .dat (sD st)] S = .ok (.dat (.lst ((zdc (zbh rs t row st)).map tD))) S := by
  unfold zd9 zle
  have hrow := F.rw_.len
  have lrs := F.rl
  simp! only [zce, List.length_map, zjg (zdp (show rs.length ≤ 16000000 by omega))]
  obtain ⟨ρ', e, o5, o6, o7, o8, o9, o10, rfl⟩ : ∃ ρ', zfl (gNm 5) zhv ((List.range rs.length).map fun i => .int ((i : Nat) : Int)) [some (.dat (.tup (rs.map rulD))), some (.dat (tabD t)), some (.dat (rowD row)), some (.dat (sD st)), some (.obj S.length), none, none, none, none, none, none, none, none] (S ++ [some []]) = .nx ρ' (S ++ [some ([] ++ (zbh rs t row st).map tD)]) ∧ ∃ o5 o6 o7 o8 o9 o10, ρ' = [some (.dat (.tup (rs.map rulD))), some (.dat (tabD t)), some (.dat (rowD row)), some (.dat (sD st)), some (.obj S.length), o5, o6, o7, o8, o9, o10, none, none] := by
    refine zii (P := fun ρ => ∃ o5 o6 o7 o8 o9 o10, ρ = [some (.dat (.tup (rs.map rulD))), some (.dat (tabD t)), some (.dat (rowD row)), some (.dat (sD st)), some (.obj S.length), o5, o6, o7, o8, o9, o10, none, none]) _ _ [] ?_ ⟨_, _, _, _, _, _, rfl⟩ ?_
    · have h1 := zgf (l := List.range rs.length) (m := 8) (f := fun k => zjq k (rs.getD k ⟨[], 0, none⟩) t row st) (fun k _ => zp1 _ _ _ _ _ F.tl)
      simp only [List.length_range] at h1
      exact zdp (by simp only [List.length_nil]; omega)
    · rintro k hk ρ ds ⟨o5, o6, o7, o8, o9, o10, rfl⟩ hb
      have hk : k < rs.length := by simpa using hk
      generalize hr0 : rs.getD k ⟨[], 0, none⟩ = r at hb
      have hr : GR cs r := hr0 ▸ F.rg _ (zd4 hk)
      have ek : ∀ S, o2 dIx (.dat (.tup (rs.map rulD))) (.dat (.int ((k : Nat) : Int))) S = .ok (.dat (rulD r)) S := fun S => by
        simp! only [zb9 rulD ⟨[], 0, none⟩ hk, hr0]
      have lg : szB r.g.length = true := zdi (by have := hr.sh; omega)
      have e1 : ∀ ρ, gTp (gCo (gNm 7) (gCo (gNm 8) (gCo (gNm 9) gNo))) (rulD r) ρ = some (((ρ.set 7 (some (.dat (gD r.g)))).set 8 (some (.dat (.int (r.c : Nat))))).set 9 (some (.dat (oD r.w)))) := fun _ => rfl
      have itg : ∀ S, zkj (.dat (gD r.g)) S = .ok (r.g.map eD) S := fun _ => rfl
      have i1 : dEq (.lst ((r.g.filter fun p => !decide (p.1 ∈ st)).map fun p => D.int (p.1 : Nat))) (.lst []) = some (.bl (r.g.all fun p => decide (p.1 ∈ st))) := by
        refine dEq_p (n := 1) (m := 1) (by simp only [D.fit]; exact fits_iff.mpr fun x hx => by obtain ⟨p, _, rfl⟩ := List.mem_map.mp hx; rfl) rfl (by simp only [D.noB]; exact noBs_iff.mpr fun x hx => by obtain ⟨p, _, rfl⟩ := List.mem_map.mp hx; rfl) rfl ?_
        simp [List.filter_eq_nil_iff]
      refine ⟨[some (.dat (.tup (rs.map rulD))), some (.dat (tabD t)), some (.dat (rowD row)), some (.dat (sD st)), some (.obj S.length), some (.dat (.int ((k : Nat) : Int))), o6, o7, o8, o9, o10, none, none], [some (.dat (.tup (rs.map rulD))), some (.dat (tabD t)), some (.dat (rowD row)), some (.dat (sD st)), some (.obj S.length), some (.dat (.int ((k : Nat) : Int))), some (.dat (.lst ((r.g.filter fun p => !decide (p.1 ∈ st)).map fun p => .int (p.1 : Nat)))), some (.dat (gD r.g)), some (.dat (.int (r.c : Nat))), some (.dat (oD r.w)), bif canS r row st then some (.dat (.lst ((zkx r t row).map .int))) else o10, none, none], rfl, ?_, ⟨_, _, _, _, _, _, rfl⟩⟩
      unfold zhv
      have l0 : dIx (.tup (rs.map rulD)) (.int ((k : Nat) : Int)) = some (rulD r) := by rw [zea, zb9 rulD ⟨[], 0, none⟩ hk, hr0]
      have dt : ∀ (f : XFn) (g : XFn) ρ S, x2 (o2 dIx) f g ρ S = (f ρ S).bind fun x S1 => (g ρ S1).bind fun y S2 => o2 dIx x y S2 := fun _ _ _ _ => rfl
      have o2k : ∀ S, o2 dIx (.dat (.tup (rs.map rulD))) (.dat (.int ((k : Nat) : Int))) S = .ok (.dat (rulD r)) S := ek
      simp! only [zb9 rulD ⟨[], 0, none⟩ hk, hr0, e1, itg, List.length_map, lg]
      rw [zfo (p := fun p : Ent => !decide (p.1 ∈ st)) (q := fun p : Ent => .int (p.1 : Nat)) r.g ?h]
      case h => intro p hp; exact ⟨_, rfl, by simp! only [eD, atI_0, dNin_sD], fun _ => by simp! only [eD, atI_0]⟩
      simp! only [dNin_sD, i1]
      unfold zjq at hb ⊢
      unfold canS at hb ⊢
      cases h1 : (!decide (r.c ∈ st))
      · simp! only []
      · cases h2 : (r.g.all fun e => decide (e.1 ∈ st))
        · simp! only []
        · simp! only [zgx r.g row (hr.okg hrow)]
          cases h3 : zcd r.g row
          · simp! only []
          · have lv := zo_ r t row F.tl
            have hb2 : ds.length + (zkx r t row).length ≤ sizeLine := by simpa [h1, h2, h3] using hb
            simp! only [zb9 rulD ⟨[], 0, none⟩ hk, hr0, zqz r hr t F.tl F.tr row hrow]
            refine zqt rfl ?_ (by simpa using hb2)
            simp! only [List.length_map, zdi (show (zkx r t row).length ≤ 16777216 by omega)]
            rw [zfy (q := fun v : Int => tD [((k : Nat) : Int), ((r.c : Nat) : Int), v]) (zkx r t row) ?h]
            case h => intro v hv; exact ⟨_, rfl, rfl, by simp! only [tD]⟩
            simp! only [List.map_map]
            rfl
  simp only [List.nil_append] at e
  simp! only [e, a_sortT, zkl F]
end T46
set_option maxHeartbeats 400000
namespace T46
open PySem PySem.Spec PyProof.Rows L2 DL
theorem lc_penF {α : Type} {enc q : α → D} {G : GFn} {t : TFn} {f : XFn} {ρ : za2} {T : zae} {c : Nat} : ∀ (xs : List α) (m : Nat) (S : zae), Pen m T S → m + c * xs.length ≤ LIM →
    (∀ a ∈ xs, ∀ m S, Pen m T S → m + c ≤ LIM → ∃ ρ1 b S1, G (enc a) ρ = some ρ1 ∧ t ρ1 S = .ok b S1 ∧ Pen (m + c) T S1 ∧ (b = true → f ρ1 S1 = .ok (.dat (q a)) S1)) →
    ∃ (ys : List α) (S1 : zae), lcGo G t f ρ (xs.map enc) S = .ok (ys.map q) S1 ∧ Pen (m + c * xs.length) T S1 ∧ ys.Sublist xs
  | [], m, S, hp, _, _ => ⟨[], S, rfl, hp, .slnil⟩
  | a :: r, m, S, hp, hb, hs => by
    have hb' : m + c + c * r.length ≤ LIM := by simp only [List.length_cons, Nat.mul_succ] at hb; omega
    obtain ⟨ρ1, b, S1, h1, h2, h3, h4⟩ := hs a (List.mem_cons_self ..) m S hp (by omega)
    obtain ⟨ys, S2, e, p2, sl⟩ := lc_penF (enc := enc) (q := q) (G := G) (t := t) (f := f) (ρ := ρ) r (m + c) S1 h3 hb' fun b hb => hs b (List.mem_cons_of_mem _ hb)
    cases b with
    | false =>
      refine ⟨ys, S2, ?_, ?_, sl.cons a⟩
      · simp only [List.map_cons, lcGo, h1, h2, Res.bindN_ok, Bool.false_eq_true, if_false, e]
      · simp only [List.length_cons, Nat.mul_succ]; exact p2.mono (by omega)
    | true =>
      refine ⟨a :: ys, S2, ?_, ?_, sl.cons₂ a⟩
      · simp only [List.map_cons, lcGo, h1, h2, Res.bindN_ok, if_true, h4 rfl, e]
      · simp only [List.length_cons, Nat.mul_succ]; exact p2.mono (by omega)
def addS (c : Nat) (st : List Nat) : List Nat := (st ++ [c]).mergeSort
theorem addS_ok (c : Nat) (st : List Nat) (hc : c ∉ st) (hs : st.Pairwise (· < ·)) : isortI ((st ++ [c]).map fun i => ((i : Nat) : Int)) = (addS c st).map (fun i => ((i : Nat) : Int)) ∧ (addS c st).Pairwise (· < ·) ∧ ∀ i, i ∈ addS c st ↔ i ∈ st ∨ i = c := by
  have pm : (addS c st).Perm (st ++ [c]) := List.mergeSort_perm _ _
  have so : (addS c st).Pairwise (· ≤ ·) := by
    have := List.pairwise_mergeSort (le := fun a b : Nat => decide (a ≤ b)) (by intro a b c h1 h2; simp at *; omega) (by intro a b; simp; omega) (st ++ [c])
    exact this.imp fun h => by simpa using h
  refine ⟨?_, ?_, fun i => by rw [pm.mem_iff]; simp⟩
  · refine (isortI_eq (pm.map _) ?_).symm
    rw [List.pairwise_map]
    exact so.imp fun h => by omega
  · have nd : (addS c st).Nodup := by
      rw [pm.nodup_iff, List.nodup_append]
      exact ⟨hs.imp fun h => by omega, by simp, fun x hx y hy => by simp at hy; subst hy; exact fun z => hc (z ▸ hx)⟩
    exact List.Pairwise.imp (fun {a b} h => by have := h.1; have := h.2; omega) (List.Pairwise.and so nd)
theorem set_cut (r : Row) (a : Nat) (v : Int) (h : a < r.length) : (r.map D.int).take a ++ [.int v] ++ (r.map D.int).drop (a + 1) = (r.set a v).map .int := by
  rw [List.set_eq_take_append_cons_drop, if_pos h]
  simp [List.map_take, List.map_drop]
theorem Fix.step {cs rs t row st} (F : Fix cs rs t row st) {c : Nat} {v : Int} (hc : c < cs.length) (hn : c ∉ st) (hv : okV (cs.getD c .non) v) : Fix cs rs t (row.set c v) (addS c st) := by
  obtain ⟨_, a2, a3⟩ := addS_ok c st hn F.inc
  refine ⟨F.hc, F.oc, F.rl, F.rg, F.tl, F.tr, RowOK.of (by rw [List.length_set, F.rw_.len]) fun i hi => ?_, fun i hi => ?_, a2⟩
  · have hl := F.rw_.len
    by_cases e : c = i
    · subst e
      have e2 : (row.set c v).getD c 0 = v := by
        rw [List.getD_eq_getElem?_getD, List.getElem?_set_self (by omega)]
        rfl
      rw [e2]
      exact hv
    · have e2 : (row.set c v).getD i 0 = row.getD i 0 := by
        rw [List.getD_eq_getElem?_getD, List.getElem?_set_ne e, ← List.getD_eq_getElem?_getD]
      rw [e2]
      exact F.rw_.val hi
  · rcases (a3 i).mp hi with h | h
    · exact F.sb i h
    · rw [h]; exact hc
theorem zly {cs rs t row st} (F : Fix cs rs t row st) {k c : Nat} {v : Int} (hc : c < cs.length) (hn : c ∉ st) (S : zae) : zf4 [.dat (rowD row), .dat (sD st), .dat (tD [((k : Nat) : Int), ((c : Nat) : Int), v])] S = .ok (.dat (.tup [rowD (row.set c v), sD (addS c st)])) S := by
  unfold zf4 zkk
  obtain ⟨a1, _, _⟩ := addS_ok c st hn F.inc
  have hl := F.rw_.len
  have c4 := F.c4.2.1
  have at3_1 : ∀ x y z : D, atI [x, y, z] 1 = some y := fun _ _ _ => rfl
  have at3_2 : ∀ x y z : D, atI [x, y, z] 2 = some z := fun _ _ _ => rfl
  have ls : st.length ≤ 4 := by
    have := PySem.DLSetT.few_of st (List.range cs.length) (F.inc.imp fun h => by omega) fun x hx => List.mem_range.mpr (F.sb x hx)
    simp only [List.length_range] at this
    omega
  simp! only [tD, at3_1, at3_2, rowD, zm4, ziv]
  have s1 : dAdd (.tup ((row.map D.int).take c)) (.tup [.int v]) = some (.tup ((row.map D.int).take c ++ [.int v])) := by
    rw [zjw, zdi (by simp; omega)]; rfl
  have s2 : dAdd (.tup ((row.map D.int).take c ++ [.int v])) (.tup ((row.map D.int).drop (c + 1))) = some (rowD (row.set c v)) := by
    rw [zjw, zdi (by simp; omega), set_cut row c v (by omega)]; rfl
  have s3 : dAdd (sD st) (.tup [.int (c : Nat)]) = some (.tup (((st ++ [c]).map fun i => ((i : Nat) : Int)).map .int)) := by
    rw [sD, zjw, zdi (by simp; omega)]
    simp
  have s4 : ∀ S, zi9 (.dat (.tup (((st ++ [c]).map fun i => ((i : Nat) : Int)).map .int))) S = .ok (((addS c st).map fun i => ((i : Nat) : Int)).map .int) S := fun S => by
    simp only [zi9, rd, ze_, a1]
  have a_srt : ∀ (f : XFn) (ρ : za2) (S : zae), zn4 f ρ S = (f ρ S).bind zi9 := fun _ _ _ => rfl
  simp! only [s1, s2, s3, a_srt, s4]
  have : ((addS c st).map fun i => ((i : Nat) : Int)).map D.int = (addS c st).map fun i => D.int ((i : Nat) : Int) := by simp
  rw [this]
  rfl
theorem case_body {n : Nat} {T S : zae} (h : Pen n T S) (hn : n + 11 ≤ LIM) (cs : List D) (hc : ∀ c ∈ cs, okC c) (h0 : 1 ≤ cs.length) (hl : cs.length ≤ 4) (rs : List Rul) (hr : ∀ r ∈ rs, GR cs r) (h8 : rs.length ≤ 8) (o3 : Option DV) :
    ∃ (r : Rul) (S1 : zae), zg2 [some (.obj 0), some (.dat (.tup cs)), some (.dat (zce rs)), o3, none, none, none] S = .nx [some (.obj 0), some (.dat (.tup cs)), some (.dat (zce (rs ++ [r]))), o3, none, none, none] S1 ∧ Pen (n + 11) T S1 ∧ GR cs r := by
  unfold zg2
  obtain ⟨r, S1, e, p, hr1⟩ := rule_ok h hn cs hc h0 hl
  have ad : dAdd (zce rs) (.tup [rulD r]) = some (zce (rs ++ [r])) := by
    rw [zce, zjw, zdi (by simp; omega)]
    simp [zce]
  simp! only [e, ad]
  exact ⟨r, S1, rfl, p, hr1⟩
theorem case_ok {n : Nat} {T S : zae} (h : Pen n T S) (hn : n + 200 ≤ LIM) : ∃ (cs : List D) (rs : List Rul) (t : Tab) (row : Row) (st : List Nat) (S1 : zae), zh6 [.obj 0] S = .ok (.dat (.tup [.tup cs, zce rs, tabD t, rowD row, sD st])) S1 ∧ Pen (n + 200) T S1 ∧ Fix cs rs t row st ∧ 1 ≤ t.length := by
  unfold zh6 zms
  have hn : n + 200 ≤ 2147483648 := hn
  obtain ⟨cs, S1, e1, p1, hcs, oc⟩ := columns_ok h (by show _ ≤ 2147483648; omega)
  obtain ⟨_, ec, c1, c2, c3⟩ := zjz hcs
  cases ec
  obtain ⟨m, S2, e2, p2, hm⟩ := zgs p1 (by show _ ≤ 2147483648; omega) 9 (by decide) (by decide)
  simp! only [e1, e2, zjg (zdp (show m ≤ 16000000 by omega))]
  obtain ⟨ρ', S3, e3, ⟨rs, o3, rfl, hrl, hrs⟩, p3⟩ := zl8 (enc := fun i : Nat => D.int ((i : Nat) : Int)) (G := gNm 3) (f := zg2) (T := T) (c := 11)
    (fun pre ρ => ∃ rs o3, ρ = [some (.obj 0), some (.dat (.tup cs)), some (.dat (zce rs)), o3, none, none, none] ∧ rs.length = pre.length ∧ ∀ r ∈ rs, GR cs r)
    (List.range m) [] _ [some (.obj 0), some (.dat (.tup cs)), some (.dat (.tup [])), none, none, none, none] S2 ⟨[], _, rfl, rfl, fun r hr => nomatch hr⟩ p2 (by show _ ≤ 2147483648; simp; omega) (by
    rintro pre a post m' ρ S hpp ⟨rs, o3, rfl, hrl, hrs⟩ hp hm'
    obtain ⟨ha, ha2⟩ := znr (by simpa using hpp)
    obtain ⟨r, S1, e, p, hr⟩ := case_body hp hm' cs oc c1 c2 rs hrs (by omega) (some (.dat (.int ((a : Nat) : Int))))
    exact ⟨_, _, S1, rfl, e, ⟨rs ++ [r], _, rfl, by simp; omega, fun q hq => by
      rcases List.mem_append.mp hq with h | h
      · exact hrs q h
      · simp at h; exact h ▸ hr⟩, p⟩)
  simp only [List.nil_append, List.length_range] at hrl p3
  obtain ⟨x, S4, e4, p4, hx⟩ := zn7 p3 (by show _ ≤ 2147483648; omega) [D.int 1, D.int 2, D.int 2, D.int 3, D.int 4, D.int 8] (by simp) (by simp) _ (.inl rfl)
  obtain ⟨k, rfl, hk1, hk8⟩ : ∃ k : Nat, x = .int (k : Nat) ∧ 1 ≤ k ∧ k ≤ 8 := by
    simp only [List.mem_cons, List.not_mem_nil, or_false] at hx
    rcases hx with rfl | rfl | rfl | rfl | rfl | rfl
    · exact ⟨1, rfl, by decide, by decide⟩
    · exact ⟨2, rfl, by decide, by decide⟩
    · exact ⟨2, rfl, by decide, by decide⟩
    · exact ⟨3, rfl, by decide, by decide⟩
    · exact ⟨4, rfl, by decide, by decide⟩
    · exact ⟨8, rfl, by decide, by decide⟩
  obtain ⟨t, S5, e5, p5, htl, ht⟩ := table_ok p4 k hk8 (by show _ ≤ 2147483648; omega) cs oc c1 c2
  obtain ⟨r1, S6, e6, p6, hr1⟩ := row_ok p5 (by show _ ≤ 2147483648; omega) cs oc c2
  obtain ⟨y, S7, e7, p7, hy⟩ := zn7 p6 (by show _ ≤ 2147483648; omega) (t.map rowD) (by rw [List.length_map]; omega) (by rw [List.length_map]; omega) (tabD t) (.inr rfl)
  obtain ⟨r2, hr2, rfl⟩ := List.mem_map.mp hy
  obtain ⟨z, S8, e8, p8, hz⟩ := zn7 p7 (by show _ ≤ 2147483648; omega) [rowD r1, rowD r2] (by simp) (by simp) _ (.inl rfl)
  obtain ⟨row, rfl, hrow⟩ : ∃ row, z = rowD row ∧ RowOK cs row := by
    simp only [List.mem_cons, List.not_mem_nil, or_false] at hz
    rcases hz with rfl | rfl
    · exact ⟨r1, rfl, hr1⟩
    · exact ⟨r2, rfl, ht _ hr2⟩
  simp! only [e3, e4, e5, e6, e7, e8, zjg (zdp (show cs.length ≤ 16000000 by omega)), List.length_map, List.length_range, zdi (show cs.length ≤ 16777216 by omega)]
  obtain ⟨st, S9, e9, p9, hst⟩ := lc_penF (enc := fun i : Nat => D.int ((i : Nat) : Int)) (q := fun i : Nat => D.int ((i : Nat) : Int)) (G := gNm 3) (t := tBl (x2 (o2 dLt) (xN zbi (zac (xVar 0) (zac (xC (.int 5)) aNil))) (xC (.int 2)))) (f := xVar 3) (T := T) (c := 1)
    (ρ := [some (.obj 0), some (.dat (.tup cs)), some (.dat (zce rs)), none, some (.dat (tabD t)), some (.dat (rowD row)), none]) (List.range cs.length) _ S8 p8 (by show _ ≤ 2147483648; simp; omega) (by
    intro a ha m S hp hm
    obtain ⟨u, S1, e, p, hu⟩ := zgs hp (by show _ ≤ 2147483648; have : m + 1 ≤ 2147483648 := hm; omega) 5 (by decide) (by decide)
    exact ⟨_, decide (((u : Nat) : Int) < 2), S1, rfl, by simp! only [e], p, fun _ => by simp! only []⟩)
  simp only [List.length_range] at p9
  simp! only [e9, p9.take h.len]
  exact ⟨cs, rs, t, row, st, S9, rfl, p9.mono (by omega), ⟨hcs, oc, by omega, hrs, by omega, ht, hrow, fun i hi => List.mem_range.mp (hst.subset hi), List.Pairwise.sublist hst List.pairwise_lt_range⟩, by omega⟩
theorem tds_repr (L : List (List Int)) (l3 : ∀ x ∈ L, x.length = 3 ∧ ∀ i ∈ x, (D.int i).tiny = true) (hl : L.length < 1000) : zj1 (.lst (L.map tD)) = some (.str (D.lst (L.map tD)).py.shown) := by
  refine znq (zj9 (n := 2) ?_ (by decide) ?_ ?_)
  · simp only [D.fit]
    exact fits_iff.mpr fun x hx => by obtain ⟨l, _, rfl⟩ := List.mem_map.mp hx; simp only [tD, D.fit, zgn]
  · simp only [D.tiny]
    refine tinys_iff.mpr fun x hx => ?_
    obtain ⟨l, hl, rfl⟩ := List.mem_map.mp hx
    simp only [tD, D.tiny]
    refine tinys_iff.mpr fun y hy => ?_
    obtain ⟨i, hi, rfl⟩ := List.mem_map.mp hy
    exact (l3 l hl).2 i hi
  · have := zj2 (xs := L.map tD) (c := 6) fun x hx => by
      obtain ⟨l, hl, rfl⟩ := List.mem_map.mp hx
      have := zj2 (xs := l.map D.int) (c := 0) fun y hy => by
        obtain ⟨i, hi, rfl⟩ := List.mem_map.mp hy
        simp [D.py, PyData.bulk]
      simp only [List.length_map, (l3 l hl).1] at this
      simp only [tD, D.py, PyData.bulk]
      omega
    simp only [List.length_map] at *
    simp only [D.py, PyData.bulk]
    omega
theorem td_repr (l : List Int) (l3 : l.length = 3 ∧ ∀ i ∈ l, (D.int i).tiny = true) : zj1 (tD l) = some (.str (tD l).py.shown) := by
  refine znq (zj9 (n := 1) ?_ (by decide) ?_ ?_)
  · simp only [tD, D.fit, zgn]
  · simp only [tD, D.tiny]
    refine tinys_iff.mpr fun y hy => ?_
    obtain ⟨i, hi, rfl⟩ := List.mem_map.mp hy
    exact l3.2 i hi
  · have := zj2 (xs := l.map D.int) (c := 0) fun y hy => by
      obtain ⟨i, hi, rfl⟩ := List.mem_map.mp hy
      simp [D.py, PyData.bulk]
    simp only [List.length_map, l3.1] at this
    simp only [tD, D.py, PyData.bulk]
    omega
theorem zmb {cs rs t row st} (F : Fix cs rs t row st) : ∀ x ∈ zbh rs t row st, x.length = 3 ∧ ∀ i ∈ x, (D.int i).tiny = true := fun x hx => by
  obtain ⟨k, v, hk, rfl, hv, hc, _⟩ := zoy F hx
  have := F.rl
  have := F.c4.2.1
  refine ⟨rfl, fun i hi => ?_⟩
  simp only [List.mem_cons, List.not_mem_nil, or_false] at hi
  rcases hi with rfl | rfl | rfl
  · exact zra (by omega)
  · exact zra (by omega)
  · exact hv.tiny
inductive Run (rs : List Rul) (t : Tab) : Row → List Nat → List (List Int) → Prop
  | nil {row : Row} {st : List Nat} : zdc (zbh rs t row st) = [] → Run rs t row st []
  | cons {row : Row} {st : List Nat} {k c : Nat} {v : Int} {tr : List (List Int)} : [((k : Nat) : Int), ((c : Nat) : Int), v] ∈ zdc (zbh rs t row st) → Run rs t (row.set c v) (addS c st) tr → Run rs t row st ([((k : Nat) : Int), ((c : Nat) : Int), v] :: tr)
theorem addS_len (c : Nat) (st : List Nat) : (addS c st).length = st.length + 1 := by
  have pm : (addS c st).Perm (st ++ [c]) := List.mergeSort_perm _ _
  rw [pm.length_eq, List.length_append]; rfl
theorem Fix.stl {cs rs t row st} (F : Fix cs rs t row st) : st.length ≤ cs.length := by
  have := PySem.DLSetT.few_of st (List.range cs.length) (F.inc.imp fun h => by omega) fun x hx => List.mem_range.mpr (F.sb x hx)
  simpa using this
theorem zma {cs rs t row st} (F : Fix cs rs t row st) {x : List Int} (hx : x ∈ zdc (zbh rs t row st)) : ∃ k c v, x = [((k : Nat) : Int), ((c : Nat) : Int), v] ∧ c < cs.length ∧ c ∉ st ∧ Fix cs rs t (row.set c v) (addS c st) := by
  obtain ⟨k, v, hk, rfl, hv, hc, hn⟩ := zoy F ((zg5 _ _).mp hx)
  exact ⟨k, _, v, rfl, hc, hn, F.step hc hn hv⟩
theorem Run.tiny {cs rs t} : ∀ {tr row st}, Run rs t row st tr → Fix cs rs t row st → ∀ x ∈ tr, x.length = 3 ∧ ∀ i ∈ x, (D.int i).tiny = true
  | [], _, _, _, _ => fun x hx => nomatch hx
  | _ :: tr, row, st, .cons (k := k) (c := c) (v := v) hm hr, F => fun x hx => by
    rcases List.mem_cons.mp hx with rfl | hx
    · exact zmb F _ ((zg5 _ _).mp hm)
    · obtain ⟨k', c', v', e, hc, hn, F2⟩ := zma F hm
      simp only [List.cons.injEq, and_true] at e
      obtain ⟨_, e2, rfl⟩ := e
      have e2 : c = c' := by omega
      subst e2
      exact Run.tiny hr F2 x hx
theorem do_step_ok {cs rs t row st} (F : Fix cs rs t row st) {k c : Nat} {v : Int} (hc : c < cs.length) (hn : c ∉ st) (S : zae) : ziq [.dat (rowD row), .dat (sD st), .dat (tD [((k : Nat) : Int), ((c : Nat) : Int), v])] S = .ok (.dat (.tup [rowD (row.set c v), sD (addS c st)])) S := by
  unfold ziq s_do_step
  obtain ⟨a1, _, _⟩ := addS_ok c st hn F.inc
  have hl := F.rw_.len
  have c4 := F.c4.2.1
  have ls := F.stl
  have e1 : ∀ ρ (a b d : D), gTp (gCo (gNm 3) (gCo (gNm 4) (gCo (gNm 5) gNo))) (.tup [a, b, d]) ρ = some (((ρ.set 3 (some (.dat a))).set 4 (some (.dat b))).set 5 (some (.dat d))) := fun _ _ _ _ => rfl
  have s4 : ∀ S, zi9 (.dat (.tup (((st ++ [c]).map fun i => ((i : Nat) : Int)).map .int))) S = .ok (((addS c st).map fun i => ((i : Nat) : Int)).map .int) S := fun S => by
    simp only [zi9, rd, ze_, a1]
  have a_srt : ∀ (f : XFn) (ρ : za2) (S : zae), zn4 f ρ S = (f ρ S).bind zi9 := fun _ _ _ => rfl
  have m1 : dats (((row.map D.int).take c).map DV.dat ++ DV.dat (.int v) :: ((row.map D.int).drop (c + 1)).map DV.dat) = some ((row.set c v).map .int) := by
    rw [← set_cut row c v (by omega)]
    have : ((row.map D.int).take c).map DV.dat ++ DV.dat (.int v) :: ((row.map D.int).drop (c + 1)).map DV.dat = ((row.map D.int).take c ++ [D.int v] ++ (row.map D.int).drop (c + 1)).map DV.dat := by simp
    rw [this]
    exact za4 _
  have m2 : dats ((st.map fun i => D.int ((i : Nat) : Int)).map DV.dat ++ [DV.dat (.int (c : Nat))]) = some (((st ++ [c]).map fun i => ((i : Nat) : Int)).map .int) := by
    have : (st.map fun i => D.int ((i : Nat) : Int)).map DV.dat ++ [DV.dat (.int (c : Nat))] = (((st ++ [c]).map fun i => ((i : Nat) : Int)).map D.int).map DV.dat := by simp
    rw [this]
    exact za4 _
  have z1 : szB ((row.set c v).map D.int).length = true := zdi (by rw [List.length_map, List.length_set]; omega)
  have z2 : szB (((st ++ [c]).map fun i => ((i : Nat) : Int)).map D.int).length = true := zdi (by simp; omega)
  have z3 : ((addS c st).map fun i => ((i : Nat) : Int)).map D.int = (addS c st).map fun i => D.int ((i : Nat) : Int) := by simp
  simp! only [tD, e1, rowD, sD, zch, rd, zm4, ziv, m1, z1]
  simp! only [a_srt, zch, rd, m2, z2, s4, z3]
end T46
set_option maxHeartbeats 400000
namespace T46
open PySem PySem.Spec PyProof.Rows L2 DL
theorem at_hd (a : D) (l : List D) : atI (a :: l) 0 = some a := by
  unfold atI ixN
  simp
theorem zlq {cs rs t row st} (F : Fix cs rs t row st) (S : zae) : zdv [.dat (zce rs), .dat (tabD t), .dat (rowD row), .dat (sD st)] S = .ok (.dat (.lst ((zdc (zbh rs t row st)).map tD))) S := by
  unfold zdv ziw
  obtain ⟨ρ', e, o5, o6, o7, o8, o9, rfl⟩ := fns_loop F S
  have en : ∀ S, enum1 (.dat (zce rs)) S = .ok ((rs.zipIdx.map fun p => (p.2, p.1)).map fun p => zoe (.int ((p.1 : Nat) : Int)) (rulD p.2)) S := fun S => by
    rw [zce, zbm, zp9]
  simp! only [en, e, a_sortT, zkl F]
abbrev fi43 (rs : List Rul) (t : Tab) (row : Row) (st : List Nat) (n : Nat) (o5 o6 : Option DV) : za2 := [some (.dat (zce rs)), some (.dat (tabD t)), some (.dat (rowD row)), some (.dat (sD st)), some (.obj n), o5, o6, none]
theorem zl2 {α : Type} (f : α → Str) : ∀ l : List α, zh0 (l.map fun x => D.str (f x)) = some (l.map f)
  | [] => rfl
  | a :: l => by simp only [List.map_cons, zh0, zl2 f l, Option.map_some]
theorem is_run_body {cs rs t row st} (F : Fix cs rs t row st) {k c : Nat} {v : Int} (hm : [((k : Nat) : Int), ((c : Nat) : Int), v] ∈ zdc (zbh rs t row st)) (hc : c < cs.length) (hn : c ∉ st) (n : Nat) (S : zae) (o6 : Option DV) : zdg (fi43 rs t row st n (some (.dat (tD [((k : Nat) : Int), ((c : Nat) : Int), v]))) o6) S = .nx (fi43 rs t (row.set c v) (addS c st) n (some (.dat (tD [((k : Nat) : Int), ((c : Nat) : Int), v]))) (some (.dat (.lst ((zdc (zbh rs t row st)).map tD))))) S := by
  have few := zjp F
  unfold zdg
  have e1 : ∀ ρ (a b : D), gTp (gCo (gNm 2) (gCo (gNm 3) gNo)) (.tup [a, b]) ρ = some ((ρ.set 2 (some (.dat a))).set 3 (some (.dat b))) := fun _ _ _ => rfl
  have r1 := td_repr _ (zmb F _ ((zg5 _ _).mp hm))
  have lc : ∀ ρ : za2, ρ.length = 8 → lcGo (gNm 7) zgh (xN (o1 zj1) (zac (xVar 7) aNil)) ρ ((zdc (zbh rs t row st)).map tD) S = .ok ((zdc (zbh rs t row st)).map fun x => D.str (tD x).py.shown) S := fun ρ hl => by
    rw [zfy (q := fun x => D.str (tD x).py.shown) (zdc (zbh rs t row st))]
    intro x hx
    have r2 := td_repr _ (zmb F _ ((zg5 _ _).mp hx))
    have e1 : ∀ d : D, (ρ.set 7 (some (.dat d)))[7]? = some (some (.dat d)) := fun d => by rw [List.getElem?_set_self (by omega)]
    exact ⟨ρ.set 7 (some (.dat (tD x))), rfl, rfl, by simp only [xN, zac, aNil, xVar, e1, Res.bind_ok, o1, rd, r2, res1]⟩
  have nin : dNinS (.str (tD [((k : Nat) : Int), ((c : Nat) : Int), v]).py.shown) (.lst ((zdc (zbh rs t row st)).map fun x => D.str (tD x).py.shown)) = some (.bl false) := by
    simp only [dNinS, zl2, Option.map_some]
    have : ((zdc (zbh rs t row st)).map fun x => (tD x).py.shown).contains (tD [((k : Nat) : Int), ((c : Nat) : Int), v]).py.shown = true := List.contains_iff_mem.mpr (List.mem_map.mpr ⟨_, hm, rfl⟩)
    rw [this]; rfl
  have ll : (zdc (zbh rs t row st)).length ≤ 16777216 := by omega
  simp! only [fi43, zjv F, r1, zdi ll, List.length_map]
  rw [lc _ rfl]
  simp! only [nin, zly F hc hn, e1]
theorem is_run_loop {cs rs t} {n : Nat} : ∀ (tr : List (List Int)) {row st} (F : Fix cs rs t row st), Run rs t row st tr → ∀ (pre : List (List Int)) (S : zae) (o5 o6 : Option DV), S[n]? = some (some ((pre ++ tr).map tD)) →
    ∃ row' st' o5' o6', zg9 (gNm 5) zdg n (pre ++ tr).length tr.length (fi43 rs t row st n o5 o6) S = .nx (fi43 rs t row' st' n o5' o6') S ∧ Fix cs rs t row' st' ∧ zdc (zbh rs t row' st') = [] := by
  intro tr
  induction tr with
  | nil =>
    intro row st F hr pre S o5 o6 hS
    cases hr with
    | nil h =>
      refine ⟨row, st, o5, o6, ?_, F, h⟩
      simp only [List.length_nil, zg9, zmk, hS, List.length_map, if_true]
  | cons x tr ih =>
    intro row st F hr0 pre S o5 o6 hS
    obtain ⟨k, c, v, hm, hr, rfl⟩ : ∃ (k c : Nat) (v : Int), [((k : Nat) : Int), ((c : Nat) : Int), v] ∈ zdc (zbh rs t row st) ∧ Run rs t (row.set c v) (addS c st) tr ∧ x = [((k : Nat) : Int), ((c : Nat) : Int), v] := by
      cases hr0 with
      | cons hm hr => exact ⟨_, _, _, hm, hr, rfl⟩
    obtain ⟨k', c', v', e, hc, hn, F2⟩ := zma F hm
    simp only [List.cons.injEq, and_true] at e
    obtain ⟨_, e2, rfl⟩ := e
    have e2 : c = c' := by omega
    subst e2
    have few := zjp F
    have b := is_run_body F hm hc hn n S o6
    obtain ⟨row', st', o5', o6', e, F3, h3⟩ := ih F2 hr (pre ++ [[((k : Nat) : Int), ((c : Nat) : Int), v]]) S (some (.dat (tD [((k : Nat) : Int), ((c : Nat) : Int), v]))) (some (.dat (.lst ((zdc (zbh rs t row st)).map tD)))) (by simpa using hS)
    refine ⟨row', st', o5', o6', ?_, F3, h3⟩
    have hn : (pre ++ [[((k : Nat) : Int), ((c : Nat) : Int), v]] ++ tr).length = (pre ++ [((k : Nat) : Int), ((c : Nat) : Int), v] :: tr).length := by simp
    rw [hn] at e
    have ge : ((pre ++ [((k : Nat) : Int), ((c : Nat) : Int), v] :: tr).map tD)[(pre ++ [((k : Nat) : Int), ((c : Nat) : Int), v] :: tr).length - (tr.length + 1)]? = some (tD [((k : Nat) : Int), ((c : Nat) : Int), v]) := by
      have : (pre ++ [((k : Nat) : Int), ((c : Nat) : Int), v] :: tr).length - (tr.length + 1) = pre.length := by simp
      rw [this]
      simp
    have gn : gNm 5 (tD [((k : Nat) : Int), ((c : Nat) : Int), v]) (fi43 rs t row st n o5 o6) = some (fi43 rs t row st n (some (.dat (tD [((k : Nat) : Int), ((c : Nat) : Int), v]))) o6) := rfl
    have cn : zmk S n (pre ++ [((k : Nat) : Int), ((c : Nat) : Int), v] :: tr).length = some ((pre ++ [((k : Nat) : Int), ((c : Nat) : Int), v] :: tr).map tD) := by simp only [zmk, hS, List.length_map, if_true]
    show zg9 (gNm 5) zdg n (pre ++ [((k : Nat) : Int), ((c : Nat) : Int), v] :: tr).length (tr.length + 1) _ S = _
    generalize (pre ++ [((k : Nat) : Int), ((c : Nat) : Int), v] :: tr).length = N at e ge cn ⊢
    rw [forGoO_nx cn ge gn b]
    exact e
theorem zqb {cs rs t row st} (F : Fix cs rs t row st) {tr : List (List Int)} (hr : Run rs t row st tr) (S : zae) (n : Nat) (hS : S[n]? = some (some (tr.map tD))) : zgu [.dat (zce rs), .dat (tabD t), .dat (rowD row), .dat (sD st), .obj n] S = .ok (.dat (.bl true)) S := by
  unfold zgu zkf
  obtain ⟨row', st', o5', o6', e, F3, h3⟩ := is_run_loop (n := n) tr F hr [] S none none hS
  have i1 : oIsi "list" (.obj n) S = .ok (.dat (.bl true)) S := by
    unfold oIsi
    simp only [rd, hS]
    rfl
  have w : ∀ ρ, forO (gNm 5) zdg (.obj n) ρ S = zg9 (gNm 5) zdg n tr.length tr.length ρ S := fun ρ => by simp only [forO, hS, List.length_map]
  have d1 : dEq (.lst []) (.lst []) = some (.bl true) := rfl
  have a_forO : ∀ (f : XFn) G h ρ S, sForO f G h ρ S = (f ρ S).bindS ρ fun x S1 => forO G h x ρ S1 := fun _ _ _ _ _ => rfl
  simp only [List.nil_append, fi43] at e
  simp! only [i1, a_forO, w, e, zjv F3, h3, List.map_nil, d1]
end T46
set_option maxHeartbeats 400000
namespace T46
open PySem PySem.Spec PyProof.Rows L2 DL
def RS.thn (r : RS) (k : za2 → zae → RS) : RS := match r with
  | .nx ρ S => k ρ S
  | .ct ρ S => k ρ S
  | .bk ρ S => .nx ρ S
  | r => r
theorem zpw {G : GFn} {f : SFn} {d : D} {ds : List D} {ρ ρ1 : za2} {S : zae} (h : G d ρ = some ρ1) : zfl G f (d :: ds) ρ S = RS.thn (f ρ1 S) (zfl G f ds) := by
  rw [zfl]
  simp only [h]
  all_goals (cases f ρ1 S <;> rfl)
theorem thn_nx (ρ : za2) (S : zae) (k : za2 → zae → RS) : RS.thn (.nx ρ S) k = k ρ S := rfl
theorem liftF_d {g : Fn} {ds : List DV} {d : D} (h : ∀ S, g ds S = .ok (.dat d) S) (hm : argM ds = some 0) (S : zae) : zpb g ds S = .ok (.dat d) S := by
  unfold zpb
  simp only [hm, hasM, cond_true, h, List.take_zero, List.drop_zero, List.nil_append]
/-! ## plain law -/
abbrev St46 := Row × List Nat
def go46 (s : St46) (x : List Int) : St46 := (s.1.set (x.getD 1 0).toNat (x.getD 2 0), addS (x.getD 1 0).toNat s.2)
def zh2 (rs : List Rul) (t : Tab) (s : St46) : Prop := ∃ tr, Run rs t s.1 s.2 tr ∧ s.2.length + tr.length < s.1.length
abbrev Fx46 (cs : List D) (rs : List Rul) (t : Tab) (s : St46) : Prop := Fix cs rs t s.1 s.2
theorem zm2 (s : St46) (x : List Int) : (go46 s x).2.length = s.2.length + 1 ∧ (go46 s x).1.length = s.1.length := ⟨addS_len _ _, by simp [go46]⟩
section
variable {cs : List D} {rs : List Rul} {t : Tab}
theorem zgo {s : St46} (F : Fx46 cs rs t s) {x : List Int} (h : x ∈ zdc (zbh rs t s.1 s.2)) : ∃ (k c : Nat) (v : Int), x = [((k : Nat) : Int), ((c : Nat) : Int), v] ∧ c < cs.length ∧ c ∉ s.2 ∧ go46 s x = (s.1.set c v, addS c s.2) ∧ Fx46 cs rs t (go46 s x) := by
  obtain ⟨k, c, v, rfl, hc, hn, F2⟩ := zma F h
  exact ⟨k, c, v, rfl, hc, hn, rfl, F2⟩
theorem znl {s : St46} (F : Fx46 cs rs t s) {x : List Int} {tr : List (List Int)} : Run rs t s.1 s.2 (x :: tr) ↔ x ∈ zdc (zbh rs t s.1 s.2) ∧ Run rs t (go46 s x).1 (go46 s x).2 tr := by
  constructor
  · intro h
    cases h with
    | cons hm hr =>
      refine ⟨hm, ?_⟩
      exact hr
  · rintro ⟨hm, hr⟩
    obtain ⟨k, c, v, rfl, hc, hn, e, F2⟩ := zgo F hm
    exact .cons hm hr
theorem run_nil {s : St46} : Run rs t s.1 s.2 [] ↔ zdc (zbh rs t s.1 s.2) = [] := ⟨fun h => by cases h with | nil h => exact h, fun h => .nil h⟩
theorem zlx {s : St46} (F : Fx46 cs rs t s) (h : zdc (zbh rs t s.1 s.2) = []) : zh2 rs t s ↔ s.2.length < s.1.length := by
  constructor
  · rintro ⟨tr, hr, hl⟩
    cases tr with
    | nil => simpa using hl
    | cons x tr =>
      have := ((znl F).mp hr).1
      rw [h] at this; cases this
  · exact fun hl => ⟨[], run_nil.mpr h, by simpa using hl⟩
theorem zeg {s : St46} (F : Fx46 cs rs t s) (h : zdc (zbh rs t s.1 s.2) ≠ []) : zh2 rs t s ↔ ∃ x ∈ zdc (zbh rs t s.1 s.2), zh2 rs t (go46 s x) := by
  constructor
  · rintro ⟨tr, hr, hl⟩
    cases tr with
    | nil => exact absurd (run_nil.mp hr) h
    | cons x tr =>
      obtain ⟨hm, hr⟩ := (znl F).mp hr
      refine ⟨x, hm, tr, hr, ?_⟩
      have := zm2 s x
      simp only [List.length_cons] at hl
      omega
  · rintro ⟨x, hm, tr, hr, hl⟩
    refine ⟨x :: tr, (znl F).mpr ⟨hm, hr⟩, ?_⟩
    have := zm2 s x
    simp only [List.length_cons]
    omega
/-! ### the search that remembers -/
abbrev zg_ := List St46
def addK (K : zg_) (s : St46) : zg_ := if s ∈ K then K else K ++ [s]
def fsL (rec : St46 → zg_ → Option (List (List Int)) × zg_) (s : St46) : List (List Int) → zg_ → Option (List (List Int)) × zg_
  | [], K => (none, K)
  | x :: xs, K => match rec (go46 s x) K with
    | (some tr, K') => (some (x :: tr), K')
    | (none, K') => fsL rec s xs K'
def fsP (rs : List Rul) (t : Tab) : Nat → St46 → zg_ → Option (List (List Int)) × zg_
  | 0, _, K => (none, K)
  | n + 1, s, K => if s ∈ K then (none, K) else
    if zdc (zbh rs t s.1 s.2) = [] then (if s.2.length < s.1.length then some [] else none, K) else
    match fsL (fsP rs t n) s (zdc (zbh rs t s.1 s.2)) K with
    | (none, K') => (none, addK K' s)
    | r => r
theorem mem_addK {K : zg_} {s p : St46} : p ∈ addK K s ↔ p ∈ K ∨ p = s := by
  unfold addK
  split
  · exact ⟨.inl, fun h => h.elim id fun e => by rw [e]; assumption⟩
  · simp
theorem fsP_ok : ∀ (n : Nat) (s : St46) (K : zg_), Fx46 cs rs t s → cs.length + 1 ≤ s.2.length + n → (∀ p ∈ K, ¬ zh2 rs t p) →
    (∀ tr K', fsP rs t n s K = (some tr, K') → Run rs t s.1 s.2 tr ∧ s.2.length + tr.length < s.1.length) ∧ (∀ K', fsP rs t n s K = (none, K') → ¬ zh2 rs t s ∧ ∀ p ∈ K', ¬ zh2 rs t p)
  | 0, s, K, F, hn, _ => by have := F.stl; omega
  | n + 1, s, K, F, hn, hK => by
    have loop : ∀ (xs : List (List Int)), (∀ x ∈ xs, x ∈ zdc (zbh rs t s.1 s.2)) → ∀ K : zg_, (∀ p ∈ K, ¬ zh2 rs t p) →
        (∀ tr K', fsL (fsP rs t n) s xs K = (some tr, K') → Run rs t s.1 s.2 tr ∧ s.2.length + tr.length < s.1.length) ∧ (∀ K', fsL (fsP rs t n) s xs K = (none, K') → (∀ x ∈ xs, ¬ zh2 rs t (go46 s x)) ∧ ∀ p ∈ K', ¬ zh2 rs t p) := by
      intro xs
      induction xs with
      | nil => exact fun _ K hK => ⟨fun tr K' e => by simp [fsL] at e, fun K' e => by simp only [fsL, Prod.mk.injEq, true_and] at e; subst e; exact ⟨fun x hx => (nomatch hx), hK⟩⟩
      | cons x xs ih =>
        intro hxs K hK
        have hm := hxs x List.mem_cons_self
        obtain ⟨k, c, v, _, _, _, _, F2⟩ := zgo F hm
        have gl := zm2 s x
        obtain ⟨r1, r2⟩ := fsP_ok n (go46 s x) K F2 (by omega) hK
        simp only [fsL]
        cases q : fsP rs t n (go46 s x) K with
        | mk o K1 =>
          cases o with
          | some tr =>
            refine ⟨fun tr' K' e => ?_, fun K' e => by simp at e⟩
            simp only [Prod.mk.injEq, Option.some.injEq] at e
            obtain ⟨rfl, rfl⟩ := e
            obtain ⟨h1, h2⟩ := r1 tr K1 q
            refine ⟨(znl F).mpr ⟨hm, h1⟩, ?_⟩
            simp only [List.length_cons]
            omega
          | none =>
            obtain ⟨h1, h2⟩ := r2 K1 q
            obtain ⟨i1, i2⟩ := ih (fun y hy => hxs y (List.mem_cons_of_mem _ hy)) K1 h2
            refine ⟨i1, fun K' e => ?_⟩
            obtain ⟨j1, j2⟩ := i2 K' e
            exact ⟨fun y hy => by
              rcases List.mem_cons.mp hy with rfl | hy
              · exact h1
              · exact j1 y hy, j2⟩
    simp only [fsP]
    by_cases hs : s ∈ K
    · simp only [hs, if_true]
      exact ⟨fun tr K' e => by simp at e, fun K' e => by simp only [Prod.mk.injEq, true_and] at e; subst e; exact ⟨hK s hs, hK⟩⟩
    · simp only [hs, if_false]
      by_cases hL : zdc (zbh rs t s.1 s.2) = []
      · simp only [hL, if_true]
        have sn := zlx F hL
        by_cases hl : s.2.length < s.1.length
        · simp only [hl, if_true]
          exact ⟨fun tr K' e => by simp only [Prod.mk.injEq, Option.some.injEq] at e; obtain ⟨rfl, rfl⟩ := e; exact ⟨run_nil.mpr hL, by simpa using hl⟩, fun K' e => by simp at e⟩
        · simp only [hl, if_false]
          exact ⟨fun tr K' e => by simp at e, fun K' e => by simp only [Prod.mk.injEq, true_and] at e; subst e; exact ⟨fun z => hl (sn.mp z), hK⟩⟩
      · simp only [hL, if_false]
        obtain ⟨l1, l2⟩ := loop _ (fun x h => h) K hK
        cases q : fsL (fsP rs t n) s (zdc (zbh rs t s.1 s.2)) K with
        | mk o K1 =>
          cases o with
          | some tr => exact ⟨fun tr' K' e => l1 tr' K' (by rw [q]; exact e), fun K' e => by simp at e⟩
          | none =>
            obtain ⟨h1, h2⟩ := l2 K1 q
            refine ⟨fun tr K' e => by simp at e, fun K' e => ?_⟩
            simp only [Prod.mk.injEq, true_and] at e
            subst e
            have ns : ¬ zh2 rs t s := fun z => by
              obtain ⟨x, hx, hz⟩ := (zeg F hL).mp z
              exact h1 x hx hz
            exact ⟨ns, fun p hp => by
              rcases mem_addK.mp hp with h | rfl
              · exact h2 p h
              · exact ns⟩
end
/-! ## the walk -/
def pK (s : St46) : D := .tup [.tup [rowD s.1, sD s.2], .bl true]
def kK (s : St46) : NestedKey := .tup [.tup (s.1.map .num), .tup (s.2.map fun i => .num ((i : Nat) : Int))]
def cK (K : zg_) : List D := .str "{}n" :: K.map pK
theorem zo6 : ∀ l : List Int, nkyDs (l.map .int) = some (l.map .num)
  | [] => rfl
  | a :: l => by simp only [List.map_cons, nkyDs, nkyD, zo6 l, Option.bind_some, Option.map_some]
theorem nky_row (r : Row) : nkyD (rowD r) = some (.tup (r.map .num)) := by simp only [rowD, nkyD, zo6, Option.map_some]
theorem nky_sD (st : List Nat) : nkyD (sD st) = some (.tup (st.map fun i => .num ((i : Nat) : Int))) := by
  have := zo6 (st.map fun i => ((i : Nat) : Int))
  rw [List.map_map, List.map_map] at this
  simp only [sD, nkyD]
  rw [show (fun i : Nat => D.int ((i : Nat) : Int)) = D.int ∘ fun i => ((i : Nat) : Int) from rfl, this]
  rfl
theorem nky_k (s : St46) : nkyD (.tup [rowD s.1, sD s.2]) = some (kK s) := by
  simp only [nkyD, nkyDs, nky_row, nky_sD, Option.bind_some, Option.map_some, kK]
theorem kK_inj {s p : St46} : kK s = kK p ↔ s = p := by
  constructor
  · intro h
    simp only [kK, NestedKey.tup.injEq, List.cons.injEq, and_true] at h
    obtain ⟨h1, h2⟩ := h
    have e1 : s.1 = p.1 := List.map_inj_right (fun a b e => by cases e; rfl) |>.mp h1
    have e2 : s.2 = p.2 := List.map_inj_right (fun a b e => by simp only [NestedKey.num.injEq] at e; omega) |>.mp h2
    exact Prod.ext e1 e2
  · rintro rfl; rfl
theorem zmj : ∀ l : List NestedKey, (∀ k ∈ l, k.depth = 0) → NestedKey.depthAll l = 0
  | [], _ => by simp [NestedKey.depthAll]
  | a :: l, h => by simp [NestedKey.depthAll, h a List.mem_cons_self, zmj l fun k hk => h k (List.mem_cons_of_mem _ hk)]
theorem kK_depth (s : St46) : (kK s).depth ≤ 8 := by
  have h1 := zmj (s.1.map .num) (fun k hk => by obtain ⟨i, _, rfl⟩ := List.mem_map.mp hk; simp [NestedKey.depth])
  have h2 := zmj (s.2.map fun i => .num ((i : Nat) : Int)) (fun k hk => by obtain ⟨i, _, rfl⟩ := List.mem_map.mp hk; simp [NestedKey.depth])
  simp only [kK, NestedKey.depth, NestedKey.depthAll, h1, h2]
  decide
theorem in_known (K : zg_) (s : St46) : inN (K.map pK) (kK s) = decide (s ∈ K) := by
  unfold inN
  rw [List.any_map, Bool.eq_iff_iff]
  simp only [List.any_eq_true, Function.comp, pK, pkD, nky_k, Option.some.injEq, kK_inj, decide_eq_true_eq]
  exact ⟨fun ⟨x, h, e⟩ => e ▸ h, fun h => ⟨s, h, rfl⟩⟩
theorem put_known (K : zg_) (s : St46) : putN (K.map pK) (kK s) (.tup [rowD s.1, sD s.2]) (.bl true) = (addK K s).map pK := by
  unfold putN addK
  rw [in_known]
  by_cases h : s ∈ K
  · simp only [h, decide_true, cond_true, if_true, List.map_map]
    refine List.map_congr_left fun p _ => ?_
    simp only [Function.comp, pK, setV]
    split <;> rfl
  · simp only [h, decide_false, cond_false, if_false, List.map_append]
    rfl
theorem spc_known {S : zae} {k : Nat} {K : zg_} (h : S[k]? = some (some (cK K))) : spcOf S (.spc k) = some (k, cK K) := by simp only [spcOf, h]
theorem inN_v {S : zae} {k : Nat} {K : zg_} (h : S[k]? = some (some (cK K))) (s : St46) : oInN (.dat (.tup [rowD s.1, sD s.2])) (.spc k) S = .ok (.dat (.bl (decide (s ∈ K)))) S := by
  unfold oInN
  simp only [spc_known h, cK, nky_k, kK_depth, in_known, and_self, if_true]
theorem putDN_v {S : zae} {k : Nat} {K : zg_} (h : S[k]? = some (some (cK K))) (hl : K.length < 16777216) (s : St46) (ρ : za2) : putDN (.spc k) (.dat (.tup [rowD s.1, sD s.2])) (.dat (.bl true)) ρ S = .nx ρ (S.set k (some (cK (addK K s)))) := by
  unfold putDN
  have hz : (K.map pK).length < sizeLine := by rw [List.length_map]; unfold sizeLine; omega
  simp only [spc_known h, cK, nky_k, kK_depth, hz, and_self, if_true, put_known]
def bnd : Nat → Nat
  | 0 => 0
  | u + 1 => 1 + 62 * bnd u
theorem a_putN (fd fk fv : XFn) (ρ : za2) (S : zae) : sPutN fd fk fv ρ S = (fv ρ S).bindS ρ fun v S1 => (fd ρ S1).bindS ρ fun x S2 => (fk ρ S2).bindS ρ fun y S3 => putDN x y v ρ S3 := rfl
theorem a_fnS (N : Nat) (fs : SFn) (ds : List DV) (S : zae) : zm_ N fs ds S = zqi (fs (ds.map some ++ List.replicate (N - ds.length) none) S) := rfl
theorem retN46 {ρ : za2} {S : zae} {x : List Int} {tr : List (List Int)} {j : Nat} (h6 : ρ[6]? = some (some (.dat (tD x)))) (h7 : ρ[7]? = some (some (.obj j))) (hj : S[j]? = some (some (tr.map tD))) (hl : tr.length ≤ 100) :
    sRetN (lLst (zac (xVar 6) (zpd (xVar 7) aNil))) ρ S = .rt (.obj S.length) (S ++ [some ((x :: tr).map tD)]) := by
  have dd : ∀ l : List D, dats (l.map .dat ++ []) = some l := fun l => by
    induction l with
    | nil => rfl
    | cons a l ih => simp only [List.map_cons, List.cons_append, dats, ih, Option.map_some]
  have hz : ((x :: tr).map tD).length ≤ sizeLine := by rw [List.length_map, List.length_cons]; unfold sizeLine; omega
  rw [a_retN]
  simp only [lLst, zac, zpd, aNil, xVar, h6, h7, Res.bind_ok, rd, hj, dats, dd, Option.map_some]
  simp only [List.map_cons] at hz
  simp only [hz, if_true, Res.bindS_ok, List.map_cons]
end T46
set_option maxHeartbeats 400000
namespace T46
open PySem PySem.Spec PyProof.Rows L2 DL
theorem zj_ {S : zae} {k : Nat} {x : Option (List D)} (h : S[k]? = some x) : S.set k x ++ [] = S := by
  rw [List.append_nil]
  apply List.ext_getElem?
  intro j
  rw [List.getElem?_set]
  split
  · rename_i e
    subst e
    obtain ⟨hl, hx⟩ := List.getElem?_eq_some_iff.mp h
    rw [if_pos hl, h]
  · rfl
theorem set_app {S G : zae} {k : Nat} {x y : Option (List D)} (h : k < S.length) : (S.set k x ++ G).set k y = S.set k y ++ G := by
  rw [List.set_append_left _ _ (by simpa using h), List.set_set]
theorem get_app {S G : zae} {k : Nat} {x : Option (List D)} (h : k < S.length) : (S.set k x ++ G)[k]? = some x := by
  rw [List.getElem?_append_left (by simpa using h), List.getElem?_set_self h]
theorem dEq_nilT (L : List (List Int)) : dEq (.lst (L.map tD)) (.lst []) = some (.bl L.isEmpty) := dEq_p (n := 2) (m := 1) (show D.fits 1 (L.map tD) = true from fits_iff.mpr fun x hx => by obtain ⟨l, _, rfl⟩ := List.mem_map.mp hx; simp only [tD, D.fit, zgn]) rfl (show D.noBs (L.map tD) = true from noBs_iff.mpr fun x hx => by obtain ⟨l, _, rfl⟩ := List.mem_map.mp hx; simp only [tD, D.noB]; exact noBs_iff.mpr fun y hy => by obtain ⟨i, _, rfl⟩ := List.mem_map.mp hy; rfl) rfl (by cases L <;> simp)
abbrev fr46 (rs : List Rul) (t : Tab) (s : St46) (k : Nat) (L : List (List Int)) (o6 o7 o8 o9 : Option DV) : za2 := [some (.dat (zce rs)), some (.dat (tabD t)), some (.dat (rowD s.1)), some (.dat (sD s.2)), some (.spc k), some (.dat (.lst (L.map tD))), o6, o7, o8, o9]
section
variable {cs : List D} {rs : List Rul} {t : Tab}
abbrev ag46 (rs : List Rul) (t : Tab) (s : St46) (k : Nat) : List DV := [.dat (zce rs), .dat (tabD t), .dat (rowD s.1), .dat (sD s.2), .spc k]
def Fs (cs : List D) (rs : List Rul) (t : Tab) (rec : Fn) (n : Nat) : Prop := ∀ (s : St46) (K : zg_), Fx46 cs rs t s → cs.length + 1 ≤ s.2.length + n → K.length + bnd (cs.length - s.2.length) ≤ 16777000 → ∀ (S : zae) (k : Nat), S[k]? = some (some (cK K)) →
  (∀ tr K', fsP rs t n s K = (some tr, K') → tr.length + s.2.length ≤ cs.length ∧ ∃ j c G, rec (ag46 rs t s k) S = .ok (.obj j) (S.set k (some c) ++ G) ∧ S.length ≤ j ∧ (S.set k (some c) ++ G)[j]? = some (some (tr.map tD))) ∧
  (∀ K', fsP rs t n s K = (none, K') → K'.length ≤ K.length + bnd (cs.length - s.2.length) ∧ ∃ G, rec (ag46 rs t s k) S = .ok (.dat .non) (S.set k (some (cK K')) ++ G))
theorem fs_pre {s : St46} (F : Fx46 cs rs t s) {x : List Int} (hx : x ∈ zdc (zbh rs t s.1 s.2)) (rec : Fn) (L : List (List Int)) (k : Nat) (o7 o8 o9 : Option DV) (S : zae) :
    sTg (gTp (gCo (gNm 8) (gCo (gNm 9) gNo))) (xN (zpb ziq) (zac (xVar 2) (zac (xVar 3) (zac (xVar 6) aNil)))) (fr46 rs t s k L (some (.dat (tD x))) o7 o8 o9) S = .nx (fr46 rs t s k L (some (.dat (tD x))) o7 (some (.dat (rowD (go46 s x).1))) (some (.dat (sD (go46 s x).2)))) S := by
  obtain ⟨k0, c, v, rfl, hc, hn, e, F2⟩ := zgo F hx
  have e1 : ∀ ρ (a b : D), gTp (gCo (gNm 8) (gCo (gNm 9) gNo)) (.tup [a, b]) ρ = some ((ρ.set 8 (some (.dat a))).set 9 (some (.dat b))) := fun _ _ _ => rfl
  have e2 : ∀ S, zpb ziq [.dat (rowD s.1), .dat (sD s.2), .dat (tD [((k0 : Nat) : Int), ((c : Nat) : Int), v])] S = _ := fun S => liftF_d (fun S => do_step_ok F hc hn S) rfl S
  rw [e]
  simp! only [fr46, e1, e2]
theorem fs_body {s : St46} (F : Fx46 cs rs t s) {x : List Int} (hx : x ∈ zdc (zbh rs t s.1 s.2)) {rec : Fn} (L : List (List Int)) (k : Nat) (o7 o8 o9 : Option DV) (S : zae) :
    (∀ S', rec (ag46 rs t (go46 s x) k) S = .ok (.dat .non) S' → zbj rec (fr46 rs t s k L (some (.dat (tD x))) o7 o8 o9) S = .nx (fr46 rs t s k L (some (.dat (tD x))) (some (.dat .non)) (some (.dat (rowD (go46 s x).1))) (some (.dat (sD (go46 s x).2)))) S') ∧
    (∀ j S' (tr : List (List Int)), rec (ag46 rs t (go46 s x) k) S = .ok (.obj j) S' → S'[j]? = some (some (tr.map tD)) → tr.length ≤ 100 → zbj rec (fr46 rs t s k L (some (.dat (tD x))) o7 o8 o9) S = .rt (.obj S'.length) (S' ++ [some ((x :: tr).map tD)])) := by
  have n1 : ∀ S, oIsNo true (.dat .non) (.dat .non) S = .ok (.dat (.bl false)) S := fun _ => rfl
  have n2 : ∀ j S, oIsNo true (.obj j) (.dat .non) S = .ok (.dat (.bl true)) S := fun _ _ => rfl
  unfold zbj
  refine ⟨fun S' e => ?_, fun j S' tr e hj hl => ?_⟩
  · rw [zd0, fs_pre F hx rec, zcf]
    simp only [ag46] at e
    simp! only [fr46, e, n1]
  · rw [zd0, fs_pre F hx rec, zcf]
    simp only [ag46] at e
    have r := retN46 (ρ := fr46 rs t s k L (some (.dat (tD x))) (some (.obj j)) (some (.dat (rowD (go46 s x).1))) (some (.dat (sD (go46 s x).2)))) (x := x) (tr := tr) rfl rfl hj hl
    simp only [fr46] at r
    generalize sRetN (lLst (zac (xVar 6) (zpd (xVar 7) aNil))) = ret at r
    simp! only [fr46, e, n2, r]
theorem fs_loop {s : St46} (F : Fx46 cs rs t s) {n : Nat} (hn : cs.length + 1 ≤ s.2.length + (n + 1)) {rec : Fn} (hrec : Fs cs rs t rec n) (L : List (List Int)) : ∀ (xs : List (List Int)), (∀ x ∈ xs, x ∈ zdc (zbh rs t s.1 s.2)) → ∀ (K : zg_) (S : zae) (k : Nat) (o6 o7 o8 o9 : Option DV),
    S[k]? = some (some (cK K)) → K.length + xs.length * bnd (cs.length - (s.2.length + 1)) ≤ 16777000 →
    (∀ tr K', fsL (fsP rs t n) s xs K = (some tr, K') → tr.length + s.2.length ≤ cs.length ∧ ∃ j c G, zfl (gNm 6) (zbj rec) (xs.map tD) (fr46 rs t s k L o6 o7 o8 o9) S = .rt (.obj j) (S.set k (some c) ++ G) ∧ S.length ≤ j ∧ (S.set k (some c) ++ G)[j]? = some (some (tr.map tD))) ∧
    (∀ K', fsL (fsP rs t n) s xs K = (none, K') → K'.length ≤ K.length + xs.length * bnd (cs.length - (s.2.length + 1)) ∧ ∃ G o6' o7' o8' o9', zfl (gNm 6) (zbj rec) (xs.map tD) (fr46 rs t s k L o6 o7 o8 o9) S = .nx (fr46 rs t s k L o6' o7' o8' o9') (S.set k (some (cK K')) ++ G)) := by
  intro xs
  induction xs with
  | nil =>
    intro _ K S k o6 o7 o8 o9 hS _
    refine ⟨fun tr K' e => by simp [fsL] at e, fun K' e => ?_⟩
    simp only [fsL, Prod.mk.injEq, true_and] at e
    subst e
    exact ⟨by simp, [], o6, o7, o8, o9, by rw [zj_ hS]; rfl⟩
  | cons x xs ih =>
    intro hxs K S k o6 o7 o8 o9 hS hK
    have hm := hxs x List.mem_cons_self
    obtain ⟨_, _, _, _, _, _, _, F2⟩ := zgo F hm
    have gl := zm2 s x
    have hk := (List.getElem?_eq_some_iff.mp hS).1
    rw [List.length_cons, Nat.succ_mul] at hK
    obtain ⟨r1, r2⟩ := hrec (go46 s x) K F2 (by omega) (by rw [gl.1]; omega) S k hS
    obtain ⟨b1, b2⟩ := fs_body F hm (rec := rec) L k o7 o8 o9 S
    have st : ∀ ρ S, zfl (gNm 6) (zbj rec) ((x :: xs).map tD) ρ S = RS.thn (zbj rec (ρ.set 6 (some (.dat (tD x)))) S) (zfl (gNm 6) (zbj rec) (xs.map tD)) := fun ρ S => zpw rfl
    have sr : (fr46 rs t s k L o6 o7 o8 o9).set 6 (some (.dat (tD x))) = fr46 rs t s k L (some (.dat (tD x))) o7 o8 o9 := rfl
    simp only [fsL]
    cases q : fsP rs t n (go46 s x) K with
    | mk o K1 =>
      cases o with
      | some tr =>
        obtain ⟨l1, j, c, G, e1, e0, e2⟩ := r1 tr K1 q
        refine ⟨fun tr' K' e => ?_, fun K' e => by simp at e⟩
        simp only [Prod.mk.injEq, Option.some.injEq] at e
        obtain ⟨rfl, rfl⟩ := e
        have c4 := F.c4.2.1
        refine ⟨by rw [List.length_cons]; omega, _, c, G ++ [some ((x :: tr).map tD)], by rw [st, sr, b2 j _ tr e1 e2 (by omega), ← List.append_assoc]; rfl, by simp, by rw [← List.append_assoc, zmi]⟩
      | none =>
        obtain ⟨l1, G, e1⟩ := r2 K1 q
        rw [gl.1] at l1
        obtain ⟨i1, i2⟩ := ih (fun y hy => hxs y (List.mem_cons_of_mem _ hy)) K1 (S.set k (some (cK K1)) ++ G) k (some (.dat (tD x))) (some (.dat .non)) (some (.dat (rowD (go46 s x).1))) (some (.dat (sD (go46 s x).2))) (get_app hk) (by omega)
        refine ⟨fun tr K' e => ?_, fun K' e => ?_⟩
        · obtain ⟨l2, j, c, G2, e2, e0, e3⟩ := i1 tr K' e
          rw [set_app hk, List.append_assoc] at e2 e3
          exact ⟨l2, j, c, G ++ G2, by rw [st, sr, b1 _ e1, thn_nx]; exact e2, by simp at e0; omega, e3⟩
        · obtain ⟨l2, G2, p6, p7, p8, p9, e2⟩ := i2 K' e
          refine ⟨by rw [List.length_cons, Nat.succ_mul]; omega, G ++ G2, p6, p7, p8, p9, ?_⟩
          rw [st, sr, b1 _ e1, thn_nx, e2, set_app hk, List.append_assoc]
theorem fs_v : ∀ n : Nat, Fs cs rs t (zcl n) n
  | 0 => fun s K F hn _ _ _ _ => by have := F.stl; omega
  | n + 1 => by
    intro s K F hn hK S k hS
    have ih := fs_v n
    have hk := (List.getElem?_eq_some_iff.mp hS).1
    have few := zjp F
    have c4 := F.c4.2.1
    have stl := F.stl
    have hrw : s.1.length = cs.length := F.rw_.len
    have ns : ∀ S, zpb zdv [.dat (zce rs), .dat (tabD t), .dat (rowD s.1), .dat (sD s.2)] S = _ := fun S => liftF_d (fun S => zlq F S) rfl S
    have ink := inN_v hS s
    show (∀ tr K', _ → _ ∧ ∃ j c G, ze1 (zcl n) _ S = _ ∧ _ ∧ _) ∧ (∀ K', _ → _ ∧ ∃ G, ze1 (zcl n) _ S = _)
    unfold ze1 zje
    generalize hlb : zbj (zcl n) = lb
    simp only [fsP]
    by_cases hs : s ∈ K
    · simp only [hs, decide_true] at ink
      simp only [hs, if_true]
      refine ⟨fun tr K' e => by simp at e, fun K' e => ?_⟩
      simp only [Prod.mk.injEq, true_and] at e
      subst e
      refine ⟨by omega, [], ?_⟩
      rw [zj_ hS, a_fnS]
      simp! only [ag46, ink, zqi]
    · simp only [hs, decide_false] at ink
      simp only [hs, if_false]
      generalize hL : zdc (zbh rs t s.1 s.2) = L at ns few
      have d1 := dEq_nilT L
      by_cases hn0 : L = []
      · subst hn0
        simp only [List.isEmpty_nil, List.map_nil] at d1 ns
        simp only [if_true]
        simp only [rowD, sD] at ink ns
        have lt1 : dLt (.int ((s.2.length : Nat) : Int)) (.int ((s.1.length : Nat) : Int)) = some (.bl (decide (((s.2.length : Nat) : Int) < ((s.1.length : Nat) : Int)))) := rfl
        by_cases hl : s.2.length < s.1.length
        · have hd : decide (((s.2.length : Nat) : Int) < ((s.1.length : Nat) : Int)) = true := decide_eq_true (by omega)
          rw [hd] at lt1
          simp only [hl, if_true]
          refine ⟨fun tr K' e => ?_, fun K' e => by simp at e⟩
          simp only [Prod.mk.injEq, Option.some.injEq] at e
          obtain ⟨rfl, rfl⟩ := e
          refine ⟨by simpa using stl, S.length, cK K, [some []], ?_, Nat.le_refl _, ?_⟩
          rotate_left
          · have := zj_ hS
            rw [List.append_nil] at this
            rw [this]; simp
          have ss := zj_ hS
          rw [List.append_nil] at ss
          rw [ss]
          rw [a_fnS]
          simp! only [ag46, ink, ns, d1, lt1, rowD, sD, List.length_map, xNew, lLst, zqi, Nat.zero_le, if_true]
        · have hd : decide (((s.2.length : Nat) : Int) < ((s.1.length : Nat) : Int)) = false := decide_eq_false (by omega)
          rw [hd] at lt1
          simp only [hl, if_false]
          refine ⟨fun tr K' e => by simp at e, fun K' e => ?_⟩
          simp only [Prod.mk.injEq, true_and] at e
          subst e
          refine ⟨by omega, [], ?_⟩
          rw [zj_ hS, a_fnS]
          simp! only [ag46, ink, ns, d1, lt1, rowD, sD, List.length_map, zqi]
      · have ne : L.isEmpty = false := by cases L with
          | nil => exact absurd rfl hn0
          | cons a l => rfl
        rw [ne] at d1
        simp only [hn0, if_false]
        have hu : s.2.length < cs.length := by
          rcases Nat.lt_or_ge s.2.length cs.length with h | h
          · exact h
          · obtain ⟨x, l, rfl⟩ : ∃ x l, L = x :: l := by cases L with
              | nil => exact absurd rfl hn0
              | cons a l => exact ⟨a, l, rfl⟩
            obtain ⟨_, _, _, _, _, _, _, F2⟩ := zgo F (x := x) (by rw [hL]; exact List.mem_cons_self)
            have := F2.stl
            rw [(zm2 s x).1] at this
            omega
        obtain ⟨u, hu2⟩ : ∃ u, cs.length - s.2.length = u + 1 := ⟨cs.length - s.2.length - 1, by omega⟩
        have hu3 : cs.length - (s.2.length + 1) = u := by omega
        have hb : bnd (cs.length - s.2.length) = 1 + 62 * bnd u := by rw [hu2]; rfl
        have hm : L.length * bnd u ≤ 62 * bnd u := Nat.mul_le_mul_right _ (by omega)
        obtain ⟨l1, l2⟩ := fs_loop F hn ih L L (fun x hx => by rw [hL]; exact hx) K S k none none none none hS (by rw [hu3]; omega)
        rw [hlb] at l1 l2
        rw [hu3] at l2
        cases q : fsL (fsP rs t n) s L K with
        | mk o K1 =>
          cases o with
          | some tr =>
            refine ⟨fun tr' K' e => ?_, fun K' e => by simp at e⟩
            simp only [Prod.mk.injEq, Option.some.injEq] at e
            obtain ⟨rfl, rfl⟩ := e
            obtain ⟨m1, j, c, G, e1, e0, e2⟩ := l1 tr K1 q
            simp only [fr46] at e1
            refine ⟨m1, j, c, G, ?_, e0, e2⟩
            rw [a_fnS]
            simp! only [ag46, ink, ns, d1, e1, zqi]
          | none =>
            refine ⟨fun tr K' e => by simp at e, fun K' e => ?_⟩
            simp only [Prod.mk.injEq, true_and] at e
            subst e
            obtain ⟨m1, G, p6, p7, p8, p9, e1⟩ := l2 K1 q
            simp only [fr46] at e1
            have ak : (addK K1 s).length ≤ K1.length + 1 := by unfold addK; split <;> simp
            refine ⟨by omega, G, ?_⟩
            have pv := fun ρ => putDN_v (get_app (G := G) (x := some (cK K1)) hk) (by omega) s ρ
            rw [a_fnS]
            simp! only [ag46, ink, ns, d1, e1, a_putN, pv, set_app hk, zqi]
end
theorem bnd4 : ∀ u, u ≤ 4 → bnd u ≤ 16777000 := fun u h => by
  have : ∀ u : Fin 5, bnd u.1 ≤ 16777000 := by decide
  exact this ⟨u, by omega⟩
def zpi (rs : List Rul) (t : Tab) (s : St46) : Option (List (List Int)) := (fsP rs t 6 s []).1
theorem stopO_ok {cs : List D} {rs : List Rul} {t : Tab} {s : St46} (F : Fx46 cs rs t s) : (∀ tr, zpi rs t s = some tr → Run rs t s.1 s.2 tr ∧ s.2.length + tr.length < s.1.length) ∧ (zpi rs t s = none → ¬ zh2 rs t s) := by
  have c4 := F.c4.2.1
  obtain ⟨h1, h2⟩ := fsP_ok 6 s [] F (by omega) (fun p hp => nomatch hp)
  unfold zpi
  cases q : fsP rs t 6 s [] with
  | mk o K =>
    exact ⟨fun tr e => h1 tr K (by rw [q, show o = some tr from e]), fun e => (h2 K (by rw [q, show o = none from e])).1⟩
theorem find_stop_v {cs : List D} {rs : List Rul} {t : Tab} {s : St46} (F : Fx46 cs rs t s) (S : zae) :
    zi7 [.dat (zce rs), .dat (tabD t), .dat (rowD s.1), .dat (sD s.2)] S = match zpi rs t s with
      | none => .ok (.dat .non) S
      | some tr => .ok (.obj S.length) (S ++ [some (tr.map tD)]) := by
  have c4 := F.c4.2.1
  have hS : (S ++ [none, some [.str "{}n"]])[S.length + 1]? = some (some (cK [])) := by
    rw [List.getElem?_append_right (by omega)]
    simp [cK]
  obtain ⟨h1, h2⟩ := fs_v (cs := cs) 6 s [] F (by omega) (by have := bnd4 (cs.length - s.2.length) (by omega); simpa using this) _ _ hS
  have nw : ∀ ρ S, xNewN ρ S = .ok (.spc (S.length + 1)) (S ++ [none, some [.str "{}n"]]) := fun _ _ => rfl
  have gf : zhb = zcl 6 := rfl
  have sd : ∀ (c : List D), ((S ++ [none, some [D.str "{}n"]]).set (S.length + 1) (some c)).take S.length = S := fun c => by
    rw [List.set_append_right _ _ (by omega)]
    simp
  unfold zpi zi7 sealF zjm zo2
  rw [a_fnS]
  cases q : fsP rs t 6 s [] with
  | mk o K =>
    cases o with
    | none =>
      obtain ⟨_, G, e⟩ := h2 K q
      simp only [ag46] at e
      simp! only [nw, gf, e, zqi, zn_]
      rw [List.take_append_of_le_length (by simp), sd]
    | some tr =>
      obtain ⟨_, j, c, G, e, e0, e1⟩ := h1 tr K q
      simp only [ag46] at e
      have nj : ¬ j < S.length := by simp at e0; omega
      simp! only [nw, gf, e, zqi, zn_, nj, if_false, e1]
      rw [List.take_append_of_le_length (by simp), sd]
end T46
set_option maxHeartbeats 400000
namespace T46
open PySem PySem.Spec PyProof.Rows L2 DL
/-! ## the law's search -/
def lsL (rec : St46 → zg_ → Bool × zg_) (s : St46) : List (List Int) → zg_ → Bool × zg_
  | [], V => (false, V)
  | x :: xs, V => match rec (go46 s x) V with
    | (true, V') => (true, V')
    | (false, V') => lsL rec s xs V'
def lsP (rs : List Rul) (t : Tab) : Nat → St46 → zg_ → Bool × zg_
  | 0, _, V => (false, V)
  | n + 1, s, V => if s ∈ V then (false, V) else
    if zdc (zbh rs t s.1 s.2) = [] then (decide (s.2.length < s.1.length), V ++ [s]) else
    lsL (lsP rs t n) s (zdc (zbh rs t s.1 s.2)) (V ++ [s])
section
variable {cs : List D} {rs : List Rul} {t : Tab}
theorem lsP_ok : ∀ (n : Nat) (s : St46) (V : zg_), Fx46 cs rs t s → cs.length + 1 ≤ s.2.length + n → (∀ p ∈ V, s.2.length ≤ p.2.length → ¬ zh2 rs t p) →
    (∀ V', lsP rs t n s V = (true, V') → zh2 rs t s) ∧ (∀ V', lsP rs t n s V = (false, V') → ¬ zh2 rs t s ∧ ∃ A, V' = V ++ A ∧ ∀ p ∈ A, s.2.length ≤ p.2.length ∧ ¬ zh2 rs t p)
  | 0, s, V, F, hn, _ => by have := F.stl; omega
  | n + 1, s, V, F, hn, hV => by
    have loop : ∀ (xs : List (List Int)), (∀ x ∈ xs, x ∈ zdc (zbh rs t s.1 s.2)) → ∀ V : zg_, (∀ p ∈ V, s.2.length + 1 ≤ p.2.length → ¬ zh2 rs t p) →
        (∀ V', lsL (lsP rs t n) s xs V = (true, V') → ∃ x ∈ xs, zh2 rs t (go46 s x)) ∧ (∀ V', lsL (lsP rs t n) s xs V = (false, V') → (∀ x ∈ xs, ¬ zh2 rs t (go46 s x)) ∧ ∃ A, V' = V ++ A ∧ ∀ p ∈ A, s.2.length + 1 ≤ p.2.length ∧ ¬ zh2 rs t p) := by
      intro xs
      induction xs with
      | nil => exact fun _ V hV => ⟨fun V' e => by simp [lsL] at e, fun V' e => by simp only [lsL, Prod.mk.injEq, true_and] at e; subst e; exact ⟨fun x hx => (nomatch hx), [], by simp, fun p hp => (nomatch hp)⟩⟩
      | cons x xs ih =>
        intro hxs V hV
        have hm := hxs x List.mem_cons_self
        obtain ⟨_, _, _, _, _, _, _, F2⟩ := zgo F hm
        have gl := zm2 s x
        obtain ⟨r1, r2⟩ := lsP_ok n (go46 s x) V F2 (by omega) (fun p hp h => hV p hp (by omega))
        simp only [lsL]
        cases q : lsP rs t n (go46 s x) V with
        | mk b V1 =>
          cases b with
          | true => exact ⟨fun V' e => ⟨x, List.mem_cons_self, r1 V1 q⟩, fun V' e => by simp at e⟩
          | false =>
            obtain ⟨h1, A, rfl, h2⟩ := r2 V1 q
            obtain ⟨i1, i2⟩ := ih (fun y hy => hxs y (List.mem_cons_of_mem _ hy)) (V ++ A) (fun p hp h => by
              rcases List.mem_append.mp hp with hp | hp
              · exact hV p hp h
              · exact (h2 p hp).2)
            refine ⟨fun V' e => ?_, fun V' e => ?_⟩
            · obtain ⟨y, hy, hz⟩ := i1 V' e
              exact ⟨y, List.mem_cons_of_mem _ hy, hz⟩
            · obtain ⟨j1, B, rfl, j2⟩ := i2 V' e
              refine ⟨fun y hy => ?_, A ++ B, by rw [List.append_assoc], fun p hp => ?_⟩
              · rcases List.mem_cons.mp hy with rfl | hy
                · exact h1
                · exact j1 y hy
              · rcases List.mem_append.mp hp with hp | hp
                · have := h2 p hp
                  exact ⟨by omega, this.2⟩
                · exact j2 p hp
    simp only [lsP]
    by_cases hs : s ∈ V
    · simp only [hs, if_true]
      exact ⟨fun V' e => by simp at e, fun V' e => by simp only [Prod.mk.injEq, true_and] at e; subst e; exact ⟨hV s hs (Nat.le_refl _), [], by simp, fun p hp => (nomatch hp)⟩⟩
    · simp only [hs, if_false]
      by_cases hL : zdc (zbh rs t s.1 s.2) = []
      · simp only [hL, if_true]
        have sn := zlx F hL
        refine ⟨fun V' e => ?_, fun V' e => ?_⟩
        · simp only [Prod.mk.injEq, decide_eq_true_eq] at e
          exact sn.mpr e.1
        · simp only [Prod.mk.injEq, decide_eq_false_iff_not] at e
          obtain ⟨e1, rfl⟩ := e
          have ns : ¬ zh2 rs t s := fun z => e1 (sn.mp z)
          exact ⟨ns, [s], rfl, fun p hp => by simp at hp; subst hp; exact ⟨Nat.le_refl _, ns⟩⟩
      · simp only [hL, if_false]
        obtain ⟨l1, l2⟩ := loop _ (fun x h => h) (V ++ [s]) (fun p hp h => by
          rcases List.mem_append.mp hp with hp | hp
          · exact hV p hp (by omega)
          · simp at hp; subst hp; omega)
        refine ⟨fun V' e => (zeg F hL).mpr (l1 V' e), fun V' e => ?_⟩
        obtain ⟨h1, A, rfl, h2⟩ := l2 V' e
        have ns : ¬ zh2 rs t s := fun z => by
          obtain ⟨x, hx, hz⟩ := (zeg F hL).mp z
          exact h1 x hx hz
        refine ⟨ns, [s] ++ A, by rw [List.append_assoc], fun p hp => ?_⟩
        rcases List.mem_append.mp hp with hp | hp
        · simp at hp; subst hp; exact ⟨Nat.le_refl _, ns⟩
        · have := h2 p hp
          exact ⟨by omega, this.2⟩
end
/-! ### its walk -/
def sh46 (s : St46) : Str := (D.tup [rowD s.1, sD s.2]).py.shown
def strK (s : St46) : D := .str (sh46 s)
theorem pys_ints : ∀ l : List Int, D.pys (l.map .int) = l.map .int
  | [] => rfl
  | a :: l => by simp only [List.map_cons, D.pys, D.py, pys_ints l]
theorem sD_ints (st : List Nat) : sD st = .tup ((st.map fun i => ((i : Nat) : Int)).map .int) := by
  rw [List.map_map]; rfl
theorem py46 (s : St46) : (D.tup [rowD s.1, sD s.2]).py = .tuple [.tuple (s.1.map .int), .tuple ((s.2.map fun i => ((i : Nat) : Int)).map .int)] := by
  rw [sD_ints]
  simp only [D.py, D.pys, rowD, pys_ints]
theorem zpx : ∀ l : List Int, noTxs (l.map .int) = true
  | [] => rfl
  | a :: l => by simp only [List.map_cons, noTxs, noTx, zpx l, Bool.and_self]
theorem sh46_inj {s p : St46} : sh46 s = sh46 p ↔ s = p := by
  constructor
  · intro h
    have nt : noTx (D.tup [rowD p.1, sD p.2]).py = true := by
      rw [py46]
      simp only [noTx, noTxs, zpx, Bool.and_self]
    have e := shown_inj nt h
    rw [py46, py46] at e
    simp only [PyData.tuple.injEq, List.cons.injEq, and_true] at e
    obtain ⟨h1, h2⟩ := e
    have e1 : s.1 = p.1 := List.map_inj_right (fun a b e => by cases e; rfl) |>.mp h1
    have e2 := List.map_inj_right (fun a b e => by cases e; rfl) |>.mp h2
    have e3 : s.2 = p.2 := List.map_inj_right (fun a b e => by omega) |>.mp e2
    exact Prod.ext e1 e3
  · rintro rfl; rfl
theorem repr46 {cs : List D} {rs : List Rul} {t : Tab} {s : St46} (F : Fx46 cs rs t s) : zj1 (.tup [rowD s.1, sD s.2]) = some (strK s) := by
  have c4 := F.c4.2.1
  have hl := F.rw_.len
  have sl := F.stl
  refine znq (zj9 (n := 3) ?_ (by decide) ?_ ?_)
  · rw [sD_ints]
    simp only [D.fit, D.fits, rowD, zgn, Bool.and_self]
  · simp only [D.tiny, D.tinys, rowD, sD, Bool.and_true, Bool.and_eq_true]
    refine ⟨tinys_iff.mpr fun y hy => ?_, tinys_iff.mpr fun y hy => ?_⟩
    · obtain ⟨i, hi, rfl⟩ := List.mem_map.mp hy
      obtain ⟨j, hj, rfl⟩ := List.mem_iff_getElem.mp hi
      have := F.rw_.val (i := j) (by omega)
      have e : s.1.getD j 0 = s.1[j] := by rw [List.getD_eq_getElem?_getD, List.getElem?_eq_getElem hj]; rfl
      rw [e] at this
      exact this.tiny
    · obtain ⟨i, hi, rfl⟩ := List.mem_map.mp hy
      have := F.sb i hi
      exact zra (by omega)
  · have h1 := zj2 (xs := s.1.map D.int) (c := 0) fun y hy => by
      obtain ⟨i, hi, rfl⟩ := List.mem_map.mp hy
      simp [D.py, PyData.bulk]
    have h2 := zj2 (xs := s.2.map fun i => D.int ((i : Nat) : Int)) (c := 0) fun y hy => by
      obtain ⟨i, hi, rfl⟩ := List.mem_map.mp hy
      simp [D.py, PyData.bulk]
    simp only [List.length_map] at h1 h2
    simp only [rowD, sD, D.py, D.pys, PyData.bulk, PyData.bulkAll]
    omega
theorem inS46 (V : zg_) (s : St46) : dInS (strK s) (.lst (V.map strK)) = some (.bl (decide (s ∈ V))) := by
  unfold strK
  simp only [dInS, zl2, Option.map_some]
  congr 2
  rw [Bool.eq_iff_iff, List.contains_iff_mem, decide_eq_true_eq, List.mem_map]
  exact ⟨fun ⟨p, hp, e⟩ => (sh46_inj.mp e) ▸ hp, fun h => ⟨s, h, rfl⟩⟩
theorem app_at {ρ : za2} {S : zae} {f g : XFn} {k : Nat} {ds : List D} {d : D} (hf : f ρ S = .ok (.obj k) S) (hg : g ρ S = .ok (.dat d) S) (hS : S[k]? = some (some ds)) (hl : ds.length < sizeLine) : sApp f g ρ S = .nx ρ (S.set k (some (ds ++ [d]))) := by
  unfold sApp
  have hc : DL.zdx S (.obj k) = some (k, ds) := by simp only [DL.zdx, hS]
  simp only [hf, hg, Res.bindS_ok, hc, zpv, hl, if_true]
def bnl : Nat → Nat
  | 0 => 1
  | u + 1 => 1 + 62 * bnl u
abbrev fl46 (rs : List Rul) (t : Tab) (s : St46) (k : Nat) (L : List (List Int)) (o6 o7 : Option DV) : za2 := [some (.dat (zce rs)), some (.dat (tabD t)), some (.dat (rowD s.1)), some (.dat (sD s.2)), some (.obj k), some (.dat (.lst (L.map tD))), o6, o7]
abbrev al46 (rs : List Rul) (t : Tab) (s : St46) (k : Nat) : List DV := [.dat (zce rs), .dat (tabD t), .dat (rowD s.1), .dat (sD s.2), .obj k]
section
variable {cs : List D} {rs : List Rul} {t : Tab}
def Ls (cs : List D) (rs : List Rul) (t : Tab) (rec : Fn) (n : Nat) : Prop := ∀ (s : St46) (V : zg_), Fx46 cs rs t s → cs.length + 1 ≤ s.2.length + n → V.length + bnl (cs.length - s.2.length) ≤ 16777000 → ∀ (S : zae) (k : Nat), S[k]? = some (some (V.map strK)) →
  (lsP rs t n s V).2.length ≤ V.length + bnl (cs.length - s.2.length) ∧ rec (al46 rs t s k) S = .ok (.dat (.bl (lsP rs t n s V).1)) (S.set k (some ((lsP rs t n s V).2.map strK)))
theorem ls_body {s : St46} (F : Fx46 cs rs t s) {x : List Int} (hx : x ∈ zdc (zbh rs t s.1 s.2)) {rec : Fn} (L : List (List Int)) (k : Nat) (o7 : Option DV) (S S' : zae) (b : Bool) (e : rec (al46 rs t (go46 s x) k) S = .ok (.dat (.bl b)) S') :
    ∃ o7', zdb rec (fl46 rs t s k L (some (.dat (tD x))) o7) S = bif b then .rt (.dat (.bl true)) S' else .nx (fl46 rs t s k L (some (.dat (tD x))) o7') S' := by
  obtain ⟨k0, c, v, rfl, hc, hn, e0, F2⟩ := zgo F hx
  rw [e0] at e
  simp only [al46] at e
  have e1 := fun S => zly F (k := k0) (v := v) hc hn S
  unfold zdb
  have i0 : dIx (.tup [rowD (s.1.set c v), sD (addS c s.2)]) (.int 0) = some (rowD (s.1.set c v)) := rfl
  have i1 : dIx (.tup [rowD (s.1.set c v), sD (addS c s.2)]) (.int 1) = some (sD (addS c s.2)) := rfl
  refine ⟨some (.dat (.tup [rowD (s.1.set c v), sD (addS c s.2)])), ?_⟩
  cases b <;> simp! only [fl46, e1, i0, i1, e]
theorem ls_loop {s : St46} (F : Fx46 cs rs t s) {n : Nat} (hn : cs.length + 1 ≤ s.2.length + (n + 1)) {rec : Fn} (hrec : Ls cs rs t rec n) (L : List (List Int)) : ∀ (xs : List (List Int)), (∀ x ∈ xs, x ∈ zdc (zbh rs t s.1 s.2)) → ∀ (V : zg_) (S : zae) (k : Nat) (o6 o7 : Option DV),
    S[k]? = some (some (V.map strK)) → V.length + xs.length * bnl (cs.length - (s.2.length + 1)) ≤ 16777000 →
    (lsL (lsP rs t n) s xs V).2.length ≤ V.length + xs.length * bnl (cs.length - (s.2.length + 1)) ∧
    ∃ o6' o7', zfl (gNm 6) (zdb rec) (xs.map tD) (fl46 rs t s k L o6 o7) S = bif (lsL (lsP rs t n) s xs V).1 then .rt (.dat (.bl true)) (S.set k (some ((lsL (lsP rs t n) s xs V).2.map strK))) else .nx (fl46 rs t s k L o6' o7') (S.set k (some ((lsL (lsP rs t n) s xs V).2.map strK))) := by
  intro xs
  induction xs with
  | nil =>
    intro _ V S k o6 o7 hS _
    refine ⟨by simp [lsL], o6, o7, ?_⟩
    have := zj_ hS
    rw [List.append_nil] at this
    simp only [lsL, cond_false]
    rw [this]; rfl
  | cons x xs ih =>
    intro hxs V S k o6 o7 hS hK
    have hm := hxs x List.mem_cons_self
    obtain ⟨_, _, _, _, _, _, _, F2⟩ := zgo F hm
    have gl := zm2 s x
    have hk := (List.getElem?_eq_some_iff.mp hS).1
    rw [List.length_cons, Nat.succ_mul] at hK
    obtain ⟨r1, r2⟩ := hrec (go46 s x) V F2 (by omega) (by rw [gl.1]; omega) S k hS
    obtain ⟨p7, b1⟩ := ls_body F hm (rec := rec) L k o7 S _ _ r2
    have st : ∀ ρ S, zfl (gNm 6) (zdb rec) ((x :: xs).map tD) ρ S = RS.thn (zdb rec (ρ.set 6 (some (.dat (tD x)))) S) (zfl (gNm 6) (zdb rec) (xs.map tD)) := fun ρ S => zpw rfl
    have sr : (fl46 rs t s k L o6 o7).set 6 (some (.dat (tD x))) = fl46 rs t s k L (some (.dat (tD x))) o7 := rfl
    rw [st, sr, b1]
    simp only [lsL]
    cases q : lsP rs t n (go46 s x) V with
    | mk b V1 =>
      rw [q, gl.1] at r1
      dsimp only at r1 ⊢
      cases b with
      | true =>
        refine ⟨by rw [List.length_cons, Nat.succ_mul]; dsimp only; omega, none, none, ?_⟩
        simp only [cond_true]
        rfl
      | false =>
        have hS1 : (S.set k (some (V1.map strK)))[k]? = some (some (V1.map strK)) := List.getElem?_set_self hk
        obtain ⟨i1, p6', p7', i2⟩ := ih (fun y hy => hxs y (List.mem_cons_of_mem _ hy)) V1 _ k (some (.dat (tD x))) p7 hS1 (by omega)
        refine ⟨by rw [List.length_cons, Nat.succ_mul]; dsimp only; omega, p6', p7', ?_⟩
        simp only [cond_false, thn_nx]
        rw [i2, List.set_set]
theorem ls_v : ∀ n : Nat, Ls cs rs t (zfw n) n
  | 0 => fun s V F hn _ _ _ _ => by have := F.stl; omega
  | n + 1 => by
    intro s V F hn hK S k hS
    have ih := ls_v n
    have hk := (List.getElem?_eq_some_iff.mp hS).1
    have few := zjp F
    have c4 := F.c4.2.1
    have stl := F.stl
    have hrw : s.1.length = cs.length := F.rw_.len
    have ns : ∀ S, zd9 [.dat (zce rs), .dat (tabD t), .dat (rowD s.1), .dat (sD s.2)] S = _ := fun S => zjv F S
    have rp := repr46 F
    have ik := inS46 V s
    have tk : ∀ v, (S.set k v).take S.length = S.set k v := fun v => List.take_of_length_le (by simp)
    have oin : o2 dInS (.dat (strK s)) (.obj k) S = .ok (.dat (.bl (decide (s ∈ V)))) S := by
      unfold o2
      simp only [rd, hS, ik, res1]
    have bl1 : 1 ≤ bnl (cs.length - s.2.length) := by cases cs.length - s.2.length <;> simp [bnl] <;> omega
    show _ ∧ zho (zfw n) _ S = _
    unfold zho zlp
    generalize hlb : zdb (zfw n) = lb
    simp only [lsP]
    by_cases hs : s ∈ V
    · simp only [hs, decide_true] at oin
      simp only [hs, if_true]
      refine ⟨by omega, ?_⟩
      have ss := zj_ hS
      rw [List.append_nil] at ss
      rw [ss]
      simp! only [al46, rp, oin]
    · simp only [hs, decide_false] at oin
      simp only [hs, if_false]
      have ap := fun ρ f g hf hg => app_at (ρ := ρ) (f := f) (g := g) (d := strK s) hf hg hS (by rw [List.length_map]; unfold sizeLine; omega)
      rw [show V.map strK ++ [strK s] = (V ++ [s]).map strK by simp] at ap
      have hap : sApp (xVar 4) (xN (o1 zj1) (zac (xTup (zac (xVar 2) (zac (xVar 3) aNil))) aNil)) [some (.dat (zce rs)), some (.dat (tabD t)), some (.dat (rowD s.1)), some (.dat (sD s.2)), some (.obj k), none, none, none] S = _ := ap _ _ _ rfl (by simp! only [rp])
      have hS1 : (S.set k (some ((V ++ [s]).map strK)))[k]? = some (some ((V ++ [s]).map strK)) := List.getElem?_set_self hk
      generalize sApp (xVar 4) (xN (o1 zj1) (zac (xTup (zac (xVar 2) (zac (xVar 3) aNil))) aNil)) = app at hap
      generalize hL : zdc (zbh rs t s.1 s.2) = L at ns few
      have d1 := dEq_nilT L
      by_cases hn0 : L = []
      · subst hn0
        simp only [List.isEmpty_nil, List.map_nil] at d1 ns
        simp only [if_true]
        simp only [rowD, sD] at ns oin rp hap
        have lt1 : dLt (.int ((s.2.length : Nat) : Int)) (.int ((s.1.length : Nat) : Int)) = some (.bl (decide (((s.2.length : Nat) : Int) < ((s.1.length : Nat) : Int)))) := rfl
        have hd : decide (((s.2.length : Nat) : Int) < ((s.1.length : Nat) : Int)) = decide (s.2.length < s.1.length) := by
          rw [decide_eq_decide]; omega
        rw [hd] at lt1
        refine ⟨by simp only [List.length_append, List.length_cons, List.length_nil]; omega, ?_⟩
        simp! only [al46, rowD, sD, rp, oin, hap, ns, d1, lt1, List.length_map, tk]
      · have ne : L.isEmpty = false := by cases L with
          | nil => exact absurd rfl hn0
          | cons a l => rfl
        rw [ne] at d1
        simp only [hn0, if_false]
        have hu : s.2.length < cs.length := by
          rcases Nat.lt_or_ge s.2.length cs.length with h | h
          · exact h
          · obtain ⟨x, l, rfl⟩ : ∃ x l, L = x :: l := by cases L with
              | nil => exact absurd rfl hn0
              | cons a l => exact ⟨a, l, rfl⟩
            obtain ⟨_, _, _, _, _, _, _, F2⟩ := zgo F (x := x) (by rw [hL]; exact List.mem_cons_self)
            have := F2.stl
            rw [(zm2 s x).1] at this
            omega
        obtain ⟨u, hu2⟩ : ∃ u, cs.length - s.2.length = u + 1 := ⟨cs.length - s.2.length - 1, by omega⟩
        have hu3 : cs.length - (s.2.length + 1) = u := by omega
        have hb : bnl (cs.length - s.2.length) = 1 + 62 * bnl u := by rw [hu2]; rfl
        have hm : L.length * bnl u ≤ 62 * bnl u := Nat.mul_le_mul_right _ (by omega)
        obtain ⟨l1, p6, p7, l2⟩ := ls_loop F hn ih L L (fun x hx => by rw [hL]; exact hx) (V ++ [s]) _ k none none hS1 (by rw [hu3, List.length_append, List.length_singleton]; omega)
        rw [hlb, List.set_set] at l2
        rw [hu3, List.length_append, List.length_singleton] at l1
        simp only [fl46] at l2
        refine ⟨by omega, ?_⟩
        cases q : (lsL (lsP rs t n) s L (V ++ [s])).1 with
        | true =>
          simp only [q, cond_true] at l2
          simp! only [al46, rp, oin, hap, ns, d1, l2, tk]
        | false =>
          simp only [q, cond_false] at l2
          simp! only [al46, rp, oin, hap, ns, d1, l2, tk]
theorem bnl4 : ∀ u, u ≤ 4 → bnl u ≤ 16777000 := fun u h => by
  have : ∀ u : Fin 5, bnl u.1 ≤ 16777000 := by decide
  exact this ⟨u, by omega⟩
theorem law_stops_v {s : St46} (F : Fx46 cs rs t s) : ∃ (b : Bool) (ds : List D), (b = true ↔ zh2 rs t s) ∧ ∀ (S : zae) (k : Nat), S[k]? = some (some []) → zhp (al46 rs t s k) S = .ok (.dat (.bl b)) (S.set k (some ds)) := by
  have c4 := F.c4.2.1
  obtain ⟨h1, h2⟩ := lsP_ok 6 s [] F (by omega) (fun p hp => nomatch hp)
  refine ⟨(lsP rs t 6 s []).1, (lsP rs t 6 s []).2.map strK, ?_, fun S k hS => (ls_v (cs := cs) 6 s [] F (by omega) (by have := bnl4 (cs.length - s.2.length) (by omega); simpa using this) S k hS).2⟩
  cases q : lsP rs t 6 s [] with
  | mk b V =>
    cases b with
    | true => exact ⟨fun _ => h1 V q, fun _ => rfl⟩
    | false => exact ⟨fun h => by simp at h, fun h => absurd h (h2 V q).1⟩
end
end T46
set_option maxHeartbeats 400000
namespace T46
open PySem PySem.Spec PyProof.Rows L2 DL
theorem dEq_nilL (L : List (List Nat)) : dEq (.lst (L.map lD)) (.lst []) = some (.bl L.isEmpty) := dEq_p (n := 2) (m := 1) (show D.fits 1 (L.map lD) = true from fits_lD L) rfl (show D.noBs (L.map lD) = true from noBs_iff.mpr fun x hx => by obtain ⟨l, _, rfl⟩ := List.mem_map.mp hx; simp only [lD, D.noB]; exact noBs_iff.mpr fun y hy => by obtain ⟨i, _, rfl⟩ := List.mem_map.mp hy; rfl) rfl (by cases L <;> simp)
theorem dNe_nilL (L : List (List Nat)) : dNe (.lst (L.map lD)) (.lst []) = some (.bl (!L.isEmpty)) := dNe_p (n := 2) (m := 1) (show D.fits 1 (L.map lD) = true from fits_lD L) rfl (show D.noBs (L.map lD) = true from noBs_iff.mpr fun x hx => by obtain ⟨l, _, rfl⟩ := List.mem_map.mp hx; simp only [lD, D.noB]; exact noBs_iff.mpr fun y hy => by obtain ⟨i, _, rfl⟩ := List.mem_map.mp hy; rfl) rfl (by cases L <;> simp)
theorem rbreaks_form {r : Rul} {t : Tab} {l : List Nat} (h : l ∈ zca r t) : ∃ i rest, l = i :: rest ∧ i < t.length := by
  unfold zca at h
  split at h
  · obtain ⟨i, hi, rfl⟩ := List.mem_map.mp h
    exact ⟨i, [], rfl, zop (List.mem_filter.mp hi).1⟩
  · obtain ⟨i, hi, h⟩ := List.mem_flatMap.mp h
    obtain ⟨j, _, h⟩ := List.mem_flatMap.mp h
    unfold zkz at h
    split at h <;> simp at h
    subst h
    exact ⟨i, [j], rfl, zop hi⟩
theorem brs_form {rs : List Rul} {t : Tab} {l : List Nat} (h : l ∈ brs rs t) : ∃ k i rest, l = k :: i :: rest ∧ k < rs.length ∧ i < t.length := by
  obtain ⟨k, hk, h⟩ := List.mem_flatMap.mp h
  obtain ⟨l', h', rfl⟩ := List.mem_map.mp h
  obtain ⟨i, rest, rfl, hi⟩ := rbreaks_form h'
  exact ⟨k, i, rest, rfl, List.mem_range.mp hk, hi⟩
theorem brs_nil {rs : List Rul} {t : Tab} (h : ∀ r ∈ rs, zca r t = []) : brs rs t = [] := by
  unfold brs
  rw [List.flatMap_eq_nil_iff]
  intro k hk
  rw [h _ (zd4 (List.mem_range.mp hk))]
  rfl
theorem kept_body {m : Nat} {T S : zae} (hp : Pen m T S) (hm : m + 1 ≤ LIM) (n : Nat) (cd sd : D) (rs : List Rul) (t : Tab) (hrs : okRs n rs) (ht : okT n t) (h1 : 1 ≤ t.length) (o1 o5 o7 o8 : Option DV) :
    ∃ (rs' : List Rul) (t' : Tab) (o7' o8' : Option DV) (S1 : zae), zd8 [some (.obj 0), o1, some (.dat (zce rs)), some (.dat cd), some (.dat (tabD t)), o5, some (.dat sd), o7, o8, none] S = .nx [some (.obj 0), o1, some (.dat (zce rs')), some (.dat cd), some (.dat (tabD t')), o5, some (.dat sd), o7', o8', none] S1 ∧
      Pen (m + 1) T S1 ∧ (∀ r ∈ rs', r ∈ rs) ∧ rs'.length ≤ rs.length ∧ (∀ x ∈ t', x ∈ t) ∧ t'.length ≤ t.length ∧ 1 ≤ t'.length := by
  have lb := fun S => zrc n rs t hrs ht S
  have rl := hrs.len
  have tl := ht.len
  have mm : ∀ {α : Type} (l : List α) (a : Nat) (x : α), x ∈ l.take a ++ l.drop (a + 1) → x ∈ l := fun l a x h => by
    rcases List.mem_append.mp h with h | h
    · exact List.mem_of_mem_take h
    · exact List.mem_of_mem_drop h
  have ml : ∀ {α : Type} (l : List α) (a : Nat), a < l.length → (l.take a ++ l.drop (a + 1)).length = l.length - 1 := fun l a h => by
    rw [List.length_append, List.length_take, List.length_drop]; omega
  have nn := dNe_nilL (brs rs t)
  unfold zd8
  cases hB : brs rs t with
  | nil =>
    rw [hB] at nn lb
    simp only [List.isEmpty_nil, Bool.not_true] at nn
    refine ⟨rs, t, some (.dat (.lst [])), o8, S, ?_, hp.mono (by omega), fun r h => h, Nat.le_refl _, fun r h => h, Nat.le_refl _, h1⟩
    simp! only [lb, nn, List.map_nil] at nn ⊢
    simp! only [lb, nn, List.map_nil]
  | cons l B =>
    obtain ⟨k, i, rest, rfl, hk, hi⟩ := brs_form (rs := rs) (t := t) (l := l) (by rw [hB]; exact List.mem_cons_self)
    rw [hB] at nn lb
    simp only [List.isEmpty_cons, Bool.not_false] at nn
    obtain ⟨r, S1, e, p, hr⟩ := zgs hp (by show _ ≤ 2147483648; have : m + 1 ≤ 2147483648 := hm; omega) 2 (by decide) (by decide)
    have a1 : atI (D.int ((k : Nat) : Int) :: D.int ((i : Nat) : Int) :: rest.map fun i => D.int ((i : Nat) : Int)) 1 = some (.int ((i : Nat) : Int)) := by
      unfold atI ixN
      simp
      rw [if_pos (by omega)]; rfl
    have i1 : dIx (lD (k :: i :: rest)) (.int 1) = some (.int ((i : Nat) : Int)) := a1
    have i2 : dIx (lD (k :: i :: rest)) (.int 0) = some (.int ((k : Nat) : Int)) := at_hd _ _
    simp only [List.map_cons] at nn lb
    have e0 : dEq (.int ((r : Nat) : Int)) (.int 0) = some (.bl (((r : Nat) : Int) == 0)) := zp8 _ _
    have g1 : dGt (.int ((t.length : Nat) : Int)) (.int 1) = some (.bl (decide (((t.length : Nat) : Int) > 1))) := rfl
    have at_ : dAdd (.tup ((t.take i).map rowD)) (.tup ((t.drop (i + 1)).map rowD)) = some (tabD (t.take i ++ t.drop (i + 1))) := by
      rw [zjw, zdi (by simp only [List.length_map, List.length_take, List.length_drop]; omega), ← List.map_append]; rfl
    have ar_ : dAdd (.tup ((rs.take k).map rulD)) (.tup ((rs.drop (k + 1)).map rulD)) = some (zce (rs.take k ++ rs.drop (k + 1))) := by
      rw [zjw, zdi (by simp only [List.length_map, List.length_take, List.length_drop]; omega), ← List.map_append]; rfl
    by_cases hc : r = 0 ∧ 1 < t.length
    · refine ⟨rs, t.take i ++ t.drop (i + 1), some (.dat (.lst (((k :: i :: rest) :: B).map lD))), some (.dat (.int ((i : Nat) : Int))), S1, ?_, p, fun r h => h, Nat.le_refl _, mm t i, by rw [ml t i hi]; omega, by rw [ml t i hi]; omega⟩
      have d0 : (((r : Nat) : Int) == 0) = true := by rw [beq_iff_eq]; omega
      have d1 : decide (((t.length : Nat) : Int) > 1) = true := decide_eq_true (by omega)
      rw [d0] at e0
      rw [d1] at g1
      simp only [tabD] at lb at_
      simp! only [lb, nn, e, e0, tabD, List.length_map, g1, at_hd, i1, zdy, zm4, ziv, ← List.map_take, ← List.map_drop]
      simp! only [at_]
    · refine ⟨rs.take k ++ rs.drop (k + 1), t, some (.dat (.lst (((k :: i :: rest) :: B).map lD))), some (.dat (.int ((k : Nat) : Int))), S1, ?_, p, mm rs k, by rw [ml rs k hk]; omega, fun r h => h, Nat.le_refl _, h1⟩
      simp only [tabD, zce] at lb ar_
      by_cases h0 : r = 0
      · have d0 : (((r : Nat) : Int) == 0) = true := by rw [beq_iff_eq]; omega
        have d1 : decide (((t.length : Nat) : Int) > 1) = false := decide_eq_false (by have : ¬ 1 < t.length := fun h => hc ⟨h0, h⟩; omega)
        rw [d0] at e0
        rw [d1] at g1
        simp! only [lb, nn, e, e0, tabD, zce, List.length_map, g1, at_hd, i2, zdy, zm4, ziv, ← List.map_take, ← List.map_drop]
        simp! only [ar_]
      · have d0 : (((r : Nat) : Int) == 0) = false := by rw [beq_eq_false_iff_ne]; omega
        rw [d0] at e0
        simp! only [lb, nn, e, e0, tabD, zce, List.length_map, at_hd, i2, zdy, zm4, ziv, ← List.map_take, ← List.map_drop]
        simp! only [ar_]
end T46
set_option maxHeartbeats 400000
namespace T46
open PySem PySem.Spec PyProof.Rows L2 DL
theorem GRok {cs : List D} {rs : List Rul} (h : ∀ r ∈ rs, GR cs r) (h8 : rs.length ≤ 8) : okRs cs.length rs := ⟨h8, fun r hr => (h r hr).ok⟩
theorem RWok {cs : List D} {t : Tab} (h : ∀ r ∈ t, RowOK cs r) (h8 : t.length ≤ 8) : okT cs.length t := ⟨h8, fun r hr => (h r hr).len⟩
theorem kept_ok {n : Nat} {T S : zae} (h : Pen n T S) (hn : n + 300 ≤ LIM) : ∃ (cs : List D) (rs : List Rul) (t : Tab) (k : Nat) (st : List Nat) (S1 : zae), zft [.obj 0] S = .ok (.dat (.tup [.tup cs, zce rs, tabD t, .int ((k : Nat) : Int), sD st])) S1 ∧ Pen (n + 300) T S1 ∧
    k < t.length ∧ (∀ row ∈ t, Fix cs rs t row st) ∧ (∀ r ∈ rs, zca r t = []) ∧ (∀ st' : List Nat, (∀ i ∈ st', i < cs.length) → st'.Pairwise (· < ·) → ∀ row ∈ t, Fix cs rs t row st') := by
  have hn : n + 300 ≤ 2147483648 := hn
  unfold zft zin
  obtain ⟨cs, rs, t, row, st, S1, e1, p1, F, h1⟩ := case_ok h (by show _ ≤ 2147483648; omega)
  have c4 := F.c4.2.1
  have e2 : ∀ ρ (a b c d e : D), gTp (gCo (gNm 3) (gCo (gNm 2) (gCo (gNm 4) (gCo (gNm 5) (gCo (gNm 6) gNo))))) (.tup [a, b, c, d, e]) ρ = some (((((ρ.set 3 (some (.dat a))).set 2 (some (.dat b))).set 4 (some (.dat c))).set 5 (some (.dat d))).set 6 (some (.dat e))) := fun _ _ _ _ _ _ => rfl
  obtain ⟨ρ', S2, e3, ⟨rs', t', o1, o7, o8, rfl, hr1, hr2, ht1, ht2, ht3⟩, p3⟩ := zl8 (enc := fun i : Nat => D.int ((i : Nat) : Int)) (G := gNm 1) (f := zd8) (T := T) (c := 1)
    (fun pre ρ => ∃ (rs' : List Rul) (t' : Tab) (o1 o7 o8 : Option DV), ρ = [some (.obj 0), o1, some (.dat (zce rs')), some (.dat (.tup cs)), some (.dat (tabD t')), some (.dat (rowD row)), some (.dat (sD st)), o7, o8, none] ∧ (∀ r ∈ rs', r ∈ rs) ∧ rs'.length ≤ rs.length ∧ (∀ x ∈ t', x ∈ t) ∧ t'.length ≤ t.length ∧ 1 ≤ t'.length)
    (List.range 4) [] _ [some (.obj 0), none, some (.dat (zce rs)), some (.dat (.tup cs)), some (.dat (tabD t)), some (.dat (rowD row)), some (.dat (sD st)), none, none, none] S1 ⟨rs, t, _, _, _, rfl, fun r h => h, Nat.le_refl _, fun r h => h, Nat.le_refl _, h1⟩ p1 (by show _ ≤ 2147483648; simp; omega) (by
    rintro pre a post m' ρ S hpp ⟨rs', t', o1, o7, o8, rfl, hr1, hr2, ht1, ht2, ht3⟩ hp hm'
    obtain ⟨rs2, t2, q7, q8, S3, e, p, k1, k2, k3, k4, k5⟩ := kept_body hp hm' cs.length (.tup cs) (sD st) rs' t' (GRok (fun r hr => F.rg r (hr1 r hr)) (by have := F.rl; omega)) (RWok (fun r hr => F.tr r (ht1 r hr)) (by have := F.tl; omega)) ht3 (some (.dat (.int ((a : Nat) : Int)))) (some (.dat (rowD row))) o7 o8
    exact ⟨_, _, S3, rfl, e, ⟨rs2, t2, _, q7, q8, rfl, fun r hr => hr1 r (k1 r hr), by omega, fun r hr => ht1 r (k3 r hr), by omega, k5⟩, p⟩)
  have okr := GRok (fun r hr => F.rg r (hr1 r hr)) (show rs'.length ≤ 8 by have := F.rl; omega)
  have okt := RWok (fun r hr => F.tr r (ht1 r hr)) (show t'.length ≤ 8 by have := F.tl; omega)
  have lc : ∀ (ρ : za2) S, ρ.length = 10 → ρ[4]? = some (some (.dat (tabD t'))) → lcGo (gNm 9) (tBl (x2 (o2 dEq) (xN zda (zac (xVar 9) (zac (xVar 4) aNil))) (xLst aNil))) (xVar 9) ρ (rs'.map rulD) S = .ok ((rs'.filter fun r => (zca r t').isEmpty).map rulD) S := fun ρ S hl h4 => by
    refine zfo (q := rulD) (p := fun r => (zca r t').isEmpty) rs' fun r hr => ?_
    have v9 : (ρ.set 9 (some (.dat (rulD r))))[9]? = some (some (.dat (rulD r))) := by rw [List.getElem?_set_self (by omega)]
    have v4 : (ρ.set 9 (some (.dat (rulD r))))[4]? = some (some (.dat (tabD t'))) := by rw [List.getElem?_set_ne (by decide)]; exact h4
    have lb := zh9 cs.length r t' (okr.ok r hr) okt S
    refine ⟨ρ.set 9 (some (.dat (rulD r))), rfl, ?_, fun _ => by simp only [xVar, v9]⟩
    have d1 := dEq_nilL (zca r t')
    have x9 : xVar 9 (ρ.set 9 (some (.dat (rulD r)))) S = .ok (.dat (rulD r)) S := by simp only [xVar, v9]
    have x4 : xVar 4 (ρ.set 9 (some (.dat (rulD r)))) S = .ok (.dat (tabD t')) S := by simp only [xVar, v4]
    generalize ρ.set 9 (some (.dat (rulD r))) = ρ1 at x9 x4 ⊢
    simp -implicitDefEqProofs only [tBl, x2, xN, zac, aNil, x9, x4, Res.bind_ok, lb, xLst, mkLst, dats, Nat.zero_le, List.length_nil, if_true, o2, rd, d1, res1, bool1]
  obtain ⟨k, S4, e4, p4, hk⟩ := zgs p3 (by show _ ≤ 2147483648; simp only [List.length_range]; omega) (t'.length : Nat) (by omega) (by have := okt.len; omega)
  have rg4 : ∀ S, rng1 [.dat (.int 4)] S = .ok ((List.range 4).map fun i : Nat => .int ((i : Nat) : Int)) S := fun S => zjg (n := 4) (zdp (by decide)) S
  have lz : szB rs'.length = true := zdi (by have := okr.len; omega)
  have lz2 : szB (rs'.filter fun r => (zca r t').isEmpty).length = true := zdi (by have := okr.len; have := List.length_filter_le (fun r => (zca r t').isEmpty) rs'; omega)
  have all : ∀ r ∈ rs'.filter (fun r => (zca r t').isEmpty), r ∈ rs' ∧ zca r t' = [] := fun r hr => by
    obtain ⟨h1, h2⟩ := List.mem_filter.mp hr
    exact ⟨h1, by simpa using h2⟩
  refine ⟨cs, rs'.filter (fun r => (zca r t').isEmpty), t', k, st, S4, ?_, p4.mono (by simp only [List.length_range]; omega), by omega, fun r hr => ?_, fun r hr => (all r hr).2, fun st' s1 s2 r hr => ?_⟩
  · simp! only [e1, e2, rg4, e3]
    simp -implicitDefEqProofs only [zce, a_fn, zd0, zcf, zc9, zcy, zc0, zc8, zba, za0, c_ok, zer, c_bl, zez, ze8, c_or, zcj, zfb, zef, zfg, zcm, a_tg, zc2, zb1, zfi, Res.bind_ok, Res.bind_ex, Res.bindS_ok, Res.bindS_ex, zcz, a_c, a_x2, a_o2, zcq, a_xN, zc3, ze9, a_o1, zee, zek, ze0, zb_, za9, zb2, zbp, zcu, zew, zfa, ze3, ze5, zet, zbx, za6, zax, zav, zar, zaz, zey, a_or, zbq, zb5, zeu, zfj, zeq, zcn, a_if, zeb, zcp, zby, zbc, zaw, za7, zbt, a_it, zau, zay, a_lc, zb7, zb4, zfe, ze6, zf_, zeh, zel, zfh, zem, zes, zen, zck, a_rd, Option.bind_some, zbu, zbr, zbv, zas, List.map_cons, List.map_nil, List.length_cons, List.length_nil, Nat.reduceSub, Nat.reduceAdd, List.replicate_succ, List.replicate_zero, List.cons_append, List.nil_append, List.append_nil, List.getElem?_cons_zero, List.getElem?_cons_succ, List.set_cons_zero, List.set_cons_succ, List.take_length, cond_true, cond_false, Bool.not_true, Bool.not_false, zd7, zej, zev, zei, zc5, zc1, zb0, zbd, zct, zcx, zeo, zea, zbs, zb3, za8, zbb, ze2, zci, zdy, zfc, zff, zcc, zcs, zep, zcw, ze4, zfd, ze7, zc7, zcr, zaq, zat, zch, za4, zal, Option.map_some, zan, zcg, zbk, za5, lit2, lit3, Bool.true_and, Bool.false_and, Bool.and_true, Bool.and_false, Bool.true_or, Bool.false_or, Bool.or_true, Bool.or_false, Bool.not_not, a_sl, zex, zed, zb6, zcv, zec, zc6, zc4, zco, zbw, zbm, List.length_map, lz]
    rw [lc _ S2 rfl rfl]
    simp! only [List.length_map, lz2, tabD]
    simp! only [e4, p4.take h.len]
  · have hl := List.length_filter_le (fun r => (zca r t').isEmpty) rs'
    exact ⟨F.hc, F.oc, by have := F.rl; omega, fun q hq => F.rg q (hr1 q (all q hq).1), by have := F.tl; omega, fun q hq => F.tr q (ht1 q hq), F.tr r (ht1 r hr), F.sb, F.inc⟩
  · have hl := List.length_filter_le (fun r => (zca r t').isEmpty) rs'
    exact ⟨F.hc, F.oc, by have := F.rl; omega, fun q hq => F.rg q (hr1 q (all q hq).1), by have := F.tl; omega, fun q hq => F.tr q (ht1 q hq), F.tr r (ht1 r hr), s1, s2⟩
theorem stop_v {cs : List D} {rs : List Rul} {t : Tab} {k : Nat} {st : List Nat} (hk : k < t.length) (F : Fix cs rs t (t.getD k []) st) (hb : ∀ r ∈ rs, zca r t = []) (S : zae) :
    zp7 [.dat (.tup cs), .dat (zce rs), .dat (tabD t), .dat (.int ((k : Nat) : Int)), .dat (sD st)] S = match zpi rs t (t.getD k [], st) with
      | none => .ok (.dat .non) S
      | some tr => .ok (.obj S.length) (S ++ [some (tr.map tD)]) := by
  unfold zp7 s_stop
  obtain ⟨c1, c2, c3⟩ := F.c4
  obtain ⟨f1, f2, f3⟩ := F.rules
  have rr : ∀ S, zgl [.dat (.tup cs), .dat (zce rs), .dat (tabD t), .dat (.int ((k : Nat) : Int))] S = .ok (.dat .non) S := fun S => by
    unfold zgl zjt
    have bt : zlm (.int ((k : Nat) : Int)) 0 (((t.length : Nat) : Int) - 1) = true := by
      simp only [zlm, Bool.and_eq_true, decide_eq_true_eq]
      omega
    have rt : zfq [.dat (.tup cs), .dat (.tup (t.map rowD))] S = .ok (.dat .non) S := by
      have := znb cs (tabD t) c3 c2 S
      rw [f3] at this
      exact this
    have bo : ∀ S, zd3 [.dat (.int ((k : Nat) : Int)), .dat (.int 0), .dat (.int (((t.length : Nat) : Int) - 1))] S = .ok (.dat (.bl true)) S := fun S => by rw [zhl, bt]
    simp! only [zm6 _ _ f2, F.hc, show zgq (.tup cs) = cs from rfl, f1, tabD, rt, List.length_map, bo]
  have rk : ∀ S, zgv [.dat (zce rs), .dat (tabD t)] S = .ok (.dat .non) S := fun S => by
    unfold zgv zko
    have fb := zpq cs.length rs t (GRok F.rg F.rl) (RWok F.tr F.tl) S
    rw [brs_nil hb] at fb
    have d1 := dNe_nilL []
    simp only [List.map_nil, List.isEmpty_nil, Bool.not_true] at d1 fb
    simp! only [fb, d1]
  have fs := find_stop_v (s := (t.getD k [], st)) F
  have ix : ∀ S, DL.o2 dIx (.dat (tabD t)) (.dat (.int ((k : Nat) : Int))) S = .ok (.dat (rowD (t.getD k []))) S := fun S => by
    simp -implicitDefEqProofs only [tabD, a_fn, zd0, zcf, zc9, zcy, zc0, zc8, zba, za0, c_ok, zer, c_bl, zez, ze8, c_or, zcj, zfb, zef, zfg, zcm, a_tg, zc2, zb1, zfi, Res.bind_ok, Res.bind_ex, Res.bindS_ok, Res.bindS_ex, zcz, a_c, a_x2, a_o2, zcq, a_xN, zc3, ze9, a_o1, zee, zek, ze0, zb_, za9, zb2, zbp, zcu, zew, zfa, ze3, ze5, zet, zbx, za6, zax, zav, zar, zaz, zey, a_or, zbq, zb5, zeu, zfj, zeq, zcn, a_if, zeb, zcp, zby, zbc, zaw, za7, zbt, a_it, zau, zay, a_lc, zb7, zb4, zfe, ze6, zf_, zeh, zel, zfh, zem, zes, zen, zck, a_rd, Option.bind_some, zbu, zbr, zbv, zas, List.map_cons, List.map_nil, List.length_cons, List.length_nil, Nat.reduceSub, Nat.reduceAdd, List.replicate_succ, List.replicate_zero, List.cons_append, List.nil_append, List.append_nil, List.getElem?_cons_zero, List.getElem?_cons_succ, List.set_cons_zero, List.set_cons_succ, List.take_length, cond_true, cond_false, Bool.not_true, Bool.not_false, zd7, zej, zev, zei, zc5, zc1, zb0, zbd, zct, zcx, zeo, zea, zbs, zb3, za8, zbb, ze2, zci, zdy, zfc, zff, zcc, zcs, zep, zcw, ze4, zfd, ze7, zc7, zcr, zaq, zat, zch, za4, zal, Option.map_some, zan, zcg, zbk, za5, lit2, lit3, Bool.true_and, Bool.false_and, Bool.and_true, Bool.and_false, Bool.true_or, Bool.false_or, Bool.or_true, Bool.or_false, Bool.not_not, a_sl, zex, zed, zb6, zcv, zec, zc6, zc4, zco, zbw, zbm, zb9 rowD [] hk]
  dsimp only at fs
  cases q : zpi rs t (t.getD k [], st) with
  | none =>
    simp only [q] at fs
    simp! only [rr, zia st c2 F.sb F.inc, rk, ix, fs]
  | some tr =>
    simp only [q] at fs
    simp! only [rr, zia st c2 F.sb F.inc, rk, ix, fs]
theorem zqa {cs : List D} {rs : List Rul} {t : Tab} {row : Row} {st : List Nat} (F : Fix cs rs t row st) {tr : List (List Int)} (hr : Run rs t row st tr) (hl : st.length + tr.length < row.length) (S : zae) (n : Nat) (hS : S[n]? = some (some (tr.map tD))) :
    zgb [.dat (zce rs), .dat (tabD t), .dat (rowD row), .dat (sD st), .obj n] S = .ok (.dat (.bl true)) S := by
  unfold zgb zj0
  have ir := zqb F hr S n hS
  have ln : DL.o1 dLen [.obj n] S = .ok (.dat (.int ((tr.length : Nat) : Int))) S := by
    simp only [DL.o1, rd, hS, dLen, List.length_map, res1]
  have lt : dLt (.int (((st.length : Nat) : Int) + ((tr.length : Nat) : Int))) (.int ((row.length : Nat) : Int)) = some (.bl true) := by
    rw [zd7, decide_eq_true (by omega)]
  simp only [rowD, sD] at ir
  simp! only [rowD, sD, ir, List.length_map, ln, lt]
end T46
set_option maxHeartbeats 400000
namespace T46
open PySem PySem.Spec PyProof.Rows L2 DL
theorem repr_non : ∃ x, zj1 .non = some (.str x) := ⟨_, znq (zj9 (n := 0) rfl (by decide) rfl (by decide))⟩
theorem turn1 {cs : List D} {rs : List Rul} {t : Tab} {k : Nat} {st : List Nat} (hk : k < t.length) (F : Fix cs rs t (t.getD k []) st) (hb : ∀ r ∈ rs, zca r t = []) {n : Nat} {T S : zae} (h : Pen n T S) (o0 o2 o4 o9 o10 o11 : Option DV) :
    ∃ (p9 p10 : Option DV) (T' S' : zae), zqj [o0, some (.obj 0), o2, some (.dat (.int ((k : Nat) : Int))), o4, some (.dat (.tup cs)), some (.dat (zce rs)), some (.dat (tabD t)), some (.dat (sD st)), o9, o10, o11] S = .nx [o0, some (.obj 0), o2, some (.dat (.int ((k : Nat) : Int))), o4, some (.dat (.tup cs)), some (.dat (zce rs)), some (.dat (tabD t)), some (.dat (sD st)), p9, p10, o11] S' ∧ Pen n T' S' := by
  have sv := fun S => stop_v hk F hb S
  obtain ⟨b, ds, hbs, ls⟩ := law_stops_v (s := (t.getD k [], st)) F
  obtain ⟨so1, so2⟩ := stopO_ok (s := (t.getD k [], st)) F
  have ix : ∀ S, DL.o2 dIx (.dat (tabD t)) (.dat (.int ((k : Nat) : Int))) S = .ok (.dat (rowD (t.getD k []))) S := fun S => by
    simp -implicitDefEqProofs only [tabD, a_fn, zd0, zcf, zc9, zcy, zc0, zc8, zba, za0, c_ok, zer, c_bl, zez, ze8, c_or, zcj, zfb, zef, zfg, zcm, a_tg, zc2, zb1, zfi, Res.bind_ok, Res.bind_ex, Res.bindS_ok, Res.bindS_ex, zcz, a_c, a_x2, a_o2, zcq, a_xN, zc3, ze9, a_o1, zee, zek, ze0, zb_, za9, zb2, zbp, zcu, zew, zfa, ze3, ze5, zet, zbx, za6, zax, zav, zar, zaz, zey, a_or, zbq, zb5, zeu, zfj, zeq, zcn, a_if, zeb, zcp, zby, zbc, zaw, za7, zbt, a_it, zau, zay, a_lc, zb7, zb4, zfe, ze6, zf_, zeh, zel, zfh, zem, zes, zen, zck, a_rd, Option.bind_some, zbu, zbr, zbv, zas, List.map_cons, List.map_nil, List.length_cons, List.length_nil, Nat.reduceSub, Nat.reduceAdd, List.replicate_succ, List.replicate_zero, List.cons_append, List.nil_append, List.append_nil, List.getElem?_cons_zero, List.getElem?_cons_succ, List.set_cons_zero, List.set_cons_succ, List.take_length, cond_true, cond_false, Bool.not_true, Bool.not_false, zd7, zej, zev, zei, zc5, zc1, zb0, zbd, zct, zcx, zeo, zea, zbs, zb3, za8, zbb, ze2, zci, zdy, zfc, zff, zcc, zcs, zep, zcw, ze4, zfd, ze7, zc7, zcr, zaq, zat, zch, za4, zal, Option.map_some, zan, zcg, zbk, za5, lit2, lit3, Bool.true_and, Bool.false_and, Bool.and_true, Bool.and_false, Bool.true_or, Bool.false_or, Bool.or_true, Bool.or_false, Bool.not_not, a_sl, zex, zed, zb6, zcv, zec, zc6, zc4, zco, zbw, zbm, zb9 rowD [] hk]
  have nw : ∀ ρ S, xNew (lLst aNil) ρ S = .ok (.obj S.length) (S ++ [some []]) := fun ρ S => by
    simp only [xNew, lLst, aNil, Res.bind_ok, dats, List.length_nil, Nat.zero_le, if_true]
  have ls2 : ∀ S : zae, zhp [.dat (zce rs), .dat (tabD t), .dat (rowD (t.getD k [])), .dat (sD st), .obj S.length] (S ++ [some []]) = .ok (.dat (.bl b)) (S ++ [some ds]) := fun S => by
    have := ls (S ++ [some []]) S.length (by simp)
    simp only [al46] at this
    rw [this]
    simp
  have n1 : zkc .non .non = some (.bl false) := rfl
  have n2 : ∀ x, zkc (.lst x) .non = some (.bl true) := fun _ => rfl
  unfold zqj
  cases q : zpi rs t (t.getD k [], st) with
  | none =>
    rw [q] at sv
    simp only at sv
    have hb0 : b = false := by
      cases b with
      | false => rfl
      | true => exact absurd (hbs.mp rfl) (so2 q)
    subst hb0
    obtain ⟨z, hz⟩ := repr_non
    refine ⟨some (.dat .non), some (.dat (.str z)), T ++ [some ds], S ++ [some ds], ?_, pen_snoc.mpr ⟨S, rfl, h⟩⟩
    simp! only [sv, hz, ix, nw, ls2, n1, dNeS_same]
  | some tr =>
    rw [q] at sv
    simp only at sv
    obtain ⟨hr, hl⟩ := so1 tr q
    have c4 := F.c4.2.1
    have hrow := F.rw_.len
    have hb1 : b = true := by
      cases b with
      | true => rfl
      | false => exact absurd (hbs.mpr ⟨tr, hr, hl⟩) (by simp)
    subst hb1
    have hz := tds_repr tr (hr.tiny F) (by dsimp only at hl; omega)
    have g1 : (S ++ [some (tr.map tD)] ++ [some ds])[S.length]? = some (some (tr.map tD)) := by
      rw [List.getElem?_append_left (by simp)]; simp
    have is := zqa F hr hl _ S.length g1
    have rd1 : DL.rd (S ++ [some (tr.map tD)] ++ [some ds]) (.obj S.length) = some (.lst (tr.map tD)) := by simp only [rd, g1]
    have nn : DL.o2 zkc (.obj S.length) (.dat .non) (S ++ [some (tr.map tD)] ++ [some ds]) = .ok (.dat (.bl true)) (S ++ [some (tr.map tD)] ++ [some ds]) := by
      simp only [DL.o2, rd1, show DL.rd (S ++ [some (tr.map tD)] ++ [some ds]) (.dat .non) = some .non from rfl, n2, res1]
    have ap : ∀ ρ : za2, ρ[9]? = some (some (.obj S.length)) → sApp (xVar 9) (xC (.int 7)) ρ (S ++ [some (tr.map tD)] ++ [some ds]) = .nx ρ (S ++ [some (tr.map tD ++ [.int 7])] ++ [some ds]) := fun ρ h9 => by
      rw [app_at (k := S.length) (ds := tr.map tD) (d := .int 7) (by simp only [xVar, h9]) rfl g1 (by rw [List.length_map]; unfold sizeLine; dsimp only at hl; omega)]
      congr 1
      rw [List.set_append_left _ _ (by simp), List.set_append_right _ _ (Nat.le_refl _)]
      simp
    refine ⟨some (.obj S.length), some (.dat (.str (D.lst (tr.map tD)).py.shown)), T ++ [some (tr.map tD ++ [.int 7])] ++ [some ds] ++ [some (tr.map tD)], S ++ [some (tr.map tD ++ [.int 7])] ++ [some ds] ++ [some (tr.map tD)], ?_, pen_snoc.mpr ⟨_, rfl, pen_snoc.mpr ⟨_, rfl, pen_snoc.mpr ⟨S, rfl, h⟩⟩⟩⟩
    generalize hap : sApp (xVar 9) (xC (.int 7)) = app at ap
    simp! only [sv, zci, hz, ix, nw, ls2, is, nn]
    rw [ap _ rfl]
    simp! only [sv, zci, hz, dNeS_same]
theorem whole_none {cs : List D} {rs : List Rul} {t : Tab} {row : Row} (F : Fix cs rs t row (List.range cs.length)) : zpi rs t (row, List.range cs.length) = none := by
  obtain ⟨so1, _⟩ := stopO_ok (s := (row, List.range cs.length)) F
  cases q : zpi rs t (row, List.range cs.length) with
  | none => rfl
  | some tr =>
    have := (so1 tr q).2
    have hrow := F.rw_.len
    simp only [List.length_range] at this
    omega
theorem turn_ok {n : Nat} {T S : zae} (h : Pen n T S) (hn : n + 400 ≤ LIM) (o0 o2 o3 o4 o5 o6 o7 o8 o9 o10 : Option DV) : ∃ (p3 p4 p5 p6 p7 p8 p9 p10 : Option DV) (T' S' : zae), zrd [o0, some (.obj 0), o2, o3, o4, o5, o6, o7, o8, o9, o10, none] S = .nx [o0, some (.obj 0), o2, p3, p4, p5, p6, p7, p8, p9, p10, none] S' ∧ Pen (n + 400) T' S' := by
  have hn : n + 400 ≤ 2147483648 := hn
  unfold zrd
  obtain ⟨S1, e1, p1⟩ := anew_ok h
  obtain ⟨cs, rs, t, k, st, S2, e2, p2, hk, F, hb, Fw⟩ := kept_ok p1 (by show _ ≤ 2147483648; omega)
  have e3 : ∀ ρ (a b c d e : D), gTp (gCo (gNm 5) (gCo (gNm 6) (gCo (gNm 7) (gCo (gNm 3) (gCo (gNm 8) gNo))))) (.tup [a, b, c, d, e]) ρ = some (((((ρ.set 5 (some (.dat a))).set 6 (some (.dat b))).set 7 (some (.dat c))).set 3 (some (.dat d))).set 8 (some (.dat e))) := fun _ _ _ _ _ _ => rfl
  have hcut : cutL [D.int 0, D.int (((t.length : Nat) : Int) - 1), D.int ((k : Nat) : Int)] none (some ((t.length : Nat) : Int)) = ([0, t.length - 1, k].take t.length).map fun i : Nat => D.int ((i : Nat) : Int) := by
    rw [zm4, List.map_take]
    congr 1
    simp only [List.map_cons, List.map_nil]
    rw [show ((t.length - 1 : Nat) : Int) = ((t.length : Nat) : Int) - 1 by omega]
    rfl
  have lt : ∀ i ∈ [0, t.length - 1, k].take t.length, i < t.length := fun i hi => by
    have := List.mem_of_mem_take hi
    simp only [List.mem_cons, List.not_mem_nil, or_false] at this
    rcases this with rfl | rfl | rfl <;> omega
  obtain ⟨ρ', S3, e4, ⟨q3, q9, q10, T3, rfl, p3⟩⟩ := zk7 (enc := fun i : Nat => D.int ((i : Nat) : Int)) (G := gNm 3) (f := zqj)
    (fun _ ρ S => ∃ q3 q9 q10 T', ρ = [o0, some (.obj 0), o2, q3, o4, some (.dat (.tup cs)), some (.dat (zce rs)), some (.dat (tabD t)), some (.dat (sD st)), q9, q10, none] ∧ Pen (n + 300) T' S)
    ([0, t.length - 1, k].take t.length) [] [o0, some (.obj 0), o2, some (.dat (.int ((k : Nat) : Int))), o4, some (.dat (.tup cs)), some (.dat (zce rs)), some (.dat (tabD t)), some (.dat (sD st)), o9, o10, none] S2 ⟨_, _, _, _, rfl, p2⟩ (by
    rintro pre i post ρ S hpp ⟨q3, q9, q10, T', rfl, hp⟩
    have hi := lt i (by rw [show [0, t.length - 1, k].take t.length = pre ++ i :: post by simpa using hpp]; simp)
    obtain ⟨r9, r10, T2, S4, e, p⟩ := turn1 hi (F _ (zd4 hi)) hb hp o0 o2 o4 q9 q10 none
    exact ⟨_, _, S4, rfl, .inl e, _, r9, r10, T2, rfl, p⟩)
  have ht0 : 0 < t.length := by omega
  have Fr := Fw (List.range cs.length) (fun i hi => List.mem_range.mp hi) List.pairwise_lt_range _ (zd4 (d := []) ht0)
  have sw := fun S => stop_v ht0 Fr hb S
  rw [whole_none Fr] at sw
  simp only at sw
  have c4 := Fr.c4.2.1
  have lcw : ∀ (ρ : za2) S, ρ.length = 12 → lcGo (gNm 11) zgh (xVar 11) ρ ((List.range cs.length).map fun i : Nat => .int ((i : Nat) : Int)) S = .ok ((List.range cs.length).map fun i : Nat => .int ((i : Nat) : Int)) S := fun ρ S hl => by
    rw [zfy (q := fun i : Nat => D.int ((i : Nat) : Int)) (List.range cs.length)]
    intro i hi
    exact ⟨_, rfl, rfl, by simp only [xVar, List.getElem?_set_self (show 11 < ρ.length by omega)]⟩
  have n1 : zkc .non .non = some (.bl false) := rfl
  have c0 : ((0 : Nat) : Int) = 0 := rfl
  simp only [c0] at sw
  have szc : szB cs.length = true := zdi (by omega)
  simp! only [e1, e2, e3, tabD, List.length_map, hcut]
  simp only [tabD] at e4
  simp! only [e4, zjg (zdp (show cs.length ≤ 16000000 by omega)), List.length_map, List.length_range, szc]
  rw [lcw _ _ rfl]
  simp only [sD, tabD] at sw
  simp! only [List.length_map, List.length_range, szc, sD, sw, n1]
  exact ⟨_, _, _, _, _, _, _, _, T3, S3, rfl, p3.mono (by omega)⟩
theorem answers (ns : List Int) (h : ns.length ≤ 63) : ∃ S, g_law [.scr ns] [] = .ok (.dat (.bl true)) S := by
  unfold g_law s_law
  obtain ⟨S, e, p⟩ := open_ok ns h
  simp! only [e, show rng1 [.dat (.int 8)] S = .ok ((List.range 8).map fun i => .int ((i : Nat) : Int)) S from zjg (n := 8) (zdp (by decide)) S]
  obtain ⟨ρ', S', e2, o2, o3, o4, o5, o6, o7, o8, o9, o10, T, rfl, p2⟩ := zk7 (enc := fun i : Nat => D.int ((i : Nat) : Int)) (G := gNm 2) (f := zrd) (fun pre ρ S => ∃ o2 o3 o4 o5 o6 o7 o8 o9 o10 T, ρ = [some (.scr ns), some (.obj 0), o2, o3, o4, o5, o6, o7, o8, o9, o10, none] ∧ Pen (400 * pre.length) T S) (List.range 8) [] [some (.scr ns), some (.obj 0), none, none, none, none, none, none, none, none, none, none] S ⟨_, _, _, _, _, _, _, _, _, _, rfl, by simpa using p⟩ (by
    rintro pre a post ρ S hpp ⟨o2, o3, o4, o5, o6, o7, o8, o9, o10, T, rfl, hp⟩
    obtain ⟨ha, ha2⟩ := znr (by simpa using hpp)
    obtain ⟨p3, p4, p5, p6, p7, p8, p9, p10, T', S', e, p⟩ := turn_ok hp (by show _ ≤ 2147483648; omega) (some (.scr ns)) (some (.dat (.int ((a : Nat) : Int)))) o3 o4 o5 o6 o7 o8 o9 o10
    exact ⟨_, _, S', rfl, .inl e, _, _, _, _, _, _, _, _, _, T', rfl, by rw [List.length_append]; exact p.mono (by simp; omega)⟩)
  simp! only [e2]
  exact ⟨_, rfl⟩
end T46
set_option maxHeartbeats 0
open PySem PySem.W PySem.Calls PyProof.Rows
theorem PySem.Challenge.cw_whererules_k46_stops_holds : PySem.Challenge.rw_whererules_k46_stops.Holds := by
  w_on; o_law
  refine HandSHeadRun.head_any (r := OpenLaw.row PySem.Challenge.rw_whererules_k46_stops) (q := view (OpenLaw.row PySem.Challenge.rw_whererules_k46_stops).prog [68]) (H := T46.hk) (ob := T46.ob) (M := 20000) (loose := T46.loose) (d := HandSHeadRun.topDef (OpenLaw.row PySem.Challenge.rw_whererules_k46_stops).prog 68) (kwd := []) T46.ob_eq
    (by kernel_rfl) (fun s => by kernel_rfl) T46.run (by kernel_rfl) (by kernel_rfl) (by kernel_rfl) (by rfl) (by first | assumption | decide +kernel) (by decide +kernel) ⟨rfl, rfl, rfl, rfl, rfl, by decide +kernel⟩ ?hw ?hc
  case hw => w_witness2
  case hc =>
    refine DL.walkD (l := PySem.Challenge.rw_whererules_k46_stops) (n := 63) (k := 12) (x := "_law_script") (g := T46.g_law) rfl (by decide) (by kernel_rfl) ⟨rfl, by decide, by decide⟩ ?F T46.answers
    intro w mg fa h Y G hmg0
    obtain ⟨K, KX, c, xo, tl⟩ := Y
    have T := T46.txt_of KX G c xo
    obtain ⟨f, fd, Fd, hm⟩ := T.d_law
    have e : (HandSHeadRun.topDef (OpenLaw.row PySem.Challenge.rw_whererules_k46_stops).prog 68).name = ("law" : PySem.Str) := by kernel_rfl
    rw [e, hm] at hmg0
    cases hmg0
    exact ⟨K, fd, KX, tl, fun s u => L2.FunD.bindsA (ps := ["_law_script"]) Fd (fun _ _ _ _ _ _ us hl => match us, hl with | [_], _ => rfl) s [u] rfl, fun base _ _ => DL.fn_D Fd T46.sc_law rfl rfl (T46.bd_law T fa)⟩
